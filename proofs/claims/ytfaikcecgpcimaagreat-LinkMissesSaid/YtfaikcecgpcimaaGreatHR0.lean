/- A piece of the run. -/
import Derived.Test.YtfaikcecgpcimaaGreatHS0
import Derived.KernelRfl
namespace Go.Hb.Kn
theorem aYN :bT PP rW 12237 st0 st1=some st1.as:=by kernel_rfl
end Go.Hb.Kn
