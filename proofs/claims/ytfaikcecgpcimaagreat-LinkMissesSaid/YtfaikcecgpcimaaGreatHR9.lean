/- A piece of the run. -/
import Derived.Test.YtfaikcecgpcimaaGreatHS0
import Derived.KernelRfl
namespace Go.Hb.Kn
theorem aYW :bT PP rW 11437 st9 st10=some st10.as:=by kernel_rfl
end Go.Hb.Kn
