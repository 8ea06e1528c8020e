/- A piece of the run. -/
import Derived.Test.YtfaikcecgpcimaaGreatHS0
import Derived.KernelRfl
namespace Go.Hb.Kn
theorem aXW :bT PP rW 10937 st29 st30=some st30.as:=by kernel_rfl
end Go.Hb.Kn
