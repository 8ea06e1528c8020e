/- A piece of the run. -/
import Derived.Test.YtfaikcecgpcimaaGreatHS0
import Derived.KernelRfl
namespace Go.Hb.Kn
theorem aX0 :bT PP rW 13937 st33 st34=some st34.as:=by kernel_rfl
end Go.Hb.Kn
