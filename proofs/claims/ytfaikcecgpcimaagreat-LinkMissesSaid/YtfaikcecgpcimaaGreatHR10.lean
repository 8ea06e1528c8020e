/- A piece of the run. -/
import Derived.Test.YtfaikcecgpcimaaGreatHS0
import Derived.KernelRfl
namespace Go.Hb.Kn
theorem aXD :bT PP rW 17037 st10 st11=some st11.as:=by kernel_rfl
end Go.Hb.Kn
