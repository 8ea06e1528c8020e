/- A piece of the run. -/
import Derived.Test.YtfaikcecgpcimaaGreatHS0
import Derived.KernelRfl
namespace Go.Hb.Kn
theorem aXJ :bT PP rW 16737 st16 st17=some st17.as:=by kernel_rfl
end Go.Hb.Kn
