/- A piece of the run. -/
import Derived.Test.YtfaikcecgpcimaaGreatHS0
import Derived.KernelRfl
namespace Go.Hb.Kn
theorem aX2 :bT PP rW 11437 st35 st36=some st36.as:=by kernel_rfl
end Go.Hb.Kn
