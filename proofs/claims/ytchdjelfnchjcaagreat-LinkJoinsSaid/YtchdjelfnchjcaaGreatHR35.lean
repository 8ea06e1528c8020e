/- A piece of the run. -/
import Derived.Test.YtchdjelfnchjcaaGreatHS0
import Derived.KernelRfl
namespace Go.Hb.Kn
theorem aZ0 :bZ PP qK 11437 st35 st36=some st36.as:=by kernel_rfl
end Go.Hb.Kn
