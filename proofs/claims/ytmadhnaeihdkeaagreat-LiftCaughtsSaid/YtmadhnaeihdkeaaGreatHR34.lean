/- A piece of the run. -/
import Derived.Test.YtmadhnaeihdkeaaGreatHS0
import Derived.KernelRfl
namespace Go.Hb.Kn
theorem aYD :bI PP oY 7931 st34 st35=some st35.as:=by kernel_rfl
end Go.Hb.Kn
