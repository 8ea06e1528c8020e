/- A piece of the run. -/
import Derived.Test.YtmadhnaeihdkeaaGreatHS0
import Derived.KernelRfl
namespace Go.Hb.Kn
theorem aYu :bI PP oY 15900 st25 st26=some st26.as:=by kernel_rfl
end Go.Hb.Kn
