/- A piece of the run. -/
import Derived.Test.YtmadhnaeihdkeaaGreatHS0
import Derived.KernelRfl
namespace Go.Hb.Kn
theorem aYs :bI PP oY 13200 st23 st24=some st24.as:=by kernel_rfl
end Go.Hb.Kn
