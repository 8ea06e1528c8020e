/- A piece of the run. -/
import Derived.Test.YtmadhnaeihdkeaaGreatHS0
import Derived.KernelRfl
namespace Go.Hb.Kn
theorem aYx :bI PP oY 11400 st28 st29=some st29.as:=by kernel_rfl
end Go.Hb.Kn
