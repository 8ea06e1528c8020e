/- A piece of the run. -/
import Derived.Test.YtmadhnaeihdkeaaGreatHS0
import Derived.KernelRfl
namespace Go.Hb.Kn
theorem aYf :bI PP oY 11700 st10 st11=some st11.as:=by kernel_rfl
end Go.Hb.Kn
