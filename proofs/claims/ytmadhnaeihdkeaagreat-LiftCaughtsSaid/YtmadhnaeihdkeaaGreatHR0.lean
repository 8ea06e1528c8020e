/- A piece of the run. -/
import Derived.Test.YtmadhnaeihdkeaaGreatHS0
import Derived.KernelRfl
namespace Go.Hb.Kn
theorem aZS :bI PP oY 11100 st0 st1=some st1.as:=by kernel_rfl
end Go.Hb.Kn
