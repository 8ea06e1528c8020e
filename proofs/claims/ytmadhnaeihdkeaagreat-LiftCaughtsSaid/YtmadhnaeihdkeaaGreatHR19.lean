/- A piece of the run. -/
import Derived.Test.YtmadhnaeihdkeaaGreatHS0
import Derived.KernelRfl
namespace Go.Hb.Kn
theorem aYo :bI PP oY 11100 st19 st20=some st20.as:=by kernel_rfl
end Go.Hb.Kn
