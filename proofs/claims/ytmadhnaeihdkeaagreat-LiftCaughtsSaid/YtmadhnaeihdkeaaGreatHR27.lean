/- A piece of the run. -/
import Derived.Test.YtmadhnaeihdkeaaGreatHS0
import Derived.KernelRfl
namespace Go.Hb.Kn
theorem aYw :bI PP oY 11800 st27 st28=some st28.as:=by kernel_rfl
end Go.Hb.Kn
