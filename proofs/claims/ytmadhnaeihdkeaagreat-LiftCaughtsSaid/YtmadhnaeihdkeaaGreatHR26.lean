/- A piece of the run. -/
import Derived.Test.YtmadhnaeihdkeaaGreatHS0
import Derived.KernelRfl
namespace Go.Hb.Kn
theorem aYv :bI PP oY 11500 st26 st27=some st27.as:=by kernel_rfl
end Go.Hb.Kn
