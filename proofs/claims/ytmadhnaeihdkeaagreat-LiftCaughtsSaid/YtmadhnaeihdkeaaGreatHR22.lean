/- A piece of the run. -/
import Derived.Test.YtmadhnaeihdkeaaGreatHS0
import Derived.KernelRfl
namespace Go.Hb.Kn
theorem aYr :bI PP oY 12400 st22 st23=some st23.as:=by kernel_rfl
end Go.Hb.Kn
