/- A piece of the run. -/
import Derived.Test.YtmadhnaeihdkeaaGreatHS0
import Derived.KernelRfl
namespace Go.Hb.Kn
theorem aZ0 :bI PP oY 11700 st8 st9=some st9.as:=by kernel_rfl
end Go.Hb.Kn
