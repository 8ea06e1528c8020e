/- A piece of the run. -/
import Derived.Test.YtmadhnaeihdkeaaGreatHS0
import Derived.KernelRfl
namespace Go.Hb.Kn
theorem aZU :bI PP oY 17000 st2 st3=some st3.as:=by kernel_rfl
end Go.Hb.Kn
