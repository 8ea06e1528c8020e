/- A piece of the run. -/
import Derived.Test.YtmadhnaeihdkeaaGreatHS0
import Derived.KernelRfl
namespace Go.Hb.Kn
theorem aZT :bI PP oY 12700 st1 st2=some st2.as:=by kernel_rfl
end Go.Hb.Kn
