/- A piece of the run. -/
import Derived.Test.YtmadhnaeihdkeaaGreatHS0
import Derived.KernelRfl
namespace Go.Hb.Kn
theorem aZ1 :bI PP oY 11200 st9 st10=some st10.as:=by kernel_rfl
end Go.Hb.Kn
