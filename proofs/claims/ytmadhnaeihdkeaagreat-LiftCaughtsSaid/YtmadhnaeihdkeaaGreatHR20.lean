/- A piece of the run. -/
import Derived.Test.YtmadhnaeihdkeaaGreatHS0
import Derived.KernelRfl
namespace Go.Hb.Kn
theorem aYp :bI PP oY 12500 st20 st21=some st21.as:=by kernel_rfl
end Go.Hb.Kn
