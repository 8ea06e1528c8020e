/- A piece of the run. -/
import Derived.Test.YtmadhnaeihdkeaaGreatHS0
import Derived.KernelRfl
namespace Go.Hb.Kn
theorem aYm :bI PP oY 14900 st17 st18=some st18.as:=by kernel_rfl
end Go.Hb.Kn
