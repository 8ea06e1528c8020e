/- A piece of the run. -/
import Derived.Test.YtmadhnaeihdkeaaGreatHS0
import Derived.KernelRfl
namespace Go.Hb.Kn
theorem aYn :bI PP oY 16300 st18 st19=some st19.as:=by kernel_rfl
end Go.Hb.Kn
