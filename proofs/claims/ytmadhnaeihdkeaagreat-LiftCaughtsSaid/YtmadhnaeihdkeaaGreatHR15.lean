/- A piece of the run. -/
import Derived.Test.YtmadhnaeihdkeaaGreatHS0
import Derived.KernelRfl
namespace Go.Hb.Kn
theorem aYk :bI PP oY 11600 st15 st16=some st16.as:=by kernel_rfl
end Go.Hb.Kn
