/- A piece of the run. -/
import Derived.Test.YtmadhnaeihdkeaaGreatHS0
import Derived.KernelRfl
namespace Go.Hb.Kn
theorem aYl :bI PP oY 12600 st16 st17=some st17.as:=by kernel_rfl
end Go.Hb.Kn
