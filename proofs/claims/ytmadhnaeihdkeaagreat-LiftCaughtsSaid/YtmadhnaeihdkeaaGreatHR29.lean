/- A piece of the run. -/
import Derived.Test.YtmadhnaeihdkeaaGreatHS0
import Derived.KernelRfl
namespace Go.Hb.Kn
theorem aYy :bI PP oY 11400 st29 st30=some st30.as:=by kernel_rfl
end Go.Hb.Kn
