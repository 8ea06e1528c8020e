/- A piece of the run. -/
import Derived.Test.YtmadhnaeihdkeaaGreatHS0
import Derived.KernelRfl
namespace Go.Hb.Kn
theorem aYz :bI PP oY 14400 st30 st31=some st31.as:=by kernel_rfl
end Go.Hb.Kn
