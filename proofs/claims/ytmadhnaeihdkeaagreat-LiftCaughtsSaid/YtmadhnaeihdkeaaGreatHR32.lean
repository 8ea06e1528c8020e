/- A piece of the run. -/
import Derived.Test.YtmadhnaeihdkeaaGreatHS0
import Derived.KernelRfl
namespace Go.Hb.Kn
theorem aYB :bI PP oY 11300 st32 st33=some st33.as:=by kernel_rfl
end Go.Hb.Kn
