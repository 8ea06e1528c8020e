/- A piece of the run. -/
import Derived.Test.YtmadhnaeihdkeaaGreatHS0
import Derived.KernelRfl
namespace Go.Hb.Kn
theorem aYt :bI PP oY 11000 st24 st25=some st25.as:=by kernel_rfl
end Go.Hb.Kn
