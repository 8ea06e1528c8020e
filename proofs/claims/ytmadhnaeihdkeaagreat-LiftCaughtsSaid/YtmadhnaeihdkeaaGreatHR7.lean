/- A piece of the run. -/
import Derived.Test.YtmadhnaeihdkeaaGreatHS0
import Derived.KernelRfl
namespace Go.Hb.Kn
theorem aZZ :bI PP oY 17000 st7 st8=some st8.as:=by kernel_rfl
end Go.Hb.Kn
