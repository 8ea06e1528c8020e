/- A piece of the run. -/
import Derived.Test.YtmadhnaeihdkeaaGreatHS0
import Derived.KernelRfl
namespace Go.Hb.Kn
theorem aYi :bI PP oY 16300 st13 st14=some st14.as:=by kernel_rfl
end Go.Hb.Kn
