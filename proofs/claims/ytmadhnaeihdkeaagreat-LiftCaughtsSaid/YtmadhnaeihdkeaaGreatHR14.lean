/- A piece of the run. -/
import Derived.Test.YtmadhnaeihdkeaaGreatHS0
import Derived.KernelRfl
namespace Go.Hb.Kn
theorem aYj :bI PP oY 14600 st14 st15=some st15.as:=by kernel_rfl
end Go.Hb.Kn
