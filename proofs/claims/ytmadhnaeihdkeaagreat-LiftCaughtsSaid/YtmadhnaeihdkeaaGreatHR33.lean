/- A piece of the run. -/
import Derived.Test.YtmadhnaeihdkeaaGreatHS0
import Derived.KernelRfl
namespace Go.Hb.Kn
theorem aYC :bI PP oY 11900 st33 st34=some st34.as:=by kernel_rfl
end Go.Hb.Kn
