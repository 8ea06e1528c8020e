/- A piece of the run. -/
import Derived.Test.YtmadhnaeihdkeaaGreatHS0
import Derived.KernelRfl
namespace Go.Hb.Kn
theorem aYg :bI PP oY 13300 st11 st12=some st12.as:=by kernel_rfl
end Go.Hb.Kn
