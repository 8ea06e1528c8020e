/- A piece of the run. -/
import Derived.Test.YtmadhnaeihdkeaaGreatHS0
import Derived.KernelRfl
namespace Go.Hb.Kn
theorem aYh :bI PP oY 11100 st12 st13=some st13.as:=by kernel_rfl
end Go.Hb.Kn
