/- A piece of the run. -/
import Derived.Test.YtmadhnaeihdkeaaGreatHS0
import Derived.KernelRfl
namespace Go.Hb.Kn
theorem aZY :bI PP oY 12900 st6 st7=some st7.as:=by kernel_rfl
end Go.Hb.Kn
