/- A piece of the run. -/
import Derived.Test.YtmadhnaeihdkeaaGreatHS0
import Derived.KernelRfl
namespace Go.Hb.Kn
theorem aZX :bI PP oY 11300 st5 st6=some st6.as:=by kernel_rfl
end Go.Hb.Kn
