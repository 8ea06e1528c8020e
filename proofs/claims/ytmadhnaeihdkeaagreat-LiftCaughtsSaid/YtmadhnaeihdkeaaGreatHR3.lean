/- A piece of the run. -/
import Derived.Test.YtmadhnaeihdkeaaGreatHS0
import Derived.KernelRfl
namespace Go.Hb.Kn
theorem aZV :bI PP oY 11800 st3 st4=some st4.as:=by kernel_rfl
end Go.Hb.Kn
