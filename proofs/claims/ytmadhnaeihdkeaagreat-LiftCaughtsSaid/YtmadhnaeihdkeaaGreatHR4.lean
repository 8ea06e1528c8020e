/- A piece of the run. -/
import Derived.Test.YtmadhnaeihdkeaaGreatHS0
import Derived.KernelRfl
namespace Go.Hb.Kn
theorem aZW :bI PP oY 11100 st4 st5=some st5.as:=by kernel_rfl
end Go.Hb.Kn
