/- A piece of the run. -/
import Derived.Test.YtmadhnaeihdkeaaGreatHS0
import Derived.KernelRfl
namespace Go.Hb.Kn
theorem aYq :bI PP oY 17000 st21 st22=some st22.as:=by kernel_rfl
end Go.Hb.Kn
