/- A piece of the run. -/
import Derived.Test.YtmadhnaeihdkeaaGreatHS0
import Derived.KernelRfl
namespace Go.Hb.Kn
theorem aYA :bI PP oY 16200 st31 st32=some st32.as:=by kernel_rfl
end Go.Hb.Kn
