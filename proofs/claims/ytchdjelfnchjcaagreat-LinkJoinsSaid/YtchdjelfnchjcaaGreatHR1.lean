/- A piece of the run. -/
import Derived.Test.YtchdjelfnchjcaaGreatHS0
import Derived.KernelRfl
namespace Go.Hb.Kn
theorem bAS :bZ PP qK 14937 st1 st2=some st2.as:=by kernel_rfl
end Go.Hb.Kn
