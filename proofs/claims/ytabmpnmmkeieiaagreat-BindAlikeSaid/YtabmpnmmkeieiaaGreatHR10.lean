/- A piece of the run. -/
import Derived.Test.YtabmpnmmkeieiaaGreatHS0
import Derived.KernelRfl
namespace Go.Hb.Kn
theorem bHr :gG PP orc 17137 st10 st11=some st11.as:=by kernel_rfl
end Go.Hb.Kn
