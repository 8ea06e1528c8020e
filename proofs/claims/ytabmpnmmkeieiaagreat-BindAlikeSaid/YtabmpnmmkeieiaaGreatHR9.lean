/- A piece of the run. -/
import Derived.Test.YtabmpnmmkeieiaaGreatHS0
import Derived.KernelRfl
namespace Go.Hb.Kn
theorem bIc :gG PP orc 13837 st9 st10=some st10.as:=by kernel_rfl
end Go.Hb.Kn
