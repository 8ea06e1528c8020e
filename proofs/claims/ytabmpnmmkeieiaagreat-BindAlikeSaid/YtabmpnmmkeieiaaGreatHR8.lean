/- A piece of the run. -/
import Derived.Test.YtabmpnmmkeieiaaGreatHS0
import Derived.KernelRfl
namespace Go.Hb.Kn
theorem bIb :gG PP orc 12537 st8 st9=some st9.as:=by kernel_rfl
end Go.Hb.Kn
