/- A piece of the run. -/
import Derived.Test.YtabmpnmmkeieiaaGreatHS0
import Derived.KernelRfl
namespace Go.Hb.Kn
theorem bHu :gG PP orc 14434 st13 st14=some st14.as:=by kernel_rfl
end Go.Hb.Kn
