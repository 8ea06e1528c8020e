/- A piece of the run. -/
import Derived.Test.YtabmpnmmkeieiaaGreatHS0
import Derived.KernelRfl
namespace Go.Hb.Kn
theorem bDr :gG PP orc 269 aH9 st15=some st15.as:=by kernel_rfl
end Go.Hb.Kn
