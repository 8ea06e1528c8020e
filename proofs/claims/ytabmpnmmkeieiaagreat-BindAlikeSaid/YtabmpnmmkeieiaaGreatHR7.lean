/- A piece of the run. -/
import Derived.Test.YtabmpnmmkeieiaaGreatHS0
import Derived.KernelRfl
namespace Go.Hb.Kn
theorem bIa :gG PP orc 15537 st7 st8=some st8.as:=by kernel_rfl
end Go.Hb.Kn
