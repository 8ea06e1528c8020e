/- A piece of the run. -/
import Derived.Test.YtabmpnmmkeieiaaGreatHS0
import Derived.KernelRfl
namespace Go.Hb.Kn
theorem bHt :gG PP orc 11237 st12 st13=some st13.as:=by kernel_rfl
end Go.Hb.Kn
