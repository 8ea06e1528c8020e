/- A piece of the run. -/
import Derived.Test.YtabmpnmmkeieiaaGreatHS0
import Derived.KernelRfl
namespace Go.Hb.Kn
theorem bHs :gG PP orc 12337 st11 st12=some st12.as:=by kernel_rfl
end Go.Hb.Kn
