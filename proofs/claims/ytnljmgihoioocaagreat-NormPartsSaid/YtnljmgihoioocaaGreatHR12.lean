/- A piece of the run. -/
import Derived.Test.YtnljmgihoioocaaGreatHS0
import Derived.KernelRfl
namespace Go.Hb.Kn
theorem bIE :eF PP orc 9160 st12 st13=some st13.as:=by kernel_rfl
end Go.Hb.Kn
