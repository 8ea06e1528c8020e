/- A piece of the run. -/
import Derived.Test.YtnljmgihoioocaaGreatHS0
import Derived.KernelRfl
namespace Go.Hb.Kn
theorem bID :eF PP orc 13500 st11 st12=some st12.as:=by kernel_rfl
end Go.Hb.Kn
