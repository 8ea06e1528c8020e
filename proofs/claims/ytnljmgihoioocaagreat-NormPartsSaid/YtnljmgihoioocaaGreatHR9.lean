/- A piece of the run. -/
import Derived.Test.YtnljmgihoioocaaGreatHS0
import Derived.KernelRfl
namespace Go.Hb.Kn
theorem bJE :eF PP orc 12400 st9 st10=some st10.as:=by kernel_rfl
end Go.Hb.Kn
