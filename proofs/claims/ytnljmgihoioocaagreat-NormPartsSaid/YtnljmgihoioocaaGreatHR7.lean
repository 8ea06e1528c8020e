/- A piece of the run. -/
import Derived.Test.YtnljmgihoioocaaGreatHS0
import Derived.KernelRfl
namespace Go.Hb.Kn
theorem bJC :eF PP orc 12700 st7 st8=some st8.as:=by kernel_rfl
end Go.Hb.Kn
