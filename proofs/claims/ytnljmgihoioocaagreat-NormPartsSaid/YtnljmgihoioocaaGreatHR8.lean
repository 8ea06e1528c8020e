/- A piece of the run. -/
import Derived.Test.YtnljmgihoioocaaGreatHS0
import Derived.KernelRfl
namespace Go.Hb.Kn
theorem bJD :eF PP orc 12700 st8 st9=some st9.as:=by kernel_rfl
end Go.Hb.Kn
