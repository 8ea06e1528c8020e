/- A piece of the run. -/
import Derived.Test.YtnljmgihoioocaaGreatHS0
import Derived.KernelRfl
namespace Go.Hb.Kn
theorem bJv :eF PP orc 11500 st0 st1=some st1.as:=by kernel_rfl
end Go.Hb.Kn
