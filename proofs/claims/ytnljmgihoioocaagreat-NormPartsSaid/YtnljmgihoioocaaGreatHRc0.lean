/- A machine on abstract values, its soundness, ways, plain laws. -/
import Derived.Test.YtnljmgihoioocaaGreatHS0
import Derived.KernelRfl
namespace Go.Hb.Kn
theorem bIK :eF PP orc 12100 stc0 stc1=some stc1.as:=by kernel_rfl
end Go.Hb.Kn
