/- A machine on abstract values, its soundness, ways, plain laws. -/
import Derived.Test.YtnljmgihoioocaaGreatHS0
import Derived.KernelRfl
namespace Go.Hb.Kn
theorem bIL :eF PP orc 11800 stc1 stc2=some stc2.as:=by kernel_rfl
end Go.Hb.Kn
