/- A machine on abstract values, its soundness, ways, plain laws. -/
import Derived.Test.YtnljmgihoioocaaGreatHS0
import Derived.KernelRfl
namespace Go.Hb.Kn
theorem bIN :eF PP orc 13300 stc3 stc4=some stc4.as:=by kernel_rfl
end Go.Hb.Kn
