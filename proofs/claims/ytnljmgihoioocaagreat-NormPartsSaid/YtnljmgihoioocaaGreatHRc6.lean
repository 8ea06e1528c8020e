/- A machine on abstract values, its soundness, ways, plain laws. -/
import Derived.Test.YtnljmgihoioocaaGreatHS0
import Derived.KernelRfl
namespace Go.Hb.Kn
theorem bIQ :eF PP orc 10420 stc6 stc7=some stc7.as:=by kernel_rfl
end Go.Hb.Kn
