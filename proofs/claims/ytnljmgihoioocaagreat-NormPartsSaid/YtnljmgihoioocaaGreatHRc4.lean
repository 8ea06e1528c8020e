/- A machine on abstract values, its soundness, ways, plain laws. -/
import Derived.Test.YtnljmgihoioocaaGreatHS0
import Derived.KernelRfl
namespace Go.Hb.Kn
theorem bIO :eF PP orc 15900 stc4 stc5=some stc5.as:=by kernel_rfl
end Go.Hb.Kn
