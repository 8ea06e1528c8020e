/- A machine on abstract values, its soundness, ways, plain laws. -/
import Derived.Test.YtnljmgihoioocaaGreatHS0
import Derived.KernelRfl
namespace Go.Hb.Kn
theorem bIJ :eF PP orc 15208 stb4 stb5=some stb5.as:=by kernel_rfl
end Go.Hb.Kn
