/- A machine on abstract values, its soundness, ways, plain laws. -/
import Derived.Test.YtnljmgihoioocaaGreatHS0
import Derived.KernelRfl
namespace Go.Hb.Kn
theorem bIH :eF PP orc 15800 stb2 stb3=some stb3.as:=by kernel_rfl
end Go.Hb.Kn
