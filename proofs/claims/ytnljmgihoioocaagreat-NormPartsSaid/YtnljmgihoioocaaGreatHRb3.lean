/- A machine on abstract values, its soundness, ways, plain laws. -/
import Derived.Test.YtnljmgihoioocaaGreatHS0
import Derived.KernelRfl
namespace Go.Hb.Kn
theorem bII :eF PP orc 15400 stb3 stb4=some stb4.as:=by kernel_rfl
end Go.Hb.Kn
