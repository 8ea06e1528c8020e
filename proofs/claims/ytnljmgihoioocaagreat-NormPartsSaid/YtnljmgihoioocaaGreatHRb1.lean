/- A machine on abstract values, its soundness, ways, plain laws. -/
import Derived.Test.YtnljmgihoioocaaGreatHS0
import Derived.KernelRfl
namespace Go.Hb.Kn
theorem bIG :eF PP orc 12400 stb1 stb2=some stb2.as:=by kernel_rfl
end Go.Hb.Kn
