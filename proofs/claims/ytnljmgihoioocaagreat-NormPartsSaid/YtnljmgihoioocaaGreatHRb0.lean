/- A machine on abstract values, its soundness, ways, plain laws. -/
import Derived.Test.YtnljmgihoioocaaGreatHS0
import Derived.KernelRfl
namespace Go.Hb.Kn
theorem bIF :eF PP orc 12100 stb0 stb1=some stb1.as:=by kernel_rfl
end Go.Hb.Kn
