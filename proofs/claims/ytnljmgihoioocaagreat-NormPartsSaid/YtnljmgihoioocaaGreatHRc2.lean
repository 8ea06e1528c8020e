/- A machine on abstract values, its soundness, ways, plain laws. -/
import Derived.Test.YtnljmgihoioocaaGreatHS0
import Derived.KernelRfl
namespace Go.Hb.Kn
theorem bIM :eF PP orc 16000 stc2 stc3=some stc3.as:=by kernel_rfl
end Go.Hb.Kn
