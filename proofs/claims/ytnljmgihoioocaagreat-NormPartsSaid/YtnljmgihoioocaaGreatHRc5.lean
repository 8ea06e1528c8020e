/- A machine on abstract values, its soundness, ways, plain laws. -/
import Derived.Test.YtnljmgihoioocaaGreatHS0
import Derived.KernelRfl
namespace Go.Hb.Kn
theorem bIP :eF PP orc 11100 stc5 stc6=some stc6.as:=by kernel_rfl
end Go.Hb.Kn
