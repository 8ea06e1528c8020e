/- A piece of the run. -/
import Derived.Test.YtnljmgihoioocaaGreatHS0
import Derived.KernelRfl
namespace Go.Hb.Kn
theorem bJx :eF PP orc 17200 st2 st3=some st3.as:=by kernel_rfl
end Go.Hb.Kn
