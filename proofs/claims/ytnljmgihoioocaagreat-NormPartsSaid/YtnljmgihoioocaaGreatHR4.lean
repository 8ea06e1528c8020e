/- A piece of the run. -/
import Derived.Test.YtnljmgihoioocaaGreatHS0
import Derived.KernelRfl
namespace Go.Hb.Kn
theorem bJz :eF PP orc 14600 st4 st5=some st5.as:=by kernel_rfl
end Go.Hb.Kn
