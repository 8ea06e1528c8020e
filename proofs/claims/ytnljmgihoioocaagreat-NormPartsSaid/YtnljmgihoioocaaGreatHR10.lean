/- A piece of the run. -/
import Derived.Test.YtnljmgihoioocaaGreatHS0
import Derived.KernelRfl
namespace Go.Hb.Kn
theorem bIC :eF PP orc 15200 st10 st11=some st11.as:=by kernel_rfl
end Go.Hb.Kn
