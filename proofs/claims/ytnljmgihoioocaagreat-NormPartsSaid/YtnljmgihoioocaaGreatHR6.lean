/- A piece of the run. -/
import Derived.Test.YtnljmgihoioocaaGreatHS0
import Derived.KernelRfl
namespace Go.Hb.Kn
theorem bJB :eF PP orc 11600 st6 st7=some st7.as:=by kernel_rfl
end Go.Hb.Kn
