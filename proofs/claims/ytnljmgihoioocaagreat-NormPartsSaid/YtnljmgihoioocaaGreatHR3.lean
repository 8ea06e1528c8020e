/- A piece of the run. -/
import Derived.Test.YtnljmgihoioocaaGreatHS0
import Derived.KernelRfl
namespace Go.Hb.Kn
theorem bJy :eF PP orc 15300 st3 st4=some st4.as:=by kernel_rfl
end Go.Hb.Kn
