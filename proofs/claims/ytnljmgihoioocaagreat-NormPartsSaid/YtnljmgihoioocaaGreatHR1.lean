/- A piece of the run. -/
import Derived.Test.YtnljmgihoioocaaGreatHS0
import Derived.KernelRfl
namespace Go.Hb.Kn
theorem bJw :eF PP orc 16000 st1 st2=some st2.as:=by kernel_rfl
end Go.Hb.Kn
