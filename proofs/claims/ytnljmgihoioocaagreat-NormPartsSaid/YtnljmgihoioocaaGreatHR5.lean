/- A piece of the run. -/
import Derived.Test.YtnljmgihoioocaaGreatHS0
import Derived.KernelRfl
namespace Go.Hb.Kn
theorem bJA :eF PP orc 14100 st5 st6=some st6.as:=by kernel_rfl
end Go.Hb.Kn
