/- A piece of the run. -/
import Derived.Test.YtfaikcecgpcimaaGreatHS0
import Derived.KernelRfl
namespace Go.Hb.Kn
theorem aXN :bT PP rW 12437 st20 st21=some st21.as:=by kernel_rfl
end Go.Hb.Kn
