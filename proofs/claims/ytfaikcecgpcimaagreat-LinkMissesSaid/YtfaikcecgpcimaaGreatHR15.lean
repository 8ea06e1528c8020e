/- A piece of the run. -/
import Derived.Test.YtfaikcecgpcimaaGreatHS0
import Derived.KernelRfl
namespace Go.Hb.Kn
theorem aXI :bT PP rW 14437 st15 st16=some st16.as:=by kernel_rfl
end Go.Hb.Kn
