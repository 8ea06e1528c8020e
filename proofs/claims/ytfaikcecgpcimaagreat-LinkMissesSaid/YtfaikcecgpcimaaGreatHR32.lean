/- A piece of the run. -/
import Derived.Test.YtfaikcecgpcimaaGreatHS0
import Derived.KernelRfl
namespace Go.Hb.Kn
theorem aXZ :bT PP rW 16837 st32 st33=some st33.as:=by kernel_rfl
end Go.Hb.Kn
