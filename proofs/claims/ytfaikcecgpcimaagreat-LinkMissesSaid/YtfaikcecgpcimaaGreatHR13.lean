/- A piece of the run. -/
import Derived.Test.YtfaikcecgpcimaaGreatHS0
import Derived.KernelRfl
namespace Go.Hb.Kn
theorem aXG :bT PP rW 12237 st13 st14=some st14.as:=by kernel_rfl
end Go.Hb.Kn
