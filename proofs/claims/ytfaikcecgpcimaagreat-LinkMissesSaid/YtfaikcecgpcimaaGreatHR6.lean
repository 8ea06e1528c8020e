/- A piece of the run. -/
import Derived.Test.YtfaikcecgpcimaaGreatHS0
import Derived.KernelRfl
namespace Go.Hb.Kn
theorem aYT :bT PP rW 11337 st6 st7=some st7.as:=by kernel_rfl
end Go.Hb.Kn
