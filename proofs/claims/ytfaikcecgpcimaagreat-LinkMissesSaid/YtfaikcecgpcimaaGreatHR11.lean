/- A piece of the run. -/
import Derived.Test.YtfaikcecgpcimaaGreatHS0
import Derived.KernelRfl
namespace Go.Hb.Kn
theorem aXE :bT PP rW 14537 st11 st12=some st12.as:=by kernel_rfl
end Go.Hb.Kn
