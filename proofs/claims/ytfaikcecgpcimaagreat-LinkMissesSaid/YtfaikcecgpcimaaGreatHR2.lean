/- A piece of the run. -/
import Derived.Test.YtfaikcecgpcimaaGreatHS0
import Derived.KernelRfl
namespace Go.Hb.Kn
theorem aYP :bT PP rW 11237 st2 st3=some st3.as:=by kernel_rfl
end Go.Hb.Kn
