/- A piece of the run. -/
import Derived.Test.YtfaikcecgpcimaaGreatHS0
import Derived.KernelRfl
namespace Go.Hb.Kn
theorem aYO :bT PP rW 14937 st1 st2=some st2.as:=by kernel_rfl
end Go.Hb.Kn
