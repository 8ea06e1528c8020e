/- A piece of the run. -/
import Derived.Test.YtfaikcecgpcimaaGreatHS0
import Derived.KernelRfl
namespace Go.Hb.Kn
theorem aXM :bT PP rW 17237 st19 st20=some st20.as:=by kernel_rfl
end Go.Hb.Kn
