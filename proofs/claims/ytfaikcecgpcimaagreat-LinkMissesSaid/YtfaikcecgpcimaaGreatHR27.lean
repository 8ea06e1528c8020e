/- A piece of the run. -/
import Derived.Test.YtfaikcecgpcimaaGreatHS0
import Derived.KernelRfl
namespace Go.Hb.Kn
theorem aXU :bT PP rW 11537 st27 st28=some st28.as:=by kernel_rfl
end Go.Hb.Kn
