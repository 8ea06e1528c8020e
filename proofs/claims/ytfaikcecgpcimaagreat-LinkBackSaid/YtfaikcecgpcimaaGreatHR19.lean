/- A piece of the run. -/
import Derived.Test.YtfaikcecgpcimaaGreatHS0
import Derived.KernelRfl
namespace Go.Hb.Kn
theorem bEK :cF PP uT 17237 st19 st20=some st20.as:=by kernel_rfl
end Go.Hb.Kn
