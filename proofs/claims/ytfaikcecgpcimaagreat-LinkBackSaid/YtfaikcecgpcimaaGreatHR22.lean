/- A piece of the run. -/
import Derived.Test.YtfaikcecgpcimaaGreatHS0
import Derived.KernelRfl
namespace Go.Hb.Kn
theorem bEN :cF PP uT 10937 st22 st23=some st23.as:=by kernel_rfl
end Go.Hb.Kn
