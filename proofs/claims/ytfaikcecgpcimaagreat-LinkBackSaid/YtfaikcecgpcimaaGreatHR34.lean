/- A piece of the run. -/
import Derived.Test.YtfaikcecgpcimaaGreatHS0
import Derived.KernelRfl
namespace Go.Hb.Kn
theorem bEZ :cF PP uT 11637 st34 st35=some st35.as:=by kernel_rfl
end Go.Hb.Kn
