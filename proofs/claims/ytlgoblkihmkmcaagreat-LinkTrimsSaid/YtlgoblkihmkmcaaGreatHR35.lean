/- A piece of the run. -/
import Derived.Test.YtlgoblkihmkmcaaGreatHS0
import Derived.KernelRfl
namespace Go.Hb.Kn
theorem bHm :cH PP wK 11437 st35 st36=some st36.as:=by kernel_rfl
end Go.Hb.Kn
