/- A piece of the run. -/
import Derived.Test.YtlgoblkihmkmcaaGreatHS0
import Derived.KernelRfl
namespace Go.Hb.Kn
theorem bHc :cH PP wK 11237 st25 st26=some st26.as:=by kernel_rfl
end Go.Hb.Kn
