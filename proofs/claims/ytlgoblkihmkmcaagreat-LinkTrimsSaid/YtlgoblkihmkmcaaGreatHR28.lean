/- A piece of the run. -/
import Derived.Test.YtlgoblkihmkmcaaGreatHS0
import Derived.KernelRfl
namespace Go.Hb.Kn
theorem bHf :cH PP wK 12337 st28 st29=some st29.as:=by kernel_rfl
end Go.Hb.Kn
