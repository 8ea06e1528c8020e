/- A piece of the run. -/
import Derived.Test.YtlgoblkihmkmcaaGreatHS0
import Derived.KernelRfl
namespace Go.Hb.Kn
theorem bIh :cH PP wK 15337 st8 st9=some st9.as:=by kernel_rfl
end Go.Hb.Kn
