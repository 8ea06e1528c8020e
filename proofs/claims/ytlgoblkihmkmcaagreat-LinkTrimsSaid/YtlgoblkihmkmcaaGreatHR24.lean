/- A piece of the run. -/
import Derived.Test.YtlgoblkihmkmcaaGreatHS0
import Derived.KernelRfl
namespace Go.Hb.Kn
theorem bHb :cH PP wK 11237 st24 st25=some st25.as:=by kernel_rfl
end Go.Hb.Kn
