/- A piece of the run. -/
import Derived.Test.YtlgoblkihmkmcaaGreatHS0
import Derived.KernelRfl
namespace Go.Hb.Kn
theorem bHa :cH PP wK 12237 st23 st24=some st24.as:=by kernel_rfl
end Go.Hb.Kn
