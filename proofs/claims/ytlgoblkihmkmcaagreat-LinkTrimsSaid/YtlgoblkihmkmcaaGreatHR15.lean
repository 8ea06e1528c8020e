/- A piece of the run. -/
import Derived.Test.YtlgoblkihmkmcaaGreatHS0
import Derived.KernelRfl
namespace Go.Hb.Kn
theorem bG2 :cH PP wK 14437 st15 st16=some st16.as:=by kernel_rfl
end Go.Hb.Kn
