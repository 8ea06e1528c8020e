/- A piece of the run. -/
import Derived.Test.YtlgoblkihmkmcaaGreatHS0
import Derived.KernelRfl
namespace Go.Hb.Kn
theorem bG7 :cH PP wK 12437 st20 st21=some st21.as:=by kernel_rfl
end Go.Hb.Kn
