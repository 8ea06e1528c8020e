/- A piece of the run. -/
import Derived.Test.YtlgoblkihmkmcaaGreatHS0
import Derived.KernelRfl
namespace Go.Hb.Kn
theorem bG3 :cH PP wK 16737 st16 st17=some st17.as:=by kernel_rfl
end Go.Hb.Kn
