/- A piece of the run. -/
import Derived.Test.YtlgoblkihmkmcaaGreatHS0
import Derived.KernelRfl
namespace Go.Hb.Kn
theorem bGY :cH PP wK 14537 st11 st12=some st12.as:=by kernel_rfl
end Go.Hb.Kn
