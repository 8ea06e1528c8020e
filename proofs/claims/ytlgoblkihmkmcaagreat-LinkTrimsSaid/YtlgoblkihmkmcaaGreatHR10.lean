/- A piece of the run. -/
import Derived.Test.YtlgoblkihmkmcaaGreatHS0
import Derived.KernelRfl
namespace Go.Hb.Kn
theorem bGX :cH PP wK 17037 st10 st11=some st11.as:=by kernel_rfl
end Go.Hb.Kn
