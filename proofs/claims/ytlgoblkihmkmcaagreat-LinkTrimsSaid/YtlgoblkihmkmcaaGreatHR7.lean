/- A piece of the run. -/
import Derived.Test.YtlgoblkihmkmcaaGreatHS0
import Derived.KernelRfl
namespace Go.Hb.Kn
theorem bIg :cH PP wK 15037 st7 st8=some st8.as:=by kernel_rfl
end Go.Hb.Kn
