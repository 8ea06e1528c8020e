/- A piece of the run. -/
import Derived.Test.YtlgoblkihmkmcaaGreatHS0
import Derived.KernelRfl
namespace Go.Hb.Kn
theorem bH9 :cH PP wK 12237 st0 st1=some st1.as:=by kernel_rfl
end Go.Hb.Kn
