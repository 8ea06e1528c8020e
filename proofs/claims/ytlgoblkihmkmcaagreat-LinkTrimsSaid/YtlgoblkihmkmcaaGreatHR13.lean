/- A piece of the run. -/
import Derived.Test.YtlgoblkihmkmcaaGreatHS0
import Derived.KernelRfl
namespace Go.Hb.Kn
theorem bG0 :cH PP wK 12237 st13 st14=some st14.as:=by kernel_rfl
end Go.Hb.Kn
