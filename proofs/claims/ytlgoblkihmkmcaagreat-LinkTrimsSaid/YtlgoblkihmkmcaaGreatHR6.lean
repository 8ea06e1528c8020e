/- A piece of the run. -/
import Derived.Test.YtlgoblkihmkmcaaGreatHS0
import Derived.KernelRfl
namespace Go.Hb.Kn
theorem bIf :cH PP wK 11337 st6 st7=some st7.as:=by kernel_rfl
end Go.Hb.Kn
