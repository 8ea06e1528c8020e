/- A piece of the run. -/
import Derived.Test.YtlgoblkihmkmcaaGreatHS0
import Derived.KernelRfl
namespace Go.Hb.Kn
theorem bIc :cH PP wK 15937 st3 st4=some st4.as:=by kernel_rfl
end Go.Hb.Kn
