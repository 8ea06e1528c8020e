/- A piece of the run. -/
import Derived.Test.YtlgoblkihmkmcaaGreatHS0
import Derived.KernelRfl
namespace Go.Hb.Kn
theorem bHh :cH PP wK 13137 st30 st31=some st31.as:=by kernel_rfl
end Go.Hb.Kn
