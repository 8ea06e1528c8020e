/- A piece of the run. -/
import Derived.Test.YtlgoblkihmkmcaaGreatHS0
import Derived.KernelRfl
namespace Go.Hb.Kn
theorem bHg :cH PP wK 10937 st29 st30=some st30.as:=by kernel_rfl
end Go.Hb.Kn
