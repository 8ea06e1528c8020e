/- A piece of the run. -/
import Derived.Test.YtlgoblkihmkmcaaGreatHS0
import Derived.KernelRfl
namespace Go.Hb.Kn
theorem bGZ :cH PP wK 16537 st12 st13=some st13.as:=by kernel_rfl
end Go.Hb.Kn
