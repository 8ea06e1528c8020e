/- A piece of the run. -/
import Derived.Test.YtlgoblkihmkmcaaGreatHS0
import Derived.KernelRfl
namespace Go.Hb.Kn
theorem bHd :cH PP wK 15937 st26 st27=some st27.as:=by kernel_rfl
end Go.Hb.Kn
