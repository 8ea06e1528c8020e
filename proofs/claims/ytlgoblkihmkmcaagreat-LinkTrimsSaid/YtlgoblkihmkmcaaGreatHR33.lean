/- A piece of the run. -/
import Derived.Test.YtlgoblkihmkmcaaGreatHS0
import Derived.KernelRfl
namespace Go.Hb.Kn
theorem bHk :cH PP wK 13937 st33 st34=some st34.as:=by kernel_rfl
end Go.Hb.Kn
