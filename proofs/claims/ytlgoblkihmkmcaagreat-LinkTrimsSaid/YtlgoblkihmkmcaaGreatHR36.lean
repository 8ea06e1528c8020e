/- A piece of the run. -/
import Derived.Test.YtlgoblkihmkmcaaGreatHS0
import Derived.KernelRfl
namespace Go.Hb.Kn
theorem bHn :cH PP wK 13679 st36 st37=some st37.as:=by kernel_rfl
end Go.Hb.Kn
