/- A piece of the run. -/
import Derived.Test.YtlgoblkihmkmcaaGreatHS0
import Derived.KernelRfl
namespace Go.Hb.Kn
theorem bHe :cH PP wK 11537 st27 st28=some st28.as:=by kernel_rfl
end Go.Hb.Kn
