/- A piece of the run. -/
import Derived.Test.YtlgoblkihmkmcaaGreatHS0
import Derived.KernelRfl
namespace Go.Hb.Kn
theorem bIi :cH PP wK 11437 st9 st10=some st10.as:=by kernel_rfl
end Go.Hb.Kn
