/- A piece of the run. -/
import Derived.Test.YtlgoblkihmkmcaaGreatHS0
import Derived.KernelRfl
namespace Go.Hb.Kn
theorem bIb :cH PP wK 11237 st2 st3=some st3.as:=by kernel_rfl
end Go.Hb.Kn
