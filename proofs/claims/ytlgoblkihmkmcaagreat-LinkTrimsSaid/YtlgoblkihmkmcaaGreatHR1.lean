/- A piece of the run. -/
import Derived.Test.YtlgoblkihmkmcaaGreatHS0
import Derived.KernelRfl
namespace Go.Hb.Kn
theorem bIa :cH PP wK 14937 st1 st2=some st2.as:=by kernel_rfl
end Go.Hb.Kn
