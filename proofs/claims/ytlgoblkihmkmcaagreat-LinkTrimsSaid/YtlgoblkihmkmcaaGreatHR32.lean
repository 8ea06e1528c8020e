/- A piece of the run. -/
import Derived.Test.YtlgoblkihmkmcaaGreatHS0
import Derived.KernelRfl
namespace Go.Hb.Kn
theorem bHj :cH PP wK 16837 st32 st33=some st33.as:=by kernel_rfl
end Go.Hb.Kn
