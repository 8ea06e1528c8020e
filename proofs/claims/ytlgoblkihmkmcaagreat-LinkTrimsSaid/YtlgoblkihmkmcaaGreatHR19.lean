/- A piece of the run. -/
import Derived.Test.YtlgoblkihmkmcaaGreatHS0
import Derived.KernelRfl
namespace Go.Hb.Kn
theorem bG6 :cH PP wK 17237 st19 st20=some st20.as:=by kernel_rfl
end Go.Hb.Kn
