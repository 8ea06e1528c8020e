/- A piece of the run. -/
import Derived.Test.YtlgoblkihmkmcaaGreatHS0
import Derived.KernelRfl
namespace Go.Hb.Kn
theorem bG5 :cH PP wK 11537 st18 st19=some st19.as:=by kernel_rfl
end Go.Hb.Kn
