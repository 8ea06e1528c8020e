/- A piece of the run. -/
import Derived.Test.YtlgoblkihmkmcaaGreatHS0
import Derived.KernelRfl
namespace Go.Hb.Kn
theorem bG1 :cH PP wK 15637 st14 st15=some st15.as:=by kernel_rfl
end Go.Hb.Kn
