/- A piece of the run. -/
import Derived.Test.YtlgoblkihmkmcaaGreatHS0
import Derived.KernelRfl
namespace Go.Hb.Kn
theorem bG4 :cH PP wK 11637 st17 st18=some st18.as:=by kernel_rfl
end Go.Hb.Kn
