/- A piece of the run. -/
import Derived.Test.YtlgoblkihmkmcaaGreatHS0
import Derived.KernelRfl
namespace Go.Hb.Kn
theorem bG9 :cH PP wK 10937 st22 st23=some st23.as:=by kernel_rfl
end Go.Hb.Kn
