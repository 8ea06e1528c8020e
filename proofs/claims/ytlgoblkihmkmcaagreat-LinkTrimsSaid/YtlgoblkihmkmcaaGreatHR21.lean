/- A piece of the run. -/
import Derived.Test.YtlgoblkihmkmcaaGreatHS0
import Derived.KernelRfl
namespace Go.Hb.Kn
theorem bG8 :cH PP wK 11937 st21 st22=some st22.as:=by kernel_rfl
end Go.Hb.Kn
