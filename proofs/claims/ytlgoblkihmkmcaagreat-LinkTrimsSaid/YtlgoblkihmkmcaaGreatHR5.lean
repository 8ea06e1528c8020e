/- A piece of the run. -/
import Derived.Test.YtlgoblkihmkmcaaGreatHS0
import Derived.KernelRfl
namespace Go.Hb.Kn
theorem bIe :cH PP wK 12437 st5 st6=some st6.as:=by kernel_rfl
end Go.Hb.Kn
