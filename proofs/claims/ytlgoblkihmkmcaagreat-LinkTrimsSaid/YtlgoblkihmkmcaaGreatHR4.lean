/- A piece of the run. -/
import Derived.Test.YtlgoblkihmkmcaaGreatHS0
import Derived.KernelRfl
namespace Go.Hb.Kn
theorem bId :cH PP wK 11637 st4 st5=some st5.as:=by kernel_rfl
end Go.Hb.Kn
