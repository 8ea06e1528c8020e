/- A piece of the run. -/
import Derived.Test.YtlgoblkihmkmcaaGreatHS0
import Derived.KernelRfl
namespace Go.Hb.Kn
theorem bHl :cH PP wK 11637 st34 st35=some st35.as:=by kernel_rfl
end Go.Hb.Kn
