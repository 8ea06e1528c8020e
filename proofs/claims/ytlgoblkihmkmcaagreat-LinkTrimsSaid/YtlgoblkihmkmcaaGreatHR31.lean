/- A piece of the run. -/
import Derived.Test.YtlgoblkihmkmcaaGreatHS0
import Derived.KernelRfl
namespace Go.Hb.Kn
theorem bHi :cH PP wK 13537 st31 st32=some st32.as:=by kernel_rfl
end Go.Hb.Kn
