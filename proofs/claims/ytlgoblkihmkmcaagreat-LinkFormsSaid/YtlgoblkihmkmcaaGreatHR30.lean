/- A piece of the run. -/
import Derived.Test.YtlgoblkihmkmcaaGreatHS0
import Derived.KernelRfl
namespace Go.Hb.Kn
theorem bBM :cT PP xZ 13137 st30 st31=some st31.as:=by kernel_rfl
end Go.Hb.Kn
