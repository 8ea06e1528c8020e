/- A piece of the run. -/
import Derived.Test.YtlgoblkihmkmcaaGreatHS0
import Derived.KernelRfl
namespace Go.Hb.Kn
theorem bBE :cT PP xZ 10937 st22 st23=some st23.as:=by kernel_rfl
end Go.Hb.Kn
