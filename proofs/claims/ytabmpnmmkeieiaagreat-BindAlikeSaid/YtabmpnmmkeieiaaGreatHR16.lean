/- A piece of the run. -/
import Derived.Test.YtabmpnmmkeieiaaGreatHS0
import Derived.KernelRfl
namespace Go.Hb.Kn
theorem bHw :gG PP orc 11237 st16 st17=some st17.as:=by kernel_rfl
end Go.Hb.Kn
