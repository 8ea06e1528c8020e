/- A piece of the run. -/
import Derived.Test.YtabmpnmmkeieiaaGreatHS0
import Derived.KernelRfl
namespace Go.Hb.Kn
theorem bDs :gG PP orc 284 aIa st14x1=some st14x1.as:=by kernel_rfl
end Go.Hb.Kn
