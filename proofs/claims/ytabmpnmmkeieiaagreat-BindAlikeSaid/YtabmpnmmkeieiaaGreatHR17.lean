/- A piece of the run. -/
import Derived.Test.YtabmpnmmkeieiaaGreatHS0
import Derived.KernelRfl
namespace Go.Hb.Kn
theorem bHx :gG PP orc 17138 st17 st18=some st18.as:=by kernel_rfl
end Go.Hb.Kn
