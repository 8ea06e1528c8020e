/- A piece of the run. -/
import Derived.Test.YtabmpnmmkeieiaaGreatHS0
import Derived.KernelRfl
namespace Go.Hb.Kn
theorem bHv :gG PP orc 11737 st15 st16=some st16.as:=by kernel_rfl
end Go.Hb.Kn
