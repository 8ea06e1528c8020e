/- A piece of the run. -/
import Derived.Test.YtabmpnmmkeieiaaGreatHS0
import Derived.KernelRfl
namespace Go.Hb.Kn
theorem bH6 :gG PP orc 11037 st3 st4=some st4.as:=by kernel_rfl
end Go.Hb.Kn
