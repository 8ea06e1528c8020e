/- A piece of the run. -/
import Derived.Test.YtabmpnmmkeieiaaGreatHS0
import Derived.KernelRfl
namespace Go.Hb.Kn
theorem bH4 :gG PP orc 11037 st1 st2=some st2.as:=by kernel_rfl
end Go.Hb.Kn
