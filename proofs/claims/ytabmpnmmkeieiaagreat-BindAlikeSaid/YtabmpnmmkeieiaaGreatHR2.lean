/- A piece of the run. -/
import Derived.Test.YtabmpnmmkeieiaaGreatHS0
import Derived.KernelRfl
namespace Go.Hb.Kn
theorem bH5 :gG PP orc 11337 st2 st3=some st3.as:=by kernel_rfl
end Go.Hb.Kn
