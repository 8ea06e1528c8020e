/- A piece of the run. -/
import Derived.Test.YtabmpnmmkeieiaaGreatHS0
import Derived.KernelRfl
namespace Go.Hb.Kn
theorem bH7 :gG PP orc 11337 st4 st5=some st5.as:=by kernel_rfl
end Go.Hb.Kn
