/- A piece of the run. -/
import Derived.Test.YtabmpnmmkeieiaaGreatHS0
import Derived.KernelRfl
namespace Go.Hb.Kn
theorem bH9 :gG PP orc 16537 st6 st7=some st7.as:=by kernel_rfl
end Go.Hb.Kn
