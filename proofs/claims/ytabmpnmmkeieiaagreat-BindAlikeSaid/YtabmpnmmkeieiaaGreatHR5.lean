/- A piece of the run. -/
import Derived.Test.YtabmpnmmkeieiaaGreatHS0
import Derived.KernelRfl
namespace Go.Hb.Kn
theorem bH8 :gG PP orc 10937 st5 st6=some st6.as:=by kernel_rfl
end Go.Hb.Kn
