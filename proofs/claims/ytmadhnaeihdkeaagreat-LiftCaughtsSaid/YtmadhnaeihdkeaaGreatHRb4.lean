/- A machine on abstract values, its soundness, ways, plain laws. -/
import Derived.Test.YtmadhnaeihdkeaaGreatHS0
import Derived.KernelRfl
namespace Go.Hb.Kn
theorem aYI :bI PP oY 14523 stb4 stb5=some stb5.as:=by kernel_rfl
end Go.Hb.Kn
