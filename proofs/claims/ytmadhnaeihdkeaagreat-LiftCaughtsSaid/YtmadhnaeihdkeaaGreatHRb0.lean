/- A machine on abstract values, its soundness, ways, plain laws. -/
import Derived.Test.YtmadhnaeihdkeaaGreatHS0
import Derived.KernelRfl
namespace Go.Hb.Kn
theorem aYE :bI PP oY 11100 stb0 stb1=some stb1.as:=by kernel_rfl
end Go.Hb.Kn
