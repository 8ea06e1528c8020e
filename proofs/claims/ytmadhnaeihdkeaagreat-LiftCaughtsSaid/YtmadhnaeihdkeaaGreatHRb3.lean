/- A machine on abstract values, its soundness, ways, plain laws. -/
import Derived.Test.YtmadhnaeihdkeaaGreatHS0
import Derived.KernelRfl
namespace Go.Hb.Kn
theorem aYH :bI PP oY 12700 stb3 stb4=some stb4.as:=by kernel_rfl
end Go.Hb.Kn
