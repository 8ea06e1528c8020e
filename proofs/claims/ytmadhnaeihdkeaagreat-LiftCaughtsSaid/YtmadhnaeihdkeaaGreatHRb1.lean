/- A machine on abstract values, its soundness, ways, plain laws. -/
import Derived.Test.YtmadhnaeihdkeaaGreatHS0
import Derived.KernelRfl
namespace Go.Hb.Kn
theorem aYF :bI PP oY 11200 stb1 stb2=some stb2.as:=by kernel_rfl
end Go.Hb.Kn
