/- A machine on abstract values, its soundness, ways, plain laws. -/
import Derived.Test.YtmadhnaeihdkeaaGreatHS0
import Derived.KernelRfl
namespace Go.Hb.Kn
theorem aYG :bI PP oY 16600 stb2 stb3=some stb3.as:=by kernel_rfl
end Go.Hb.Kn
