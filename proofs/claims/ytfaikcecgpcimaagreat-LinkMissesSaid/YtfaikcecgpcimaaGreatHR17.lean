/- A piece of the run. -/
import Derived.Test.YtfaikcecgpcimaaGreatHS0
import Derived.KernelRfl
namespace Go.Hb.Kn
theorem aXK :bT PP rW 11637 st17 st18=some st18.as:=by kernel_rfl
end Go.Hb.Kn
