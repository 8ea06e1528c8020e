/-
  OWN WORK, WRITTEN BY A PROGRAM: one piece of the run, by the kernel.
-/
import Derived.Test.YtabmpnmmkeieiaaGreatHS0
import Derived.KernelRfl
namespace Go.Hb.Kn
theorem bEA :fW PP orc 284 aIw st14x1=some st14x1.as:=by kernel_rfl
end Go.Hb.Kn
