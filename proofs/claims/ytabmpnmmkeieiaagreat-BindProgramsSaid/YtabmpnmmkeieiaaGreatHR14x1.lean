/-
  OWN WORK, WRITTEN BY A PROGRAM: one piece of the run, by the kernel.
-/
import Derived.Test.YtabmpnmmkeieiaaGreatHS0
import Derived.KernelRfl
namespace Go.Hb.Kn
theorem bBP :fQ PP orc 284 aGJ st14x1=some st14x1.as:=by kernel_rfl
end Go.Hb.Kn
