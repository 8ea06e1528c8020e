/-
  OWN WORK, WRITTEN BY A PROGRAM: one piece of the run, by the kernel.
-/
import Derived.Test.YtabmpnmmkeieiaaGreatHS0
import Derived.KernelRfl
namespace Go.Hb.Kn
theorem bFX :fQ PP orc 11237 st16 st17=some st17.as:=by kernel_rfl
end Go.Hb.Kn
