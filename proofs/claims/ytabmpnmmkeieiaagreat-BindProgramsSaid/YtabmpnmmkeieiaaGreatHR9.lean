/-
  OWN WORK, WRITTEN BY A PROGRAM: one piece of the run, by the kernel.
-/
import Derived.Test.YtabmpnmmkeieiaaGreatHS0
import Derived.KernelRfl
namespace Go.Hb.Kn
theorem bGD :fQ PP orc 13837 st9 st10=some st10.as:=by kernel_rfl
end Go.Hb.Kn
