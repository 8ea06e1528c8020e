/-
  OWN WORK, WRITTEN BY A PROGRAM: one piece of the run, by the kernel.
-/
import Derived.Test.YtabmpnmmkeieiaaGreatHS0
import Derived.KernelRfl
namespace Go.Hb.Kn
theorem bGC :fQ PP orc 12537 st8 st9=some st9.as:=by kernel_rfl
end Go.Hb.Kn
