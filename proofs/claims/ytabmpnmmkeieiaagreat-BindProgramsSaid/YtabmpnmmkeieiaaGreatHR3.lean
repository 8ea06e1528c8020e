/-
  OWN WORK, WRITTEN BY A PROGRAM: one piece of the run, by the kernel.
-/
import Derived.Test.YtabmpnmmkeieiaaGreatHS0
import Derived.KernelRfl
namespace Go.Hb.Kn
theorem bGx :fQ PP orc 11037 st3 st4=some st4.as:=by kernel_rfl
end Go.Hb.Kn
