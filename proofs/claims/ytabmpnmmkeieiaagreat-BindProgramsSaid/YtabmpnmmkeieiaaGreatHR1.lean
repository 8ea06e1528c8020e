/-
  OWN WORK, WRITTEN BY A PROGRAM: one piece of the run, by the kernel.
-/
import Derived.Test.YtabmpnmmkeieiaaGreatHS0
import Derived.KernelRfl
namespace Go.Hb.Kn
theorem bGv :fQ PP orc 11037 st1 st2=some st2.as:=by kernel_rfl
end Go.Hb.Kn
