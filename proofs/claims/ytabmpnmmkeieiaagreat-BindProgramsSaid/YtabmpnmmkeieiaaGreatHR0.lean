/-
  OWN WORK, WRITTEN BY A PROGRAM: one piece of the run, by the kernel.
-/
import Derived.Test.YtabmpnmmkeieiaaGreatHS0
import Derived.KernelRfl
namespace Go.Hb.Kn
theorem bGu :fQ PP orc 12237 st0 st1=some st1.as:=by kernel_rfl
end Go.Hb.Kn
