/-
  OWN WORK, WRITTEN BY A PROGRAM: one piece of the run, by the kernel.
-/
import Derived.Test.YtabmpnmmkeieiaaGreatHS0
import Derived.KernelRfl
namespace Go.Hb.Kn
theorem bGw :fQ PP orc 11337 st2 st3=some st3.as:=by kernel_rfl
end Go.Hb.Kn
