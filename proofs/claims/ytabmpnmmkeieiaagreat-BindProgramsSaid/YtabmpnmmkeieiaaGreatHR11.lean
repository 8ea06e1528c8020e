/-
  OWN WORK, WRITTEN BY A PROGRAM: one piece of the run, by the kernel.
-/
import Derived.Test.YtabmpnmmkeieiaaGreatHS0
import Derived.KernelRfl
namespace Go.Hb.Kn
theorem bFT :fQ PP orc 12337 st11 st12=some st12.as:=by kernel_rfl
end Go.Hb.Kn
