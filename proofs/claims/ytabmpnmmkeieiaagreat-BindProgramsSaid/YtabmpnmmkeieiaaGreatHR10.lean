/-
  OWN WORK, WRITTEN BY A PROGRAM: one piece of the run, by the kernel.
-/
import Derived.Test.YtabmpnmmkeieiaaGreatHS0
import Derived.KernelRfl
namespace Go.Hb.Kn
theorem bFS :fQ PP orc 17137 st10 st11=some st11.as:=by kernel_rfl
end Go.Hb.Kn
