/-
  OWN WORK, WRITTEN BY A PROGRAM: one piece of the run, by the kernel.
-/
import Derived.Test.YtabmpnmmkeieiaaGreatHS0
import Derived.KernelRfl
namespace Go.Hb.Kn
theorem bFU :fQ PP orc 11237 st12 st13=some st13.as:=by kernel_rfl
end Go.Hb.Kn
