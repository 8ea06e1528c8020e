/-
  OWN WORK, WRITTEN BY A PROGRAM: one piece of the run, by the kernel.
-/
import Derived.Test.YtabmpnmmkeieiaaGreatHS0
import Derived.KernelRfl
namespace Go.Hb.Kn
theorem bFW :fQ PP orc 11737 st15 st16=some st16.as:=by kernel_rfl
end Go.Hb.Kn
