/-
  OWN WORK, WRITTEN BY A PROGRAM: one piece of the run, by the kernel.
-/
import Derived.Test.YtabmpnmmkeieiaaGreatHS0
import Derived.KernelRfl
namespace Go.Hb.Kn
theorem bFV :fQ PP orc 14434 st13 st14=some st14.as:=by kernel_rfl
end Go.Hb.Kn
