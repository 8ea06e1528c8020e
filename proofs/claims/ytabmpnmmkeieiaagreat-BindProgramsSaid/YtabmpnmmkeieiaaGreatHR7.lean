/-
  OWN WORK, WRITTEN BY A PROGRAM: one piece of the run, by the kernel.
-/
import Derived.Test.YtabmpnmmkeieiaaGreatHS0
import Derived.KernelRfl
namespace Go.Hb.Kn
theorem bGB :fQ PP orc 15537 st7 st8=some st8.as:=by kernel_rfl
end Go.Hb.Kn
