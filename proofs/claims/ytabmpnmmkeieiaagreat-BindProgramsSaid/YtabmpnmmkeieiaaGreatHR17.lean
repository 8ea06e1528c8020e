/-
  OWN WORK, WRITTEN BY A PROGRAM: one piece of the run, by the kernel.
-/
import Derived.Test.YtabmpnmmkeieiaaGreatHS0
import Derived.KernelRfl
namespace Go.Hb.Kn
theorem bFY :fQ PP orc 17138 st17 st18=some st18.as:=by kernel_rfl
end Go.Hb.Kn
