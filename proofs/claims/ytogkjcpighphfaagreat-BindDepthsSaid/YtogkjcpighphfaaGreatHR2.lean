/-
  OWN WORK, WRITTEN BY A PROGRAM: one piece of the run, by the kernel.
-/
import Derived.Test.YtogkjcpighphfaaGreatHS1
import Derived.KernelRfl
namespace Go.Hb
open Go.Proofs
namespace Kn
theorem run2 : fpiece Tryz.prog orc 20000 [0, 1, 482, 486, 487, 488, 489, 490, 491] st2 = some st3 := by kernel_rfl
end Kn
end Go.Hb
