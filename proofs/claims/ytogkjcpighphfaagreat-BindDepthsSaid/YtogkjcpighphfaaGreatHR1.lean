/-
  OWN WORK, WRITTEN BY A PROGRAM: one piece of the run, by the kernel.
-/
import Derived.Test.YtogkjcpighphfaaGreatHS1
import Derived.KernelRfl
namespace Go.Hb
open Go.Proofs
namespace Kn
theorem run1 : fpiece Tryz.prog orc 20000 [0, 1, 333, 336, 337, 338] st1 = some st2 := by kernel_rfl
end Kn
end Go.Hb
