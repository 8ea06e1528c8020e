/-
  OWN WORK, WRITTEN BY A PROGRAM: one piece of the run, by the kernel.
-/
import Derived.Test.YtogkjcpighphfaaGreatHS1
import Derived.KernelRfl
namespace Go.Hb
open Go.Proofs
namespace Kn
theorem run0 : fpiece Tryz.prog orc 20000 [0, 1, 153, 157, 158, 159, 160, 161] st0 = some st1 := by kernel_rfl
end Kn
end Go.Hb
