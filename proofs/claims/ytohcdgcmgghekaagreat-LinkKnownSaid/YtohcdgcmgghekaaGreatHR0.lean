/-
  OWN WORK, WRITTEN BY A PROGRAM: piece 0 of the run, by the kernel.
-/
import Derived.Test.YtohcdgcmgghekaaGreatHS1
import Derived.KernelRfl
namespace Go.Hb
open Go.Proofs
theorem run0 : fpiece Tryz.prog orc 20000 [0, 1, 2, 154, 158, 159, 160, 161, 162] st0 = some st1 := by kernel_rfl
end Go.Hb
