/-
  OWN WORK, WRITTEN BY A PROGRAM: piece 1 of the run, by the kernel.
-/
import Derived.Test.YtohcdgcmgghekaaGreatHS1
import Derived.KernelRfl
namespace Go.Hb
open Go.Proofs
theorem run1 : fpiece Tryz.prog orc 20000 [0, 1, 2, 229, 230, 279, 283, 288, 396, 415, 436, 444, 453, 456, 457, 468, 477, 478, 479, 481, 482] st1 = some st2 := by kernel_rfl
end Go.Hb
