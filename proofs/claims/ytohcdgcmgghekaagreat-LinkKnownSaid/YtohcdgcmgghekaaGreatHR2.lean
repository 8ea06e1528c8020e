/-
  OWN WORK, WRITTEN BY A PROGRAM: piece 2 of the run, by the kernel.
-/
import Derived.Test.YtohcdgcmgghekaaGreatHS1
import Derived.KernelRfl
namespace Go.Hb
open Go.Proofs
theorem run2 : fpiece Tryz.prog orc 20000 [662, 665, 715, 717, 735, 751, 753, 755, 766, 767, 768, 803, 806, 807, 808, 809, 810, 811] st2 = some st3 := by kernel_rfl
end Go.Hb
