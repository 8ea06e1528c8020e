/-
  OWN WORK, WRITTEN BY A PROGRAM: piece 3 of the run, by the kernel.
-/
import Derived.Test.YtohcdgcmgghekaaGreatHS1
import Derived.KernelRfl
namespace Go.Hb
open Go.Proofs
theorem run3 : fpiece Tryz.prog orc 20000 [662, 665, 715, 717, 735, 751, 753, 755, 766, 767, 768, 976, 980, 981, 982, 983, 984] st3 = some st4 := by kernel_rfl
end Go.Hb
