/-
  OWN WORK, WRITTEN BY A PROGRAM: piece 4 of the run, by the kernel.
-/
import Derived.Test.YtohcdgcmgghekaaGreatHS1
import Derived.KernelRfl
namespace Go.Hb
open Go.Proofs
theorem run4 : fpiece Tryz.prog orc 20000 [662, 665, 715, 717, 735, 751, 753, 755, 766, 767, 768, 1036, 1037, 1086, 1090, 1095, 1227, 1264, 1272, 1280, 1282, 1298, 1301, 1302, 1313, 1315] st4 = some st5 := by kernel_rfl
end Go.Hb
