/-
  OWN WORK, WRITTEN BY A PROGRAM: piece 5 of the run, by the kernel.
-/
import Derived.Test.YtohcdgcmgghekaaGreatHS1
import Derived.KernelRfl
namespace Go.Hb
open Go.Proofs
theorem run5 : fpiece Tryz.prog orc 20000 [662, 665, 715, 717, 735, 751, 753, 755, 766, 1086, 1090, 1095, 1227, 1264, 1272, 1280, 1282, 1298, 1380, 1381, 1382, 1533, 1534, 1535, 1536, 1539, 1540, 1541, 1542, 1543, 1544, 1545, 1546, 1547, 1584, 1586, 1658, 1660, 1662, 1664] st5 = some st6 := by kernel_rfl
end Go.Hb
