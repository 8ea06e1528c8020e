/-
  OWN WORK, WRITTEN BY A PROGRAM: piece 6 of the run, by the kernel.
-/
import Derived.Test.YtohcdgcmgghekaaGreatHS1
import Derived.KernelRfl
namespace Go.Hb
open Go.Proofs
theorem run6 : fpiece Tryz.prog orc 20000 [662, 665, 715, 717, 735, 751, 753, 755, 1542, 1545, 1584, 1586, 1658, 1660, 1662, 1664, 1674, 1675, 1676, 1813, 1817, 1818, 1819, 1820, 1821] st6 = some st7 := by kernel_rfl
end Go.Hb
