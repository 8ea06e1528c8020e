/-
  OWN WORK, WRITTEN BY A PROGRAM: piece 9 of the run, by the kernel.
-/
import Derived.Test.YtohcdgcmgghekaaGreatHS1
import Derived.KernelRfl
namespace Go.Hb
open Go.Proofs
theorem run9 : fpiece Tryz.prog orc 20000 [662, 665, 715, 717, 735, 751, 753, 755, 1542, 1545, 1584, 1586, 1658, 1660, 1662, 1664, 2099, 2123, 2139, 2141, 2147, 2148, 2149, 2150, 2300, 2301, 2697, 2698, 2699, 2700, 2701, 2702, 2703, 2704, 2705, 2709, 2716] st9 = some st10 := by kernel_rfl
end Go.Hb
