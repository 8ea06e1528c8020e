/-
  OWN WORK, WRITTEN BY A PROGRAM: piece 8 of the run, by the kernel.
-/
import Derived.Test.YtohcdgcmgghekaaGreatHS1
import Derived.KernelRfl
namespace Go.Hb
open Go.Proofs
theorem run8 : fpiece Tryz.prog orc 20000 [662, 665, 715, 717, 735, 751, 753, 755, 1542, 1545, 1584, 1586, 1658, 1660, 1662, 1664, 2099, 2123, 2139, 2141, 2147, 2148, 2149, 2150, 2300, 2301, 2302, 2303, 2304, 2305, 2306, 2307, 2386, 2387, 2388, 2389, 2390, 2391, 2395] st8 = some st9 := by kernel_rfl
end Go.Hb
