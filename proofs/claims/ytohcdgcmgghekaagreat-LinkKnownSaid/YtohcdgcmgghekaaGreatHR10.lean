/-
  OWN WORK, WRITTEN BY A PROGRAM: piece 10 of the run, by the kernel.
-/
import Derived.Test.YtohcdgcmgghekaaGreatHS1
import Derived.KernelRfl
namespace Go.Hb
open Go.Proofs
theorem run10 : fpiece Tryz.prog orc 20000 [662, 665, 715, 717, 735, 751, 753, 755, 1542, 1545, 1584, 1586, 1658, 1660, 1662, 1664, 2099, 2123, 2139, 2141, 2147, 2148, 2149, 2150, 2300, 2301, 2697, 2698, 2699, 2700, 2701, 2702, 2703, 2843, 2844, 2990, 2991, 2992, 2993, 2994, 3001, 3008, 3009, 3014, 3016, 3019, 3020, 3021, 3022, 3026, 3027, 3028, 3031, 3032, 3033, 3034] st10 = some st11 := by kernel_rfl
end Go.Hb
