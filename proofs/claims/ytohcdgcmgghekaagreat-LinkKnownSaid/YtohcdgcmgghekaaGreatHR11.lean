/-
  OWN WORK, WRITTEN BY A PROGRAM: piece 11 of the run, by the kernel.
-/
import Derived.Test.YtohcdgcmgghekaaGreatHS1
import Derived.KernelRfl
namespace Go.Hb
open Go.Proofs
theorem run11 : fpiece Tryz.prog orc 20000 [662, 665, 715, 717, 735, 751, 753, 755, 1542, 1545, 1584, 1586, 1658, 1660, 1662, 1664, 2099, 2123, 2139, 2141, 2147, 2148, 2149, 2150, 2300, 2301, 2697, 2698, 3088, 3170, 3172, 3190, 3192, 3245, 3246, 3286, 3288, 3290, 3330, 3332, 3345, 3346, 3347, 3348, 3349, 3350, 3351, 3352, 3435, 3436, 3582, 3583, 3584, 3585, 3586, 3590] st11 = some st12 := by kernel_rfl
end Go.Hb
