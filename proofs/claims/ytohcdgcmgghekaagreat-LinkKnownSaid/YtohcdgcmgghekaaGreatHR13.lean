/-
  OWN WORK, WRITTEN BY A PROGRAM: piece 13 of the run, by the kernel.
-/
import Derived.Test.YtohcdgcmgghekaaGreatHS2
import Derived.KernelRfl
namespace Go.Hb
open Go.Proofs
theorem run13 : fpiece Tryz.prog orc 20000 [662, 665, 715, 717, 735, 751, 753, 755, 1542, 1545, 1584, 1586, 1658, 1660, 1662, 1664, 2099, 2123, 2139, 2141, 2147, 2148, 2149, 2150, 2300, 2301, 2697, 2698, 3088, 3170, 3172, 3190, 3192, 3245, 3246, 3286, 3288, 3290, 3330, 3332, 3345, 3346, 3347, 3738, 3799, 3852, 3853, 3893, 3895, 3897, 3959, 3961, 3977, 3979, 3981, 3994, 3995, 3996, 4322, 4323, 4324, 4325, 4327, 4328, 4329, 4330, 4467, 4468, 4469, 4470, 4471, 4478] st13 = some st14 := by kernel_rfl
end Go.Hb
