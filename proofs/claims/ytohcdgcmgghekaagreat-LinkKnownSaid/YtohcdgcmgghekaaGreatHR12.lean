/-
  OWN WORK, WRITTEN BY A PROGRAM: piece 12 of the run, by the kernel.
-/
import Derived.Test.YtohcdgcmgghekaaGreatHS1
import Derived.Test.YtohcdgcmgghekaaGreatHS2
import Derived.KernelRfl
namespace Go.Hb
open Go.Proofs
theorem run12 : fpiece Tryz.prog orc 20000 [662, 665, 715, 717, 735, 751, 753, 755, 1542, 1545, 1584, 1586, 1658, 1660, 1662, 1664, 2099, 2123, 2139, 2141, 2147, 2148, 2149, 2150, 2300, 2301, 2697, 2698, 3088, 3170, 3172, 3190, 3192, 3245, 3246, 3286, 3288, 3290, 3330, 3332, 3345, 3346, 3347, 3738, 3799, 3852, 3853, 3893, 3895, 3897, 3959, 3961, 3977, 3979, 3981, 3994, 3995, 3996, 3997, 3998, 3999, 4000, 4001, 4002, 4003, 4007, 4014, 4015, 4020, 4022, 4023, 4024, 4025, 4034, 4035, 4036, 4051, 4128, 4137, 4138] st12 = some st13 := by kernel_rfl
end Go.Hb
