/-
  OWN WORK, WRITTEN BY A PROGRAM: piece 17 of the run, by the kernel.
-/
import Derived.Test.YtohcdgcmgghekaaGreatHS2
import Derived.Test.YtohcdgcmgghekaaGreatHS3
import Derived.KernelRfl
namespace Go.Hb
open Go.Proofs
theorem run17 : fpiece Tryz.prog orc 20000 [662, 665, 715, 717, 735, 751, 753, 755, 1542, 1545, 1584, 1586, 1658, 1660, 1662, 1664, 2099, 2123, 2139, 2141, 2147, 2148, 2149, 2150, 2300, 2301, 2697, 2698, 3088, 3170, 3172, 3190, 3192, 3245, 3246, 3286, 3288, 3290, 3330, 3332, 3345, 3346, 3347, 3738, 3799, 3852, 3853, 3893, 3895, 3897, 3959, 3961, 3977, 3979, 3981, 3994, 3995, 3996, 4322, 4323, 4565, 4569, 4634, 4636, 4654, 4656, 4696, 4698, 4699, 4700, 4979, 4983, 4988, 5096, 5115, 5136, 5144, 5153, 5218, 5219, 5439, 5443, 5444, 5445, 5446, 5447, 5448] st17 = some st18 := by kernel_rfl
end Go.Hb
