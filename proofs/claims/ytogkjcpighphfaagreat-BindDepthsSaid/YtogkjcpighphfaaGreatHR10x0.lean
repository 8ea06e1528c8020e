/-
  OWN WORK, WRITTEN BY A PROGRAM: one piece of the run, by the kernel.
-/
import Derived.Test.YtogkjcpighphfaaGreatHS1
import Derived.KernelRfl
namespace Go.Hb
open Go.Proofs
namespace Kn
theorem run10x0 : fpiece Tryz.prog orc 269 [580, 584, 589, 728, 747, 758, 893, 930, 938, 946, 948, 992, 1032, 1039, 1043, 1513, 1593, 1595, 1597, 1631, 1634, 1756, 1758, 1760, 1802, 1804, 1806, 1808, 1828, 1829, 2050, 2904, 2905, 2942, 2943, 2944, 3164, 3256, 3259, 3261, 3262, 3264, 3265, 3273] st10x0a = some st11 := by kernel_rfl
end Kn
end Go.Hb
