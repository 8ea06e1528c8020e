/-
  OWN WORK, WRITTEN BY A PROGRAM: one piece of the run, by the kernel.
-/
import Derived.Test.YtogkjcpighphfaaGreatHS1
import Derived.KernelRfl
namespace Go.Hb
open Go.Proofs
namespace Kn
theorem run8 : fpiece Tryz.prog orc 20000 [580, 584, 589, 728, 747, 758, 893, 930, 938, 946, 948, 992, 1032, 1039, 1043, 1513, 1593, 1595, 1597, 1631, 1634, 1756, 1758, 1760, 1802, 1804, 1806, 1808, 1828, 1829, 2050, 2904, 2905, 2942, 2943, 2944, 2945, 2946, 2961, 3143, 3162, 3163] st8 = some st9 := by kernel_rfl
end Kn
end Go.Hb
