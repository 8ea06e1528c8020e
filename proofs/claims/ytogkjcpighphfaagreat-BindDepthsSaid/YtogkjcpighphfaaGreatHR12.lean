/-
  OWN WORK, WRITTEN BY A PROGRAM: one piece of the run, by the kernel.
-/
import Derived.Test.YtogkjcpighphfaaGreatHS1
import Derived.KernelRfl
namespace Go.Hb
open Go.Proofs
namespace Kn
theorem run12 : fpiece Tryz.prog orc 20000 [580, 584, 589, 728, 747, 758, 893, 930, 938, 946, 948, 992, 1032, 1039, 1043, 1513, 1593, 1595, 1597, 1631, 1634, 1756, 1758, 1760, 1802, 1804, 1806, 1808, 1828, 1829, 2050, 2904, 2905, 2942, 3357, 3373, 3392, 3417, 3449, 3451, 3480, 3497, 3514, 3529, 3532, 3533, 4203, 4219, 4238, 4263, 4295, 4297, 4326, 4343, 4366, 4459, 4475, 4494, 4519, 4551, 4553, 4582, 4599, 4621, 4631, 4654, 4655, 4656, 4686, 4687] st12 = some st13 := by kernel_rfl
end Kn
end Go.Hb
