/-
  OWN WORK, WRITTEN BY A PROGRAM: one piece of the run, by the kernel.
-/
import Derived.Test.YtogkjcpighphfaaGreatHS1
import Derived.KernelRfl
namespace Go.Hb
open Go.Proofs
namespace Kn
theorem run4 : fpiece Tryz.prog orc 20000 [0, 1, 530, 531, 580, 584, 589, 728, 747, 758, 893, 930, 938, 946, 948, 992, 1032, 1039, 1043, 1046, 1047, 1099, 1108, 1117] st4 = some st5 := by kernel_rfl
end Kn
end Go.Hb
