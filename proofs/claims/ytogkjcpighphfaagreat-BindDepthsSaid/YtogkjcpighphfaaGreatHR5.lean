/-
  OWN WORK, WRITTEN BY A PROGRAM: one piece of the run, by the kernel.
-/
import Derived.Test.YtogkjcpighphfaaGreatHS1
import Derived.KernelRfl
namespace Go.Hb
open Go.Proofs
namespace Kn
theorem run5 : fpiece Tryz.prog orc 20000 [580, 584, 589, 728, 747, 758, 893, 930, 938, 946, 948, 992, 1032, 1039, 1043, 1199, 1200, 1201, 1202, 1204, 1205, 1206, 1212, 1213, 1214, 1215, 1216, 1324, 1327, 1328, 1329, 1330] st5 = some st6 := by kernel_rfl
end Kn
end Go.Hb
