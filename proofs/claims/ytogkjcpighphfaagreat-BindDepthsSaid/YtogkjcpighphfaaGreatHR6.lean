/-
  OWN WORK, WRITTEN BY A PROGRAM: one piece of the run, by the kernel.
-/
import Derived.Test.YtogkjcpighphfaaGreatHS1
import Derived.KernelRfl
namespace Go.Hb
open Go.Proofs
namespace Kn
theorem run6 : fpiece Tryz.prog orc 20000 [580, 584, 589, 728, 747, 758, 893, 930, 938, 946, 948, 992, 1032, 1039, 1043, 1513, 1593, 1595, 1597, 1631, 1634, 1756, 1758, 1760, 1802, 1804, 1806, 1808, 1828, 1829, 1830, 1831, 1832, 1847, 1849, 2013, 2014, 2015] st6 = some st7 := by kernel_rfl
end Kn
end Go.Hb
