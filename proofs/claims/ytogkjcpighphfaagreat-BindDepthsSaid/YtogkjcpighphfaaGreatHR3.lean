/-
  OWN WORK, WRITTEN BY A PROGRAM: one piece of the run, by the kernel.
-/
import Derived.Test.YtogkjcpighphfaaGreatHS1
import Derived.KernelRfl
namespace Go.Hb
open Go.Proofs
namespace Kn
theorem run3 : fpiece Tryz.prog orc 20000 [0, 1, 530, 531, 532, 536, 580, 584, 587, 588, 589, 728, 747, 758, 760, 761, 762, 764, 767, 794, 799, 800, 801, 802, 806, 828, 829, 830, 864, 865, 866, 867, 868, 893, 896, 898, 930, 938, 941] st3 = some st4 := by kernel_rfl
end Kn
end Go.Hb
