/-
  OWN WORK, WRITTEN BY A PROGRAM: piece 24 of the run, by the kernel.
-/
import Derived.Test.YtohcdgcmgghekaaGreatHS4
import Derived.KernelRfl
namespace Go.Hb
open Go.Proofs
theorem run24 : fpiece Tryz.prog orc 14122 [] st24 = some st25 := by kernel_rfl
end Go.Hb
