/-
  OWN WORK, WRITTEN BY A PROGRAM: piece 7 of the run, by the kernel.
-/
import Derived.Test.YtohcdgcmgghekaaGreatHS1
import Derived.KernelRfl
namespace Go.Hb
open Go.Proofs
theorem run7 : fpiece Tryz.prog orc 20000 [662, 665, 715, 717, 735, 751, 753, 755, 1542, 1545, 1584, 1586, 1658, 1660, 1662, 1664, 1674, 1951, 1964, 2009, 2010, 2011, 2012, 2016, 2017, 2018, 2019, 2020, 2047] st7 = some st8 := by kernel_rfl
end Go.Hb
