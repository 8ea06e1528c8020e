/-
  OWN WORK, WRITTEN BY A PROGRAM: closed facts of the row 'linkKnown', the greater ones, each in a declaration of its own (together they outgrow the kernel's memory).
-/
import Derived.Test.YtohcdgcmgghekaaGreatRows
import Derived.WalkKit
import Derived.ProofKit
import Derived.OpenShut
import Derived.KernelRfl
namespace Go.Proofs.YtohcdgcmgghekaaGreat.linkKnown
open Go.ChangeShapes Go.WideShapes Go.ChangeAt Go.RowKit
theorem closed24 : (Tryz.prog.stopsHeard) = true := by kernel_rfl
theorem closed25 : (Tryz.prog.mayEnter) = true := by kernel_rfl
theorem closed26 : ((Rows.linkKnownRow.lifted == Tryz.prog.liftsFinal)) = true := by kernel_rfl
theorem closed27 : ((Tryz.prog.make == some Rows.linkKnownRow.make)) = true := by kernel_rfl
end Go.Proofs.YtohcdgcmgghekaaGreat.linkKnown
