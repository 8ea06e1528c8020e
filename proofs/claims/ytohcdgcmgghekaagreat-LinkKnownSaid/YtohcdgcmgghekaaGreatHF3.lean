/-
  OWN WORK, WRITTEN BY A PROGRAM: closed facts of the row 'linkKnown', the greater ones, each in a declaration of its own (together they outgrow the kernel's memory).
-/
import Derived.Test.YtohcdgcmgghekaaGreatRows
import Derived.WalkKit
import Derived.ProofKit
import Derived.OpenShut
import Derived.KernelRfl
namespace Go.Proofs.YtohcdgcmgghekaaGreat.linkKnown
open Go.ChangeShapes Go.WideShapes Go.ChangeAt Go.RowKit
theorem closed11 : ((Rows.linkKnownRow.recurses == Tryz.prog.recurses 5)) = true := by kernel_rfl
theorem closed12 : ((Rows.linkKnownRow.named == Tryz.prog.varsNamed 5)) = true := by kernel_rfl
end Go.Proofs.YtohcdgcmgghekaaGreat.linkKnown
