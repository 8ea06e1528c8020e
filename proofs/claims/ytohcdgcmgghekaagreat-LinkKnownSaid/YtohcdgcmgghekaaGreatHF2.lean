/-
  OWN WORK, WRITTEN BY A PROGRAM: closed facts of the row 'linkKnown', the greater ones, each in a declaration of its own (together they outgrow the kernel's memory).
-/
import Derived.Test.YtohcdgcmgghekaaGreatRows
import Derived.WalkKit
import Derived.ProofKit
import Derived.OpenShut
import Derived.KernelRfl
namespace Go.Proofs.YtohcdgcmgghekaaGreat.linkKnown
open Go.ChangeShapes Go.WideShapes Go.ChangeAt Go.RowKit
theorem closed9 : ((Rows.linkKnownRow.inPlace == Tryz.prog.inPlace 5)) = true := by kernel_rfl
theorem closed10 : ((Rows.linkKnownRow.unfollowed == Tryz.prog.unfollowed 5)) = true := by kernel_rfl
end Go.Proofs.YtohcdgcmgghekaaGreat.linkKnown
