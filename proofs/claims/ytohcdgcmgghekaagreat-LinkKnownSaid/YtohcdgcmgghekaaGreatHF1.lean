/-
  OWN WORK, WRITTEN BY A PROGRAM: closed facts of the row 'linkKnown', the greater ones, each in a declaration of its own (together they outgrow the kernel's memory).
-/
import Derived.Test.YtohcdgcmgghekaaGreatRows
import Derived.WalkKit
import Derived.ProofKit
import Derived.OpenShut
import Derived.KernelRfl
namespace Go.Proofs.YtohcdgcmgghekaaGreat.linkKnown
open Go.ChangeShapes Go.WideShapes Go.ChangeAt Go.RowKit
theorem closed1 : (laidOutB Tryz.prog) = true := by kernel_rfl
theorem closed2 : (mapsRowed Tryz.prog) = true := by kernel_rfl
theorem closed22 : ((Rows.linkKnownRow.plainKeys == Tryz.prog.plainKeys)) = true := by kernel_rfl
end Go.Proofs.YtohcdgcmgghekaaGreat.linkKnown
