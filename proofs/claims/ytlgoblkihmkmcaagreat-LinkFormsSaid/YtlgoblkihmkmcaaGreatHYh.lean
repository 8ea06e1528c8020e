/- A machine on abstract values, its soundness, ways, plain laws. -/
import Derived.Test.YtlgoblkihmkmcaaGreatRows
import Derived.WalkKit
import Derived.ProofKit
import Derived.JoinedOf
namespace Go.Proofs.YtlgoblkihmkmcaaGreat.linkForms
open Go.ChangeShapes Go.WideShapes Go.ChangeAt Go.RowKit
theorem p11 : ((Rows.linkFormsRow.recurses==Tryz.pinned.checked.prog.recurses 4)) =true:=by kernel_rfl
theorem p12 : ((Rows.linkFormsRow.named==Tryz.pinned.checked.prog.varsNamed 4)) =true:=by kernel_rfl
end Go.Proofs.YtlgoblkihmkmcaaGreat.linkForms
