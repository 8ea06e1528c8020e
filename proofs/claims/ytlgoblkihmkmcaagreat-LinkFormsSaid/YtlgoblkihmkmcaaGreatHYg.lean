/- A machine on abstract values, its soundness, ways, plain laws. -/
import Derived.Test.YtlgoblkihmkmcaaGreatRows
import Derived.WalkKit
import Derived.ProofKit
import Derived.JoinedOf
namespace Go.Proofs.YtlgoblkihmkmcaaGreat.linkForms
open Go.ChangeShapes Go.WideShapes Go.ChangeAt Go.RowKit
theorem p9 : ((Rows.linkFormsRow.inPlace==Tryz.pinned.checked.prog.inPlace 4)) =true:=by kernel_rfl
theorem p10 : ((Rows.linkFormsRow.unfollowed==Tryz.pinned.checked.prog.unfollowed 4)) =true:=by kernel_rfl
end Go.Proofs.YtlgoblkihmkmcaaGreat.linkForms
