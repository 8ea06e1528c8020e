/- A machine on abstract values, its soundness, ways, plain laws. -/
import Derived.Test.YtlgoblkihmkmcaaGreatRows
import Derived.WalkKit
import Derived.ProofKit
import Derived.JoinedOf
namespace Go.Proofs.YtlgoblkihmkmcaaGreat.linkTrims
open Go.ChangeShapes Go.WideShapes Go.ChangeAt Go.RowKit
theorem p11 : ((Rows.linkTrimsRow.recurses==Tryz.pinned.checked.prog.recurses 5)) =true:=by kernel_rfl
theorem p12 : ((Rows.linkTrimsRow.named==Tryz.pinned.checked.prog.varsNamed 5)) =true:=by kernel_rfl
end Go.Proofs.YtlgoblkihmkmcaaGreat.linkTrims
