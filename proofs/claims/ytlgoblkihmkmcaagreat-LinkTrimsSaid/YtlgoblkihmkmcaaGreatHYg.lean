/- A machine on abstract values, its soundness, ways, plain laws. -/
import Derived.Test.YtlgoblkihmkmcaaGreatRows
import Derived.WalkKit
import Derived.ProofKit
import Derived.JoinedOf
namespace Go.Proofs.YtlgoblkihmkmcaaGreat.linkTrims
open Go.ChangeShapes Go.WideShapes Go.ChangeAt Go.RowKit
theorem p9 : ((Rows.linkTrimsRow.inPlace==Tryz.pinned.checked.prog.inPlace 5)) =true:=by kernel_rfl
theorem p10 : ((Rows.linkTrimsRow.unfollowed==Tryz.pinned.checked.prog.unfollowed 5)) =true:=by kernel_rfl
end Go.Proofs.YtlgoblkihmkmcaaGreat.linkTrims
