/- A machine on abstract values, its soundness, ways, plain laws. -/
import Derived.Test.YtfaikcecgpcimaaGreatRows
import Derived.WalkKit
import Derived.ProofKit
import Derived.JoinedOf
namespace Go.Proofs.YtfaikcecgpcimaaGreat.linkMisses
open Go.ChangeShapes Go.WideShapes Go.ChangeAt Go.RowKit
theorem p9 : ((Rows.linkMissesRow.inPlace==Tryz.pinned.checked.prog.inPlace 3)) =true:=by kernel_rfl
theorem p10 : ((Rows.linkMissesRow.unfollowed==Tryz.pinned.checked.prog.unfollowed 3)) =true:=by kernel_rfl
end Go.Proofs.YtfaikcecgpcimaaGreat.linkMisses
