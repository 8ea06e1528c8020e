/- A machine on abstract values, its soundness, ways, plain laws. -/
import Derived.Test.YtfaikcecgpcimaaGreatRows
import Derived.WalkKit
import Derived.ProofKit
import Derived.JoinedOf
namespace Go.Proofs.YtfaikcecgpcimaaGreat.linkAparts
open Go.ChangeShapes Go.WideShapes Go.ChangeAt Go.RowKit
theorem p9 : ((Rows.linkApartsRow.inPlace==Tryz.pinned.checked.prog.inPlace 11)) =true:=by kernel_rfl
theorem p10 : ((Rows.linkApartsRow.unfollowed==Tryz.pinned.checked.prog.unfollowed 11)) =true:=by kernel_rfl
end Go.Proofs.YtfaikcecgpcimaaGreat.linkAparts
