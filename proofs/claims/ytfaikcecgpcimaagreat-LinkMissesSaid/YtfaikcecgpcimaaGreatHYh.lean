/- A machine on abstract values, its soundness, ways, plain laws. -/
import Derived.Test.YtfaikcecgpcimaaGreatRows
import Derived.WalkKit
import Derived.ProofKit
import Derived.JoinedOf
namespace Go.Proofs.YtfaikcecgpcimaaGreat.linkMisses
open Go.ChangeShapes Go.WideShapes Go.ChangeAt Go.RowKit
theorem p11 : ((Rows.linkMissesRow.recurses==Tryz.pinned.checked.prog.recurses 3)) =true:=by kernel_rfl
theorem p12 : ((Rows.linkMissesRow.named==Tryz.pinned.checked.prog.varsNamed 3)) =true:=by kernel_rfl
end Go.Proofs.YtfaikcecgpcimaaGreat.linkMisses
