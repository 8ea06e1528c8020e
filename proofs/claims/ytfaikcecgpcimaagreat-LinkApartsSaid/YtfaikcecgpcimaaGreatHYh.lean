/- A machine on abstract values, its soundness, ways, plain laws. -/
import Derived.Test.YtfaikcecgpcimaaGreatRows
import Derived.WalkKit
import Derived.ProofKit
import Derived.JoinedOf
namespace Go.Proofs.YtfaikcecgpcimaaGreat.linkAparts
open Go.ChangeShapes Go.WideShapes Go.ChangeAt Go.RowKit
theorem p11 : ((Rows.linkApartsRow.recurses==Tryz.pinned.checked.prog.recurses 11)) =true:=by kernel_rfl
theorem p12 : ((Rows.linkApartsRow.named==Tryz.pinned.checked.prog.varsNamed 11)) =true:=by kernel_rfl
end Go.Proofs.YtfaikcecgpcimaaGreat.linkAparts
