/- A machine on abstract values, its soundness, ways, plain laws. -/
import Derived.Test.YtfaikcecgpcimaaGreatRows
import Derived.WalkKit
import Derived.ProofKit
import Derived.JoinedOf
namespace Go.Proofs.YtfaikcecgpcimaaGreat.linkBack
open Go.ChangeShapes Go.WideShapes Go.ChangeAt Go.RowKit
theorem p11 : ((Rows.linkBackRow.recurses==Tryz.pinned.checked.prog.recurses 12)) =true:=by kernel_rfl
theorem p12 : ((Rows.linkBackRow.named==Tryz.pinned.checked.prog.varsNamed 12)) =true:=by kernel_rfl
end Go.Proofs.YtfaikcecgpcimaaGreat.linkBack
