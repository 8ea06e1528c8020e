/- What the statement asks of the program, by the kernel. -/
import Derived.Test.YtfaikcecgpcimaaGreatRows
import Derived.WalkKit
import Derived.ProofKit
import Derived.JoinedOf
namespace Go.Proofs.YtfaikcecgpcimaaGreat.linkLinks
open Go.ChangeShapes Go.WideShapes Go.ChangeAt Go.RowKit
theorem p9 : ((Rows.linkLinksRow.inPlace == Tryz.pinned.checked.prog.inPlace 4)) = true := by kernel_rfl
theorem p10 : ((Rows.linkLinksRow.unfollowed == Tryz.pinned.checked.prog.unfollowed 4)) = true := by kernel_rfl
end Go.Proofs.YtfaikcecgpcimaaGreat.linkLinks
