/- What the statement asks of the program, by the kernel. -/
import Derived.Test.YtfaikcecgpcimaaGreatRows
import Derived.WalkKit
import Derived.ProofKit
import Derived.JoinedOf
namespace Go.Proofs.YtfaikcecgpcimaaGreat.linkLinks
open Go.ChangeShapes Go.WideShapes Go.ChangeAt Go.RowKit
theorem p11 : ((Rows.linkLinksRow.recurses == Tryz.pinned.checked.prog.recurses 4)) = true := by kernel_rfl
theorem p12 : ((Rows.linkLinksRow.named == Tryz.pinned.checked.prog.varsNamed 4)) = true := by kernel_rfl
end Go.Proofs.YtfaikcecgpcimaaGreat.linkLinks
