/- A machine on abstract values, its soundness, ways, plain laws. -/
import Derived.Test.YtnljmgihoioocaaGreatRows
import Derived.WalkKit
import Derived.ProofKit
import Derived.JoinedOf
namespace Go.Proofs.YtnljmgihoioocaaGreat.normAny
open Go.ChangeShapes Go.WideShapes Go.ChangeAt Go.RowKit
theorem facts :joinedFacts Tryz.pinned.checked.prog 7 Tryz.f7 Rows.normAnySpec Rows.normAnyRow=true:=by kernel_rfl
end Go.Proofs.YtnljmgihoioocaaGreat.normAny
