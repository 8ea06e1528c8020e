/- A machine on abstract values, its soundness, ways, plain laws. -/
import Derived.Test.YtnljmgihoioocaaGreatRows
import Derived.WalkKit
import Derived.ProofKit
import Derived.JoinedOf
namespace Go.Proofs.YtnljmgihoioocaaGreat.normShape
open Go.ChangeShapes Go.WideShapes Go.ChangeAt Go.RowKit
theorem facts :joinedFacts Tryz.pinned.checked.prog 8 Tryz.f8 Rows.normShapeSpec Rows.normShapeRow=true:=by kernel_rfl
end Go.Proofs.YtnljmgihoioocaaGreat.normShape
