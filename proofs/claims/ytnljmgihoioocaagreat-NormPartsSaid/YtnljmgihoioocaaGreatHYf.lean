/- A machine on abstract values, its soundness, ways, plain laws. -/
import Derived.Test.YtnljmgihoioocaaGreatRows
import Derived.WalkKit
import Derived.ProofKit
import Derived.JoinedOf
namespace Go.Proofs.YtnljmgihoioocaaGreat.normParts
open Go.ChangeShapes Go.WideShapes Go.ChangeAt Go.RowKit
theorem facts :joinedFacts Tryz.pinned.checked.prog 9 Tryz.f9 Rows.normPartsSpec Rows.normPartsRow=true:=by kernel_rfl
end Go.Proofs.YtnljmgihoioocaaGreat.normParts
