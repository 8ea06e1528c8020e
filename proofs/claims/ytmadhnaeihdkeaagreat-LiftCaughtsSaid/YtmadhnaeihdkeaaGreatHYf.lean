/- A machine on abstract values, its soundness, ways, plain laws. -/
import Derived.Test.YtmadhnaeihdkeaaGreatRows
import Derived.WalkKit
import Derived.ProofKit
import Derived.JoinedOf
namespace Go.Proofs.YtmadhnaeihdkeaaGreat.liftCaughts
open Go.ChangeShapes Go.WideShapes Go.ChangeAt Go.RowKit
theorem facts :joinedFacts Tryz.pinned.checked.prog 3 Tryz.f3 Rows.liftCaughtsSpec Rows.liftCaughtsRow=true:=by kernel_rfl
end Go.Proofs.YtmadhnaeihdkeaaGreat.liftCaughts
