/- A machine on abstract values, its soundness, ways, plain laws. -/
import Derived.Test.YtchdjelfnchjcaaGreatRows
import Derived.WalkKit
import Derived.ProofKit
import Derived.JoinedOf
namespace Go.Proofs.YtchdjelfnchjcaaGreat.linkJoins
theorem facts :joinedFacts Tryz.pinned.checked.prog 3 Tryz.f3 Rows.linkJoinsSpec Rows.linkJoinsRow=true:=by kernel_rfl
end Go.Proofs.YtchdjelfnchjcaaGreat.linkJoins
