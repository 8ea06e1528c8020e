/- A machine on abstract values, its soundness, ways, plain laws. -/
import Derived.Test.YtabmpnmmkeieiaaGreatRows
import Derived.WalkKit
import Derived.ProofKit
import Derived.JoinedOf
namespace Go.Proofs.YtabmpnmmkeieiaaGreat.bindAlike
theorem facts :joinedFacts Tryz.pinned.checked.prog 4 Tryz.f4 Rows.bindAlikeSpec Rows.bindAlikeRow=true:=by kernel_rfl
end Go.Proofs.YtabmpnmmkeieiaaGreat.bindAlike
