/-
  NARROWER THAN 'FOR EVERY INPUT', by the rows' own cells (each row's printed sentence says how): BindJoined: loops · BindTrimmed: loops.
  DERIVED. THE GIVEN ROWS OF THIS SEAT. 2 by the template 'for every input the law returns true; each argument reads behind the call as it read before'; 0 by the template 'total and deterministic' (their statements: YtbbhmgikbgkfeaaGreatTotals.lean).
  GIVEN WITH THE SEED: the statements are not yours to turn. If you find one false, say at which input.
  Laid BY PROGRAM, IN A SANDBOX (cutbox-rows.mjs): the forced cells as the released guide's own fill.sh prints them over the translation 7578595a16f278bc… (all of the seat's roots in one cut). By AI agents, Wed Nov 11 2026. No macro, syntax, notation, axiom, sorry.
-/
import Derived.Test.YtbbhmgikbgkfeaaGreatChecked
import GoSem.Claim
import GoSem.ClaimJoined
import GoSem.ClaimMapViews
import Derived.JoinedTies
import Derived.KernelRfl
namespace Go.Proofs.YtbbhmgikbgkfeaaGreat
/- THE CELL 'sum', in the pinned program and in every row, IS THE sha256 OF THE DUMP (.gsa) THAT YtbbhmgikbgkfeaaGreatProg.lean LOADS. Nothing in Lean hashes anything: it is a label: what it is worth is what the hold of that sum in a sandbox is worth. -/
noncomputable def Tryz.pinned : Pinned := { name := "ytbbhmgikbgkfeaagreat", sum := "7578595a16f278bc76607e2ab4bdebb8b0fb65eab5f0df69e1ebcca64677a4ab", checked := Tryz.checked }
namespace Rows
def none {H : Type} : Left H := { results := [], args := [] }

/-- 'hearthlaw05.BindJoined': WHATEVER THE INPUT: true; the input reads as it did. -/
def bindJoinedSpec : ChangeSpec := { name := "bindJoined", fn := fun _ => fun
  | [d1, d2, d3] => { results := [.lit (.bool true)], args := [d1, d2, d3] }
  | _ => none }
def bindJoinedRow : OpenClaim := { program := "ytbbhmgikbgkfeaagreat", sum := "7578595a16f278bc76607e2ab4bdebb8b0fb65eab5f0df69e1ebcca64677a4ab", func := "hearth/hearthlaw05.BindJoined", spec := "bindJoined", unfollowed := true, recurses := true, loops := true, apart := false }
def BindJoinedSaid : Prop := bindJoinedRow.holds Tryz.pinned (OpenSpec.ofChange bindJoinedSpec)

/-- ITS FALSE NEIGHBOUR: 'it returns false'. Refute it at one input. -/
def bindJoinedWrong : ChangeSpec := { name := "bindJoined", fn := fun _ => fun
  | [d1, d2, d3] => { results := [.lit (.bool false)], args := [d1, d2, d3] }
  | _ => none }
def BindJoinedWrongFalsely : Prop := bindJoinedRow.holds Tryz.pinned (OpenSpec.ofChange bindJoinedWrong)

/-- 'hearthlaw05.BindTrimmed': WHATEVER THE INPUT: true; the input reads as it did. -/
def bindTrimmedSpec : ChangeSpec := { name := "bindTrimmed", fn := fun _ => fun
  | [d] => { results := [.lit (.bool true)], args := [d] }
  | _ => none }
def bindTrimmedRow : OpenClaim := { program := "ytbbhmgikbgkfeaagreat", sum := "7578595a16f278bc76607e2ab4bdebb8b0fb65eab5f0df69e1ebcca64677a4ab", func := "hearth/hearthlaw05.BindTrimmed", spec := "bindTrimmed", unfollowed := true, recurses := true, loops := true, apart := false }
def BindTrimmedSaid : Prop := bindTrimmedRow.holds Tryz.pinned (OpenSpec.ofChange bindTrimmedSpec)

/-- ITS FALSE NEIGHBOUR: 'it returns false'. Refute it at one input. -/
def bindTrimmedWrong : ChangeSpec := { name := "bindTrimmed", fn := fun _ => fun
  | [d] => { results := [.lit (.bool false)], args := [d] }
  | _ => none }
def BindTrimmedWrongFalsely : Prop := bindTrimmedRow.holds Tryz.pinned (OpenSpec.ofChange bindTrimmedWrong)

/- THE SECOND FORM. 'bulk': how many values and letters a reading holds, each counted each time it is reached (what is shared counts as often as it is met; a slice's spare places count too). A statement '..UptoSaid' is the law's where the arguments, and the package variables that the reading takes, are together of bulk at most 1048576: NARROWER than '..Said'. Prove '..Said' where nothing that the law and all that it calls make is longer than what came in: it says more and counts as full. Else prove '..UptoSaid'. A law counts once. -/
mutual
def uptoBulk {H : Type} : DataW H → Nat
  | .lit (.string bytes) => bytes.length + 1
  | .lit _ => 1
  | .nil => 1
  | .ptr d => uptoBulk d + 1
  | .slice elems spare => uptoBulkAll elems + uptoBulkAll spare + 1
  | .agg parts => uptoBulkAll parts + 1
  | .iface _ d => uptoBulk d + 1
  | .map entries => uptoBulkEntries entries + 1
  | .held _ => 1
def uptoBulkAll {H : Type} : List (DataW H) → Nat
  | [] => 0
  | d :: r => uptoBulk d + uptoBulkAll r
def uptoBulkEntries {H : Type} : List (Lit × DataW H) → Nat
  | [] => 0
  | x :: r => uptoBulkEntry x + uptoBulkEntries r
def uptoBulkEntry {H : Type} : Lit × DataW H → Nat
  | (.string bytes, d) => bytes.length + uptoBulk d + 1
  | (_, d) => uptoBulk d + 1
 end
def uptoSmall : (H : Type) → List (DataW H) → Bool := fun _ ds => decide (uptoBulkAll ds ≤ 1048576)
def OpenSpec.upto (s : _root_.Go.ChangeSpec) : _root_.Go.OpenSpec := { _root_.Go.OpenSpec.ofChange s with cond := some uptoSmall }

/-- 'hearthlaw05.BindJoined', WHERE WHAT IT READS IS OF BULK AT MOST 1048576: true; the input reads as it did. -/
def bindJoinedUptoRow : OpenClaim := { program := "ytbbhmgikbgkfeaagreat", sum := "7578595a16f278bc76607e2ab4bdebb8b0fb65eab5f0df69e1ebcca64677a4ab", func := "hearth/hearthlaw05.BindJoined", spec := "bindJoined", unfollowed := true, recurses := true, loops := true, apart := false, narrowed := true }
def BindJoinedUptoSaid : Prop := bindJoinedUptoRow.holds Tryz.pinned (OpenSpec.upto bindJoinedSpec)

/-- 'hearthlaw05.BindTrimmed', WHERE WHAT IT READS IS OF BULK AT MOST 1048576: true; the input reads as it did. -/
def bindTrimmedUptoRow : OpenClaim := { program := "ytbbhmgikbgkfeaagreat", sum := "7578595a16f278bc76607e2ab4bdebb8b0fb65eab5f0df69e1ebcca64677a4ab", func := "hearth/hearthlaw05.BindTrimmed", spec := "bindTrimmed", unfollowed := true, recurses := true, loops := true, apart := false, narrowed := true }
def BindTrimmedUptoSaid : Prop := bindTrimmedUptoRow.holds Tryz.pinned (OpenSpec.upto bindTrimmedSpec)

end Rows
end Go.Proofs.YtbbhmgikbgkfeaaGreat
