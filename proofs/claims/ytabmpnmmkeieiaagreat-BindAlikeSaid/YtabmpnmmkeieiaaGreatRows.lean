/-
  NARROWER THAN 'FOR EVERY INPUT', by the rows' own cells (each row's printed sentence says how): BindPrograms: loops · BindAlike: loops · BindTrimmed: loops · BindBodies: loops · BindBack: loops.
  DERIVED. THE GIVEN ROWS OF THIS SEAT. 5 by the template 'for every input the law returns true; each argument reads behind the call as it read before'; 0 by the template 'total and deterministic' (their statements: YtabmpnmmkeieiaaGreatTotals.lean).
  GIVEN WITH THE SEED: the statements are not yours to turn. If you find one false, say at which input.
  Laid BY PROGRAM, IN A SANDBOX (cutbox-rows.mjs): the forced cells as the released guide's own fill.sh prints them over the translation e21404f1a198d40f… (all of the seat's roots in one cut). By AI agents, Wed Nov 11 2026. No macro, syntax, notation, axiom, sorry.
-/
import Derived.Test.YtabmpnmmkeieiaaGreatChecked
import GoSem.Claim
import GoSem.ClaimJoined
import GoSem.ClaimMapViews
import Derived.JoinedTies
import Derived.KernelRfl
namespace Go.Proofs.YtabmpnmmkeieiaaGreat
/- THE CELL 'sum', in the pinned program and in every row, IS THE sha256 OF THE DUMP (.gsa) THAT YtabmpnmmkeieiaaGreatProg.lean LOADS. Nothing in Lean hashes anything: it is a label: what it is worth is what the hold of that sum in a sandbox is worth. -/
noncomputable def Tryz.pinned : Pinned := { name := "ytabmpnmmkeieiaagreat", sum := "e21404f1a198d40f0971cc04b89306e7fefed4690eef40daf82c55a6c0d17746", checked := Tryz.checked }
namespace Rows
def none {H : Type} : Left H := { results := [], args := [] }

/-- 'hearthlaw05.BindPrograms': WHATEVER THE INPUT: true; the input reads as it did. -/
def bindProgramsSpec : ChangeSpec := { name := "bindPrograms", fn := fun _ => fun
  | [d] => { results := [.lit (.bool true)], args := [d] }
  | _ => none }
def bindProgramsRow : OpenClaim := { program := "ytabmpnmmkeieiaagreat", sum := "e21404f1a198d40f0971cc04b89306e7fefed4690eef40daf82c55a6c0d17746", func := "hearth/hearthlaw05.BindPrograms", spec := "bindPrograms", unfollowed := true, recurses := true, loops := true, apart := false }
def BindProgramsSaid : Prop := bindProgramsRow.holds Tryz.pinned (OpenSpec.ofChange bindProgramsSpec)

/-- ITS FALSE NEIGHBOUR: 'it returns false'. Refute it at one input. -/
def bindProgramsWrong : ChangeSpec := { name := "bindPrograms", fn := fun _ => fun
  | [d] => { results := [.lit (.bool false)], args := [d] }
  | _ => none }
def BindProgramsWrongFalsely : Prop := bindProgramsRow.holds Tryz.pinned (OpenSpec.ofChange bindProgramsWrong)

/-- 'hearthlaw05.BindAlike': WHATEVER THE INPUT: true; the input reads as it did. -/
def bindAlikeSpec : ChangeSpec := { name := "bindAlike", fn := fun _ => fun
  | [d1, d2, d3] => { results := [.lit (.bool true)], args := [d1, d2, d3] }
  | _ => none }
def bindAlikeRow : OpenClaim := { program := "ytabmpnmmkeieiaagreat", sum := "e21404f1a198d40f0971cc04b89306e7fefed4690eef40daf82c55a6c0d17746", func := "hearth/hearthlaw05.BindAlike", spec := "bindAlike", unfollowed := true, recurses := true, loops := true, apart := false }
def BindAlikeSaid : Prop := bindAlikeRow.holds Tryz.pinned (OpenSpec.ofChange bindAlikeSpec)

/-- ITS FALSE NEIGHBOUR: 'it returns false'. Refute it at one input. -/
def bindAlikeWrong : ChangeSpec := { name := "bindAlike", fn := fun _ => fun
  | [d1, d2, d3] => { results := [.lit (.bool false)], args := [d1, d2, d3] }
  | _ => none }
def BindAlikeWrongFalsely : Prop := bindAlikeRow.holds Tryz.pinned (OpenSpec.ofChange bindAlikeWrong)

/-- 'hearthlaw05.BindTrimmed': WHATEVER THE INPUT: true; the input reads as it did. -/
def bindTrimmedSpec : ChangeSpec := { name := "bindTrimmed", fn := fun _ => fun
  | [d] => { results := [.lit (.bool true)], args := [d] }
  | _ => none }
def bindTrimmedRow : OpenClaim := { program := "ytabmpnmmkeieiaagreat", sum := "e21404f1a198d40f0971cc04b89306e7fefed4690eef40daf82c55a6c0d17746", func := "hearth/hearthlaw05.BindTrimmed", spec := "bindTrimmed", unfollowed := true, recurses := true, loops := true, apart := false }
def BindTrimmedSaid : Prop := bindTrimmedRow.holds Tryz.pinned (OpenSpec.ofChange bindTrimmedSpec)

/-- ITS FALSE NEIGHBOUR: 'it returns false'. Refute it at one input. -/
def bindTrimmedWrong : ChangeSpec := { name := "bindTrimmed", fn := fun _ => fun
  | [d] => { results := [.lit (.bool false)], args := [d] }
  | _ => none }
def BindTrimmedWrongFalsely : Prop := bindTrimmedRow.holds Tryz.pinned (OpenSpec.ofChange bindTrimmedWrong)

/-- 'hearthlaw05.BindBodies': WHATEVER THE INPUT: true; the input reads as it did. -/
def bindBodiesSpec : ChangeSpec := { name := "bindBodies", fn := fun _ => fun
  | [d1, d2] => { results := [.lit (.bool true)], args := [d1, d2] }
  | _ => none }
def bindBodiesRow : OpenClaim := { program := "ytabmpnmmkeieiaagreat", sum := "e21404f1a198d40f0971cc04b89306e7fefed4690eef40daf82c55a6c0d17746", func := "hearth/hearthlaw05.BindBodies", spec := "bindBodies", unfollowed := true, recurses := true, loops := true, apart := false }
def BindBodiesSaid : Prop := bindBodiesRow.holds Tryz.pinned (OpenSpec.ofChange bindBodiesSpec)

/-- ITS FALSE NEIGHBOUR: 'it returns false'. Refute it at one input. -/
def bindBodiesWrong : ChangeSpec := { name := "bindBodies", fn := fun _ => fun
  | [d1, d2] => { results := [.lit (.bool false)], args := [d1, d2] }
  | _ => none }
def BindBodiesWrongFalsely : Prop := bindBodiesRow.holds Tryz.pinned (OpenSpec.ofChange bindBodiesWrong)

/-- 'hearthlaw05.BindBack': WHATEVER THE INPUT: true; the input reads as it did. -/
def bindBackSpec : ChangeSpec := { name := "bindBack", fn := fun _ => fun
  | [d] => { results := [.lit (.bool true)], args := [d] }
  | _ => none }
def bindBackRow : OpenClaim := { program := "ytabmpnmmkeieiaagreat", sum := "e21404f1a198d40f0971cc04b89306e7fefed4690eef40daf82c55a6c0d17746", func := "hearth/hearthlaw05.BindBack", spec := "bindBack", unfollowed := true, recurses := true, loops := true, apart := false }
def BindBackSaid : Prop := bindBackRow.holds Tryz.pinned (OpenSpec.ofChange bindBackSpec)

/-- ITS FALSE NEIGHBOUR: 'it returns false'. Refute it at one input. -/
def bindBackWrong : ChangeSpec := { name := "bindBack", fn := fun _ => fun
  | [d] => { results := [.lit (.bool false)], args := [d] }
  | _ => none }
def BindBackWrongFalsely : Prop := bindBackRow.holds Tryz.pinned (OpenSpec.ofChange bindBackWrong)

/- THE SECOND FORM. 'bulk': how many values and letters a reading holds, each counted each time it is reached (what is shared counts as often as it is met; a slice's spare places count too). A statement '..UptoSaid' is the law's where the arguments, and the package variables that the reading takes, are together of bulk at most 1048576: NARROWER than '..Said'. Prove '..Said' where nothing that the law and all that it calls make is longer than what came in: it says more and counts as full. Else prove '..UptoSaid'. A law counts once. -/
mutual
def uptoBulk {H : Type} : DataW H → Nat
  | .lit (.string bytes) => bytes.length + 1
  | .lit _ => 1
  | .nil => 1
  | .ptr d => uptoBulk d + 1
  | .slice elems spare => uptoBulkAll elems + uptoBulkAll spare + 1
  | .agg parts => uptoBulkAll parts + 1
  | .iface _ d => uptoBulk d + 1
  | .map entries => uptoBulkEntries entries + 1
  | .held _ => 1
def uptoBulkAll {H : Type} : List (DataW H) → Nat
  | [] => 0
  | d :: r => uptoBulk d + uptoBulkAll r
def uptoBulkEntries {H : Type} : List (Lit × DataW H) → Nat
  | [] => 0
  | x :: r => uptoBulkEntry x + uptoBulkEntries r
def uptoBulkEntry {H : Type} : Lit × DataW H → Nat
  | (.string bytes, d) => bytes.length + uptoBulk d + 1
  | (_, d) => uptoBulk d + 1
 end
def uptoSmall : (H : Type) → List (DataW H) → Bool := fun _ ds => decide (uptoBulkAll ds ≤ 1048576)
def OpenSpec.upto (s : _root_.Go.ChangeSpec) : _root_.Go.OpenSpec := { _root_.Go.OpenSpec.ofChange s with cond := some uptoSmall }

/-- 'hearthlaw05.BindPrograms', WHERE WHAT IT READS IS OF BULK AT MOST 1048576: true; the input reads as it did. -/
def bindProgramsUptoRow : OpenClaim := { program := "ytabmpnmmkeieiaagreat", sum := "e21404f1a198d40f0971cc04b89306e7fefed4690eef40daf82c55a6c0d17746", func := "hearth/hearthlaw05.BindPrograms", spec := "bindPrograms", unfollowed := true, recurses := true, loops := true, apart := false, narrowed := true }
def BindProgramsUptoSaid : Prop := bindProgramsUptoRow.holds Tryz.pinned (OpenSpec.upto bindProgramsSpec)

/-- 'hearthlaw05.BindAlike', WHERE WHAT IT READS IS OF BULK AT MOST 1048576: true; the input reads as it did. -/
def bindAlikeUptoRow : OpenClaim := { program := "ytabmpnmmkeieiaagreat", sum := "e21404f1a198d40f0971cc04b89306e7fefed4690eef40daf82c55a6c0d17746", func := "hearth/hearthlaw05.BindAlike", spec := "bindAlike", unfollowed := true, recurses := true, loops := true, apart := false, narrowed := true }
def BindAlikeUptoSaid : Prop := bindAlikeUptoRow.holds Tryz.pinned (OpenSpec.upto bindAlikeSpec)

/-- 'hearthlaw05.BindTrimmed', WHERE WHAT IT READS IS OF BULK AT MOST 1048576: true; the input reads as it did. -/
def bindTrimmedUptoRow : OpenClaim := { program := "ytabmpnmmkeieiaagreat", sum := "e21404f1a198d40f0971cc04b89306e7fefed4690eef40daf82c55a6c0d17746", func := "hearth/hearthlaw05.BindTrimmed", spec := "bindTrimmed", unfollowed := true, recurses := true, loops := true, apart := false, narrowed := true }
def BindTrimmedUptoSaid : Prop := bindTrimmedUptoRow.holds Tryz.pinned (OpenSpec.upto bindTrimmedSpec)

/-- 'hearthlaw05.BindBodies', WHERE WHAT IT READS IS OF BULK AT MOST 1048576: true; the input reads as it did. -/
def bindBodiesUptoRow : OpenClaim := { program := "ytabmpnmmkeieiaagreat", sum := "e21404f1a198d40f0971cc04b89306e7fefed4690eef40daf82c55a6c0d17746", func := "hearth/hearthlaw05.BindBodies", spec := "bindBodies", unfollowed := true, recurses := true, loops := true, apart := false, narrowed := true }
def BindBodiesUptoSaid : Prop := bindBodiesUptoRow.holds Tryz.pinned (OpenSpec.upto bindBodiesSpec)

/-- 'hearthlaw05.BindBack', WHERE WHAT IT READS IS OF BULK AT MOST 1048576: true; the input reads as it did. -/
def bindBackUptoRow : OpenClaim := { program := "ytabmpnmmkeieiaagreat", sum := "e21404f1a198d40f0971cc04b89306e7fefed4690eef40daf82c55a6c0d17746", func := "hearth/hearthlaw05.BindBack", spec := "bindBack", unfollowed := true, recurses := true, loops := true, apart := false, narrowed := true }
def BindBackUptoSaid : Prop := bindBackUptoRow.holds Tryz.pinned (OpenSpec.upto bindBackSpec)

end Rows
end Go.Proofs.YtabmpnmmkeieiaaGreat
