/-
  NARROWER THAN 'FOR EVERY INPUT', by the rows' own cells (each row's printed sentence says how): NormForms: loops · BindForms: loops.
  DERIVED. THE GIVEN ROWS OF THIS SEAT. 3 by the template 'for every input the law returns true; each argument reads behind the call as it read before'; 0 by the template 'total and deterministic' (their statements: YtohcdgcmgghekaaGreatTotals.lean).
  GIVEN WITH THE SEED: the statements are not yours to turn. If you find one false, say at which input.
  Laid BY PROGRAM, IN A SANDBOX (cutbox-rows.mjs): the forced cells as the released guide's own fill.sh prints them over the translation e651913ff675b9d1… (all of the seat's roots in one cut). By AI agents, Wed Nov 11 2026. No macro, syntax, notation, axiom, sorry.
-/
import Derived.Test.YtohcdgcmgghekaaGreatChecked
import GoSem.Claim
import GoSem.ClaimJoined
import GoSem.ClaimMapViews
import Derived.JoinedTies
import Derived.KernelRfl
namespace Go.Proofs.YtohcdgcmgghekaaGreat
/- THE CELL 'sum', in the pinned program and in every row, IS THE sha256 OF THE DUMP (.gsa) THAT YtohcdgcmgghekaaGreatProg.lean LOADS. Nothing in Lean hashes anything: it is a label: what it is worth is what the hold of that sum in a sandbox is worth. -/
noncomputable def Tryz.pinned : Pinned := { name := "ytohcdgcmgghekaagreat", sum := "e651913ff675b9d1ebfaab6df8e6a1587f057b31e494689af2fcc0cedd677d60", checked := Tryz.checked }
namespace Rows
def none {H : Type} : Left H := { results := [], args := [] }

/-- 'hearthlaw07.NormForms': WHATEVER THE INPUT: true; the input reads as it did. -/
def normFormsSpec : ChangeSpec := { name := "normForms", fn := fun _ => fun
  | [d] => { results := [.lit (.bool true)], args := [d] }
  | _ => none }
def normFormsRow : OpenClaim := { program := "ytohcdgcmgghekaagreat", sum := "e651913ff675b9d1ebfaab6df8e6a1587f057b31e494689af2fcc0cedd677d60", func := "hearth/hearthlaw07.NormForms", spec := "normForms", unfollowed := true, recurses := true, loops := true, apart := false }
def NormFormsSaid : Prop := normFormsRow.holds Tryz.pinned (OpenSpec.ofChange normFormsSpec)

/-- ITS FALSE NEIGHBOUR: 'it returns false'. Refute it at one input. -/
def normFormsWrong : ChangeSpec := { name := "normForms", fn := fun _ => fun
  | [d] => { results := [.lit (.bool false)], args := [d] }
  | _ => none }
def NormFormsWrongFalsely : Prop := normFormsRow.holds Tryz.pinned (OpenSpec.ofChange normFormsWrong)

/-- 'hearthlaw05.BindForms': WHATEVER THE INPUT: true; the input reads as it did. -/
def bindFormsSpec : ChangeSpec := { name := "bindForms", fn := fun _ => fun
  | [d] => { results := [.lit (.bool true)], args := [d] }
  | _ => none }
def bindFormsRow : OpenClaim := { program := "ytohcdgcmgghekaagreat", sum := "e651913ff675b9d1ebfaab6df8e6a1587f057b31e494689af2fcc0cedd677d60", func := "hearth/hearthlaw05.BindForms", spec := "bindForms", unfollowed := true, recurses := true, loops := true, apart := false }
def BindFormsSaid : Prop := bindFormsRow.holds Tryz.pinned (OpenSpec.ofChange bindFormsSpec)

/-- ITS FALSE NEIGHBOUR: 'it returns false'. Refute it at one input. -/
def bindFormsWrong : ChangeSpec := { name := "bindForms", fn := fun _ => fun
  | [d] => { results := [.lit (.bool false)], args := [d] }
  | _ => none }
def BindFormsWrongFalsely : Prop := bindFormsRow.holds Tryz.pinned (OpenSpec.ofChange bindFormsWrong)

/-- 'hearthlaw14.LinkKnown': WHATEVER THE INPUT: true; the input reads as it did. -/
def linkKnownSpec : ChangeSpec := { name := "linkKnown", fn := fun _ => fun
  | [] => { results := [.lit (.bool true)], args := [] }
  | _ => none }
def linkKnownRow : OpenClaim := { program := "ytohcdgcmgghekaagreat", sum := "e651913ff675b9d1ebfaab6df8e6a1587f057b31e494689af2fcc0cedd677d60", func := "hearth/hearthlaw14.LinkKnown", spec := "linkKnown", unfollowed := true, recurses := true, apart := false }
def LinkKnownSaid : Prop := linkKnownRow.holds Tryz.pinned (OpenSpec.ofChange linkKnownSpec)

/-- ITS FALSE NEIGHBOUR: 'it returns false'. Refute it at one input. -/
def linkKnownWrong : ChangeSpec := { name := "linkKnown", fn := fun _ => fun
  | [] => { results := [.lit (.bool false)], args := [] }
  | _ => none }
def LinkKnownWrongFalsely : Prop := linkKnownRow.holds Tryz.pinned (OpenSpec.ofChange linkKnownWrong)

/- THE SECOND FORM. 'bulk': how many values and letters a reading holds, each counted each time it is reached (what is shared counts as often as it is met; a slice's spare places count too). A statement '..UptoSaid' is the law's where the arguments, and the package variables that the reading takes, are together of bulk at most 1048576: NARROWER than '..Said'. Prove '..Said' where nothing that the law and all that it calls make is longer than what came in: it says more and counts as full. Else prove '..UptoSaid'. A law counts once. -/
mutual
def uptoBulk {H : Type} : DataW H → Nat
  | .lit (.string bytes) => bytes.length + 1
  | .lit _ => 1
  | .nil => 1
  | .ptr d => uptoBulk d + 1
  | .slice elems spare => uptoBulkAll elems + uptoBulkAll spare + 1
  | .agg parts => uptoBulkAll parts + 1
  | .iface _ d => uptoBulk d + 1
  | .map entries => uptoBulkEntries entries + 1
  | .held _ => 1
def uptoBulkAll {H : Type} : List (DataW H) → Nat
  | [] => 0
  | d :: r => uptoBulk d + uptoBulkAll r
def uptoBulkEntries {H : Type} : List (Lit × DataW H) → Nat
  | [] => 0
  | x :: r => uptoBulkEntry x + uptoBulkEntries r
def uptoBulkEntry {H : Type} : Lit × DataW H → Nat
  | (.string bytes, d) => bytes.length + uptoBulk d + 1
  | (_, d) => uptoBulk d + 1
 end
def uptoSmall : (H : Type) → List (DataW H) → Bool := fun _ ds => decide (uptoBulkAll ds ≤ 1048576)
def OpenSpec.upto (s : _root_.Go.ChangeSpec) : _root_.Go.OpenSpec := { _root_.Go.OpenSpec.ofChange s with cond := some uptoSmall }

/-- 'hearthlaw07.NormForms', WHERE WHAT IT READS IS OF BULK AT MOST 1048576: true; the input reads as it did. -/
def normFormsUptoRow : OpenClaim := { program := "ytohcdgcmgghekaagreat", sum := "e651913ff675b9d1ebfaab6df8e6a1587f057b31e494689af2fcc0cedd677d60", func := "hearth/hearthlaw07.NormForms", spec := "normForms", unfollowed := true, recurses := true, loops := true, apart := false, narrowed := true }
def NormFormsUptoSaid : Prop := normFormsUptoRow.holds Tryz.pinned (OpenSpec.upto normFormsSpec)

/-- 'hearthlaw05.BindForms', WHERE WHAT IT READS IS OF BULK AT MOST 1048576: true; the input reads as it did. -/
def bindFormsUptoRow : OpenClaim := { program := "ytohcdgcmgghekaagreat", sum := "e651913ff675b9d1ebfaab6df8e6a1587f057b31e494689af2fcc0cedd677d60", func := "hearth/hearthlaw05.BindForms", spec := "bindForms", unfollowed := true, recurses := true, loops := true, apart := false, narrowed := true }
def BindFormsUptoSaid : Prop := bindFormsUptoRow.holds Tryz.pinned (OpenSpec.upto bindFormsSpec)

/-- 'hearthlaw14.LinkKnown', WHERE WHAT IT READS IS OF BULK AT MOST 1048576: true; the input reads as it did. -/
def linkKnownUptoRow : OpenClaim := { program := "ytohcdgcmgghekaagreat", sum := "e651913ff675b9d1ebfaab6df8e6a1587f057b31e494689af2fcc0cedd677d60", func := "hearth/hearthlaw14.LinkKnown", spec := "linkKnown", unfollowed := true, recurses := true, apart := false, narrowed := true }
def LinkKnownUptoSaid : Prop := linkKnownUptoRow.holds Tryz.pinned (OpenSpec.upto linkKnownSpec)

end Rows
end Go.Proofs.YtohcdgcmgghekaaGreat
