/-
  NARROWER THAN 'FOR EVERY INPUT', by the rows' own cells (each row's printed sentence says how): LinkWhole: loops · LinkForms: loops · LinkTrims: loops.
  DERIVED. THE GIVEN ROWS OF THIS SEAT. 3 by the template 'for every input the law returns true; each argument reads behind the call as it read before'; 0 by the template 'total and deterministic' (their statements: YtlgoblkihmkmcaaGreatTotals.lean).
  GIVEN WITH THE SEED: the statements are not yours to turn. If you find one false, say at which input.
  Laid BY PROGRAM, IN A SANDBOX (cutbox-rows.mjs): the forced cells as the released guide's own fill.sh prints them over the translation 5527e89cd548abec… (all of the seat's roots in one cut). By AI agents, Wed Nov 11 2026. No macro, syntax, notation, axiom, sorry.
-/
import Derived.Test.YtlgoblkihmkmcaaGreatChecked
import GoSem.Claim
import GoSem.ClaimJoined
import GoSem.ClaimMapViews
import Derived.JoinedTies
import Derived.KernelRfl
namespace Go.Proofs.YtlgoblkihmkmcaaGreat
/- THE CELL 'sum', in the pinned program and in every row, IS THE sha256 OF THE DUMP (.gsa) THAT YtlgoblkihmkmcaaGreatProg.lean LOADS. Nothing in Lean hashes anything: it is a label: what it is worth is what the hold of that sum in a sandbox is worth. -/
noncomputable def Tryz.pinned : Pinned := { name := "ytlgoblkihmkmcaagreat", sum := "5527e89cd548abec7c80bf150222d8660736d7846d0beac421af10c33d1e736e", checked := Tryz.checked }
namespace Rows
def none {H : Type} : Left H := { results := [], args := [] }

/-- 'hearthlaw14.LinkWhole': WHATEVER THE INPUT: true; the input reads as it did. -/
def linkWholeSpec : ChangeSpec := { name := "linkWhole", fn := fun _ => fun
  | [d] => { results := [.lit (.bool true)], args := [d] }
  | _ => none }
def linkWholeRow : OpenClaim := { program := "ytlgoblkihmkmcaagreat", sum := "5527e89cd548abec7c80bf150222d8660736d7846d0beac421af10c33d1e736e", func := "hearth/hearthlaw14.LinkWhole", spec := "linkWhole", unfollowed := true, recurses := true, loops := true, apart := false }
def LinkWholeSaid : Prop := linkWholeRow.holds Tryz.pinned (OpenSpec.ofChange linkWholeSpec)

/-- ITS FALSE NEIGHBOUR: 'it returns false'. Refute it at one input. -/
def linkWholeWrong : ChangeSpec := { name := "linkWhole", fn := fun _ => fun
  | [d] => { results := [.lit (.bool false)], args := [d] }
  | _ => none }
def LinkWholeWrongFalsely : Prop := linkWholeRow.holds Tryz.pinned (OpenSpec.ofChange linkWholeWrong)

/-- 'hearthlaw14.LinkForms': WHATEVER THE INPUT: true; the input reads as it did. -/
def linkFormsSpec : ChangeSpec := { name := "linkForms", fn := fun _ => fun
  | [d1, d2] => { results := [.lit (.bool true)], args := [d1, d2] }
  | _ => none }
def linkFormsRow : OpenClaim := { program := "ytlgoblkihmkmcaagreat", sum := "5527e89cd548abec7c80bf150222d8660736d7846d0beac421af10c33d1e736e", func := "hearth/hearthlaw14.LinkForms", spec := "linkForms", unfollowed := true, recurses := true, loops := true, apart := false }
def LinkFormsSaid : Prop := linkFormsRow.holds Tryz.pinned (OpenSpec.ofChange linkFormsSpec)

/-- ITS FALSE NEIGHBOUR: 'it returns false'. Refute it at one input. -/
def linkFormsWrong : ChangeSpec := { name := "linkForms", fn := fun _ => fun
  | [d1, d2] => { results := [.lit (.bool false)], args := [d1, d2] }
  | _ => none }
def LinkFormsWrongFalsely : Prop := linkFormsRow.holds Tryz.pinned (OpenSpec.ofChange linkFormsWrong)

/-- 'hearthlaw14.LinkTrims': WHATEVER THE INPUT: true; the input reads as it did. -/
def linkTrimsSpec : ChangeSpec := { name := "linkTrims", fn := fun _ => fun
  | [d] => { results := [.lit (.bool true)], args := [d] }
  | _ => none }
def linkTrimsRow : OpenClaim := { program := "ytlgoblkihmkmcaagreat", sum := "5527e89cd548abec7c80bf150222d8660736d7846d0beac421af10c33d1e736e", func := "hearth/hearthlaw14.LinkTrims", spec := "linkTrims", unfollowed := true, recurses := true, loops := true, apart := false }
def LinkTrimsSaid : Prop := linkTrimsRow.holds Tryz.pinned (OpenSpec.ofChange linkTrimsSpec)

/-- ITS FALSE NEIGHBOUR: 'it returns false'. Refute it at one input. -/
def linkTrimsWrong : ChangeSpec := { name := "linkTrims", fn := fun _ => fun
  | [d] => { results := [.lit (.bool false)], args := [d] }
  | _ => none }
def LinkTrimsWrongFalsely : Prop := linkTrimsRow.holds Tryz.pinned (OpenSpec.ofChange linkTrimsWrong)

/- THE SECOND FORM. 'bulk': how many values and letters a reading holds, each counted each time it is reached (what is shared counts as often as it is met; a slice's spare places count too). A statement '..UptoSaid' is the law's where the arguments, and the package variables that the reading takes, are together of bulk at most 1048576: NARROWER than '..Said'. Prove '..Said' where nothing that the law and all that it calls make is longer than what came in: it says more and counts as full. Else prove '..UptoSaid'. A law counts once. -/
mutual
def uptoBulk {H : Type} : DataW H → Nat
  | .lit (.string bytes) => bytes.length + 1
  | .lit _ => 1
  | .nil => 1
  | .ptr d => uptoBulk d + 1
  | .slice elems spare => uptoBulkAll elems + uptoBulkAll spare + 1
  | .agg parts => uptoBulkAll parts + 1
  | .iface _ d => uptoBulk d + 1
  | .map entries => uptoBulkEntries entries + 1
  | .held _ => 1
def uptoBulkAll {H : Type} : List (DataW H) → Nat
  | [] => 0
  | d :: r => uptoBulk d + uptoBulkAll r
def uptoBulkEntries {H : Type} : List (Lit × DataW H) → Nat
  | [] => 0
  | x :: r => uptoBulkEntry x + uptoBulkEntries r
def uptoBulkEntry {H : Type} : Lit × DataW H → Nat
  | (.string bytes, d) => bytes.length + uptoBulk d + 1
  | (_, d) => uptoBulk d + 1
 end
def uptoSmall : (H : Type) → List (DataW H) → Bool := fun _ ds => decide (uptoBulkAll ds ≤ 1048576)
def OpenSpec.upto (s : _root_.Go.ChangeSpec) : _root_.Go.OpenSpec := { _root_.Go.OpenSpec.ofChange s with cond := some uptoSmall }

/-- 'hearthlaw14.LinkWhole', WHERE WHAT IT READS IS OF BULK AT MOST 1048576: true; the input reads as it did. -/
def linkWholeUptoRow : OpenClaim := { program := "ytlgoblkihmkmcaagreat", sum := "5527e89cd548abec7c80bf150222d8660736d7846d0beac421af10c33d1e736e", func := "hearth/hearthlaw14.LinkWhole", spec := "linkWhole", unfollowed := true, recurses := true, loops := true, apart := false, narrowed := true }
def LinkWholeUptoSaid : Prop := linkWholeUptoRow.holds Tryz.pinned (OpenSpec.upto linkWholeSpec)

/-- 'hearthlaw14.LinkForms', WHERE WHAT IT READS IS OF BULK AT MOST 1048576: true; the input reads as it did. -/
def linkFormsUptoRow : OpenClaim := { program := "ytlgoblkihmkmcaagreat", sum := "5527e89cd548abec7c80bf150222d8660736d7846d0beac421af10c33d1e736e", func := "hearth/hearthlaw14.LinkForms", spec := "linkForms", unfollowed := true, recurses := true, loops := true, apart := false, narrowed := true }
def LinkFormsUptoSaid : Prop := linkFormsUptoRow.holds Tryz.pinned (OpenSpec.upto linkFormsSpec)

/-- 'hearthlaw14.LinkTrims', WHERE WHAT IT READS IS OF BULK AT MOST 1048576: true; the input reads as it did. -/
def linkTrimsUptoRow : OpenClaim := { program := "ytlgoblkihmkmcaagreat", sum := "5527e89cd548abec7c80bf150222d8660736d7846d0beac421af10c33d1e736e", func := "hearth/hearthlaw14.LinkTrims", spec := "linkTrims", unfollowed := true, recurses := true, loops := true, apart := false, narrowed := true }
def LinkTrimsUptoSaid : Prop := linkTrimsUptoRow.holds Tryz.pinned (OpenSpec.upto linkTrimsSpec)

end Rows
end Go.Proofs.YtlgoblkihmkmcaaGreat
