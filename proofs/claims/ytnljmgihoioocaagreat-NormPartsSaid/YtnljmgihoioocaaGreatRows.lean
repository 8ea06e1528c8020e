/-
  NARROWER THAN 'FOR EVERY INPUT', by the rows' own cells (each row's printed sentence says how): NormForms: loops · NormSteps: loops · NormProves: loops · NormAccepts: loops · NormAny: loops · NormShape: loops · NormParts: loops.
  DERIVED. THE GIVEN ROWS OF THIS SEAT. 7 by the template 'for every input the law returns true; each argument reads behind the call as it read before'; 0 by the template 'total and deterministic' (their statements: YtnljmgihoioocaaGreatTotals.lean).
  GIVEN WITH THE SEED: the statements are not yours to turn. If you find one false, say at which input.
  Laid BY PROGRAM, IN A SANDBOX (cutbox-rows.mjs): the forced cells as the released guide's own fill.sh prints them over the translation 991f4aa568171b43… (all of the seat's roots in one cut). By AI agents, Wed Nov 11 2026. No macro, syntax, notation, axiom, sorry.
-/
import Derived.Test.YtnljmgihoioocaaGreatChecked
import GoSem.Claim
import GoSem.ClaimJoined
import GoSem.ClaimMapViews
import Derived.JoinedTies
import Derived.KernelRfl
namespace Go.Proofs.YtnljmgihoioocaaGreat
/- THE CELL 'sum', in the pinned program and in every row, IS THE sha256 OF THE DUMP (.gsa) THAT YtnljmgihoioocaaGreatProg.lean LOADS. Nothing in Lean hashes anything: it is a label: what it is worth is what the hold of that sum in a sandbox is worth. -/
noncomputable def Tryz.pinned : Pinned := { name := "ytnljmgihoioocaagreat", sum := "991f4aa568171b434e0db393e5f68263935d8ee91f78136683a8f0ee82a4996c", checked := Tryz.checked }
namespace Rows
def none {H : Type} : Left H := { results := [], args := [] }

/-- 'hearthlaw07.NormForms': WHATEVER THE INPUT: true; the input reads as it did. -/
def normFormsSpec : ChangeSpec := { name := "normForms", fn := fun _ => fun
  | [d] => { results := [.lit (.bool true)], args := [d] }
  | _ => none }
def normFormsRow : OpenClaim := { program := "ytnljmgihoioocaagreat", sum := "991f4aa568171b434e0db393e5f68263935d8ee91f78136683a8f0ee82a4996c", func := "hearth/hearthlaw07.NormForms", spec := "normForms", unfollowed := true, recurses := true, loops := true, apart := false }
def NormFormsSaid : Prop := normFormsRow.holds Tryz.pinned (OpenSpec.ofChange normFormsSpec)

/-- ITS FALSE NEIGHBOUR: 'it returns false'. Refute it at one input. -/
def normFormsWrong : ChangeSpec := { name := "normForms", fn := fun _ => fun
  | [d] => { results := [.lit (.bool false)], args := [d] }
  | _ => none }
def NormFormsWrongFalsely : Prop := normFormsRow.holds Tryz.pinned (OpenSpec.ofChange normFormsWrong)

/-- 'hearthlaw07.NormSteps': WHATEVER THE INPUT: true; the input reads as it did. -/
def normStepsSpec : ChangeSpec := { name := "normSteps", fn := fun _ => fun
  | [d1, d2] => { results := [.lit (.bool true)], args := [d1, d2] }
  | _ => none }
def normStepsRow : OpenClaim := { program := "ytnljmgihoioocaagreat", sum := "991f4aa568171b434e0db393e5f68263935d8ee91f78136683a8f0ee82a4996c", func := "hearth/hearthlaw07.NormSteps", spec := "normSteps", unfollowed := true, recurses := true, loops := true, apart := false }
def NormStepsSaid : Prop := normStepsRow.holds Tryz.pinned (OpenSpec.ofChange normStepsSpec)

/-- ITS FALSE NEIGHBOUR: 'it returns false'. Refute it at one input. -/
def normStepsWrong : ChangeSpec := { name := "normSteps", fn := fun _ => fun
  | [d1, d2] => { results := [.lit (.bool false)], args := [d1, d2] }
  | _ => none }
def NormStepsWrongFalsely : Prop := normStepsRow.holds Tryz.pinned (OpenSpec.ofChange normStepsWrong)

/-- 'hearthlaw07.NormProves': WHATEVER THE INPUT: true; the input reads as it did. -/
def normProvesSpec : ChangeSpec := { name := "normProves", fn := fun _ => fun
  | [d] => { results := [.lit (.bool true)], args := [d] }
  | _ => none }
def normProvesRow : OpenClaim := { program := "ytnljmgihoioocaagreat", sum := "991f4aa568171b434e0db393e5f68263935d8ee91f78136683a8f0ee82a4996c", func := "hearth/hearthlaw07.NormProves", spec := "normProves", unfollowed := true, recurses := true, loops := true, apart := false }
def NormProvesSaid : Prop := normProvesRow.holds Tryz.pinned (OpenSpec.ofChange normProvesSpec)

/-- ITS FALSE NEIGHBOUR: 'it returns false'. Refute it at one input. -/
def normProvesWrong : ChangeSpec := { name := "normProves", fn := fun _ => fun
  | [d] => { results := [.lit (.bool false)], args := [d] }
  | _ => none }
def NormProvesWrongFalsely : Prop := normProvesRow.holds Tryz.pinned (OpenSpec.ofChange normProvesWrong)

/-- 'hearthlaw07.NormAccepts': WHATEVER THE INPUT: true; the input reads as it did. -/
def normAcceptsSpec : ChangeSpec := { name := "normAccepts", fn := fun _ => fun
  | [d1, d2, d3] => { results := [.lit (.bool true)], args := [d1, d2, d3] }
  | _ => none }
def normAcceptsRow : OpenClaim := { program := "ytnljmgihoioocaagreat", sum := "991f4aa568171b434e0db393e5f68263935d8ee91f78136683a8f0ee82a4996c", func := "hearth/hearthlaw07.NormAccepts", spec := "normAccepts", unfollowed := true, recurses := true, loops := true, apart := false }
def NormAcceptsSaid : Prop := normAcceptsRow.holds Tryz.pinned (OpenSpec.ofChange normAcceptsSpec)

/-- ITS FALSE NEIGHBOUR: 'it returns false'. Refute it at one input. -/
def normAcceptsWrong : ChangeSpec := { name := "normAccepts", fn := fun _ => fun
  | [d1, d2, d3] => { results := [.lit (.bool false)], args := [d1, d2, d3] }
  | _ => none }
def NormAcceptsWrongFalsely : Prop := normAcceptsRow.holds Tryz.pinned (OpenSpec.ofChange normAcceptsWrong)

/-- 'hearthlaw07.NormAny': WHATEVER THE INPUT: true; the input reads as it did. -/
def normAnySpec : ChangeSpec := { name := "normAny", fn := fun _ => fun
  | [d1, d2] => { results := [.lit (.bool true)], args := [d1, d2] }
  | _ => none }
def normAnyRow : OpenClaim := { program := "ytnljmgihoioocaagreat", sum := "991f4aa568171b434e0db393e5f68263935d8ee91f78136683a8f0ee82a4996c", func := "hearth/hearthlaw07.NormAny", spec := "normAny", unfollowed := true, recurses := true, loops := true, apart := false }
def NormAnySaid : Prop := normAnyRow.holds Tryz.pinned (OpenSpec.ofChange normAnySpec)

/-- ITS FALSE NEIGHBOUR: 'it returns false'. Refute it at one input. -/
def normAnyWrong : ChangeSpec := { name := "normAny", fn := fun _ => fun
  | [d1, d2] => { results := [.lit (.bool false)], args := [d1, d2] }
  | _ => none }
def NormAnyWrongFalsely : Prop := normAnyRow.holds Tryz.pinned (OpenSpec.ofChange normAnyWrong)

/-- 'hearthlaw07.NormShape': WHATEVER THE INPUT: true; the input reads as it did. -/
def normShapeSpec : ChangeSpec := { name := "normShape", fn := fun _ => fun
  | [d] => { results := [.lit (.bool true)], args := [d] }
  | _ => none }
def normShapeRow : OpenClaim := { program := "ytnljmgihoioocaagreat", sum := "991f4aa568171b434e0db393e5f68263935d8ee91f78136683a8f0ee82a4996c", func := "hearth/hearthlaw07.NormShape", spec := "normShape", unfollowed := true, recurses := true, loops := true, apart := false }
def NormShapeSaid : Prop := normShapeRow.holds Tryz.pinned (OpenSpec.ofChange normShapeSpec)

/-- ITS FALSE NEIGHBOUR: 'it returns false'. Refute it at one input. -/
def normShapeWrong : ChangeSpec := { name := "normShape", fn := fun _ => fun
  | [d] => { results := [.lit (.bool false)], args := [d] }
  | _ => none }
def NormShapeWrongFalsely : Prop := normShapeRow.holds Tryz.pinned (OpenSpec.ofChange normShapeWrong)

/-- 'hearthlaw07.NormParts': WHATEVER THE INPUT: true; the input reads as it did. -/
def normPartsSpec : ChangeSpec := { name := "normParts", fn := fun _ => fun
  | [d1, d2] => { results := [.lit (.bool true)], args := [d1, d2] }
  | _ => none }
def normPartsRow : OpenClaim := { program := "ytnljmgihoioocaagreat", sum := "991f4aa568171b434e0db393e5f68263935d8ee91f78136683a8f0ee82a4996c", func := "hearth/hearthlaw07.NormParts", spec := "normParts", unfollowed := true, recurses := true, loops := true, apart := false }
def NormPartsSaid : Prop := normPartsRow.holds Tryz.pinned (OpenSpec.ofChange normPartsSpec)

/-- ITS FALSE NEIGHBOUR: 'it returns false'. Refute it at one input. -/
def normPartsWrong : ChangeSpec := { name := "normParts", fn := fun _ => fun
  | [d1, d2] => { results := [.lit (.bool false)], args := [d1, d2] }
  | _ => none }
def NormPartsWrongFalsely : Prop := normPartsRow.holds Tryz.pinned (OpenSpec.ofChange normPartsWrong)

/- THE SECOND FORM. 'bulk': how many values and letters a reading holds, each counted each time it is reached (what is shared counts as often as it is met; a slice's spare places count too). A statement '..UptoSaid' is the law's where the arguments, and the package variables that the reading takes, are together of bulk at most 1048576: NARROWER than '..Said'. Prove '..Said' where nothing that the law and all that it calls make is longer than what came in: it says more and counts as full. Else prove '..UptoSaid'. A law counts once. -/
mutual
def uptoBulk {H : Type} : DataW H → Nat
  | .lit (.string bytes) => bytes.length + 1
  | .lit _ => 1
  | .nil => 1
  | .ptr d => uptoBulk d + 1
  | .slice elems spare => uptoBulkAll elems + uptoBulkAll spare + 1
  | .agg parts => uptoBulkAll parts + 1
  | .iface _ d => uptoBulk d + 1
  | .map entries => uptoBulkEntries entries + 1
  | .held _ => 1
def uptoBulkAll {H : Type} : List (DataW H) → Nat
  | [] => 0
  | d :: r => uptoBulk d + uptoBulkAll r
def uptoBulkEntries {H : Type} : List (Lit × DataW H) → Nat
  | [] => 0
  | x :: r => uptoBulkEntry x + uptoBulkEntries r
def uptoBulkEntry {H : Type} : Lit × DataW H → Nat
  | (.string bytes, d) => bytes.length + uptoBulk d + 1
  | (_, d) => uptoBulk d + 1
 end
def uptoSmall : (H : Type) → List (DataW H) → Bool := fun _ ds => decide (uptoBulkAll ds ≤ 1048576)
def OpenSpec.upto (s : _root_.Go.ChangeSpec) : _root_.Go.OpenSpec := { _root_.Go.OpenSpec.ofChange s with cond := some uptoSmall }

/-- 'hearthlaw07.NormForms', WHERE WHAT IT READS IS OF BULK AT MOST 1048576: true; the input reads as it did. -/
def normFormsUptoRow : OpenClaim := { program := "ytnljmgihoioocaagreat", sum := "991f4aa568171b434e0db393e5f68263935d8ee91f78136683a8f0ee82a4996c", func := "hearth/hearthlaw07.NormForms", spec := "normForms", unfollowed := true, recurses := true, loops := true, apart := false, narrowed := true }
def NormFormsUptoSaid : Prop := normFormsUptoRow.holds Tryz.pinned (OpenSpec.upto normFormsSpec)

/-- 'hearthlaw07.NormSteps', WHERE WHAT IT READS IS OF BULK AT MOST 1048576: true; the input reads as it did. -/
def normStepsUptoRow : OpenClaim := { program := "ytnljmgihoioocaagreat", sum := "991f4aa568171b434e0db393e5f68263935d8ee91f78136683a8f0ee82a4996c", func := "hearth/hearthlaw07.NormSteps", spec := "normSteps", unfollowed := true, recurses := true, loops := true, apart := false, narrowed := true }
def NormStepsUptoSaid : Prop := normStepsUptoRow.holds Tryz.pinned (OpenSpec.upto normStepsSpec)

/-- 'hearthlaw07.NormProves', WHERE WHAT IT READS IS OF BULK AT MOST 1048576: true; the input reads as it did. -/
def normProvesUptoRow : OpenClaim := { program := "ytnljmgihoioocaagreat", sum := "991f4aa568171b434e0db393e5f68263935d8ee91f78136683a8f0ee82a4996c", func := "hearth/hearthlaw07.NormProves", spec := "normProves", unfollowed := true, recurses := true, loops := true, apart := false, narrowed := true }
def NormProvesUptoSaid : Prop := normProvesUptoRow.holds Tryz.pinned (OpenSpec.upto normProvesSpec)

/-- 'hearthlaw07.NormAccepts', WHERE WHAT IT READS IS OF BULK AT MOST 1048576: true; the input reads as it did. -/
def normAcceptsUptoRow : OpenClaim := { program := "ytnljmgihoioocaagreat", sum := "991f4aa568171b434e0db393e5f68263935d8ee91f78136683a8f0ee82a4996c", func := "hearth/hearthlaw07.NormAccepts", spec := "normAccepts", unfollowed := true, recurses := true, loops := true, apart := false, narrowed := true }
def NormAcceptsUptoSaid : Prop := normAcceptsUptoRow.holds Tryz.pinned (OpenSpec.upto normAcceptsSpec)

/-- 'hearthlaw07.NormAny', WHERE WHAT IT READS IS OF BULK AT MOST 1048576: true; the input reads as it did. -/
def normAnyUptoRow : OpenClaim := { program := "ytnljmgihoioocaagreat", sum := "991f4aa568171b434e0db393e5f68263935d8ee91f78136683a8f0ee82a4996c", func := "hearth/hearthlaw07.NormAny", spec := "normAny", unfollowed := true, recurses := true, loops := true, apart := false, narrowed := true }
def NormAnyUptoSaid : Prop := normAnyUptoRow.holds Tryz.pinned (OpenSpec.upto normAnySpec)

/-- 'hearthlaw07.NormShape', WHERE WHAT IT READS IS OF BULK AT MOST 1048576: true; the input reads as it did. -/
def normShapeUptoRow : OpenClaim := { program := "ytnljmgihoioocaagreat", sum := "991f4aa568171b434e0db393e5f68263935d8ee91f78136683a8f0ee82a4996c", func := "hearth/hearthlaw07.NormShape", spec := "normShape", unfollowed := true, recurses := true, loops := true, apart := false, narrowed := true }
def NormShapeUptoSaid : Prop := normShapeUptoRow.holds Tryz.pinned (OpenSpec.upto normShapeSpec)

/-- 'hearthlaw07.NormParts', WHERE WHAT IT READS IS OF BULK AT MOST 1048576: true; the input reads as it did. -/
def normPartsUptoRow : OpenClaim := { program := "ytnljmgihoioocaagreat", sum := "991f4aa568171b434e0db393e5f68263935d8ee91f78136683a8f0ee82a4996c", func := "hearth/hearthlaw07.NormParts", spec := "normParts", unfollowed := true, recurses := true, loops := true, apart := false, narrowed := true }
def NormPartsUptoSaid : Prop := normPartsUptoRow.holds Tryz.pinned (OpenSpec.upto normPartsSpec)

end Rows
end Go.Proofs.YtnljmgihoioocaaGreat
