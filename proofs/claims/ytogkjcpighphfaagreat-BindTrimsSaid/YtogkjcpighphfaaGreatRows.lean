/-
  NARROWER THAN 'FOR EVERY INPUT', by the rows' own cells (each row's printed sentence says how): BindForms: loops · BindDepths: loops · BindCanons: loops · BindJoins: loops · BindTrims: loops.
  DERIVED. THE GIVEN ROWS OF THIS SEAT. 5 by the template 'for every input the law returns true; each argument reads behind the call as it read before'; 0 by the template 'total and deterministic' (their statements: YtogkjcpighphfaaGreatTotals.lean).
  GIVEN WITH THE SEED: the statements are not yours to turn. If you find one false, say at which input.
  Laid BY PROGRAM, IN A SANDBOX (cutbox-rows.mjs): the forced cells as the released guide's own fill.sh prints them over the translation 1fc5bc9ca7d1858b… (all of the seat's roots in one cut). By AI agents, Wed Nov 11 2026. No macro, syntax, notation, axiom, sorry.
-/
import Derived.Test.YtogkjcpighphfaaGreatChecked
import GoSem.Claim
import GoSem.ClaimJoined
import GoSem.ClaimMapViews
import Derived.JoinedTies
import Derived.KernelRfl
namespace Go.Proofs.YtogkjcpighphfaaGreat
/- THE CELL 'sum', in the pinned program and in every row, IS THE sha256 OF THE DUMP (.gsa) THAT YtogkjcpighphfaaGreatProg.lean LOADS. Nothing in Lean hashes anything: it is a label: what it is worth is what the hold of that sum in a sandbox is worth. -/
noncomputable def Tryz.pinned : Pinned := { name := "ytogkjcpighphfaagreat", sum := "1fc5bc9ca7d1858b24907264009717ca7ee13a7ebd5bea647d33309f9a209d52", checked := Tryz.checked }
namespace Rows
def none {H : Type} : Left H := { results := [], args := [] }

/-- 'hearthlaw05.BindForms': WHATEVER THE INPUT: true; the input reads as it did. -/
def bindFormsSpec : ChangeSpec := { name := "bindForms", fn := fun _ => fun
  | [d] => { results := [.lit (.bool true)], args := [d] }
  | _ => none }
def bindFormsRow : OpenClaim := { program := "ytogkjcpighphfaagreat", sum := "1fc5bc9ca7d1858b24907264009717ca7ee13a7ebd5bea647d33309f9a209d52", func := "hearth/hearthlaw05.BindForms", spec := "bindForms", unfollowed := true, recurses := true, loops := true, apart := false }
def BindFormsSaid : Prop := bindFormsRow.holds Tryz.pinned (OpenSpec.ofChange bindFormsSpec)

/-- ITS FALSE NEIGHBOUR: 'it returns false'. Refute it at one input. -/
def bindFormsWrong : ChangeSpec := { name := "bindForms", fn := fun _ => fun
  | [d] => { results := [.lit (.bool false)], args := [d] }
  | _ => none }
def BindFormsWrongFalsely : Prop := bindFormsRow.holds Tryz.pinned (OpenSpec.ofChange bindFormsWrong)

/-- 'hearthlaw05.BindDepths': WHATEVER THE INPUT: true; the input reads as it did. -/
def bindDepthsSpec : ChangeSpec := { name := "bindDepths", fn := fun _ => fun
  | [d] => { results := [.lit (.bool true)], args := [d] }
  | _ => none }
def bindDepthsRow : OpenClaim := { program := "ytogkjcpighphfaagreat", sum := "1fc5bc9ca7d1858b24907264009717ca7ee13a7ebd5bea647d33309f9a209d52", func := "hearth/hearthlaw05.BindDepths", spec := "bindDepths", unfollowed := true, recurses := true, loops := true, apart := false }
def BindDepthsSaid : Prop := bindDepthsRow.holds Tryz.pinned (OpenSpec.ofChange bindDepthsSpec)

/-- ITS FALSE NEIGHBOUR: 'it returns false'. Refute it at one input. -/
def bindDepthsWrong : ChangeSpec := { name := "bindDepths", fn := fun _ => fun
  | [d] => { results := [.lit (.bool false)], args := [d] }
  | _ => none }
def BindDepthsWrongFalsely : Prop := bindDepthsRow.holds Tryz.pinned (OpenSpec.ofChange bindDepthsWrong)

/-- 'hearthlaw05.BindCanons': WHATEVER THE INPUT: true; the input reads as it did. -/
def bindCanonsSpec : ChangeSpec := { name := "bindCanons", fn := fun _ => fun
  | [d] => { results := [.lit (.bool true)], args := [d] }
  | _ => none }
def bindCanonsRow : OpenClaim := { program := "ytogkjcpighphfaagreat", sum := "1fc5bc9ca7d1858b24907264009717ca7ee13a7ebd5bea647d33309f9a209d52", func := "hearth/hearthlaw05.BindCanons", spec := "bindCanons", unfollowed := true, recurses := true, loops := true, apart := false }
def BindCanonsSaid : Prop := bindCanonsRow.holds Tryz.pinned (OpenSpec.ofChange bindCanonsSpec)

/-- ITS FALSE NEIGHBOUR: 'it returns false'. Refute it at one input. -/
def bindCanonsWrong : ChangeSpec := { name := "bindCanons", fn := fun _ => fun
  | [d] => { results := [.lit (.bool false)], args := [d] }
  | _ => none }
def BindCanonsWrongFalsely : Prop := bindCanonsRow.holds Tryz.pinned (OpenSpec.ofChange bindCanonsWrong)

/-- 'hearthlaw05.BindJoins': WHATEVER THE INPUT: true; the input reads as it did. -/
def bindJoinsSpec : ChangeSpec := { name := "bindJoins", fn := fun _ => fun
  | [d1, d2] => { results := [.lit (.bool true)], args := [d1, d2] }
  | _ => none }
def bindJoinsRow : OpenClaim := { program := "ytogkjcpighphfaagreat", sum := "1fc5bc9ca7d1858b24907264009717ca7ee13a7ebd5bea647d33309f9a209d52", func := "hearth/hearthlaw05.BindJoins", spec := "bindJoins", unfollowed := true, recurses := true, loops := true, apart := false }
def BindJoinsSaid : Prop := bindJoinsRow.holds Tryz.pinned (OpenSpec.ofChange bindJoinsSpec)

/-- ITS FALSE NEIGHBOUR: 'it returns false'. Refute it at one input. -/
def bindJoinsWrong : ChangeSpec := { name := "bindJoins", fn := fun _ => fun
  | [d1, d2] => { results := [.lit (.bool false)], args := [d1, d2] }
  | _ => none }
def BindJoinsWrongFalsely : Prop := bindJoinsRow.holds Tryz.pinned (OpenSpec.ofChange bindJoinsWrong)

/-- 'hearthlaw05.BindTrims': WHATEVER THE INPUT: true; the input reads as it did. -/
def bindTrimsSpec : ChangeSpec := { name := "bindTrims", fn := fun _ => fun
  | [d] => { results := [.lit (.bool true)], args := [d] }
  | _ => none }
def bindTrimsRow : OpenClaim := { program := "ytogkjcpighphfaagreat", sum := "1fc5bc9ca7d1858b24907264009717ca7ee13a7ebd5bea647d33309f9a209d52", func := "hearth/hearthlaw05.BindTrims", spec := "bindTrims", unfollowed := true, recurses := true, loops := true, apart := false }
def BindTrimsSaid : Prop := bindTrimsRow.holds Tryz.pinned (OpenSpec.ofChange bindTrimsSpec)

/-- ITS FALSE NEIGHBOUR: 'it returns false'. Refute it at one input. -/
def bindTrimsWrong : ChangeSpec := { name := "bindTrims", fn := fun _ => fun
  | [d] => { results := [.lit (.bool false)], args := [d] }
  | _ => none }
def BindTrimsWrongFalsely : Prop := bindTrimsRow.holds Tryz.pinned (OpenSpec.ofChange bindTrimsWrong)

/- THE SECOND FORM. 'bulk': how many values and letters a reading holds, each counted each time it is reached (what is shared counts as often as it is met; a slice's spare places count too). A statement '..UptoSaid' is the law's where the arguments, and the package variables that the reading takes, are together of bulk at most 1048576: NARROWER than '..Said'. Prove '..Said' where nothing that the law and all that it calls make is longer than what came in: it says more and counts as full. Else prove '..UptoSaid'. A law counts once. -/
mutual
def uptoBulk {H : Type} : DataW H → Nat
  | .lit (.string bytes) => bytes.length + 1
  | .lit _ => 1
  | .nil => 1
  | .ptr d => uptoBulk d + 1
  | .slice elems spare => uptoBulkAll elems + uptoBulkAll spare + 1
  | .agg parts => uptoBulkAll parts + 1
  | .iface _ d => uptoBulk d + 1
  | .map entries => uptoBulkEntries entries + 1
  | .held _ => 1
def uptoBulkAll {H : Type} : List (DataW H) → Nat
  | [] => 0
  | d :: r => uptoBulk d + uptoBulkAll r
def uptoBulkEntries {H : Type} : List (Lit × DataW H) → Nat
  | [] => 0
  | x :: r => uptoBulkEntry x + uptoBulkEntries r
def uptoBulkEntry {H : Type} : Lit × DataW H → Nat
  | (.string bytes, d) => bytes.length + uptoBulk d + 1
  | (_, d) => uptoBulk d + 1
 end
def uptoSmall : (H : Type) → List (DataW H) → Bool := fun _ ds => decide (uptoBulkAll ds ≤ 1048576)
def OpenSpec.upto (s : _root_.Go.ChangeSpec) : _root_.Go.OpenSpec := { _root_.Go.OpenSpec.ofChange s with cond := some uptoSmall }

/-- 'hearthlaw05.BindForms', WHERE WHAT IT READS IS OF BULK AT MOST 1048576: true; the input reads as it did. -/
def bindFormsUptoRow : OpenClaim := { program := "ytogkjcpighphfaagreat", sum := "1fc5bc9ca7d1858b24907264009717ca7ee13a7ebd5bea647d33309f9a209d52", func := "hearth/hearthlaw05.BindForms", spec := "bindForms", unfollowed := true, recurses := true, loops := true, apart := false, narrowed := true }
def BindFormsUptoSaid : Prop := bindFormsUptoRow.holds Tryz.pinned (OpenSpec.upto bindFormsSpec)

/-- 'hearthlaw05.BindDepths', WHERE WHAT IT READS IS OF BULK AT MOST 1048576: true; the input reads as it did. -/
def bindDepthsUptoRow : OpenClaim := { program := "ytogkjcpighphfaagreat", sum := "1fc5bc9ca7d1858b24907264009717ca7ee13a7ebd5bea647d33309f9a209d52", func := "hearth/hearthlaw05.BindDepths", spec := "bindDepths", unfollowed := true, recurses := true, loops := true, apart := false, narrowed := true }
def BindDepthsUptoSaid : Prop := bindDepthsUptoRow.holds Tryz.pinned (OpenSpec.upto bindDepthsSpec)

/-- 'hearthlaw05.BindCanons', WHERE WHAT IT READS IS OF BULK AT MOST 1048576: true; the input reads as it did. -/
def bindCanonsUptoRow : OpenClaim := { program := "ytogkjcpighphfaagreat", sum := "1fc5bc9ca7d1858b24907264009717ca7ee13a7ebd5bea647d33309f9a209d52", func := "hearth/hearthlaw05.BindCanons", spec := "bindCanons", unfollowed := true, recurses := true, loops := true, apart := false, narrowed := true }
def BindCanonsUptoSaid : Prop := bindCanonsUptoRow.holds Tryz.pinned (OpenSpec.upto bindCanonsSpec)

/-- 'hearthlaw05.BindJoins', WHERE WHAT IT READS IS OF BULK AT MOST 1048576: true; the input reads as it did. -/
def bindJoinsUptoRow : OpenClaim := { program := "ytogkjcpighphfaagreat", sum := "1fc5bc9ca7d1858b24907264009717ca7ee13a7ebd5bea647d33309f9a209d52", func := "hearth/hearthlaw05.BindJoins", spec := "bindJoins", unfollowed := true, recurses := true, loops := true, apart := false, narrowed := true }
def BindJoinsUptoSaid : Prop := bindJoinsUptoRow.holds Tryz.pinned (OpenSpec.upto bindJoinsSpec)

/-- 'hearthlaw05.BindTrims', WHERE WHAT IT READS IS OF BULK AT MOST 1048576: true; the input reads as it did. -/
def bindTrimsUptoRow : OpenClaim := { program := "ytogkjcpighphfaagreat", sum := "1fc5bc9ca7d1858b24907264009717ca7ee13a7ebd5bea647d33309f9a209d52", func := "hearth/hearthlaw05.BindTrims", spec := "bindTrims", unfollowed := true, recurses := true, loops := true, apart := false, narrowed := true }
def BindTrimsUptoSaid : Prop := bindTrimsUptoRow.holds Tryz.pinned (OpenSpec.upto bindTrimsSpec)

end Rows
end Go.Proofs.YtogkjcpighphfaaGreat
