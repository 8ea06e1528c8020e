/-
  NARROWER THAN 'FOR EVERY INPUT', by the rows' own cells (each row's printed sentence says how): LiftCaughts: loops · LiftFinds: loops · LiftAlls: loops · LiftShape: loops · LiftRest: loops.
  DERIVED. THE GIVEN ROWS OF THIS SEAT. 5 by the template 'for every input the law returns true; each argument reads behind the call as it read before'; 0 by the template 'total and deterministic' (their statements: YtmadhnaeihdkeaaGreatTotals.lean).
  GIVEN WITH THE SEED: the statements are not yours to turn. If you find one false, say at which input.
  Laid BY PROGRAM, IN A SANDBOX (cutbox-rows.mjs): the forced cells as the released guide's own fill.sh prints them over the translation 1dd98bc4c95d7afb… (all of the seat's roots in one cut). By AI agents, Wed Nov 11 2026. No macro, syntax, notation, axiom, sorry.
-/
import Derived.Test.YtmadhnaeihdkeaaGreatChecked
import GoSem.Claim
import GoSem.ClaimJoined
import GoSem.ClaimMapViews
import Derived.JoinedTies
import Derived.KernelRfl
namespace Go.Proofs.YtmadhnaeihdkeaaGreat
/- THE CELL 'sum', in the pinned program and in every row, IS THE sha256 OF THE DUMP (.gsa) THAT YtmadhnaeihdkeaaGreatProg.lean LOADS. Nothing in Lean hashes anything: it is a label: what it is worth is what the hold of that sum in a sandbox is worth. -/
noncomputable def Tryz.pinned : Pinned := { name := "ytmadhnaeihdkeaagreat", sum := "1dd98bc4c95d7afbddc558e5ff785a7cde506014ff70566419d61a7a85ea0ae8", checked := Tryz.checked }
namespace Rows
def none {H : Type} : Left H := { results := [], args := [] }

/-- 'hearthlaw08.LiftCaughts': WHATEVER THE INPUT: true; the input reads as it did. -/
def liftCaughtsSpec : ChangeSpec := { name := "liftCaughts", fn := fun _ => fun
  | [d] => { results := [.lit (.bool true)], args := [d] }
  | _ => none }
def liftCaughtsRow : OpenClaim := { program := "ytmadhnaeihdkeaagreat", sum := "1dd98bc4c95d7afbddc558e5ff785a7cde506014ff70566419d61a7a85ea0ae8", func := "hearth/hearthlaw08.LiftCaughts", spec := "liftCaughts", unfollowed := true, recurses := true, loops := true, apart := false }
def LiftCaughtsSaid : Prop := liftCaughtsRow.holds Tryz.pinned (OpenSpec.ofChange liftCaughtsSpec)

/-- ITS FALSE NEIGHBOUR: 'it returns false'. Refute it at one input. -/
def liftCaughtsWrong : ChangeSpec := { name := "liftCaughts", fn := fun _ => fun
  | [d] => { results := [.lit (.bool false)], args := [d] }
  | _ => none }
def LiftCaughtsWrongFalsely : Prop := liftCaughtsRow.holds Tryz.pinned (OpenSpec.ofChange liftCaughtsWrong)

/-- 'hearthlaw08.LiftFinds': WHATEVER THE INPUT: true; the input reads as it did. -/
def liftFindsSpec : ChangeSpec := { name := "liftFinds", fn := fun _ => fun
  | [d1, d2] => { results := [.lit (.bool true)], args := [d1, d2] }
  | _ => none }
def liftFindsRow : OpenClaim := { program := "ytmadhnaeihdkeaagreat", sum := "1dd98bc4c95d7afbddc558e5ff785a7cde506014ff70566419d61a7a85ea0ae8", func := "hearth/hearthlaw08.LiftFinds", spec := "liftFinds", unfollowed := true, recurses := true, loops := true, apart := false }
def LiftFindsSaid : Prop := liftFindsRow.holds Tryz.pinned (OpenSpec.ofChange liftFindsSpec)

/-- ITS FALSE NEIGHBOUR: 'it returns false'. Refute it at one input. -/
def liftFindsWrong : ChangeSpec := { name := "liftFinds", fn := fun _ => fun
  | [d1, d2] => { results := [.lit (.bool false)], args := [d1, d2] }
  | _ => none }
def LiftFindsWrongFalsely : Prop := liftFindsRow.holds Tryz.pinned (OpenSpec.ofChange liftFindsWrong)

/-- 'hearthlaw08.LiftAlls': WHATEVER THE INPUT: true; the input reads as it did. -/
def liftAllsSpec : ChangeSpec := { name := "liftAlls", fn := fun _ => fun
  | [d] => { results := [.lit (.bool true)], args := [d] }
  | _ => none }
def liftAllsRow : OpenClaim := { program := "ytmadhnaeihdkeaagreat", sum := "1dd98bc4c95d7afbddc558e5ff785a7cde506014ff70566419d61a7a85ea0ae8", func := "hearth/hearthlaw08.LiftAlls", spec := "liftAlls", unfollowed := true, recurses := true, loops := true, apart := false }
def LiftAllsSaid : Prop := liftAllsRow.holds Tryz.pinned (OpenSpec.ofChange liftAllsSpec)

/-- ITS FALSE NEIGHBOUR: 'it returns false'. Refute it at one input. -/
def liftAllsWrong : ChangeSpec := { name := "liftAlls", fn := fun _ => fun
  | [d] => { results := [.lit (.bool false)], args := [d] }
  | _ => none }
def LiftAllsWrongFalsely : Prop := liftAllsRow.holds Tryz.pinned (OpenSpec.ofChange liftAllsWrong)

/-- 'hearthlaw08.LiftShape': WHATEVER THE INPUT: true; the input reads as it did. -/
def liftShapeSpec : ChangeSpec := { name := "liftShape", fn := fun _ => fun
  | [d1, d2] => { results := [.lit (.bool true)], args := [d1, d2] }
  | _ => none }
def liftShapeRow : OpenClaim := { program := "ytmadhnaeihdkeaagreat", sum := "1dd98bc4c95d7afbddc558e5ff785a7cde506014ff70566419d61a7a85ea0ae8", func := "hearth/hearthlaw08.LiftShape", spec := "liftShape", unfollowed := true, recurses := true, loops := true, apart := false }
def LiftShapeSaid : Prop := liftShapeRow.holds Tryz.pinned (OpenSpec.ofChange liftShapeSpec)

/-- ITS FALSE NEIGHBOUR: 'it returns false'. Refute it at one input. -/
def liftShapeWrong : ChangeSpec := { name := "liftShape", fn := fun _ => fun
  | [d1, d2] => { results := [.lit (.bool false)], args := [d1, d2] }
  | _ => none }
def LiftShapeWrongFalsely : Prop := liftShapeRow.holds Tryz.pinned (OpenSpec.ofChange liftShapeWrong)

/-- 'hearthlaw08.LiftRest': WHATEVER THE INPUT: true; the input reads as it did. -/
def liftRestSpec : ChangeSpec := { name := "liftRest", fn := fun _ => fun
  | [d1, d2] => { results := [.lit (.bool true)], args := [d1, d2] }
  | _ => none }
def liftRestRow : OpenClaim := { program := "ytmadhnaeihdkeaagreat", sum := "1dd98bc4c95d7afbddc558e5ff785a7cde506014ff70566419d61a7a85ea0ae8", func := "hearth/hearthlaw08.LiftRest", spec := "liftRest", unfollowed := true, recurses := true, loops := true, apart := false }
def LiftRestSaid : Prop := liftRestRow.holds Tryz.pinned (OpenSpec.ofChange liftRestSpec)

/-- ITS FALSE NEIGHBOUR: 'it returns false'. Refute it at one input. -/
def liftRestWrong : ChangeSpec := { name := "liftRest", fn := fun _ => fun
  | [d1, d2] => { results := [.lit (.bool false)], args := [d1, d2] }
  | _ => none }
def LiftRestWrongFalsely : Prop := liftRestRow.holds Tryz.pinned (OpenSpec.ofChange liftRestWrong)

/- THE SECOND FORM. 'bulk': how many values and letters a reading holds, each counted each time it is reached (what is shared counts as often as it is met; a slice's spare places count too). A statement '..UptoSaid' is the law's where the arguments, and the package variables that the reading takes, are together of bulk at most 1048576: NARROWER than '..Said'. Prove '..Said' where nothing that the law and all that it calls make is longer than what came in: it says more and counts as full. Else prove '..UptoSaid'. A law counts once. -/
mutual
def uptoBulk {H : Type} : DataW H → Nat
  | .lit (.string bytes) => bytes.length + 1
  | .lit _ => 1
  | .nil => 1
  | .ptr d => uptoBulk d + 1
  | .slice elems spare => uptoBulkAll elems + uptoBulkAll spare + 1
  | .agg parts => uptoBulkAll parts + 1
  | .iface _ d => uptoBulk d + 1
  | .map entries => uptoBulkEntries entries + 1
  | .held _ => 1
def uptoBulkAll {H : Type} : List (DataW H) → Nat
  | [] => 0
  | d :: r => uptoBulk d + uptoBulkAll r
def uptoBulkEntries {H : Type} : List (Lit × DataW H) → Nat
  | [] => 0
  | x :: r => uptoBulkEntry x + uptoBulkEntries r
def uptoBulkEntry {H : Type} : Lit × DataW H → Nat
  | (.string bytes, d) => bytes.length + uptoBulk d + 1
  | (_, d) => uptoBulk d + 1
 end
def uptoSmall : (H : Type) → List (DataW H) → Bool := fun _ ds => decide (uptoBulkAll ds ≤ 1048576)
def OpenSpec.upto (s : _root_.Go.ChangeSpec) : _root_.Go.OpenSpec := { _root_.Go.OpenSpec.ofChange s with cond := some uptoSmall }

/-- 'hearthlaw08.LiftCaughts', WHERE WHAT IT READS IS OF BULK AT MOST 1048576: true; the input reads as it did. -/
def liftCaughtsUptoRow : OpenClaim := { program := "ytmadhnaeihdkeaagreat", sum := "1dd98bc4c95d7afbddc558e5ff785a7cde506014ff70566419d61a7a85ea0ae8", func := "hearth/hearthlaw08.LiftCaughts", spec := "liftCaughts", unfollowed := true, recurses := true, loops := true, apart := false, narrowed := true }
def LiftCaughtsUptoSaid : Prop := liftCaughtsUptoRow.holds Tryz.pinned (OpenSpec.upto liftCaughtsSpec)

/-- 'hearthlaw08.LiftFinds', WHERE WHAT IT READS IS OF BULK AT MOST 1048576: true; the input reads as it did. -/
def liftFindsUptoRow : OpenClaim := { program := "ytmadhnaeihdkeaagreat", sum := "1dd98bc4c95d7afbddc558e5ff785a7cde506014ff70566419d61a7a85ea0ae8", func := "hearth/hearthlaw08.LiftFinds", spec := "liftFinds", unfollowed := true, recurses := true, loops := true, apart := false, narrowed := true }
def LiftFindsUptoSaid : Prop := liftFindsUptoRow.holds Tryz.pinned (OpenSpec.upto liftFindsSpec)

/-- 'hearthlaw08.LiftAlls', WHERE WHAT IT READS IS OF BULK AT MOST 1048576: true; the input reads as it did. -/
def liftAllsUptoRow : OpenClaim := { program := "ytmadhnaeihdkeaagreat", sum := "1dd98bc4c95d7afbddc558e5ff785a7cde506014ff70566419d61a7a85ea0ae8", func := "hearth/hearthlaw08.LiftAlls", spec := "liftAlls", unfollowed := true, recurses := true, loops := true, apart := false, narrowed := true }
def LiftAllsUptoSaid : Prop := liftAllsUptoRow.holds Tryz.pinned (OpenSpec.upto liftAllsSpec)

/-- 'hearthlaw08.LiftShape', WHERE WHAT IT READS IS OF BULK AT MOST 1048576: true; the input reads as it did. -/
def liftShapeUptoRow : OpenClaim := { program := "ytmadhnaeihdkeaagreat", sum := "1dd98bc4c95d7afbddc558e5ff785a7cde506014ff70566419d61a7a85ea0ae8", func := "hearth/hearthlaw08.LiftShape", spec := "liftShape", unfollowed := true, recurses := true, loops := true, apart := false, narrowed := true }
def LiftShapeUptoSaid : Prop := liftShapeUptoRow.holds Tryz.pinned (OpenSpec.upto liftShapeSpec)

/-- 'hearthlaw08.LiftRest', WHERE WHAT IT READS IS OF BULK AT MOST 1048576: true; the input reads as it did. -/
def liftRestUptoRow : OpenClaim := { program := "ytmadhnaeihdkeaagreat", sum := "1dd98bc4c95d7afbddc558e5ff785a7cde506014ff70566419d61a7a85ea0ae8", func := "hearth/hearthlaw08.LiftRest", spec := "liftRest", unfollowed := true, recurses := true, loops := true, apart := false, narrowed := true }
def LiftRestUptoSaid : Prop := liftRestUptoRow.holds Tryz.pinned (OpenSpec.upto liftRestSpec)

end Rows
end Go.Proofs.YtmadhnaeihdkeaaGreat
