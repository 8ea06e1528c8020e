/-
  NARROWER THAN 'FOR EVERY INPUT', by the rows' own cells (each row's printed sentence says how): LinkMisses: loops · LinkLinks: loops · LinkPartly: loops · LinkWhole: loops · LinkParts: loops · LinkMoves: loops · LinkForms: loops · LinkTrims: loops · LinkAparts: loops · LinkBack: loops.
  DERIVED. THE GIVEN ROWS OF THIS SEAT. 10 by the template 'for every input the law returns true; each argument reads behind the call as it read before'; 0 by the template 'total and deterministic' (their statements: YtfaikcecgpcimaaGreatTotals.lean).
  GIVEN WITH THE SEED: the statements are not yours to turn. If you find one false, say at which input.
  Laid BY PROGRAM, IN A SANDBOX (cutbox-rows.mjs): the forced cells as the released guide's own fill.sh prints them over the translation 2e72c38265ec45dc… (all of the seat's roots in one cut). By AI agents, Wed Nov 11 2026. No macro, syntax, notation, axiom, sorry.
-/
import Derived.Test.YtfaikcecgpcimaaGreatChecked
import GoSem.Claim
import GoSem.ClaimJoined
import GoSem.ClaimMapViews
import Derived.JoinedTies
import Derived.KernelRfl
namespace Go.Proofs.YtfaikcecgpcimaaGreat
/- THE CELL 'sum', in the pinned program and in every row, IS THE sha256 OF THE DUMP (.gsa) THAT YtfaikcecgpcimaaGreatProg.lean LOADS. Nothing in Lean hashes anything: it is a label: what it is worth is what the hold of that sum in a sandbox is worth. -/
noncomputable def Tryz.pinned : Pinned := { name := "ytfaikcecgpcimaagreat", sum := "2e72c38265ec45dcb6f92cefd895b81f37cfe1383686a9a17a0fc3011412ebdc", checked := Tryz.checked }
namespace Rows
def none {H : Type} : Left H := { results := [], args := [] }

/-- 'hearthlaw14.LinkMisses': WHATEVER THE INPUT: true; the input reads as it did. -/
def linkMissesSpec : ChangeSpec := { name := "linkMisses", fn := fun _ => fun
  | [d] => { results := [.lit (.bool true)], args := [d] }
  | _ => none }
def linkMissesRow : OpenClaim := { program := "ytfaikcecgpcimaagreat", sum := "2e72c38265ec45dcb6f92cefd895b81f37cfe1383686a9a17a0fc3011412ebdc", func := "hearth/hearthlaw14.LinkMisses", spec := "linkMisses", unfollowed := true, recurses := true, loops := true, apart := false }
def LinkMissesSaid : Prop := linkMissesRow.holds Tryz.pinned (OpenSpec.ofChange linkMissesSpec)

/-- ITS FALSE NEIGHBOUR: 'it returns false'. Refute it at one input. -/
def linkMissesWrong : ChangeSpec := { name := "linkMisses", fn := fun _ => fun
  | [d] => { results := [.lit (.bool false)], args := [d] }
  | _ => none }
def LinkMissesWrongFalsely : Prop := linkMissesRow.holds Tryz.pinned (OpenSpec.ofChange linkMissesWrong)

/-- 'hearthlaw14.LinkLinks': WHATEVER THE INPUT: true; the input reads as it did. -/
def linkLinksSpec : ChangeSpec := { name := "linkLinks", fn := fun _ => fun
  | [d] => { results := [.lit (.bool true)], args := [d] }
  | _ => none }
def linkLinksRow : OpenClaim := { program := "ytfaikcecgpcimaagreat", sum := "2e72c38265ec45dcb6f92cefd895b81f37cfe1383686a9a17a0fc3011412ebdc", func := "hearth/hearthlaw14.LinkLinks", spec := "linkLinks", unfollowed := true, recurses := true, loops := true, apart := false }
def LinkLinksSaid : Prop := linkLinksRow.holds Tryz.pinned (OpenSpec.ofChange linkLinksSpec)

/-- ITS FALSE NEIGHBOUR: 'it returns false'. Refute it at one input. -/
def linkLinksWrong : ChangeSpec := { name := "linkLinks", fn := fun _ => fun
  | [d] => { results := [.lit (.bool false)], args := [d] }
  | _ => none }
def LinkLinksWrongFalsely : Prop := linkLinksRow.holds Tryz.pinned (OpenSpec.ofChange linkLinksWrong)

/-- 'hearthlaw14.LinkPartly': WHATEVER THE INPUT: true; the input reads as it did. -/
def linkPartlySpec : ChangeSpec := { name := "linkPartly", fn := fun _ => fun
  | [d1, d2] => { results := [.lit (.bool true)], args := [d1, d2] }
  | _ => none }
def linkPartlyRow : OpenClaim := { program := "ytfaikcecgpcimaagreat", sum := "2e72c38265ec45dcb6f92cefd895b81f37cfe1383686a9a17a0fc3011412ebdc", func := "hearth/hearthlaw14.LinkPartly", spec := "linkPartly", unfollowed := true, recurses := true, loops := true, apart := false }
def LinkPartlySaid : Prop := linkPartlyRow.holds Tryz.pinned (OpenSpec.ofChange linkPartlySpec)

/-- ITS FALSE NEIGHBOUR: 'it returns false'. Refute it at one input. -/
def linkPartlyWrong : ChangeSpec := { name := "linkPartly", fn := fun _ => fun
  | [d1, d2] => { results := [.lit (.bool false)], args := [d1, d2] }
  | _ => none }
def LinkPartlyWrongFalsely : Prop := linkPartlyRow.holds Tryz.pinned (OpenSpec.ofChange linkPartlyWrong)

/-- 'hearthlaw14.LinkWhole': WHATEVER THE INPUT: true; the input reads as it did. -/
def linkWholeSpec : ChangeSpec := { name := "linkWhole", fn := fun _ => fun
  | [d] => { results := [.lit (.bool true)], args := [d] }
  | _ => none }
def linkWholeRow : OpenClaim := { program := "ytfaikcecgpcimaagreat", sum := "2e72c38265ec45dcb6f92cefd895b81f37cfe1383686a9a17a0fc3011412ebdc", func := "hearth/hearthlaw14.LinkWhole", spec := "linkWhole", unfollowed := true, recurses := true, loops := true, apart := false }
def LinkWholeSaid : Prop := linkWholeRow.holds Tryz.pinned (OpenSpec.ofChange linkWholeSpec)

/-- ITS FALSE NEIGHBOUR: 'it returns false'. Refute it at one input. -/
def linkWholeWrong : ChangeSpec := { name := "linkWhole", fn := fun _ => fun
  | [d] => { results := [.lit (.bool false)], args := [d] }
  | _ => none }
def LinkWholeWrongFalsely : Prop := linkWholeRow.holds Tryz.pinned (OpenSpec.ofChange linkWholeWrong)

/-- 'hearthlaw14.LinkParts': WHATEVER THE INPUT: true; the input reads as it did. -/
def linkPartsSpec : ChangeSpec := { name := "linkParts", fn := fun _ => fun
  | [d1, d2] => { results := [.lit (.bool true)], args := [d1, d2] }
  | _ => none }
def linkPartsRow : OpenClaim := { program := "ytfaikcecgpcimaagreat", sum := "2e72c38265ec45dcb6f92cefd895b81f37cfe1383686a9a17a0fc3011412ebdc", func := "hearth/hearthlaw14.LinkParts", spec := "linkParts", unfollowed := true, recurses := true, loops := true, apart := false }
def LinkPartsSaid : Prop := linkPartsRow.holds Tryz.pinned (OpenSpec.ofChange linkPartsSpec)

/-- ITS FALSE NEIGHBOUR: 'it returns false'. Refute it at one input. -/
def linkPartsWrong : ChangeSpec := { name := "linkParts", fn := fun _ => fun
  | [d1, d2] => { results := [.lit (.bool false)], args := [d1, d2] }
  | _ => none }
def LinkPartsWrongFalsely : Prop := linkPartsRow.holds Tryz.pinned (OpenSpec.ofChange linkPartsWrong)

/-- 'hearthlaw14.LinkMoves': WHATEVER THE INPUT: true; the input reads as it did. -/
def linkMovesSpec : ChangeSpec := { name := "linkMoves", fn := fun _ => fun
  | [d1, d2, d3] => { results := [.lit (.bool true)], args := [d1, d2, d3] }
  | _ => none }
def linkMovesRow : OpenClaim := { program := "ytfaikcecgpcimaagreat", sum := "2e72c38265ec45dcb6f92cefd895b81f37cfe1383686a9a17a0fc3011412ebdc", func := "hearth/hearthlaw14.LinkMoves", spec := "linkMoves", unfollowed := true, recurses := true, loops := true, apart := false }
def LinkMovesSaid : Prop := linkMovesRow.holds Tryz.pinned (OpenSpec.ofChange linkMovesSpec)

/-- ITS FALSE NEIGHBOUR: 'it returns false'. Refute it at one input. -/
def linkMovesWrong : ChangeSpec := { name := "linkMoves", fn := fun _ => fun
  | [d1, d2, d3] => { results := [.lit (.bool false)], args := [d1, d2, d3] }
  | _ => none }
def LinkMovesWrongFalsely : Prop := linkMovesRow.holds Tryz.pinned (OpenSpec.ofChange linkMovesWrong)

/-- 'hearthlaw14.LinkForms': WHATEVER THE INPUT: true; the input reads as it did. -/
def linkFormsSpec : ChangeSpec := { name := "linkForms", fn := fun _ => fun
  | [d1, d2] => { results := [.lit (.bool true)], args := [d1, d2] }
  | _ => none }
def linkFormsRow : OpenClaim := { program := "ytfaikcecgpcimaagreat", sum := "2e72c38265ec45dcb6f92cefd895b81f37cfe1383686a9a17a0fc3011412ebdc", func := "hearth/hearthlaw14.LinkForms", spec := "linkForms", unfollowed := true, recurses := true, loops := true, apart := false }
def LinkFormsSaid : Prop := linkFormsRow.holds Tryz.pinned (OpenSpec.ofChange linkFormsSpec)

/-- ITS FALSE NEIGHBOUR: 'it returns false'. Refute it at one input. -/
def linkFormsWrong : ChangeSpec := { name := "linkForms", fn := fun _ => fun
  | [d1, d2] => { results := [.lit (.bool false)], args := [d1, d2] }
  | _ => none }
def LinkFormsWrongFalsely : Prop := linkFormsRow.holds Tryz.pinned (OpenSpec.ofChange linkFormsWrong)

/-- 'hearthlaw14.LinkTrims': WHATEVER THE INPUT: true; the input reads as it did. -/
def linkTrimsSpec : ChangeSpec := { name := "linkTrims", fn := fun _ => fun
  | [d] => { results := [.lit (.bool true)], args := [d] }
  | _ => none }
def linkTrimsRow : OpenClaim := { program := "ytfaikcecgpcimaagreat", sum := "2e72c38265ec45dcb6f92cefd895b81f37cfe1383686a9a17a0fc3011412ebdc", func := "hearth/hearthlaw14.LinkTrims", spec := "linkTrims", unfollowed := true, recurses := true, loops := true, apart := false }
def LinkTrimsSaid : Prop := linkTrimsRow.holds Tryz.pinned (OpenSpec.ofChange linkTrimsSpec)

/-- ITS FALSE NEIGHBOUR: 'it returns false'. Refute it at one input. -/
def linkTrimsWrong : ChangeSpec := { name := "linkTrims", fn := fun _ => fun
  | [d] => { results := [.lit (.bool false)], args := [d] }
  | _ => none }
def LinkTrimsWrongFalsely : Prop := linkTrimsRow.holds Tryz.pinned (OpenSpec.ofChange linkTrimsWrong)

/-- 'hearthlaw14.LinkAparts': WHATEVER THE INPUT: true; the input reads as it did. -/
def linkApartsSpec : ChangeSpec := { name := "linkAparts", fn := fun _ => fun
  | [d1, d2] => { results := [.lit (.bool true)], args := [d1, d2] }
  | _ => none }
def linkApartsRow : OpenClaim := { program := "ytfaikcecgpcimaagreat", sum := "2e72c38265ec45dcb6f92cefd895b81f37cfe1383686a9a17a0fc3011412ebdc", func := "hearth/hearthlaw14.LinkAparts", spec := "linkAparts", unfollowed := true, recurses := true, loops := true, apart := false }
def LinkApartsSaid : Prop := linkApartsRow.holds Tryz.pinned (OpenSpec.ofChange linkApartsSpec)

/-- ITS FALSE NEIGHBOUR: 'it returns false'. Refute it at one input. -/
def linkApartsWrong : ChangeSpec := { name := "linkAparts", fn := fun _ => fun
  | [d1, d2] => { results := [.lit (.bool false)], args := [d1, d2] }
  | _ => none }
def LinkApartsWrongFalsely : Prop := linkApartsRow.holds Tryz.pinned (OpenSpec.ofChange linkApartsWrong)

/-- 'hearthlaw14.LinkBack': WHATEVER THE INPUT: true; the input reads as it did. -/
def linkBackSpec : ChangeSpec := { name := "linkBack", fn := fun _ => fun
  | [d1, d2] => { results := [.lit (.bool true)], args := [d1, d2] }
  | _ => none }
def linkBackRow : OpenClaim := { program := "ytfaikcecgpcimaagreat", sum := "2e72c38265ec45dcb6f92cefd895b81f37cfe1383686a9a17a0fc3011412ebdc", func := "hearth/hearthlaw14.LinkBack", spec := "linkBack", unfollowed := true, recurses := true, loops := true, apart := false }
def LinkBackSaid : Prop := linkBackRow.holds Tryz.pinned (OpenSpec.ofChange linkBackSpec)

/-- ITS FALSE NEIGHBOUR: 'it returns false'. Refute it at one input. -/
def linkBackWrong : ChangeSpec := { name := "linkBack", fn := fun _ => fun
  | [d1, d2] => { results := [.lit (.bool false)], args := [d1, d2] }
  | _ => none }
def LinkBackWrongFalsely : Prop := linkBackRow.holds Tryz.pinned (OpenSpec.ofChange linkBackWrong)

/- THE SECOND FORM. 'bulk': how many values and letters a reading holds, each counted each time it is reached (what is shared counts as often as it is met; a slice's spare places count too). A statement '..UptoSaid' is the law's where the arguments, and the package variables that the reading takes, are together of bulk at most 1048576: NARROWER than '..Said'. Prove '..Said' where nothing that the law and all that it calls make is longer than what came in: it says more and counts as full. Else prove '..UptoSaid'. A law counts once. -/
mutual
def uptoBulk {H : Type} : DataW H → Nat
  | .lit (.string bytes) => bytes.length + 1
  | .lit _ => 1
  | .nil => 1
  | .ptr d => uptoBulk d + 1
  | .slice elems spare => uptoBulkAll elems + uptoBulkAll spare + 1
  | .agg parts => uptoBulkAll parts + 1
  | .iface _ d => uptoBulk d + 1
  | .map entries => uptoBulkEntries entries + 1
  | .held _ => 1
def uptoBulkAll {H : Type} : List (DataW H) → Nat
  | [] => 0
  | d :: r => uptoBulk d + uptoBulkAll r
def uptoBulkEntries {H : Type} : List (Lit × DataW H) → Nat
  | [] => 0
  | x :: r => uptoBulkEntry x + uptoBulkEntries r
def uptoBulkEntry {H : Type} : Lit × DataW H → Nat
  | (.string bytes, d) => bytes.length + uptoBulk d + 1
  | (_, d) => uptoBulk d + 1
 end
def uptoSmall : (H : Type) → List (DataW H) → Bool := fun _ ds => decide (uptoBulkAll ds ≤ 1048576)
def OpenSpec.upto (s : _root_.Go.ChangeSpec) : _root_.Go.OpenSpec := { _root_.Go.OpenSpec.ofChange s with cond := some uptoSmall }

/-- 'hearthlaw14.LinkMisses', WHERE WHAT IT READS IS OF BULK AT MOST 1048576: true; the input reads as it did. -/
def linkMissesUptoRow : OpenClaim := { program := "ytfaikcecgpcimaagreat", sum := "2e72c38265ec45dcb6f92cefd895b81f37cfe1383686a9a17a0fc3011412ebdc", func := "hearth/hearthlaw14.LinkMisses", spec := "linkMisses", unfollowed := true, recurses := true, loops := true, apart := false, narrowed := true }
def LinkMissesUptoSaid : Prop := linkMissesUptoRow.holds Tryz.pinned (OpenSpec.upto linkMissesSpec)

/-- 'hearthlaw14.LinkLinks', WHERE WHAT IT READS IS OF BULK AT MOST 1048576: true; the input reads as it did. -/
def linkLinksUptoRow : OpenClaim := { program := "ytfaikcecgpcimaagreat", sum := "2e72c38265ec45dcb6f92cefd895b81f37cfe1383686a9a17a0fc3011412ebdc", func := "hearth/hearthlaw14.LinkLinks", spec := "linkLinks", unfollowed := true, recurses := true, loops := true, apart := false, narrowed := true }
def LinkLinksUptoSaid : Prop := linkLinksUptoRow.holds Tryz.pinned (OpenSpec.upto linkLinksSpec)

/-- 'hearthlaw14.LinkPartly', WHERE WHAT IT READS IS OF BULK AT MOST 1048576: true; the input reads as it did. -/
def linkPartlyUptoRow : OpenClaim := { program := "ytfaikcecgpcimaagreat", sum := "2e72c38265ec45dcb6f92cefd895b81f37cfe1383686a9a17a0fc3011412ebdc", func := "hearth/hearthlaw14.LinkPartly", spec := "linkPartly", unfollowed := true, recurses := true, loops := true, apart := false, narrowed := true }
def LinkPartlyUptoSaid : Prop := linkPartlyUptoRow.holds Tryz.pinned (OpenSpec.upto linkPartlySpec)

/-- 'hearthlaw14.LinkWhole', WHERE WHAT IT READS IS OF BULK AT MOST 1048576: true; the input reads as it did. -/
def linkWholeUptoRow : OpenClaim := { program := "ytfaikcecgpcimaagreat", sum := "2e72c38265ec45dcb6f92cefd895b81f37cfe1383686a9a17a0fc3011412ebdc", func := "hearth/hearthlaw14.LinkWhole", spec := "linkWhole", unfollowed := true, recurses := true, loops := true, apart := false, narrowed := true }
def LinkWholeUptoSaid : Prop := linkWholeUptoRow.holds Tryz.pinned (OpenSpec.upto linkWholeSpec)

/-- 'hearthlaw14.LinkParts', WHERE WHAT IT READS IS OF BULK AT MOST 1048576: true; the input reads as it did. -/
def linkPartsUptoRow : OpenClaim := { program := "ytfaikcecgpcimaagreat", sum := "2e72c38265ec45dcb6f92cefd895b81f37cfe1383686a9a17a0fc3011412ebdc", func := "hearth/hearthlaw14.LinkParts", spec := "linkParts", unfollowed := true, recurses := true, loops := true, apart := false, narrowed := true }
def LinkPartsUptoSaid : Prop := linkPartsUptoRow.holds Tryz.pinned (OpenSpec.upto linkPartsSpec)

/-- 'hearthlaw14.LinkMoves', WHERE WHAT IT READS IS OF BULK AT MOST 1048576: true; the input reads as it did. -/
def linkMovesUptoRow : OpenClaim := { program := "ytfaikcecgpcimaagreat", sum := "2e72c38265ec45dcb6f92cefd895b81f37cfe1383686a9a17a0fc3011412ebdc", func := "hearth/hearthlaw14.LinkMoves", spec := "linkMoves", unfollowed := true, recurses := true, loops := true, apart := false, narrowed := true }
def LinkMovesUptoSaid : Prop := linkMovesUptoRow.holds Tryz.pinned (OpenSpec.upto linkMovesSpec)

/-- 'hearthlaw14.LinkForms', WHERE WHAT IT READS IS OF BULK AT MOST 1048576: true; the input reads as it did. -/
def linkFormsUptoRow : OpenClaim := { program := "ytfaikcecgpcimaagreat", sum := "2e72c38265ec45dcb6f92cefd895b81f37cfe1383686a9a17a0fc3011412ebdc", func := "hearth/hearthlaw14.LinkForms", spec := "linkForms", unfollowed := true, recurses := true, loops := true, apart := false, narrowed := true }
def LinkFormsUptoSaid : Prop := linkFormsUptoRow.holds Tryz.pinned (OpenSpec.upto linkFormsSpec)

/-- 'hearthlaw14.LinkTrims', WHERE WHAT IT READS IS OF BULK AT MOST 1048576: true; the input reads as it did. -/
def linkTrimsUptoRow : OpenClaim := { program := "ytfaikcecgpcimaagreat", sum := "2e72c38265ec45dcb6f92cefd895b81f37cfe1383686a9a17a0fc3011412ebdc", func := "hearth/hearthlaw14.LinkTrims", spec := "linkTrims", unfollowed := true, recurses := true, loops := true, apart := false, narrowed := true }
def LinkTrimsUptoSaid : Prop := linkTrimsUptoRow.holds Tryz.pinned (OpenSpec.upto linkTrimsSpec)

/-- 'hearthlaw14.LinkAparts', WHERE WHAT IT READS IS OF BULK AT MOST 1048576: true; the input reads as it did. -/
def linkApartsUptoRow : OpenClaim := { program := "ytfaikcecgpcimaagreat", sum := "2e72c38265ec45dcb6f92cefd895b81f37cfe1383686a9a17a0fc3011412ebdc", func := "hearth/hearthlaw14.LinkAparts", spec := "linkAparts", unfollowed := true, recurses := true, loops := true, apart := false, narrowed := true }
def LinkApartsUptoSaid : Prop := linkApartsUptoRow.holds Tryz.pinned (OpenSpec.upto linkApartsSpec)

/-- 'hearthlaw14.LinkBack', WHERE WHAT IT READS IS OF BULK AT MOST 1048576: true; the input reads as it did. -/
def linkBackUptoRow : OpenClaim := { program := "ytfaikcecgpcimaagreat", sum := "2e72c38265ec45dcb6f92cefd895b81f37cfe1383686a9a17a0fc3011412ebdc", func := "hearth/hearthlaw14.LinkBack", spec := "linkBack", unfollowed := true, recurses := true, loops := true, apart := false, narrowed := true }
def LinkBackUptoSaid : Prop := linkBackUptoRow.holds Tryz.pinned (OpenSpec.upto linkBackSpec)

end Rows
end Go.Proofs.YtfaikcecgpcimaaGreat
