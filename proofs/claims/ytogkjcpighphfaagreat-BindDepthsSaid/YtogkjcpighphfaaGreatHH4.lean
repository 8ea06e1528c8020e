/-
  OWN WORK (the ways WRITTEN BY A PROGRAM): the law, by the contracts of what it calls.
-/
import Derived.Test.YtogkjcpighphfaaGreatHL
import Derived.Test.YtogkjcpighphfaaGreatHH3
set_option linter.unusedVariables false
set_option linter.unusedSimpArgs false
set_option linter.unusedSectionVars false
namespace Go.Hb
open Go.Proofs
theorem lDepths_E_0 (p : Prog) (y0 : Bool) (y1 : Bool) (h0 : Pure PP 8 [(Prog.av p)] (.bool y0)) (h1 : (!y0) = true) (h2 : Pure PP 9 [] (.bool y1)) :
    ∀ (w : World) (cargs : List Value), VRs (embOf w) [(Prog.av p)] cargs → Calls PP 4 ⟨cargs⟩ w fun e w' => e = .returned (.bool y1) ∧ RowKit.Grown w w' :=
  fun w cargs hv => calls_of_way (ps := [ty h0, ty h1, ty h2]) (is := [.run 9, .pure (.bool y0), .run 2, .b 13 true, .run 3, .pure (.bool y1), .run 3]) (by kernel_rfl) rfl (by kernel_rfl) ⟨h0, h1, h2⟩ w hv
theorem lDepths_E_1 (p : Prog) (y0 : Bool) (y1 : (List Int)) (y2 : Int) (y3 : (List Int)) (y4 : Int) (y5 : Bool) (y6 : Int) (y7 : Bool) (y8 : Int) (y9 : Bool) (y10 : Bool) (h0 : Pure PP 8 [(Prog.av p)] (.bool y0)) (h1 : (!y0) = false) (h2 : Pure PP 12 [(Prog.av p)] (.tup [(.ilst 1 (List.map avI y1) false), (.int .i64 y2)])) (h3 : Pure PP 13 [(Prog.av p)] (.tup [(.ilst 1 (List.map avI y3) false), (.int .i64 y4)])) (h4 : Pure PP 14 [(Prog.av p)] (.tup [(.bool y5), (.int .i64 y6)])) (h5 : Pure PP 15 [(Prog.av p)] (.tup [(.bool y7), (.int .i64 y8)])) (h6 : (y2 == y4) = true) (h7 : Pure PP 16 [(.ilst 1 (List.map avI y1) false), (.ilst 1 (List.map avI y3) false)] (.bool y9)) (h8 : y9 = true) (h9 : (y5 == y7) = true) (h10 : (y6 == y8) = true) (h11 : Pure PP 9 [] (.bool y10)) :
    ∀ (w : World) (cargs : List Value), VRs (embOf w) [(Prog.av p)] cargs → Calls PP 4 ⟨cargs⟩ w fun e w' => e = .returned (.bool y10) ∧ RowKit.Grown w w' :=
  fun w cargs hv => calls_of_way (ps := [ty h0, ty h1, ty h2, ty h3, ty h4, ty h5, ty h6, ty h7, ty h8, ty h9, ty h10, ty h11]) (is := [.run 9, .pure (.bool y0), .run 2, .b 13 false, .run 5, .pure (.tup [(.ilst 1 (List.map avI y1) false), (.int .i64 y2)]), .run 9, .pure (.tup [(.ilst 1 (List.map avI y3) false), (.int .i64 y4)]), .run 9, .pure (.tup [(.bool y5), (.int .i64 y6)]), .run 9, .pure (.tup [(.bool y7), (.int .i64 y8)]), .run 12, .b 38 true, .run 2, .pure (.bool y9), .run 2, .b 43 true, .run 5, .b 48 true, .run 5, .b 53 true, .pure (.bool y10), .run 4]) (by kernel_rfl) rfl (by kernel_rfl) ⟨h0, h1, h2, h3, h4, h5, h6, h7, h8, h9, h10, h11⟩ w hv
end Go.Hb

namespace Go.Hb
open Go.Proofs
theorem depthsOf_len {p : Prog} (hs : smallProg p = true) : (depthsOf p).1.length ≤ 1000 := by
  unfold depthsOf
  split
  · simp only [sizesR_len]
    simp only [smallProg, Bool.and_eq_true, decide_eq_true_eq] at hs
    omega
  · simp
/-- the law: whatever the program, it answers true -/
theorem lDepths_calls (p : Prog) (hk : Pure PP 9 [] (.bool true)) (w : World) (cargs : List Value) (hv : VRs (embOf w) [Prog.av p] cargs) :
    Calls Tryz.prog 4 ⟨cargs⟩ w fun e w' => e = .returned (.bool true) ∧ RowKit.Grown w w' := by
  have h0 := rSmallProg_pure p
  cases hs : smallProg p with
  | false =>
    rw [hs] at h0
    exact lDepths_E_0 p false true h0 (by rfl) hk w cargs hv
  | true =>
    rw [hs] at h0
    exact lDepths_E_1 p true _ _ _ _ _ _ _ _ true true h0 (by rfl) (bDepths_pure hs) (rDepths_pure hs) (bClosed_pure hs) (rClosed_pure hs) (beq_self_eq_true _) (rNumbers_pure _ (depthsOf_len hs)) rfl (beq_self_eq_true _) (beq_self_eq_true _) hk w cargs hv
end Go.Hb

