/-
  OWN WORK (the ways WRITTEN BY A PROGRAM): the law, by the contracts of what it calls.
-/
import Derived.Test.YtogkjcpighphfaaGreatHL
import Derived.Test.YtogkjcpighphfaaGreatHG5
set_option linter.unusedVariables false
set_option linter.unusedSimpArgs false
set_option linter.unusedSectionVars false
namespace Go.Hb
open Go.Proofs
theorem lForms_E_0 (p : Prog) (y0 : Bool) (y1 : Bool) (h0 : Pure Tryz.prog 8 [(Prog.av p)] (.bool y0)) (h1 : (!y0) = true) (h2 : Pure Tryz.prog 9 [] (.bool y1)) :
    ∀ (w : World) (cargs : List Value), VRs (embOf w) [(Prog.av p)] cargs → Calls Tryz.prog 3 ⟨cargs⟩ w fun e w' => e = .returned (.bool y1) ∧ RowKit.Grown w w' :=
  fun w cargs hv => calls_of_way (ps := [Pure Tryz.prog 8 [(Prog.av p)] (.bool y0), (!y0) = true, Pure Tryz.prog 9 [] (.bool y1)]) (is := [.run 9, .pure (.bool y0), .run 2, .b 5 true, .run 3, .pure (.bool y1), .run 3]) (by kernel_rfl) rfl (by kernel_rfl) ⟨h0, h1, h2⟩ w hv
theorem lForms_E_1 (p : Prog) (y0 : Bool) (y1 : Int) (y2 : Int) (y3 : Bool) (h0 : Pure Tryz.prog 8 [(Prog.av p)] (.bool y0)) (h1 : (!y0) = false) (h2 : Pure Tryz.prog 10 [(Prog.av p)] (.int .i64 y1)) (h3 : Pure Tryz.prog 11 [(Prog.av p)] (.int .i64 y2)) (h4 : (y1 == y2) = true) (h5 : Pure Tryz.prog 9 [] (.bool y3)) :
    ∀ (w : World) (cargs : List Value), VRs (embOf w) [(Prog.av p)] cargs → Calls Tryz.prog 3 ⟨cargs⟩ w fun e w' => e = .returned (.bool y3) ∧ RowKit.Grown w w' :=
  fun w cargs hv => calls_of_way (ps := [Pure Tryz.prog 8 [(Prog.av p)] (.bool y0), (!y0) = false, Pure Tryz.prog 10 [(Prog.av p)] (.int .i64 y1), Pure Tryz.prog 11 [(Prog.av p)] (.int .i64 y2), (y1 == y2) = true, Pure Tryz.prog 9 [] (.bool y3), (Prog.av p) = (Prog.av p), (Prog.av p) = (Prog.av p)]) (is := [.run 9, .pure (.bool y0), .run 2, .b 5 false, .run 3, .reg [.d, .pure (.int .i64 y1), .d, .pure (.int .i64 y2), .d, .d, .b 12 true, .pure (.bool y3), .d, .d], .run 1]) (by kernel_rfl) rfl (by kernel_rfl) ⟨h0, h1, h2, h3, h4, h5, rfl, rfl⟩ w hv
theorem lForms_E_2 (p : Prog) (y0 : Bool) (y1 : Int) (y2 : Int) (h0 : Pure Tryz.prog 8 [(Prog.av p)] (.bool y0)) (h1 : (!y0) = false) (h2 : Pure Tryz.prog 10 [(Prog.av p)] (.int .i64 y1)) (h3 : Pure Tryz.prog 11 [(Prog.av p)] (.int .i64 y2)) (h4 : (y1 == y2) = false) :
    ∀ (w : World) (cargs : List Value), VRs (embOf w) [(Prog.av p)] cargs → Calls Tryz.prog 3 ⟨cargs⟩ w fun e w' => e = .returned (.bool false) ∧ RowKit.Grown w w' :=
  fun w cargs hv => calls_of_way (ps := [Pure Tryz.prog 8 [(Prog.av p)] (.bool y0), (!y0) = false, Pure Tryz.prog 10 [(Prog.av p)] (.int .i64 y1), Pure Tryz.prog 11 [(Prog.av p)] (.int .i64 y2), (y1 == y2) = false, (Prog.av p) = (Prog.av p), (Prog.av p) = (Prog.av p)]) (is := [.run 9, .pure (.bool y0), .run 2, .b 5 false, .run 3, .reg [.d, .pure (.int .i64 y1), .d, .pure (.int .i64 y2), .d, .d, .b 12 false, .d, .d, .d], .run 1]) (by kernel_rfl) rfl (by kernel_rfl) ⟨h0, h1, h2, h3, h4, rfl, rfl⟩ w hv
end Go.Hb

namespace Go.Hb
open Go.Proofs
/-- the law: whatever the program, it answers true -/
theorem lForms_calls (p : Prog) (hk : Pure PP 9 [] (.bool true)) (w : World) (cargs : List Value) (hv : VRs (embOf w) [Prog.av p] cargs) :
    Calls Tryz.prog 3 ⟨cargs⟩ w fun e w' => e = .returned (.bool true) ∧ RowKit.Grown w w' := by
  cases hs : smallProg p with
  | false =>
    have h0 := rSmallProg_pure p
    rw [hs] at h0
    exact lForms_E_0 p false true h0 (by rfl) hk w cargs hv
  | true =>
    have h0 := rSmallProg_pure p
    rw [hs] at h0
    have h2 := bCheck_pure p hs
    rw [formed_eq] at h2
    exact lForms_E_1 p true (checkN (refFormed p)) (checkN (refFormed p)) true h0 (by rfl) h2 (rCheck_pure p hs) (beq_self_eq_true _) hk w cargs hv
end Go.Hb

