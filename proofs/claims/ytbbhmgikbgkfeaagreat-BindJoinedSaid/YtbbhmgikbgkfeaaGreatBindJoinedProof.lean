/-
  'BindJoinedSaid' holds: for every argument the call returns true, and each argument reads afterwards as it did.
  No condition. OWN WORK on the frame of the guide's template: the arguments that came in are lists that nobody writes (the module HL); the law's ways are run on the abstract machine, its callees by their contracts; known() is a closed run.
-/
import Derived.Test.YtbbhmgikbgkfeaaGreatRows
import Derived.WalkKit
import Derived.ProofKit
import Derived.OpenShut
import Derived.ChangeStays
import Derived.ChangeBook
import Derived.ChangeOld
import Derived.Deep.Frames
import Derived.Test.YtbbhmgikbgkfeaaGreatHZ
import Derived.Test.YtbbhmgikbgkfeaaGreatHK
namespace Go.Proofs.YtbbhmgikbgkfeaaGreat.bindJoined
open Go.ChangeShapes Go.WideShapes Go.ChangeAt Go.RowKit
set_option linter.unusedVariables false
theorem own : ownKnob Tryz.prog.godebug = none := by kernel_rfl
theorem laidOut : laidOutB Tryz.prog = true := by kernel_rfl
theorem rec26 : Tryz.prog.readableRec 26 = true := by kernel_rfl
theorem row26 : (26 : TypeId) < Tryz.prog.types.size := of_decide_eq_true (by kernel_rfl)
/-- what came in reads as it did -/
theorem again {H : Type} {enc : TypeId × Value → H} {W W' : World} (hg : Grown W W') {sp : Nat → Bool} {v : Value} {d : DataW H} {ps : List MemPlace} (h : DataW.Trod enc Tryz.prog W 0 (fun _ => true) true 26 v d ps) (hs : ∀ p ∈ ps, sp p.block = true) :
    DataW.Trod enc Tryz.prog W' 0 sp true 26 v d ps := by
  obtain ⟨fuel, h⟩ := h
  have hlt := DataW.trod_lt fuel 26 v.cells.toList _ h
  refine ⟨fuel, DataW.trod_stays (kids_book laidOut rec26) (book_sized rec26) (fun h => by cases h) ⟨row26, book_self 26⟩ h (fun p hp => World.keptBut.sameAt hg.1 (hlt p hp) (fun hf => hf.elim) (fun b e => ?_)) hs⟩
  have := DataW.trod_good (kids_book laidOut rec26) (fun h => by cases h) fuel 26 v.cells.toList _ ⟨row26, book_self 26⟩ h p hp
  subst e
  exact this
set_option maxRecDepth 100000 in
/-- a program that came in is data of the machine -/
theorem came {H : Type} {enc : TypeId × Value → H} {W : World} {base : Nat} {v : Value} {d : DataW H} {ps : List MemPlace} (hval : Value.okWide Tryz.prog W .any base 26 v) (h : DataW.Trod enc Tryz.prog W 0 (fun _ => true) true 26 v d ps) :
    ∃ p : Hb.Prog, Hb.VR (Hb.embOf W) (Hb.Prog.av p) v := by
  obtain ⟨fuel, h⟩ := h
  have hc : ∃ cs, v = .agg cs := by
    simp only [Value.okWide, Tryz.underlying26] at hval
    exact hval.elim fun cs hc => ⟨cs, hc.1⟩
  obtain ⟨cs, rfl⟩ := hc
  exact Hb.lift_prog fuel _ _ h
set_option maxRecDepth 100000 in
theorem lifted (os : Os) (started : os.Started) (H : Type) (enc : TypeId × Value → H) :
    ReturnsInHanded {} Tryz.checked os 3 .any (Rows.bindJoinedSpec.pre6 enc Tryz.prog Tryz.f3 Rows.bindJoinedRow.domain false) (Rows.bindJoinedSpec.post enc Tryz.prog Tryz.f3 false true false false) := by
  refine returnsInHanded_of_change (C := Tryz.checked) own started (by kernel_rfl) Tryz.func3
    (ChangeSpec.witness6 (enc := enc) (C := Tryz.checked) false ⟨#[], #[.agg #[.slice none 0 0, .slice none 0 0, .int .i64 0, .slice none 0 0], .agg #[.slice none 0 0, .slice none 0 0, .int .i64 0, .slice none 0 0], .agg #[.slice none 0 0, .slice none 0 0, .int .i64 0, .slice none 0 0]], []⟩ 8 (by kernel_rfl) (by kernel_rfl) (by kernel_rfl) (by kernel_rfl)) ?_
  intro W base args ds gs before hval0 hW hcnd _
  have hval : ∀ (j : Nat) t v, Tryz.f3.params[j]? = some t → args[j]? = some v → Value.okWide Tryz.prog W .any base t v := hval0
  have hW' := hW
  obtain ⟨p, q, hA0, hV, rfl, hfz, hnd⟩ := hW
  have hA : DataW.TrodAll enc Tryz.prog W 0 (fun _ => true) true Tryz.f3.params.toList args.toList ds p := hA0
  rw [Tryz.params3] at hA hval
  obtain ⟨v0, vs0, d0, ds0, p0, q0, hargs, rfl, rfl, h0, r0⟩ := trodAll_cons hA
  obtain ⟨v1, vs1, d1, ds1, p1, q1, rfl, rfl, rfl, h1, r1⟩ := trodAll_cons r0
  obtain ⟨v2, vs2, d2, ds2, p2, q2, rfl, rfl, rfl, h2, r2⟩ := trodAll_cons r1
  obtain ⟨rfl, rfl, rfl⟩ := trodAll_nil r2
  obtain rfl : args = #[v0, v1, v2] := by cases args; simp_all
  obtain ⟨rfl, rfl⟩ := trodVars_none hV
  obtain ⟨x0, y0⟩ := came (hval 0 26 v0 rfl rfl) h0
  obtain ⟨x1, y1⟩ := came (hval 1 26 v1 rfl rfl) h1
  obtain ⟨x2, y2⟩ := came (hval 2 26 v2 rfl rfl) h2
  clear hA0 hval0
  simp only [List.append_nil] at hW'
  refine (Hb.lJoined_calls x0 x1 x2 Hb.known_pure W [v0, v1, v2] (Hb.VRs.cons y0 (Hb.VRs.cons y1 (Hb.VRs.cons y2 (Hb.VRs.nil _))))).mono fun e W' ⟨he, hg⟩ => ?_
  subst he
  exact ⟨_, rfl, post_of_same (pa := p0 ++ (p1 ++ p2)) (pv := []) hW' (fun _ _ _ => (trodAll_cons_mk (shut_bool Tryz.underlying4 _) trodAll_mk0)) (fun sp hsp => trodAll_mk3 (again hg h0 fun p hp => hsp p (by simp [hp])) (again hg h1 fun p hp => hsp p (by simp [hp])) (again hg h2 fun p hp => hsp p (by simp [hp]))) (fun _ _ => rfl) (by simp)
    (hg.frame _) hg.2.1 (ok_one (by kernel_rfl) rfl (okWide_bool_mk Tryz.underlying4 _))⟩

theorem over : Rows.bindJoinedRow.holds Tryz.pinned (OpenSpec.ofChange Rows.bindJoinedSpec) :=
  OpenClaim.holds_of_wide 3 Tryz.f3 rfl rfl rfl rfl rfl rfl rfl ⟨rfl, rfl, rfl, rfl, rfl⟩ rfl rfl rfl rfl rfl (by kernel_rfl) Tryz.func3 (by kernel_rfl)
    (of_decide_eq_true (by kernel_rfl)) (by unfold Func.isWrapper; first | (rw [if_pos (by decide +kernel)]; kernel_rfl) | (rw [if_neg (by decide +kernel)]; exact ⟨rfl, rfl⟩))
    (fun os started H enc _ => lifted os started H enc)

/-- ████ THE STATEMENT ████ -/
theorem proved : Rows.BindJoinedSaid :=
  over
#print axioms proved
end Go.Proofs.YtbbhmgikbgkfeaaGreat.bindJoined
