/-
  OWN WORK (V14, V15, V16, H3, H4, V21, H1, H2, V22): a machine on abstract values, its soundness, ways through the text (the ways WRITTEN BY A PROGRAM), plain laws.
-/
import Derived.Test.YtogkjcpighphfaaGreatHF
import Derived.Test.YtogkjcpighphfaaGreatHH
set_option linter.unusedVariables false
set_option linter.unusedSimpArgs false
set_option linter.unusedSectionVars false
set_option maxRecDepth 100000
namespace Go.Hb
open Go.Proofs
set_option maxHeartbeats 2000000
theorem sdW {p : Prop} (h : p := by simp_all only [inB_iff, inB_not, beq_iff_eq, decide_eq_true_eq, decide_eq_false_iff_not] <;> omega) : p := h
theorem idW {p : Prop} (h : p := by exact ⟨_, List.getElem?_eq_getElem (by simp_all only [inB_iff, inB_not, beq_iff_eq, decide_eq_true_eq, decide_eq_false_iff_not] <;> omega)⟩) : p := h
/-! ### patterns -/
theorem bEvP_loop (l : List Pat) (p : Prog) (hl : l.length < 1000000) (ih : ∀ q ∈ l, Pure PP 133 [Prog.av p, Pat.av q] (.bool (patOk p.cons q))) :
  ∀ (t : List Pat) (i : Nat), l.drop i = t → Ends PP 0 (bEvP_c0 l p (i : Int)).as (.ret (.bool (patsOk p.cons t))) (hpOf [] 0)
 | [], i, h => by
  have := dropN h
  exact Ends.eqv (bEvP_0_2 l p i sd) (by simp [patsOk])
 | .mk f n s ps :: t, i, h => by
  obtain ⟨g1, g2, g3⟩ := dropC h
  have hq := ih (.mk f n s ps) (List.mem_of_getElem? g1)
  cases k : patOk p.cons (.mk f n s ps) with
  | false =>
   rw [k] at hq
   exact Ends.eqv (bEvP_0_0 l p i f n s ps false sd sd sd hq rfl) (by simp [patsOk, k])
  | true =>
   rw [k] at hq
   refine (bEvP_0_1 l p i f n s ps true sd sd sd hq rfl sd).ends ?_
   exact Ends.eqv (bEvP_loop l p hl ih t (i + 1) g2) (by simp [patsOk, k])
theorem bEvP_pure (l : List Pat) (p : Prog) (hl : l.length < 1000000) (ih : ∀ q ∈ l, Pure PP 133 [Prog.av p, Pat.av q] (.bool (patOk p.cons q))) :
  Pure PP 135 [.ilst 4 (Pats.av l) false, .func 133 [Prog.av p] []] (.bool (patsOk p.cons l)) :=
 pure_at (by kernel_rfl) (by simp [AV.keylessL, AV.keyless, Prog.av]) rfl ((bEvP_E_0 l p).ends (bEvP_loop l p hl ih l 0 rfl))

theorem bPat_E (p : Prog) (q_form q_n : Int) (q_text : Str) (q_parts : List Pat) (hc : p.cons.length ≤ 1000) (hev : Pure PP 135 [.ilst 4 (Pats.av q_parts) false, .func 133 [Prog.av p] []] (.bool (patsOk p.cons q_parts))) :
  Ends PP 0 (start PP 133 [Prog.av p, Pat.av (.mk q_form q_n q_text q_parts)]).as (.ret (.bool (patOk p.cons (.mk q_form q_n q_text q_parts)))) (hpOf [] 0) := by
 have hw : IntKind.i64.wrap ((p.cons.length : Int) - 1) = (p.cons.length : Int) - 1 := by apply wrap64 <;> omega
 cases hb1 : (!(strEq (List.length q_text) (bytesNat q_text) 0 0)) with
 | true =>
  exact Ends.eqv (bPat_E_0 p q_form q_n q_text q_parts   hb1) (by clear hev; simp_all [patOk, patHead, argsAt, strEq_nil, len_beq] <;> rfl)
 | false =>
  cases hb2 : (!(patsOk p.cons q_parts)) with
  | true =>
   exact Ends.eqv (bPat_E_1 p q_form q_n q_text q_parts  (patsOk p.cons q_parts) hb1 hev hb2) (by clear hev; simp_all [patOk, patHead, argsAt, strEq_nil, len_beq] <;> rfl)
  | false =>
   cases hb3 : (q_form == (1 : Int)) with
   | true =>
    cases hb4 : (q_n == (0 : Int)) with
    | true =>
     exact Ends.eqv (bPat_E_2 p q_form q_n q_text q_parts  (patsOk p.cons q_parts) hb1 hev hb2 hb3 hb4) (by clear hev; simp_all [patOk, patHead, argsAt, strEq_nil, len_beq] <;> rfl)
    | false =>
     exact Ends.eqv (bPat_E_3 p q_form q_n q_text q_parts  (patsOk p.cons q_parts) hb1 hev hb2 hb3 hb4) (by clear hev; simp_all [patOk, patHead, argsAt, strEq_nil, len_beq] <;> rfl)
   | false =>
    cases hb5 : (q_form == (2 : Int)) with
    | true =>
     cases hb6 : (q_n == (0 : Int)) with
     | true =>
      exact Ends.eqv (bPat_E_4 p q_form q_n q_text q_parts  (patsOk p.cons q_parts) hb1 hev hb2 hb3 hb5 hb6) (by clear hev; simp_all [patOk, patHead, argsAt, strEq_nil, len_beq] <;> rfl)
     | false =>
      exact Ends.eqv (bPat_E_5 p q_form q_n q_text q_parts  (patsOk p.cons q_parts) hb1 hev hb2 hb3 hb5 hb6) (by clear hev; simp_all [patOk, patHead, argsAt, strEq_nil, len_beq] <;> rfl)
    | false =>
     cases hb7 : (q_form == (5 : Int)) with
     | true =>
      cases hb8 : (q_n == (0 : Int)) with
      | true =>
       exact Ends.eqv (bPat_E_6 p q_form q_n q_text q_parts  (patsOk p.cons q_parts) hb1 hev hb2 hb3 hb5 hb7 hb8) (by clear hev; simp_all [patOk, patHead, argsAt, strEq_nil, len_beq] <;> rfl)
      | false =>
       exact Ends.eqv (bPat_E_7 p q_form q_n q_text q_parts  (patsOk p.cons q_parts) hb1 hev hb2 hb3 hb5 hb7 hb8) (by clear hev; simp_all [patOk, patHead, argsAt, strEq_nil, len_beq] <;> rfl)
     | false =>
      cases hb9 : (q_form == (3 : Int)) with
      | true =>
       cases hb10 : (inB q_n (-1000000000) 1000000000) with
       | true =>
        exact Ends.eqv (bPat_E_8 p q_form q_n q_text q_parts  (patsOk p.cons q_parts) (inB q_n (-1000000000) 1000000000) hb1 hev hb2 hb3 hb5 hb7 hb9 (bInt_pure q_n) hb10) (by clear hev; simp_all [patOk, patHead, argsAt, strEq_nil, len_beq] <;> rfl)
       | false =>
        exact Ends.eqv (bPat_E_9 p q_form q_n q_text q_parts  (patsOk p.cons q_parts) (inB q_n (-1000000000) 1000000000) hb1 hev hb2 hb3 hb5 hb7 hb9 (bInt_pure q_n) hb10) (by clear hev; simp_all [patOk, patHead, argsAt, strEq_nil, len_beq] <;> rfl)
      | false =>
       cases hb11 : (q_form == (4 : Int)) with
       | true =>
        cases hb12 : (inB q_n 0 1) with
        | true =>
         exact Ends.eqv (bPat_E_10 p q_form q_n q_text q_parts  (patsOk p.cons q_parts) (inB q_n 0 1) hb1 hev hb2 hb3 hb5 hb7 hb9 hb11 (bIn_pure q_n 0 1) hb12) (by clear hev; simp_all [patOk, patHead, argsAt, strEq_nil, len_beq] <;> rfl)
        | false =>
         exact Ends.eqv (bPat_E_11 p q_form q_n q_text q_parts  (patsOk p.cons q_parts) (inB q_n 0 1) hb1 hev hb2 hb3 hb5 hb7 hb9 hb11 (bIn_pure q_n 0 1) hb12) (by clear hev; simp_all [patOk, patHead, argsAt, strEq_nil, len_beq] <;> rfl)
       | false =>
        cases hb13 : (q_form == (6 : Int)) with
        | true =>
         cases hb14 : (inB q_n 0 (IntKind.i64.wrap (((List.length p.cons : Nat) : Int) - (1 : Int)))) with
         | true =>
          obtain ⟨y2, hx15⟩ : ∃ y, ((p.cons)[q_n.toNat]?) = some y := idW
          exact Ends.eqv (bPat_E_12 p q_form q_n q_text q_parts  (patsOk p.cons q_parts) (inB q_n 0 (IntKind.i64.wrap (((List.length p.cons : Nat) : Int) - (1 : Int)))) y2 hb1 hev hb2 hb3 hb5 hb7 hb9 hb11 hb13 (bIn_pure q_n 0 (IntKind.i64.wrap (((List.length p.cons : Nat) : Int) - (1 : Int)))) hb14 sdW hx15) (by clear hev; simp_all [patOk, patHead, argsAt, strEq_nil, len_beq] <;> rfl)
         | false =>
          exact Ends.eqv (bPat_E_13 p q_form q_n q_text q_parts  (patsOk p.cons q_parts) (inB q_n 0 (IntKind.i64.wrap (((List.length p.cons : Nat) : Int) - (1 : Int)))) hb1 hev hb2 hb3 hb5 hb7 hb9 hb11 hb13 (bIn_pure q_n 0 (IntKind.i64.wrap (((List.length p.cons : Nat) : Int) - (1 : Int)))) hb14) (by clear hev; simp_all [patOk, patHead, argsAt, strEq_nil, len_beq] <;> rfl)
        | false =>
         exact Ends.eqv (bPat_E_14 p q_form q_n q_text q_parts  (patsOk p.cons q_parts) hb1 hev hb2 hb3 hb5 hb7 hb9 hb11 hb13) (by clear hev; simp_all [patOk, patHead, argsAt, strEq_nil, len_beq] <;> rfl)
mutual
theorem bPat_pure (p : Prog) (hc : p.cons.length ≤ 1000) : ∀ (q : Pat), psize q < 1000000 → Pure PP 133 [Prog.av p, Pat.av q] (.bool (patOk p.cons q))
 | .mk f n s ps, h => by
  refine pure_at (by kernel_rfl) (by simp [AV.keylessL, pat_kl, AV.keyless, Prog.av]) rfl ?_
  simp only [psize] at h
  have := psizes_len ps
  exact bPat_E p f n s ps hc (bEvP_pure ps p (by omega) (bPat_all p hc ps (by omega)))
theorem bPat_all (p : Prog) (hc : p.cons.length ≤ 1000) : ∀ (ps : List Pat), psizes ps < 1000000 → ∀ q ∈ ps, Pure PP 133 [Prog.av p, Pat.av q] (.bool (patOk p.cons q))
 | [], _, q, hq => by cases hq
 | r :: ps, h, q, hq => by
  simp only [psizes] at h
  rcases List.mem_cons.1 hq with e | hq
  · rw [e]; exact bPat_pure p hc r (by omega)
  · exact bPat_all p hc ps (by omega) q hq
end
/-! ### kids -/
def fixedK (op : Int) : Option Int :=
 if op = 1 ∨ op = 2 ∨ op = 3 ∨ op = 4 ∨ op = 21 ∨ op = 25 ∨ op = 28 then some 0
 else if op = 5 ∨ op = 27 ∨ op = 16 ∨ op = 17 ∨ op = 19 ∨ op = 20 ∨ op = 23 ∨ op = 26 ∨ op = 24 then some 1
 else if op = 6 ∨ op = 7 ∨ op = 9 ∨ op = 10 ∨ op = 11 ∨ op = 12 ∨ op = 13 ∨ op = 18 ∨ op = 22 then some 2
 else if op = 8 then some 3 else none
def kidsOfV (op : Int) : AV :=
 match fixedK op with
 | some k => .iface 231 (.int .i64 k)
 | none => if op = 15 then .iface 189 (.agg []) else if op = 14 then .iface 232 (.agg []) else .nili
theorem kidsN_fixed {op k : Int} (h : fixedK op = some k) (pats args : Int) : kidsN op pats args = k ∧ op ≠ 15 ∧ op ≠ 14 := by
 unfold fixedK at h
 unfold kidsN
 split at h
 · rename_i g; rw [if_pos g]; simp only [Option.some.injEq] at h; refine ⟨h, ?_, ?_⟩ <;> omega
 · rename_i g0; rw [if_neg g0]
   split at h
   · rename_i g; rw [if_pos g]; simp only [Option.some.injEq] at h; refine ⟨h, ?_, ?_⟩ <;> omega
   · rename_i g1; rw [if_neg g1]
     split at h
     · rename_i g; rw [if_pos g]; simp only [Option.some.injEq] at h; refine ⟨h, ?_, ?_⟩ <;> omega
     · rename_i g2; rw [if_neg g2]
       split at h
       · rename_i g; rw [if_pos g]; simp only [Option.some.injEq] at h; refine ⟨h, ?_, ?_⟩ <;> omega
       · cases h
theorem kidsN_none {op : Int} (h : fixedK op = none) (pats args : Int) : kidsN op pats args = if op = 15 then 1 + pats else if op = 14 then args else -1 := by
 unfold fixedK at h
 unfold kidsN
 split at h
 · cases h
 · rename_i g0; rw [if_neg g0]
   split at h
   · cases h
   · rename_i g1; rw [if_neg g1]
     split at h
     · cases h
     · rename_i g2; rw [if_neg g2]
       split at h
       · cases h
       · rename_i g; rw [if_neg g]

theorem bKidsOf_E (op : Int) : Ends PP 0 (start PP 130 [.int .i64 op]).as (.ret (kidsOfV op)) (hpOf [] 0) := by
 cases hb1 : (op == (1 : Int)) with
 | true =>
  exact Ends.eqv (bKidsOf_E_0 op   hb1) (by simp_all [kidsOfV, fixedK])
 | false =>
  cases hb2 : (op == (2 : Int)) with
  | true =>
   exact Ends.eqv (bKidsOf_E_1 op   hb1 hb2) (by simp_all [kidsOfV, fixedK])
  | false =>
   cases hb3 : (op == (3 : Int)) with
   | true =>
    exact Ends.eqv (bKidsOf_E_2 op   hb1 hb2 hb3) (by simp_all [kidsOfV, fixedK])
   | false =>
    cases hb4 : (op == (4 : Int)) with
    | true =>
     exact Ends.eqv (bKidsOf_E_3 op   hb1 hb2 hb3 hb4) (by simp_all [kidsOfV, fixedK])
    | false =>
     cases hb5 : (op == (21 : Int)) with
     | true =>
      exact Ends.eqv (bKidsOf_E_4 op   hb1 hb2 hb3 hb4 hb5) (by simp_all [kidsOfV, fixedK])
     | false =>
      cases hb6 : (op == (25 : Int)) with
      | true =>
       exact Ends.eqv (bKidsOf_E_5 op   hb1 hb2 hb3 hb4 hb5 hb6) (by simp_all [kidsOfV, fixedK])
      | false =>
       cases hb7 : (op == (28 : Int)) with
       | true =>
        exact Ends.eqv (bKidsOf_E_6 op   hb1 hb2 hb3 hb4 hb5 hb6 hb7) (by simp_all [kidsOfV, fixedK])
       | false =>
        cases hb8 : (op == (5 : Int)) with
        | true =>
         exact Ends.eqv (bKidsOf_E_7 op   hb1 hb2 hb3 hb4 hb5 hb6 hb7 hb8) (by simp_all [kidsOfV, fixedK])
        | false =>
         cases hb9 : (op == (27 : Int)) with
         | true =>
          exact Ends.eqv (bKidsOf_E_8 op   hb1 hb2 hb3 hb4 hb5 hb6 hb7 hb8 hb9) (by simp_all [kidsOfV, fixedK])
         | false =>
          cases hb10 : (op == (16 : Int)) with
          | true =>
           exact Ends.eqv (bKidsOf_E_9 op   hb1 hb2 hb3 hb4 hb5 hb6 hb7 hb8 hb9 hb10) (by simp_all [kidsOfV, fixedK])
          | false =>
           cases hb11 : (op == (17 : Int)) with
           | true =>
            exact Ends.eqv (bKidsOf_E_10 op   hb1 hb2 hb3 hb4 hb5 hb6 hb7 hb8 hb9 hb10 hb11) (by simp_all [kidsOfV, fixedK])
           | false =>
            cases hb12 : (op == (19 : Int)) with
            | true =>
             exact Ends.eqv (bKidsOf_E_11 op   hb1 hb2 hb3 hb4 hb5 hb6 hb7 hb8 hb9 hb10 hb11 hb12) (by simp_all [kidsOfV, fixedK])
            | false =>
             cases hb13 : (op == (20 : Int)) with
             | true =>
              exact Ends.eqv (bKidsOf_E_12 op   hb1 hb2 hb3 hb4 hb5 hb6 hb7 hb8 hb9 hb10 hb11 hb12 hb13) (by simp_all [kidsOfV, fixedK])
             | false =>
              cases hb14 : (op == (23 : Int)) with
              | true =>
               exact Ends.eqv (bKidsOf_E_13 op   hb1 hb2 hb3 hb4 hb5 hb6 hb7 hb8 hb9 hb10 hb11 hb12 hb13 hb14) (by simp_all [kidsOfV, fixedK])
              | false =>
               cases hb15 : (op == (24 : Int)) with
               | true =>
                exact Ends.eqv (bKidsOf_E_14 op   hb1 hb2 hb3 hb4 hb5 hb6 hb7 hb8 hb9 hb10 hb11 hb12 hb13 hb14 hb15) (by simp_all [kidsOfV, fixedK])
               | false =>
                cases hb16 : (op == (26 : Int)) with
                | true =>
                 exact Ends.eqv (bKidsOf_E_15 op   hb1 hb2 hb3 hb4 hb5 hb6 hb7 hb8 hb9 hb10 hb11 hb12 hb13 hb14 hb15 hb16) (by simp_all [kidsOfV, fixedK])
                | false =>
                 cases hb17 : (op == (6 : Int)) with
                 | true =>
                  exact Ends.eqv (bKidsOf_E_16 op   hb1 hb2 hb3 hb4 hb5 hb6 hb7 hb8 hb9 hb10 hb11 hb12 hb13 hb14 hb15 hb16 hb17) (by simp_all [kidsOfV, fixedK])
                 | false =>
                  cases hb18 : (op == (7 : Int)) with
                  | true =>
                   exact Ends.eqv (bKidsOf_E_17 op   hb1 hb2 hb3 hb4 hb5 hb6 hb7 hb8 hb9 hb10 hb11 hb12 hb13 hb14 hb15 hb16 hb17 hb18) (by simp_all [kidsOfV, fixedK])
                  | false =>
                   cases hb19 : (op == (9 : Int)) with
                   | true =>
                    exact Ends.eqv (bKidsOf_E_18 op   hb1 hb2 hb3 hb4 hb5 hb6 hb7 hb8 hb9 hb10 hb11 hb12 hb13 hb14 hb15 hb16 hb17 hb18 hb19) (by simp_all [kidsOfV, fixedK])
                   | false =>
                    cases hb20 : (op == (10 : Int)) with
                    | true =>
                     exact Ends.eqv (bKidsOf_E_19 op   hb1 hb2 hb3 hb4 hb5 hb6 hb7 hb8 hb9 hb10 hb11 hb12 hb13 hb14 hb15 hb16 hb17 hb18 hb19 hb20) (by simp_all [kidsOfV, fixedK])
                    | false =>
                     cases hb21 : (op == (11 : Int)) with
                     | true =>
                      exact Ends.eqv (bKidsOf_E_20 op   hb1 hb2 hb3 hb4 hb5 hb6 hb7 hb8 hb9 hb10 hb11 hb12 hb13 hb14 hb15 hb16 hb17 hb18 hb19 hb20 hb21) (by simp_all [kidsOfV, fixedK])
                     | false =>
                      cases hb22 : (op == (12 : Int)) with
                      | true =>
                       exact Ends.eqv (bKidsOf_E_21 op   hb1 hb2 hb3 hb4 hb5 hb6 hb7 hb8 hb9 hb10 hb11 hb12 hb13 hb14 hb15 hb16 hb17 hb18 hb19 hb20 hb21 hb22) (by simp_all [kidsOfV, fixedK])
                      | false =>
                       cases hb23 : (op == (13 : Int)) with
                       | true =>
                        exact Ends.eqv (bKidsOf_E_22 op   hb1 hb2 hb3 hb4 hb5 hb6 hb7 hb8 hb9 hb10 hb11 hb12 hb13 hb14 hb15 hb16 hb17 hb18 hb19 hb20 hb21 hb22 hb23) (by simp_all [kidsOfV, fixedK])
                       | false =>
                        cases hb24 : (op == (18 : Int)) with
                        | true =>
                         exact Ends.eqv (bKidsOf_E_23 op   hb1 hb2 hb3 hb4 hb5 hb6 hb7 hb8 hb9 hb10 hb11 hb12 hb13 hb14 hb15 hb16 hb17 hb18 hb19 hb20 hb21 hb22 hb23 hb24) (by simp_all [kidsOfV, fixedK])
                        | false =>
                         cases hb25 : (op == (22 : Int)) with
                         | true =>
                          exact Ends.eqv (bKidsOf_E_24 op   hb1 hb2 hb3 hb4 hb5 hb6 hb7 hb8 hb9 hb10 hb11 hb12 hb13 hb14 hb15 hb16 hb17 hb18 hb19 hb20 hb21 hb22 hb23 hb24 hb25) (by simp_all [kidsOfV, fixedK])
                         | false =>
                          cases hb26 : (op == (8 : Int)) with
                          | true =>
                           exact Ends.eqv (bKidsOf_E_25 op   hb1 hb2 hb3 hb4 hb5 hb6 hb7 hb8 hb9 hb10 hb11 hb12 hb13 hb14 hb15 hb16 hb17 hb18 hb19 hb20 hb21 hb22 hb23 hb24 hb25 hb26) (by simp_all [kidsOfV, fixedK])
                          | false =>
                           cases hb27 : (op == (14 : Int)) with
                           | true =>
                            exact Ends.eqv (bKidsOf_E_26 op   hb1 hb2 hb3 hb4 hb5 hb6 hb7 hb8 hb9 hb10 hb11 hb12 hb13 hb14 hb15 hb16 hb17 hb18 hb19 hb20 hb21 hb22 hb23 hb24 hb25 hb26 hb27) (by simp_all [kidsOfV, fixedK])
                           | false =>
                            cases hb28 : (op == (15 : Int)) with
                            | true =>
                             exact Ends.eqv (bKidsOf_E_27 op   hb1 hb2 hb3 hb4 hb5 hb6 hb7 hb8 hb9 hb10 hb11 hb12 hb13 hb14 hb15 hb16 hb17 hb18 hb19 hb20 hb21 hb22 hb23 hb24 hb25 hb26 hb27 hb28) (by simp_all [kidsOfV, fixedK])
                            | false =>
                             exact Ends.eqv (bKidsOf_E_28 op   hb1 hb2 hb3 hb4 hb5 hb6 hb7 hb8 hb9 hb10 hb11 hb12 hb13 hb14 hb15 hb16 hb17 hb18 hb19 hb20 hb21 hb22 hb23 hb24 hb25 hb26 hb27 hb28) (by simp_all [kidsOfV, fixedK])
theorem kidsOfV_kl (op : Int) : AV.keyless (kidsOfV op) = true := by
 unfold kidsOfV; split
 · rfl
 · split
   · rfl
   · split <;> rfl
theorem bKidsOf_pure (op : Int) : Pure PP 130 [.int .i64 op] (kidsOfV op) :=
 pure_at (by kernel_rfl) rfl (kidsOfV_kl op) (bKidsOf_E op)
/-! ### nodes -/
theorem bNode_loop (p : Prog) (x : Node) (hc : p.cons.length ≤ 1000) (hx : x.pats.length ≤ 10) :
  ∀ (t : List Pat) (i : Nat), x.pats.drop i = t → Ends PP 0 (bNode_c0 p x (i : Int)).as (.ret (.bool (t.all (nodePat p.cons)))) (hpOf [] 0)
 | [], i, h => by
  have := dropN h
  exact Ends.eqv (bNode_0_3 p x i sd) (by simp)
 | .mk f n s ps :: t, i, h => by
  obtain ⟨g1, g2, g3⟩ := dropC h
  have hs := bSize_pure (.mk f n s ps) 12 (by omega) (by omega)
  by_cases k : psize (.mk f n s ps) ≤ 12
  · have hg : bsize (.mk f n s ps) 12 ≤ 12 := (bsize_iff (.mk f n s ps) 12 (by omega)).2 (by omega)
    have hq := bPat_pure p hc (.mk f n s ps) (by omega)
    cases kq : patOk p.cons (.mk f n s ps) with
    | false =>
     rw [kq] at hq
     exact Ends.eqv (bNode_0_0 p x i f n s ps _ false sd sd sd hs (decide_eq_true hg) hq rfl) (by simp [nodePat, kq])
    | true =>
     rw [kq] at hq
     refine (bNode_0_1 p x i f n s ps _ true sd sd sd hs (decide_eq_true hg) hq rfl sd).ends ?_
     exact Ends.eqv (bNode_loop p x hc hx t (i + 1) g2) (by simp [nodePat, k, kq])
  · have hg : ¬ bsize (.mk f n s ps) 12 ≤ 12 := fun g => k (by have := (bsize_iff (.mk f n s ps) 12 (by omega)).1 g; omega)
    exact Ends.eqv (bNode_0_2 p x i f n s ps _ sd sd sd hs (decide_eq_false hg)) (by simp [nodePat, k])
theorem bNode_pure (p : Prog) (x : Node) (hc : p.cons.length ≤ 1000) (hf : p.funs.length ≤ 1000) (hx : x.pats.length ≤ 10) (hk : x.kids.length ≤ 10) : Pure PP 79 [Prog.av p, Node.av x] (.bool (nodeOk p x)) := by
 refine pure_at (by kernel_rfl) rfl rfl ?_
 have hw : IntKind.i64.wrap ((p.cons.length : Int) - 1) = (p.cons.length : Int) - 1 := by apply wrap64 <;> omega
 have hko := bKidsOf_pure x.op
 have hn := bNumber_pure p x hf
 have hl := bNode_loop p x hc hx x.pats 0 rfl
 cases kf : fixedK x.op with
 | some k =>
  obtain ⟨e1, e2, e3⟩ := kidsN_fixed kf (x.pats.length : Int) (nodeArgs p x)
  have ev : kidsOfV x.op = .iface 231 (.int .i64 k) := by unfold kidsOfV; rw [kf]
  rw [ev] at hko
  have en : nodeOk p x = (numOk p x && decide (x.pats.length = 0) && x.pats.all (nodePat p.cons) && decide ((x.kids.length : Int) = k)) := by
   simp only [nodeOk, nodeHead, numOk, e1, if_neg e2, if_neg e3]
  rw [en]
  by_cases g0 : x.pats.length = 0
  · by_cases g1 : (x.kids.length : Int) = k
    · have b1 : (((List.length x.kids : Nat) : Int) == k) = true := by simp [g1]
      cases g2 : numOk p x with
      | false =>
       rw [g2] at hn
       exact Ends.eqv (bNode_E_11 p x k false hko sd b1 hn rfl) (by simp)
      | true =>
       rw [g2] at hn
       refine (bNode_E_10 p x k true hko sd b1 hn rfl).ends ?_
       exact Ends.eqv hl (by simp [g0, g1])
    · have b1 : (((List.length x.kids : Nat) : Int) == k) = false := by simp [g1]
      exact Ends.eqv (bNode_E_12 p x k hko sd b1) (by simp [g1])
  · exact Ends.eqv (bNode_E_9 p x k hko sd) (by simp [g0])
 | none =>
  have e1 := kidsN_none kf (x.pats.length : Int) (nodeArgs p x)
  by_cases h15 : x.op = 15
  · have ev : kidsOfV x.op = .iface 189 (.agg []) := by unfold kidsOfV; rw [kf]; simp only [h15, if_true]
    rw [ev] at hko
    have en : nodeOk p x = (numOk p x && inB (x.pats.length : Int) 1 5 && x.pats.all (nodePat p.cons) && decide ((x.kids.length : Int) = 1 + (x.pats.length : Int))) := by
     simp only [nodeOk, nodeHead, numOk, e1, if_pos h15, if_neg (show ¬ x.op = 14 by omega)]
    rw [en]
    have hi := bIn_pure (x.pats.length : Int) 1 5
    cases g0 : inB (x.pats.length : Int) 1 5 with
    | false =>
     rw [g0] at hi
     exact Ends.eqv (bNode_E_3 p x false hko hi rfl) (by simp)
    | true =>
     rw [g0] at hi
     by_cases g1 : (x.kids.length : Int) = 1 + (x.pats.length : Int)
     · have b1 : (((List.length x.kids : Nat) : Int) == ((1 : Int) + ((List.length x.pats : Nat) : Int))) = true := by simp [g1]
       cases g2 : numOk p x with
       | false =>
        rw [g2] at hn
        exact Ends.eqv (bNode_E_1 p x true false hko hi rfl sd b1 hn rfl) (by simp)
       | true =>
        rw [g2] at hn
        refine (bNode_E_0 p x true true hko hi rfl sd b1 hn rfl).ends ?_
        exact Ends.eqv hl (by simp [g1])
     · have b1 : (((List.length x.kids : Nat) : Int) == ((1 : Int) + ((List.length x.pats : Nat) : Int))) = false := by simp [g1]
       exact Ends.eqv (bNode_E_2 p x true hko hi rfl sd b1) (by simp [g1])
  · by_cases h14 : x.op = 14
    · have ev : kidsOfV x.op = .iface 232 (.agg []) := by unfold kidsOfV; rw [kf]; simp [h14]
      rw [ev] at hko
      have en : nodeOk p x = (inB x.n 0 ((p.cons.length : Int) - 1) && decide (x.pats.length = 0) && x.pats.all (nodePat p.cons) && decide ((x.kids.length : Int) = nodeArgs p x)) := by
       simp only [nodeOk, nodeHead, nodeHead1, e1, if_neg h15, if_pos h14, if_neg (show ¬ x.op = 1 by omega), if_neg (show ¬ x.op = 2 by omega), if_neg (show ¬ x.op = 4 by omega), if_neg (show ¬ x.op = 24 by omega)]
      rw [en]
      by_cases g0 : x.pats.length = 0
      · have hi := bIn_pure x.n 0 ((p.cons.length : Int) - 1)
        rw [← hw] at hi
        cases g1 : inB x.n 0 ((p.cons.length : Int) - 1) with
        | false =>
         rw [hw, g1, ← hw] at hi
         exact Ends.eqv (bNode_E_8 p x false hko sd hi rfl) (by simp)
        | true =>
         rw [hw, g1, ← hw] at hi
         have hb := inB_iff.1 g1
         obtain ⟨c, hcx⟩ : ∃ c, p.cons[x.n.toNat]? = some c := ⟨_, List.getElem?_eq_getElem (by omega)⟩
         have ea : nodeArgs p x = c.args := by simp [nodeArgs, h14, g1, argsAt, hcx]
         rw [ea]
         by_cases g2 : (x.kids.length : Int) = c.args
         · have b1 : (((List.length x.kids : Nat) : Int) == c.args) = true := by simp [g2]
           have hnn : numOk p x = true := by simp [numOk, h14]
           rw [hnn] at hn
           refine (bNode_E_5 p x true c true hko sd hi rfl (by omega) hcx b1 hn rfl).ends ?_
           exact Ends.eqv hl (by simp [g0, g2])
         · have b1 : (((List.length x.kids : Nat) : Int) == c.args) = false := by simp [g2]
           exact Ends.eqv (bNode_E_7 p x true c hko sd hi rfl (by omega) hcx b1) (by simp [g2])
      · exact Ends.eqv (bNode_E_4 p x hko sd) (by simp [g0])
    · have ev : kidsOfV x.op = .nili := by unfold kidsOfV; rw [kf]; simp [h15, h14]
      rw [ev] at hko
      have en : nodeOk p x = false := by
       have : kidsN x.op x.pats.length (nodeArgs p x) = -1 := by rw [e1, if_neg h15, if_neg h14]
       have h2 : ¬ (x.kids.length : Int) = -1 := by omega
       simp [nodeOk, this, h2]
      rw [en]
      exact bNode_E_13 p x hko
end Go.Hb
namespace Go.Hb
open Go.Proofs
set_option maxHeartbeats 1000000
/-! ### strings that differ -/
def insAll : List Str → List (Str × Bool) → List (Str × Bool)
 | [], m => m
 | x :: t, m => insAll t (mIns x true m)
theorem bDiffer_loop (l : List Str) (hl : l.length < 1000000) : ∀ (t : List Str) (i : Nat) (m : List (Str × Bool)), l.drop i = t → Ends PP 0 (bDiffer_c0 l (i : Int) m).as (.ret (.bool (decide ((insAll t m).length = l.length)))) (hpOf [] 0)
 | [], i, m, h => by
  have := dropN h
  refine Ends.eqv (bDiffer_0_1 l i m sd) ?_
  have : (((List.length m : Nat) : Int) == ((List.length l : Nat) : Int)) = decide (m.length = l.length) := by
   by_cases k : m.length = l.length <;> simp [k] <;> omega
  rw [this]; rfl
 | x :: t, i, m, h => by
  obtain ⟨g1, g2, g3⟩ := dropC h
  refine (bDiffer_0_0 l i m x sd sd sd sd).ends ?_
  exact bDiffer_loop l hl t (i + 1) _ g2
theorem mIns_old {k : Str} {v w : Bool} : ∀ {m : List (Str × Bool)}, mGet k m = some w → (mIns k v m).map Prod.fst = m.map Prod.fst
 | [], h => by cases h
 | e :: m, h => by
  unfold mGet at h
  unfold mIns
  split at h
  · rename_i hk; rw [if_pos hk]; simp [hk]
  · rename_i hk; rw [if_neg hk]; simp [mIns_old h]
theorem mIns_new {k : Str} {v : Bool} : ∀ {m : List (Str × Bool)}, mGet k m = none → (mIns k v m).map Prod.fst = m.map Prod.fst ++ [k]
 | [], _ => rfl
 | e :: m, h => by
  unfold mGet at h
  unfold mIns
  split at h
  · cases h
  · rename_i hk; rw [if_neg hk]; simp [mIns_new h]
theorem mGet_has {k : Str} : ∀ {m : List (Str × Bool)}, (mGet k m).isSome = hasS (m.map Prod.fst) k
 | [] => rfl
 | e :: m => by
  unfold mGet
  split
  · rename_i hk; simp [hasS, hk]
  · rename_i hk
    have : ¬ e.1 = k := fun h => hk h.symm
    rw [mGet_has]; simp [hasS, this]
theorem insAll_le : ∀ (t : List Str) (m : List (Str × Bool)), (insAll t m).length ≤ m.length + t.length
 | [], m => by simp [insAll]
 | x :: t, m => by
  have a := insAll_le t (mIns x true m)
  have b : (mIns x true m).length ≤ m.length + 1 := by
   cases h : mGet x m with
   | none => have := congrArg List.length (mIns_new (v := true) h); simp at this; omega
   | some w => have := congrArg List.length (mIns_old (v := true) h); simp at this; omega
  simp only [insAll, List.length_cons]; omega
theorem insAll_iff : ∀ (t : List Str) (m : List (Str × Bool)), (insAll t m).length = m.length + t.length ↔ differFrom (m.map Prod.fst) t = true
 | [], m => by simp [insAll, differFrom]
 | x :: t, m => by
  simp only [insAll, differFrom]
  cases h : mGet x m with
  | some w =>
   have e := mIns_old (v := true) h
   have hs : hasS (m.map Prod.fst) x = true := by rw [← mGet_has, h]; rfl
   have a := insAll_le t (mIns x true m)
   have b := congrArg List.length e
   simp only [List.length_map] at b
   rw [hs]
   constructor
   · intro g; simp only [List.length_cons] at g; omega
   · intro g; simp at g
  | none =>
   have e := mIns_new (v := true) h
   have hs : hasS (m.map Prod.fst) x = false := by rw [← mGet_has, h]; rfl
   have ih := insAll_iff t (mIns x true m)
   have b := congrArg List.length e
   simp only [List.length_map, List.length_append, List.length_singleton] at b
   rw [hs, ← e]
   simp only [Bool.not_false, Bool.true_and, List.length_cons]
   rw [← ih, b]
   omega
theorem bDiffer_pure (l : List Str) (hl : l.length < 1000000) : Pure PP 75 [.ilst 1 (List.map avS l) false] (.bool (differS l)) := by
 refine pure_at (by kernel_rfl) rfl rfl ((bDiffer_E_0 l).ends (Ends.eqv (bDiffer_loop l hl l 0 [] rfl) ?_))
 have := insAll_iff l []
 simp only [List.length_nil, Nat.zero_add, List.map_nil] at this
 congr 1
 cases k : differS l with
 | true => exact decide_eq_true (this.2 k)
 | false => exact decide_eq_false fun g => by have := this.1 g; unfold differS at k; rw [k] at this; cases this
/-! ### every -/
theorem bEvC_loop (l : List Con) (hl : l.length < 1000000) : ∀ (t : List Con) (i : Nat), l.drop i = t → Ends PP 0 (bEvC_c0 l (i : Int)).as (.ret (.bool (t.all consOk1))) (hpOf [] 0)
 | [], i, h => by
  have := dropN h
  exact Ends.eqv (bEvC_0_2 l i sd) (by simp)
 | c :: t, i, h => by
  obtain ⟨g1, g2, g3⟩ := dropC h
  have hq := bCon_pure c
  cases k : consOk1 c with
  | false => rw [k] at hq; exact Ends.eqv (bEvC_0_0 l i c false sd sd sd hq rfl) (by simp [k])
  | true =>
   rw [k] at hq
   refine (bEvC_0_1 l i c true sd sd sd hq rfl sd).ends ?_
   exact Ends.eqv (bEvC_loop l hl t (i + 1) g2) (by simp [k])
theorem bEvC_pure (l : List Con) (hl : l.length < 1000000) : Pure PP 73 [.ilst 2 (List.map Con.av l) false, .func 74 [] []] (.bool (l.all consOk1)) :=
 pure_at (by kernel_rfl) rfl rfl ((bEvC_E_0 l).ends (bEvC_loop l hl l 0 rfl))
theorem bEvN_loop (l : List Node) (p : Prog) (hl : l.length < 1000000) (ih : ∀ x ∈ l, Pure PP 79 [Prog.av p, Node.av x] (.bool (nodeOk p x))) : ∀ (t : List Node) (i : Nat), l.drop i = t → Ends PP 0 (bEvN_c0 l p (i : Int)).as (.ret (.bool (t.all (nodeOk p)))) (hpOf [] 0)
 | [], i, h => by
  have := dropN h
  exact Ends.eqv (bEvN_0_2 l p i sd) (by simp)
 | c :: t, i, h => by
  obtain ⟨g1, g2, g3⟩ := dropC h
  have hq := ih c (List.mem_of_getElem? g1)
  cases k : nodeOk p c with
  | false => rw [k] at hq; exact Ends.eqv (bEvN_0_0 l p i c false sd sd sd hq rfl) (by simp [k])
  | true =>
   rw [k] at hq
   refine (bEvN_0_1 l p i c true sd sd sd hq rfl sd).ends ?_
   exact Ends.eqv (bEvN_loop l p hl ih t (i + 1) g2) (by simp [k])
theorem bEvN_pure (l : List Node) (p : Prog) (hl : l.length < 1000000) (ih : ∀ x ∈ l, Pure PP 79 [Prog.av p, Node.av x] (.bool (nodeOk p x))) : Pure PP 78 [.ilst 4 (List.map Node.av l) false, .func 79 [Prog.av p] []] (.bool (l.all (nodeOk p))) :=
 pure_at (by kernel_rfl) rfl rfl ((bEvN_E_0 l p).ends (bEvN_loop l p hl ih l 0 rfl))
def one (k : Int) : Bool := decide (k = 1)
theorem bEvI_loop (l : List Int) (hl : l.length < 1000000) : ∀ (t : List Int) (i : Nat), l.drop i = t → Ends PP 0 (bEvI_c0 l (i : Int)).as (.ret (.bool (t.all one))) (hpOf [] 0)
 | [], i, h => by
  have := dropN h
  exact Ends.eqv (bEvI_0_2 l i sd) (by simp)
 | c :: t, i, h => by
  obtain ⟨g1, g2, g3⟩ := dropC h
  by_cases k : c = 1
  · refine (bEvI_0_1 l i c sd sd sd (by simp [k]) sd).ends ?_
    exact Ends.eqv (bEvI_loop l hl t (i + 1) g2) (by simp [k, one])
  · exact Ends.eqv (bEvI_0_0 l i c sd sd sd (by simp [k])) (by simp [k, one])
theorem bEvI_pure (l : List Int) (hl : l.length < 1000000) : Pure PP 80 [.ilst 1 (List.map avI l) true, .func 81 [] []] (.bool (l.all one)) :=
 pure_at (by kernel_rfl) rfl rfl ((bEvI_E_0 l).ends (bEvI_loop l hl l 0 rfl))
theorem bMap_loop (l : List Con) (hl : l.length < 100000) : ∀ (t : List Con) (i : Nat), l.drop i = t → Ends PP 0 (bMap_c0 l (i : Int) (consNames (l.take i))).as (.ret (.ilst 1 (List.map avS (consNames l)) false)) (hpOf [] 0)
 | [], i, h => by
  have hi := dropN h
  have e : consNames (l.take i) = consNames l := by rw [List.take_of_length_le hi]
  rw [e]
  exact bMap_0_1 l i _ sd
 | c :: t, i, h => by
  obtain ⟨g1, g2, g3⟩ := dropC h
  have e : consNames (l.take i) ++ [c.name] = consNames (l.take (i + 1)) := by
   rw [List.take_add_one, g1]; simp [consNames]
  refine (bMap_0_0 l i (consNames (l.take i)) c sd sd sd (by simp [consNames]; omega) sd).ends ?_
  rw [e]
  exact bMap_loop l hl t (i + 1) g2
theorem bMap_pure (l : List Con) (hl : l.length < 100000) : Pure PP 76 [.ilst 2 (List.map Con.av l) false, .func 77 [] []] (.ilst 1 (List.map avS (consNames l)) false) :=
 pure_at (by kernel_rfl) rfl rfl ((bMap_E_0 l).ends (bMap_loop l hl l 0 rfl))
/-! ### owned nodes -/
def incs (lo n : Int) : List Int → List Int → Option (List Int)
 | [], c => some c
 | k :: ks, c => if inB k lo (n - 1) = true then incs lo n ks (c.set k.toNat (c.getD k.toNat 0 + 1)) else none
def bNodes (p : Prog) : Nat → List Node → List Int → Option (List Int)
 | _, [], c => some c
 | i, x :: t, c => match incs ((i : Int) + 1) (p.nodes.length : Int) x.kids c with
   | some d => bNodes p (i + 1) t d
   | none => none
def allOnes : Option (List Int) → Bool
 | some c => c.all one
 | none => false
/-- numbers that stay small -/
def below (b : Int) (c : List Int) : Prop := ∀ k ∈ c, 0 ≤ k ∧ k ≤ b
theorem below_get {b : Int} {c : List Int} (h : below b c) {i : Nat} {z : Int} (hz : c[i]? = some z) : 0 ≤ z ∧ z ≤ b := h z (List.mem_of_getElem? hz)
theorem below_set {b : Int} {c : List Int} (h : below b c) {i : Nat} {z : Int} (hz : c[i]? = some z) : below (b + 1) (c.set i (z + 1)) := fun k hk => by
 rcases List.mem_or_eq_of_mem_set hk with g | g
 · have := h k g; omega
 · have := below_get h hz; omega
theorem bF2 (p : Prog) (i : Nat) (hi : i < p.nodes.length) (hn : p.nodes.length ≤ 1000) (ks : List Int) (hk : ks.length ≤ 1000) (K : List Int → Bool) (B : Int) (hB : 0 ≤ B) (hB2 : B ≤ 1000000)
  (hb : ∀ v : List Int, v.length = p.nodes.length → below (B + ks.length) v → Ends PP 0 (bFormed_c1 p v ((i : Int) + 1)).as (.ret (.bool (K v))) (hpOf [] 0)) :
  ∀ (t : List Int) (k : Nat) (c : List Int), c.length = p.nodes.length → k ≤ ks.length → below (B + k) c → ks.drop k = t → Ends PP 0 (bFormed_c2 p ks (ks.length : Int) c (k : Int) (i : Int) (i : Int)).as (.ret (.bool (match incs ((i : Int) + 1) p.nodes.length t c with | some v => K v | none => false))) (hpOf [] 0)
 | [], k, c, hc, hkl, hbl, h => by
  have := dropN h
  have e : k = ks.length := by omega
  subst e
  refine (bFormed_2_2 p ks ks.length c ks.length i i sd sd).ends ?_
  exact hb c hc hbl
 | y :: t, k, c, hc, hkl, hbl, h => by
  obtain ⟨g1, g2, g3⟩ := dropC h
  have hin := bIn_pure y ((i : Int) + 1) ((p.nodes.length : Int) - 1)
  cases k1 : inB y ((i : Int) + 1) ((p.nodes.length : Int) - 1) with
  | false =>
   rw [k1] at hin
   exact Ends.eqv (bFormed_2_0 p ks ks.length c k i i y false sd sd sd sd sd hin rfl) (by simp [incs, k1])
  | true =>
   rw [k1] at hin
   have hy := inB_iff.1 k1
   obtain ⟨z, hz⟩ : ∃ z, c[y.toNat]? = some z := ⟨_, List.getElem?_eq_getElem (by omega)⟩
   have hzb := below_get hbl hz
   refine (bFormed_2_1 p ks ks.length c k i i y true z sd sd sd sd sd hin rfl (by omega) (by omega) hz sd sd).ends ?_
   have e : c.getD y.toNat 0 = z := by rw [List.getD_eq_getElem?_getD, hz]; rfl
   have ei : incs ((i : Int) + 1) p.nodes.length (y :: t) c = incs ((i : Int) + 1) p.nodes.length t (c.set y.toNat (z + 1)) := by
    rw [incs, if_pos k1, e]
   rw [ei]
   refine bF2 p i hi hn ks hk K B hB hB2 hb t (k + 1) (c.set y.toNat (z + 1)) (by simpa using hc) (by omega) ?_ g2
   have := below_set hbl hz
   intro q hq
   have := this q hq
   push_cast
   omega
def kidsSum : List Node → Nat
 | [] => 0
 | x :: t => x.kids.length + kidsSum t
theorem kidsSum_le : ∀ (t : List Node), (∀ x ∈ t, x.kids.length ≤ 10) → kidsSum t ≤ 10 * t.length
 | [], _ => by simp [kidsSum]
 | x :: t, h => by
  have a := kidsSum_le t (fun y hy => h y (List.mem_cons_of_mem _ hy))
  have b := h x (List.mem_cons_self ..)
  simp only [kidsSum, List.length_cons]; omega
theorem bF1 (p : Prog) (hp : smallProg p = true) (hn : p.nodes.length ≤ 1000) : ∀ (t : List Node) (i : Nat) (c : List Int) (B : Int), 0 ≤ B → B + kidsSum t ≤ 100000 → c.length = p.nodes.length → below B c → p.nodes.drop i = t →
  Ends PP 0 (bFormed_c1 p c (i : Int)).as (.ret (.bool (allOnes (bNodes p i t c)))) (hpOf [] 0)
 | [], i, c, B, h0, h1, hc, hb, h => by
  have := dropN h
  exact Ends.eqv (bFormed_1_1 p c i _ sd (bEvI_pure c (by omega))) rfl
 | x :: t, i, c, B, h0, h1, hc, hb, h => by
  obtain ⟨g1, g2, g3⟩ := dropC h
  have hx : smallNode x = true := by
   simp only [smallProg, Bool.and_eq_true] at hp
   exact List.all_eq_true.1 hp.2 x (List.mem_of_getElem? g1)
  simp only [smallNode, Bool.and_eq_true, decide_eq_true_eq] at hx
  simp only [kidsSum] at h1
  refine (bFormed_1_0 p c i x sd sd sd).ends ?_
  refine Ends.eqv (bF2 p i g3 hn x.kids (by omega) (fun v => allOnes (bNodes p (i + 1) t v)) B h0 (by omega) (fun v hv hbv => bF1 p hp hn t (i + 1) v (B + x.kids.length) (by omega) (by omega) hv hbv g2) x.kids 0 c hc (by omega) (by simpa using hb) rfl) ?_
  rw [bNodes]
  cases incs ((i : Int) + 1) (p.nodes.length : Int) x.kids c <;> rfl
theorem bF0 (p : Prog) (hp : smallProg p = true) (hn : p.nodes.length ≤ 1000) (hks : kidsSum p.nodes ≤ 10000) (hf : p.funs.length ≤ 1000) : ∀ (t : List Int) (i : Nat) (c : List Int), i ≤ p.funs.length → c.length = p.nodes.length → below (i : Int) c → p.funs.drop i = t →
  Ends PP 0 (bFormed_c0 p (i : Int) c).as (.ret (.bool (match incs 0 p.nodes.length t c with | some v => allOnes (bNodes p 0 p.nodes v) | none => false))) (hpOf [] 0)
 | [], i, c, hi, hc, hb, h => by
  have := dropN h
  refine (bFormed_0_2 p i c sd).ends ?_
  exact bF1 p hp hn p.nodes 0 c i (by omega) (by omega) hc hb rfl
 | y :: t, i, c, hi, hc, hb, h => by
  obtain ⟨g1, g2, g3⟩ := dropC h
  have hin := bIn_pure y 0 ((p.nodes.length : Int) - 1)
  cases k1 : inB y 0 ((p.nodes.length : Int) - 1) with
  | false =>
   rw [k1] at hin
   exact Ends.eqv (bFormed_0_0 p i c y false sd sd sd sd hin rfl) (by simp [incs, k1])
  | true =>
   rw [k1] at hin
   have hy := inB_iff.1 k1
   obtain ⟨z, hz⟩ : ∃ z, c[y.toNat]? = some z := ⟨_, List.getElem?_eq_getElem (by omega)⟩
   have hzb := below_get hb hz
   refine (bFormed_0_1 p i c y true z sd sd sd sd hin rfl (by omega) (by omega) hz sd sd).ends ?_
   have e : c.getD y.toNat 0 = z := by rw [List.getD_eq_getElem?_getD, hz]; rfl
   have ei : incs 0 p.nodes.length (y :: t) c = incs 0 p.nodes.length t (c.set y.toNat (z + 1)) := by
    rw [incs, if_pos k1, e]
   rw [ei]
   refine bF0 p hp hn hks hf t (i + 1) (c.set y.toNat (z + 1)) (by omega) (by simpa using hc) ?_ g2
   have := below_set hb hz
   intro q hq
   have := this q hq
   push_cast
   omega
end Go.Hb
namespace Go.Hb
open Go.Proofs
set_option maxHeartbeats 1000000
def bindFormed (p : Prog) : Bool :=
 progHead p && decide (p.cons.length ≤ 20) && p.cons.all consOk1 && differS (consNames p.cons) && p.nodes.all (nodeOk p) &&
  (match incs 0 (p.nodes.length : Int) p.funs (List.replicate p.nodes.length 0) with
  | some v => allOnes (bNodes p 0 p.nodes v)
  | none => false)
theorem small_nodes {p : Prog} (hp : smallProg p = true) : ∀ x ∈ p.nodes, x.kids.length ≤ 10 ∧ x.pats.length ≤ 10 := fun x hx => by
 simp only [smallProg, Bool.and_eq_true] at hp
 have := List.all_eq_true.1 hp.2 x hx
 simp only [smallNode, Bool.and_eq_true, decide_eq_true_eq] at this
 exact this.1
theorem bFormed_pure (p : Prog) (hp : smallProg p = true) : Pure PP 32 [Prog.av p] (.bool (bindFormed p)) := by
 refine pure_at (by kernel_rfl) rfl rfl ?_
 have hs := hp
 simp only [smallProg, Bool.and_eq_true, decide_eq_true_eq] at hs
 obtain ⟨⟨⟨⟨s1, s2⟩, s3⟩, _⟩, _⟩ := hs
 have hno := small_nodes hp
 by_cases k0 : p.nodes.length ≤ 300
 · by_cases k1 : 1 ≤ p.funs.length
   · by_cases k2 : p.funs.length ≤ p.nodes.length
     · have kk : inB (p.funs.length : Int) 1 (p.nodes.length : Int) = true := inB_iff.2 ⟨by omega, by omega⟩
       by_cases k3 : p.cons.length ≤ 20
       · have hi := bIn_pure p.main 0 ((p.funs.length : Int) - 1)
         cases k4 : inB p.main 0 ((p.funs.length : Int) - 1) with
         | false =>
          rw [k4] at hi
          exact Ends.eqv (bFormed_E_4 p false sd sd sd sd sd hi rfl) (by simp [bindFormed, progHead, k4])
         | true =>
          rw [k4] at hi
          have hh : progHead p = true := by simp [progHead, k0, kk, k4]
          have hc := bEvC_pure p.cons (by omega)
          cases k5 : p.cons.all consOk1 with
          | false =>
           rw [k5] at hc
           exact Ends.eqv (bFormed_E_5 p true false sd sd sd sd sd hi rfl hc rfl) (by simp only [bindFormed, k5, Bool.and_false, Bool.false_and])
          | true =>
           rw [k5] at hc
           have hm := bMap_pure p.cons (by omega)
           have hd := bDiffer_pure (consNames p.cons) (by simp [consNames]; omega)
           cases k6 : differS (consNames p.cons) with
           | false =>
            rw [k6] at hd
            exact Ends.eqv (bFormed_E_6 p true true (consNames p.cons) false sd sd sd sd sd hi rfl hc rfl hm hd rfl) (by simp only [bindFormed, k6, Bool.and_false, Bool.false_and])
           | true =>
            rw [k6] at hd
            have hn := bEvN_pure p.nodes p (by omega) (fun x hx => bNode_pure p x (by omega) (by omega) (hno x hx).2 (hno x hx).1)
            cases k7 : p.nodes.all (nodeOk p) with
            | false =>
             rw [k7] at hn
             exact Ends.eqv (bFormed_E_7 p true true (consNames p.cons) true false sd sd sd sd sd hi rfl hc rfl hm hd rfl hn rfl) (by simp only [bindFormed, k7, Bool.and_false, Bool.false_and])
            | true =>
             rw [k7] at hn
             refine (bFormed_E_8 p true true (consNames p.cons) true true sd sd sd sd sd hi rfl hc rfl hm hd rfl hn rfl (by omega)).ends ?_
             have hks := kidsSum_le p.nodes (fun x hx => (hno x hx).1)
             refine Ends.eqv (bF0 p hp (by omega) (by omega) (by omega) p.funs 0 _ (by omega) (by simp) ?_ rfl) ?_
             · intro q hq
               have := (List.mem_replicate.1 hq).2
               omega
             · simp only [bindFormed, hh, decide_eq_true k3, k5, k6, k7, Bool.true_and] <;> rfl
       · exact Ends.eqv (bFormed_E_3 p sd sd sd sd) (by simp [bindFormed, k3])
     · have kk : inB (p.funs.length : Int) 1 (p.nodes.length : Int) = false := inB_not.2 (by omega)
       exact Ends.eqv (bFormed_E_2 p sd sd sd) (by simp [bindFormed, progHead, kk])
   · have kk : inB (p.funs.length : Int) 1 (p.nodes.length : Int) = false := inB_not.2 (by omega)
     exact Ends.eqv (bFormed_E_1 p sd sd) (by simp [bindFormed, progHead, kk])
 · exact Ends.eqv (bFormed_E_0 p sd) (by simp [bindFormed, progHead, k0])
theorem bCheck_pure (p : Prog) (hp : smallProg p = true) : Pure PP 10 [Prog.av p] (.int .i64 (checkN (bindFormed p))) := by
 refine pure_at (by kernel_rfl) rfl rfl ?_
 have h := bFormed_pure p hp
 cases k : bindFormed p with
 | false => rw [k] at h; exact bCheck_E_0 p false h rfl
 | true => rw [k] at h; exact bCheck_E_1 p true h rfl
/-! ### marks and counts -/
def cnt (b : Bool) : Int := if b = true then 1 else 0
def cnts (u : List Bool) : List Int := u.map cnt
/-- a number that is too great, all others not below 0 -/
def Spoilt (c : List Int) : Prop := (∃ (i : Nat) (z : Int), c[i]? = some z ∧ 2 ≤ z) ∧ ∀ z ∈ c, 0 ≤ z
theorem spoilt_ones {c : List Int} (h : Spoilt c) : c.all one = false := by
 obtain ⟨⟨i, z, h1, h2⟩, _⟩ := h
 cases k : c.all one with
 | false => rfl
 | true =>
  have := List.all_eq_true.1 k z (List.mem_of_getElem? h1)
  simp only [one, decide_eq_true_eq] at this; omega
theorem spoilt_set {c : List Int} {j : Nat} (h : Spoilt c) : Spoilt (c.set j (c.getD j 0 + 1)) := by
 obtain ⟨⟨i, z, h1, h2⟩, h3⟩ := h
 have hi := (List.getElem?_eq_some_iff.1 h1).1
 refine ⟨⟨i, if j = i then z + 1 else z, ?_, by split <;> omega⟩, fun q hq => ?_⟩
 · rw [List.getElem?_set]
   by_cases e : j = i
   · subst e
     rw [if_pos rfl, if_pos hi, if_pos rfl, List.getD_eq_getElem?_getD, h1]; rfl
   · rw [if_neg e, if_neg e]; exact h1
 · rcases List.mem_or_eq_of_mem_set hq with g | g
   · exact h3 q g
   · rw [g, List.getD_eq_getElem?_getD]
     cases k : c[j]? with
     | none => simp
     | some w => have := h3 w (List.mem_of_getElem? k); simp; omega
theorem incs_spoilt {lo n : Int} : ∀ {ks c : List Int} {d : List Int}, Spoilt c → incs lo n ks c = some d → Spoilt d
 | [], c, d, h, e => by simp only [incs, Option.some.injEq] at e; rw [← e]; exact h
 | k :: ks, c, d, h, e => by
  simp only [incs] at e
  split at e
  · exact incs_spoilt (spoilt_set h) e
  · cases e
theorem cnts_nonneg (u : List Bool) : ∀ z ∈ cnts u, 0 ≤ z := fun z hz => by
 obtain ⟨b, _, rfl⟩ := List.mem_map.1 hz
 cases b <;> simp [cnt]
/-- marked once: counted the same; else something is spoilt -/
theorem marks_incs {lo n : Int} (hlo : 0 ≤ lo) : ∀ (ks : List Int) (u : List Bool), n ≤ u.length →
  (∀ v, marks lo n ks u = some v → incs lo n ks (cnts u) = some (cnts v)) ∧ (marks lo n ks u = none → ∀ d, incs lo n ks (cnts u) = some d → Spoilt d)
 | [], u, hn => by
  simp only [marks, incs, Option.some.injEq]
  exact ⟨fun v e => by rw [e], fun e => by cases e⟩
 | k :: ks, u, hn => by
  simp only [marks, incs]
  by_cases h1 : inB k lo (n - 1) = true
  · have hk := inB_iff.1 h1
    have hlt : k.toNat < u.length := by omega
    have hget : u[k.toNat]? = some u[k.toNat] := List.getElem?_eq_getElem hlt
    have hc : (cnts u).getD k.toNat 0 = cnt u[k.toNat] := by
     rw [List.getD_eq_getElem?_getD, cnts, List.getElem?_map, hget]; rfl
    rw [if_pos h1]
    cases hb : u[k.toNat] with
    | false =>
     rw [hb] at hget hc
     rw [if_pos ⟨h1, hget⟩]
     have e : (cnts u).set k.toNat ((cnts u).getD k.toNat 0 + 1) = cnts (u.set k.toNat true) := by
      rw [hc, cnts, cnts, List.map_set]; rfl
     rw [e]
     exact marks_incs hlo ks (u.set k.toNat true) (by simpa using hn)
    | true =>
     rw [hb] at hget hc
     rw [if_neg (by rw [hget]; simp)]
     refine And.intro (fun v e => nomatch e) (fun _ d e => incs_spoilt (And.intro ⟨k.toNat, 2, ?_, by omega⟩ ?_) e)
     · rw [hc, List.getElem?_set_self (by simp [cnts]; exact hlt)]; rfl
     · intro z hz
       rcases List.mem_or_eq_of_mem_set hz with g | g
       · exact cnts_nonneg u z g
       · rw [g, hc]; simp [cnt]
  · rw [if_neg h1, if_neg (fun g => h1 g.1)]
    exact And.intro (fun v e => nomatch e) (fun _ d e => nomatch e)
theorem bNodes_spoilt (p : Prog) : ∀ (t : List Node) (i : Nat) (c : List Int), Spoilt c → allOnes (bNodes p i t c) = false
 | [], i, c, h => by rw [bNodes]; exact spoilt_ones h
 | x :: t, i, c, h => by
  rw [bNodes]
  cases e : incs ((i : Int) + 1) (p.nodes.length : Int) x.kids c with
  | none => rfl
  | some d => exact bNodes_spoilt p t (i + 1) d (incs_spoilt h e)
theorem cnts_ones : ∀ (u : List Bool), (cnts u).all one = u.all fun b => b
 | [] => rfl
 | b :: u => by
  have := cnts_ones u
  simp only [cnts, List.map_cons, List.all_cons] at this ⊢
  rw [this]
  cases b <;> simp [cnt, one]
theorem nodes_eq (p : Prog) : ∀ (t : List Node) (i : Nat) (u : List Bool), u.length = p.nodes.length → t.all (nodeOk p) = true → allT (refNodes p i t u) = allOnes (bNodes p i t (cnts u))
 | [], i, u, hu, _ => by simp only [refNodes, bNodes, allT, allOnes, cnts_ones]
 | x :: t, i, u, hu, ha => by
  simp only [List.all_cons, Bool.and_eq_true] at ha
  obtain ⟨m1, m2⟩ := marks_incs (lo := (i : Int) + 1) (n := (p.nodes.length : Int)) (by omega) x.kids u (by omega)
  simp only [refNodes, bNodes, if_pos ha.1]
  cases hm : marks ((i : Int) + 1) (p.nodes.length : Int) x.kids u with
  | some v =>
   rw [m1 v hm]
   exact nodes_eq p t (i + 1) v (by rw [marks_len hm, hu]) ha.2
  | none =>
   cases hi : incs ((i : Int) + 1) (p.nodes.length : Int) x.kids (cnts u) with
   | none => rfl
   | some d => exact (bNodes_spoilt p t (i + 1) d (m2 hm d hi)).symm
theorem refNodes_bad (p : Prog) : ∀ (t : List Node) (i : Nat) (u : List Bool), t.all (nodeOk p) = false → allT (refNodes p i t u) = false
 | [], i, u, h => by simp at h
 | x :: t, i, u, h => by
  simp only [refNodes]
  by_cases hx : nodeOk p x = true
  · rw [if_pos hx]
    have ht : t.all (nodeOk p) = false := by simpa [hx] using h
    cases marks ((i : Int) + 1) (p.nodes.length : Int) x.kids u with
    | none => rfl
    | some v => exact refNodes_bad p t (i + 1) v ht
  · rw [if_neg hx]; rfl
/-- **the program's answer is the reference's** -/
theorem formed_eq (p : Prog) : bindFormed p = refFormed p := by
 have e1 : bindFormed p = (progHead p && consOk p.cons && (p.nodes.all (nodeOk p) && (match incs 0 (p.nodes.length : Int) p.funs (List.replicate p.nodes.length 0) with
  | some v => allOnes (bNodes p 0 p.nodes v)
  | none => false))) := by
  unfold bindFormed consOk
  cases progHead p <;> cases p.cons.all consOk1 <;> cases differS (consNames p.cons) <;> cases p.nodes.all (nodeOk p) <;> cases decide (p.cons.length ≤ 20) <;> simp
 rw [e1, refFormed]
 congr 1
 have ez : List.replicate p.nodes.length (0 : Int) = cnts (List.replicate p.nodes.length false) := by rw [cnts, List.map_replicate]; rfl
 rw [ez]
 obtain ⟨m1, m2⟩ := marks_incs (lo := 0) (n := (p.nodes.length : Int)) (by omega) p.funs (List.replicate p.nodes.length false) (by simp)
 cases hm : marks 0 (p.nodes.length : Int) p.funs (List.replicate p.nodes.length false) with
 | some v =>
  rw [m1 v hm]
  cases ha : p.nodes.all (nodeOk p) with
  | true => simp only [Bool.true_and]; exact (nodes_eq p p.nodes 0 v (by rw [marks_len hm]; simp) ha).symm
  | false => simp only [Bool.false_and]; exact (refNodes_bad p p.nodes 0 v ha).symm
 | none =>
  simp only
  cases hi : incs 0 (p.nodes.length : Int) p.funs (cnts (List.replicate p.nodes.length false)) with
  | none => simp
  | some d => simp only [bNodes_spoilt p p.nodes 0 d (m2 hm d hi), Bool.and_false]
end Go.Hb
namespace Go.Hb
open Go.Proofs
theorem bAdds_E_0 (x : Node) (kid : Int) (h0 : (x.op == (5 : Int)) = true) :
  Ends PP 0 (start PP 87 [(Node.av x), (nI kid)]).as (.ret (nI 1)) (hpOf [] 0) :=
 wE 1 [] [qp h0] [rn 13, bt 9, rn 21] trivial
theorem bAdds_E_1 (x : Node) (kid : Int) (h0 : (x.op == (5 : Int)) = false) (h1 : (x.op == (27 : Int)) = true) :
  Ends PP 0 (start PP 87 [(Node.av x), (nI kid)]).as (.ret (nI 1)) (hpOf [] 0) :=
 wE 1 [] [qp h0, qp h1] [rn 13, bf 9, rn 5, bt 14, rn 16] trivial
theorem bAdds_E_2 (x : Node) (kid : Int) (h0 : (x.op == (5 : Int)) = false) (h1 : (x.op == (27 : Int)) = false) (h2 : (x.op == (7 : Int)) = true) (h3 : (kid == (1 : Int)) = true) :
  Ends PP 0 (start PP 87 [(Node.av x), (nI kid)]).as (.ret (nI 1)) (hpOf [] 0) :=
 wE 1 [] [qp h0, qp h1, qp h2, qp h3] [rn 13, bf 9, rn 5, bf 14, rn 4, bt 18, rn 6, bt 5, rn 6] trivial
theorem bAdds_E_5 (x : Node) (kid : Int) (h0 : (x.op == (5 : Int)) = false) (h1 : (x.op == (27 : Int)) = false) (h2 : (x.op == (7 : Int)) = true) (h3 : (kid == (1 : Int)) = false) (h4 : (x.op == (15 : Int)) = false) :
  Ends PP 0 (start PP 87 [(Node.av x), (nI kid)]).as (.ret (nI 0)) (hpOf [] 0) :=
 wE 1 [] [qp h0, qp h1, qp h2, qp h3, qp h4] [rn 13, bf 9, rn 5, bf 14, rn 4, bt 18, rn 6, bf 5, rn 7, bf 27, rn 13] trivial
theorem bAdds_E_6 (x : Node) (kid : Int) (y_form0 : Int) (y_n1 : Int) (y_text2 : Str) (y_parts3 : (List Pat)) (y4 : Int) (h0 : (x.op == (5 : Int)) = false) (h1 : (x.op == (27 : Int)) = false) (h2 : (x.op == (7 : Int)) = false) (h3 : (x.op == (15 : Int)) = true) (h4 : decide (kid > (0 : Int)) = true) (h5 : (IntKind.i64.wrap (kid - (1 : Int))) = (kid - (1 : Int))) (h6 : 0 ≤ (kid - (1 : Int))) (h7 : ((x.pats)[(kid - (1 : Int)).toNat]?) = some (Pat.mk y_form0 y_n1 y_text2 y_parts3)) (h8 : Pure PP 142 [(.agg [(nI y_form0), (nI y_n1), (avS y_text2), (iP y_parts3)])] (nI y4)) :
  Ends PP 0 (start PP 87 [(Node.av x), (nI kid)]).as (.ret (nI y4)) (hpOf [] 0) :=
 wE 1 [] [qp h0, qp h1, qp h2, qp h3, qp h4, qp (congrArg (AV.int .i64) h5), qp h6, qgP h7, qp h8] [rn 13, bf 9, rn 5, bf 14, rn 4, bf 18, rn 13, bt 27, rn 5, bt 23, rn 7, sI 34 (kid - (1 : Int)), aI (Pat.av (Pat.mk y_form0 y_n1 y_text2 y_parts3)), rn 1, .pure (nI y4), rn 3] trivial
theorem bAdds_E_7 (x : Node) (kid : Int) (h0 : (x.op == (5 : Int)) = false) (h1 : (x.op == (27 : Int)) = false) (h2 : (x.op == (7 : Int)) = false) (h3 : (x.op == (15 : Int)) = true) (h4 : decide (kid > (0 : Int)) = false) :
  Ends PP 0 (start PP 87 [(Node.av x), (nI kid)]).as (.ret (nI 0)) (hpOf [] 0) :=
 wE 1 [] [qp h0, qp h1, qp h2, qp h3, qp h4] [rn 13, bf 9, rn 5, bf 14, rn 4, bf 18, rn 13, bt 27, rn 5, bf 23, rn 8] trivial
theorem bAdds_E_8 (x : Node) (kid : Int) (h0 : (x.op == (5 : Int)) = false) (h1 : (x.op == (27 : Int)) = false) (h2 : (x.op == (7 : Int)) = false) (h3 : (x.op == (15 : Int)) = false) :
  Ends PP 0 (start PP 87 [(Node.av x), (nI kid)]).as (.ret (nI 0)) (hpOf [] 0) :=
 wE 1 [] [qp h0, qp h1, qp h2, qp h3] [rn 13, bf 9, rn 5, bf 14, rn 4, bf 18, rn 13, bf 27, rn 13] trivial
noncomputable def bNames_c0 (q_form : Int) (q_n : Int) (q_text : Str) (q_parts : (List Pat)) (n3 : Int) (t12 : Int) : TS :=
 { fr := { fn := 142, nt := 22, sl := [(2, (nI 0)), (3, (nI n3)), (10, (iP q_parts)), (11, (nI (q_parts.length : Int))), (12, (nI t12))], todo := [.code (cd Tryz.f142 [1, 1, 1, 0, 1, 0, 0]), .inLoop (cd Tryz.f142 [1, 1, 1, 0, 1, 0, 0]), .inBlock 0, .code (cd Tryz.f142 [1, 1, 1, 1])] }, cs := [], hp := [], nb := 0 }
theorem bNames_E_0 (q_form : Int) (q_n : Int) (q_text : Str) (q_parts : (List Pat)) (h0 : (q_form == (2 : Int)) = true) :
  Ends PP 0 (start PP 142 [(.agg [(nI q_form), (nI q_n), (avS q_text), (iP q_parts)])]).as (.ret (nI 1)) (hpOf [] 0) :=
 wE 1 [] [qp h0] [rn 12, bt 8, rn 6] trivial
theorem bNames_E_1 (q_form : Int) (q_n : Int) (q_text : Str) (q_parts : (List Pat)) (h0 : (q_form == (2 : Int)) = false) :
  LeadsM PP 0 (start PP 142 [(.agg [(nI q_form), (nI q_n), (avS q_text), (iP q_parts)])]).as (bNames_c0 q_form q_n q_text q_parts 0 0).as :=
 wW 1 [] [qp h0, qlP q_parts] [rn 12, bf 8, rn 11, aL q_parts, rn 4] trivial
theorem bNames_0_0 (q_form : Int) (q_n : Int) (q_text : Str) (q_parts : (List Pat)) (n3 : Int) (t12 : Int) (y_form0 : Int) (y_n1 : Int) (y_text2 : Str) (y_parts3 : (List Pat)) (y4 : Int) (h0 : decide (t12 < (q_parts.length : Int)) = true) (h1 : 0 ≤ t12) (h2 : ((q_parts)[t12.toNat]?) = some (Pat.mk y_form0 y_n1 y_text2 y_parts3)) (h3 : Pure PP 142 [(.agg [(nI y_form0), (nI y_n1), (avS y_text2), (iP y_parts3)])] (nI y4)) (h4 : (IntKind.i64.wrap (n3 + y4)) = (n3 + y4)) (h5 : (IntKind.i64.wrap (t12 + (1 : Int))) = (t12 + (1 : Int))) :
  LeadsM PP 0 (bNames_c0 q_form q_n q_text q_parts n3 t12).as (bNames_c0 q_form q_n q_text q_parts (n3 + y4) (t12 + (1 : Int))).as :=
 wW 1 [] [qp h0, qp h1, qgP h2, qp h3, qp (congrArg (AV.int .i64) h4), qp (congrArg (AV.int .i64) h5)] [rn 5, bt 13, rn 6, aI (Pat.av (Pat.mk y_form0 y_n1 y_text2 y_parts3)), rn 7, .pure (nI y4), rn 1, sI 19 (n3 + y4), rn 5, sI 20 (t12 + (1 : Int)), rn 3] trivial
theorem bNames_0_1 (q_form : Int) (q_n : Int) (q_text : Str) (q_parts : (List Pat)) (n3 : Int) (t12 : Int) (h0 : decide (t12 < (q_parts.length : Int)) = false) :
  Ends PP 0 (bNames_c0 q_form q_n q_text q_parts n3 t12).as (.ret (nI n3)) (hpOf [] 0) :=
 wE 0 [] [qp h0] [rn 5, bf 13, rn 8] trivial
end Go.Hb
namespace Go.Hb
open Go.Proofs
noncomputable def rNames_c0 (q_form : Int) (q_n : Int) (q_text : Str) (q_parts : (List Pat)) (n3 : Int) (i4 : Int) : TS :=
 { fr := { fn := 143, nt := 24, sl := [(1, (.ptr 0 0)), (2, (nI 0)), (3, (nI n3)), (4, (nI i4))], todo := [.code (cd Tryz.f143 [1, 1, 1, 0, 1, 0, 0]), .inLoop (cd Tryz.f143 [1, 1, 1, 0, 1, 0, 0]), .inBlock 0, .code (cd Tryz.f143 [1, 1, 1, 1])] }, cs := [], hp := [(0, (.cells (putCells .leaf 0 [(nI q_form), (nI q_n), (avS q_text), (iP q_parts)]) 4 [] false), false)], nb := 1 }
theorem rNames_E_0 (q_form : Int) (q_n : Int) (q_text : Str) (q_parts : (List Pat)) (h0 : (q_form == (2 : Int)) = true) :
  LeadsM PP 0 (start PP 143 [(.agg [(nI q_form), (nI q_n), (avS q_text), (iP q_parts)])]).as (rNames_c0 q_form q_n q_text q_parts 1 0).as :=
 wW 1 [0] [qp h0] [rn 16, bt 7, rn 11] trivial
theorem rNames_E_1 (q_form : Int) (q_n : Int) (q_text : Str) (q_parts : (List Pat)) (h0 : (q_form == (2 : Int)) = false) :
  LeadsM PP 0 (start PP 143 [(.agg [(nI q_form), (nI q_n), (avS q_text), (iP q_parts)])]).as (rNames_c0 q_form q_n q_text q_parts 0 0).as :=
 wW 1 [0] [qp h0] [rn 16, bf 7, rn 9] trivial
theorem rNames_0_0 (q_form : Int) (q_n : Int) (q_text : Str) (q_parts : (List Pat)) (n3 : Int) (i4 : Int) (y_form0 : Int) (y_n1 : Int) (y_text2 : Str) (y_parts3 : (List Pat)) (y4 : Int) (h0 : decide (i4 < (q_parts.length : Int)) = true) (h1 : 0 ≤ i4) (h2 : ((q_parts)[i4.toNat]?) = some (Pat.mk y_form0 y_n1 y_text2 y_parts3)) (h3 : Pure PP 143 [(.agg [(nI y_form0), (nI y_n1), (avS y_text2), (iP y_parts3)])] (nI y4)) (h4 : (IntKind.i64.wrap (n3 + y4)) = (n3 + y4)) (h5 : (IntKind.i64.wrap (i4 + (1 : Int))) = (i4 + (1 : Int))) :
  LeadsM PP 0 (rNames_c0 q_form q_n q_text q_parts n3 i4).as (rNames_c0 q_form q_n q_text q_parts (n3 + y4) (i4 + (1 : Int))).as :=
 wW 1 [0] [qlP q_parts, qp h0, qp h1, qgP h2, qp h3, qp (congrArg (AV.int .i64) h4), qp (congrArg (AV.int .i64) h5)] [rn 6, aL q_parts, rn 2, bt 12, rn 9, aI (Pat.av (Pat.mk y_form0 y_n1 y_text2 y_parts3)), rn 1, .pure (nI y4), rn 1, sI 22 (n3 + y4), rn 6, sI 14 (i4 + (1 : Int)), rn 3] trivial
theorem rNames_0_1 (q_form : Int) (q_n : Int) (q_text : Str) (q_parts : (List Pat)) (n3 : Int) (i4 : Int) (h0 : decide (i4 < (q_parts.length : Int)) = false) :
  Ends PP 0 (rNames_c0 q_form q_n q_text q_parts n3 i4).as (.ret (nI n3)) (hpOf [] 0) :=
 wE 1 [] [qlP q_parts, qp h0] [rn 6, aL q_parts, rn 2, bf 12, rn 8] trivial
end Go.Hb
namespace Go.Hb
open Go.Proofs
theorem Ends.val {P : Program} {m : Nat} {s : AS} {v v' : AV} {h' : Hp} (h : Ends P m s (.ret v) h') (hv : ∀ E cv, VR E v cv → VR E v' cv) : Ends P m s (.ret v') h' := fun hm E fr ccs w f fs r cl base => by
 obtain ⟨cl', w', E', s1, ⟨cv, e, g⟩, r2, x2⟩ := h hm E fr ccs w f fs r cl base
 exact ⟨cl', w', E', s1, ⟨cv, e, hv _ _ g⟩, r2, x2⟩
/-! ## how many names a pattern binds -/
mutual
def bnm : Pat → Int
 | .mk f _ _ ps => if f = 2 then 1 else bnms ps
def bnms : List Pat → Int
 | [] => 0
 | p :: ps => bnm p + bnms ps
end
mutual
def rnm : Pat → Int
 | .mk f _ _ ps => (if f = 2 then 1 else 0) + rnms ps
def rnms : List Pat → Int
 | [] => 0
 | p :: ps => rnm p + rnms ps
end
mutual
theorem bnm_le : ∀ p, 0 ≤ bnm p ∧ bnm p ≤ psize p
 | .mk f _ _ ps => by
  have := bnms_le ps
  simp only [bnm, psize]; split <;> omega
theorem bnms_le : ∀ ps, 0 ≤ bnms ps ∧ bnms ps ≤ psizes ps
 | [] => by simp [bnms, psizes]
 | p :: ps => by
  have := bnm_le p; have := bnms_le ps
  simp only [bnms, psizes]; omega
end
mutual
theorem rnm_le : ∀ p, 0 ≤ rnm p ∧ rnm p ≤ psize p
 | .mk f _ _ ps => by
  have := rnms_le ps
  simp only [rnm, psize]; split <;> omega
theorem rnms_le : ∀ ps, 0 ≤ rnms ps ∧ rnms ps ≤ psizes ps
 | [] => by simp [rnms, psizes]
 | p :: ps => by
  have := rnm_le p; have := rnms_le ps
  simp only [rnms, psizes]; omega
end
mutual
theorem nm_eq (cons : List Con) : ∀ p, patOk cons p = true → bnm p = rnm p
 | .mk f n s ps, h => by
  simp only [patOk, Bool.and_eq_true] at h
  have := nms_eq cons ps h.2
  simp only [bnm, rnm]
  by_cases g : f = 2
  · have hk := h.1
    subst g
    simp only [patHead] at hk
    simp at hk
    obtain ⟨⟨hk, _⟩, _⟩ := hk
    subst hk
    simp [rnms]
  · rw [if_neg g, if_neg g, this]; omega
theorem nms_eq (cons : List Con) : ∀ ps, patsOk cons ps = true → bnms ps = rnms ps
 | [], _ => rfl
 | p :: ps, h => by
  simp only [patsOk, Bool.and_eq_true] at h
  simp only [bnms, rnms, nm_eq cons p h.1, nms_eq cons ps h.2]
end
theorem bNames_loop (f n : Int) (s : Str) (ps : List Pat) (hl : ps.length < 1000000) (ih : ∀ p ∈ ps, Pure PP 142 [Pat.av p] (.int .i64 (bnm p))) :
  ∀ (t : List Pat) (i : Nat) (a : Int), 0 ≤ a → a + bnms t ≤ 1000000 → ps.drop i = t → Ends PP 0 (bNames_c0 f n s ps a (i : Int)).as (.ret (.int .i64 (a + bnms t))) (hpOf [] 0)
 | [], i, a, _, _, h => by
  have := dropN h
  exact Ends.eqv (bNames_0_1 f n s ps a i sd) (by simp [bnms])
 | .mk f' n' s' ps' :: t, i, a, ha, hb, h => by
  obtain ⟨g1, g2, g3⟩ := dropC h
  have ihp := ih _ (List.mem_of_getElem? g1)
  have b1 := bnm_le (.mk f' n' s' ps')
  have b2 := bnms_le t
  rw [bnms] at hb ⊢
  refine (bNames_0_0 f n s ps a i f' n' s' ps' _ sd sd sd ihp sd sd).ends ?_
  exact Ends.eqv (bNames_loop f n s ps hl ih t (i + 1) (a + bnm (.mk f' n' s' ps')) (by omega) (by omega) g2) (by rw [Int.add_assoc])
mutual
theorem bNames_pure : ∀ (p : Pat), psize p < 100000 → Pure PP 142 [Pat.av p] (.int .i64 (bnm p))
 | .mk f n s ps, h => by
  refine pure_at (by kernel_rfl) (by simp [AV.keylessL, pat_kl]) rfl ?_
  simp only [psize] at h
  have := psizes_len ps
  have b := bnms_le ps
  by_cases g : f = 2
  · subst g
    exact Ends.eqv (bNames_E_0 2 n s ps rfl) (by simp [bnm])
  · refine (bNames_E_1 f n s ps (by simpa using g)).ends ?_
    exact Ends.eqv (bNames_loop f n s ps (by omega) (bNames_all ps (by omega)) ps 0 0 (by omega) (by omega) rfl) (by simp [bnm, g])
theorem bNames_all : ∀ (ps : List Pat), psizes ps < 100000 → ∀ p ∈ ps, Pure PP 142 [Pat.av p] (.int .i64 (bnm p))
 | [], _, p, hp => by cases hp
 | q :: ps, h, p, hp => by
  simp only [psizes] at h
  rcases List.mem_cons.1 hp with e | hp
  · rw [e]; exact bNames_pure q (by omega)
  · exact bNames_all ps (by omega) p hp
end
theorem rNames_loop (f n : Int) (s : Str) (ps : List Pat) (hl : ps.length < 1000000) (ih : ∀ p ∈ ps, Pure PP 143 [Pat.av p] (.int .i64 (rnm p))) :
  ∀ (t : List Pat) (i : Nat) (a : Int), 0 ≤ a → a + rnms t ≤ 1000000 → ps.drop i = t → Ends PP 0 (rNames_c0 f n s ps a (i : Int)).as (.ret (.int .i64 (a + rnms t))) (hpOf [] 0)
 | [], i, a, _, _, h => by
  have := dropN h
  exact Ends.eqv (rNames_0_1 f n s ps a i sd) (by simp [rnms])
 | .mk f' n' s' ps' :: t, i, a, ha, hb, h => by
  obtain ⟨g1, g2, g3⟩ := dropC h
  have ihp := ih _ (List.mem_of_getElem? g1)
  have b1 := rnm_le (.mk f' n' s' ps')
  have b2 := rnms_le t
  rw [rnms] at hb ⊢
  refine (rNames_0_0 f n s ps a i f' n' s' ps' _ sd sd sd ihp sd sd).ends ?_
  exact Ends.eqv (rNames_loop f n s ps hl ih t (i + 1) (a + rnm (.mk f' n' s' ps')) (by omega) (by omega) g2) (by rw [Int.add_assoc])
mutual
theorem rNames_pure : ∀ (p : Pat), psize p < 100000 → Pure PP 143 [Pat.av p] (.int .i64 (rnm p))
 | .mk f n s ps, h => by
  refine pure_at (by kernel_rfl) (by simp [AV.keylessL, pat_kl]) rfl ?_
  simp only [psize] at h
  have := psizes_len ps
  have b := rnms_le ps
  by_cases g : f = 2
  · subst g
    refine (rNames_E_0 2 n s ps rfl).ends ?_
    exact Ends.eqv (rNames_loop 2 n s ps (by omega) (rNames_all ps (by omega)) ps 0 1 (by omega) (by omega) rfl) (by simp [rnm])
  · refine (rNames_E_1 f n s ps (by simpa using g)).ends ?_
    exact Ends.eqv (rNames_loop f n s ps (by omega) (rNames_all ps (by omega)) ps 0 0 (by omega) (by omega) rfl) (by simp [rnm, g])
theorem rNames_all : ∀ (ps : List Pat), psizes ps < 100000 → ∀ p ∈ ps, Pure PP 143 [Pat.av p] (.int .i64 (rnm p))
 | [], _, p, hp => by cases hp
 | q :: ps, h, p, hp => by
  simp only [psizes] at h
  rcases List.mem_cons.1 hp with e | hp
  · rw [e]; exact rNames_pure q (by omega)
  · exact rNames_all ps (by omega) p hp
end
/-! ## how many values a node adds for a kid -/
def addsN (x : Node) (k : Int) : Int :=
 if x.op = 5 ∨ x.op = 27 ∨ (x.op = 7 ∧ k = 1) then 1
 else if x.op = 15 ∧ k > 0 then (match x.pats[(k - 1).toNat]? with | some q => bnm q | none => 0) else 0
/-- a node that is aS defined: its patterns are small, it has a pattern for each kid but the first one, a let has two kids -/
structure FineN (cons : List Con) (x : Node) : Prop where
 pats : ∀ q ∈ x.pats, psize q ≤ 12 ∧ patOk cons q = true
 mat : x.op = 15 → x.kids.length = 1 + x.pats.length
 let2 : x.op = 7 → x.kids.length = 2
theorem fine_of {p : Prog} {x : Node} (h : nodeOk p x = true) : FineN p.cons x := by
 simp only [nodeOk, Bool.and_eq_true, decide_eq_true_eq] at h
 obtain ⟨⟨_, h2⟩, h3⟩ := h
 refine ⟨fun q hq => ?_, fun e => ?_, fun e => ?_⟩
 · have := List.all_eq_true.1 h2 q hq
   simpa [nodePat] using this
 · rw [e] at h3; simp [kidsN] at h3; omega
 · rw [e] at h3; simp [kidsN] at h3; omega
theorem addsN_le {cons : List Con} {x : Node} (hf : FineN cons x) (k : Int) : 0 ≤ addsN x k ∧ addsN x k ≤ 12 := by
 unfold addsN
 split
 · omega
 · split
   · split
     · rename_i q hq
       have := (hf.pats q (List.mem_of_getElem? hq)).1
       have := bnm_le q
       omega
     · omega
   · omega
theorem addsN_mat {x : Node} {k : Int} (h15 : x.op = 15) (hk : k > 0) {q : Pat} (hq : x.pats[(k - 1).toNat]? = some q) : addsN x k = bnm q := by
 unfold addsN
 rw [if_neg (by rw [h15]; omega), if_pos ⟨h15, hk⟩, hq]
theorem bAdds_pure {cons : List Con} {x : Node} (hf : FineN cons x) {k : Int} (h0 : 0 ≤ k) (h1 : k < x.kids.length) (hk : x.kids.length ≤ 10) : Pure PP 87 [Node.av x, .int .i64 k] (.int .i64 (addsN x k)) := by
 refine pure_at (by kernel_rfl) rfl rfl ?_
 have mt : x.op = 15 → k > 0 → ∃ f n s ps, x.pats[(k - 1).toNat]? = some (.mk f n s ps) ∧ Pure PP 142 [Pat.av (.mk f n s ps)] (.int .i64 (bnm (.mk f n s ps))) := fun e g => by
  have hl := hf.mat e
  obtain ⟨q, hq⟩ : ∃ q, x.pats[(k - 1).toNat]? = some q := ⟨_, List.getElem?_eq_getElem (by omega)⟩
  obtain ⟨f, n, s, ps⟩ := q
  have := (hf.pats _ (List.mem_of_getElem? hq)).1
  exact ⟨f, n, s, ps, hq, bNames_pure _ (by omega)⟩
 by_cases g5 : x.op = 5
 · exact Ends.eqv (bAdds_E_0 x k (by simp [g5])) (by simp [addsN, g5])
 · by_cases g27 : x.op = 27
   · exact Ends.eqv (bAdds_E_1 x k (by simp [g5]) (by simp [g27])) (by simp [addsN, g27])
   · by_cases g7 : x.op = 7
     · by_cases gk : k = 1
       · exact Ends.eqv (bAdds_E_2 x k (by simp [g5]) (by simp [g27]) (by simp [g7]) (by simp [gk])) (by simp [addsN, g7, gk])
       · exact Ends.eqv (bAdds_E_5 x k (by simp [g5]) (by simp [g27]) (by simp [g7]) (by simp [gk]) (by simp [g7])) (by simp [addsN, g7, gk])
     · by_cases g15 : x.op = 15
       · by_cases gk : k > 0
         · obtain ⟨f, n, s, ps, hq, hp⟩ := mt g15 gk
           exact Ends.eqv (bAdds_E_6 x k f n s ps _ (by simp [g5]) (by simp [g27]) (by simp [g7]) (by simp [g15]) (by simpa using gk) sd (by omega) hq hp) (by rw [addsN_mat g15 gk hq])
         · exact Ends.eqv (bAdds_E_7 x k (by simp [g5]) (by simp [g27]) (by simp [g7]) (by simp [g15]) (by simpa using gk)) (by simp [addsN, g15, gk])
       · exact Ends.eqv (bAdds_E_8 x k (by simp [g5]) (by simp [g27]) (by simp [g7]) (by simp [g15])) (by simp [addsN, g5, g27, g7, g15])
end Go.Hb
namespace Go.Hb
open Go.Proofs
end Go.Hb
namespace Go.Hb
open Go.Proofs
end Go.Hb
namespace Go.Hb
open Go.Proofs
set_option maxHeartbeats 1000000
/-- what a formed program is, node by node -/
structure FineP (p : Prog) : Prop where
 small : p.nodes.length ≤ 320
 fsmall : p.funs.length ≤ 320
 node : ∀ (i : Nat) (x : Node), p.nodes[i]? = some x → FineN p.cons x ∧ x.kids.length ≤ 10 ∧ ∀ k ∈ x.kids, (i : Int) < k ∧ k < p.nodes.length
 funs : ∀ f ∈ p.funs, 0 ≤ f ∧ f < p.nodes.length
/-! ## the walk, in plain words -/
def stepAV (a fn sz : Int) : AV := .agg [.int .i64 a, .int .i64 fn, .int .i64 sz]
end Go.Hb
