/-
  OWN WORK (V15, V16, H3, H4, V21, H1, H2, V22, H12, V36, V37, V38, V30, H8, H9, V31, V32, V33, H10, V34, H13, V39, V40, V41, V23, H5, H6, V24, V25, V26, V42): a machine on abstract values, its soundness, ways through the text (the ways WRITTEN BY A PROGRAM), plain laws.
-/
import Derived.Test.YtbbhmgikbgkfeaaGreatHF
import Derived.Test.YtbbhmgikbgkfeaaGreatHG
import Derived.Test.YtbbhmgikbgkfeaaGreatHH
set_option linter.unusedVariables false
set_option linter.unusedSimpArgs false
set_option linter.unusedSectionVars false
set_option maxRecDepth 100000
namespace Go.Hb
open Go.Proofs
set_option maxHeartbeats 1000000
def insAll : List Str → List (Str × Bool) → List (Str × Bool)
 | [], m => m
 | x :: t, m => insAll t (mIns x true m)
theorem bDiffer_loop (l : List Str) (hl : l.length < 1000000) : ∀ (t : List Str) (i : Nat) (m : List (Str × Bool)), l.drop i = t → Ends PP 0 (bDiffer_c0 l (i : Int) m).as (.ret (.bool (decide ((insAll t m).length = l.length)))) (hpOf [] 0)
 | [], i, m, h => by
  have := dropN h
  refine Ends.eqv (bDiffer_0_1 l i m sd) ?_
  have : (((List.length m : Nat) : Int) == ((List.length l : Nat) : Int)) = decide (m.length = l.length) := by
   by_cases k : m.length = l.length <;> simp [k] <;> omega
  rw [this]; rfl
 | x :: t, i, m, h => by
  obtain ⟨g1, g2, g3⟩ := dropC h
  refine (bDiffer_0_0 l i m x sd sd sd sd).ends ?_
  exact bDiffer_loop l hl t (i + 1) _ g2
theorem mIns_old {k : Str} {v w : Bool} : ∀ {m : List (Str × Bool)}, mGet k m = some w → (mIns k v m).map Prod.fst = m.map Prod.fst
 | [], h => by cases h
 | e :: m, h => by
  unfold mGet at h
  unfold mIns
  split at h
  · rename_i hk; rw [if_pos hk]; simp [hk]
  · rename_i hk; rw [if_neg hk]; simp [mIns_old h]
theorem mIns_new {k : Str} {v : Bool} : ∀ {m : List (Str × Bool)}, mGet k m = none → (mIns k v m).map Prod.fst = m.map Prod.fst ++ [k]
 | [], _ => rfl
 | e :: m, h => by
  unfold mGet at h
  unfold mIns
  split at h
  · cases h
  · rename_i hk; rw [if_neg hk]; simp [mIns_new h]
theorem mGet_has {k : Str} : ∀ {m : List (Str × Bool)}, (mGet k m).isSome = hasS (m.map Prod.fst) k
 | [] => rfl
 | e :: m => by
  unfold mGet
  split
  · rename_i hk; simp [hasS, hk]
  · rename_i hk
    have : ¬ e.1 = k := fun h => hk h.symm
    rw [mGet_has]; simp [hasS, this]
theorem insAll_le : ∀ (t : List Str) (m : List (Str × Bool)), (insAll t m).length ≤ m.length + t.length
 | [], m => by simp [insAll]
 | x :: t, m => by
  have a := insAll_le t (mIns x true m)
  have b : (mIns x true m).length ≤ m.length + 1 := by
   cases h : mGet x m with
   | none => have := congrArg List.length (mIns_new (v := true) h); simp at this; omega
   | some w => have := congrArg List.length (mIns_old (v := true) h); simp at this; omega
  simp only [insAll, List.length_cons]; omega
theorem insAll_iff : ∀ (t : List Str) (m : List (Str × Bool)), (insAll t m).length = m.length + t.length ↔ differFrom (m.map Prod.fst) t = true
 | [], m => by simp [insAll, differFrom]
 | x :: t, m => by
  simp only [insAll, differFrom]
  cases h : mGet x m with
  | some w =>
   have e := mIns_old (v := true) h
   have hs : hasS (m.map Prod.fst) x = true := by rw [← mGet_has, h]; rfl
   have a := insAll_le t (mIns x true m)
   have b := congrArg List.length e
   simp only [List.length_map] at b
   rw [hs]
   constructor
   · intro g; simp only [List.length_cons] at g; omega
   · intro g; simp at g
  | none =>
   have e := mIns_new (v := true) h
   have hs : hasS (m.map Prod.fst) x = false := by rw [← mGet_has, h]; rfl
   have ih := insAll_iff t (mIns x true m)
   have b := congrArg List.length e
   simp only [List.length_map, List.length_append, List.length_singleton] at b
   rw [hs, ← e]
   simp only [Bool.not_false, Bool.true_and, List.length_cons]
   rw [← ih, b]
   omega
theorem bDiffer_pure (l : List Str) (hl : l.length < 1000000) : Pure PP 79 [.ilst 1 (List.map avS l) false] (.bool (differS l)) := by
 refine pure_at (by kernel_rfl) rfl rfl ((bDiffer_E_0 l).ends (Ends.eqv (bDiffer_loop l hl l 0 [] rfl) ?_))
 have := insAll_iff l []
 simp only [List.length_nil, Nat.zero_add, List.map_nil] at this
 congr 1
 cases k : differS l with
 | true => exact decide_eq_true (this.2 k)
 | false => exact decide_eq_false fun g => by have := this.1 g; unfold differS at k; rw [k] at this; cases this
theorem bEvC_loop (l : List Con) (hl : l.length < 1000000) : ∀ (t : List Con) (i : Nat), l.drop i = t → Ends PP 0 (bEvC_c0 l (i : Int)).as (.ret (.bool (t.all consOk1))) (hpOf [] 0)
 | [], i, h => by
  have := dropN h
  exact Ends.eqv (bEvC_0_2 l i sd) (by simp)
 | c :: t, i, h => by
  obtain ⟨g1, g2, g3⟩ := dropC h
  have hq := bCon_pure c
  cases k : consOk1 c with
  | false => rw [k] at hq; exact Ends.eqv (bEvC_0_0 l i c false sd sd sd hq rfl) (by simp [k])
  | true =>
   rw [k] at hq
   refine (bEvC_0_1 l i c true sd sd sd hq rfl sd).ends ?_
   exact Ends.eqv (bEvC_loop l hl t (i + 1) g2) (by simp [k])
theorem bEvC_pure (l : List Con) (hl : l.length < 1000000) : Pure PP 77 [.ilst 2 (List.map Con.av l) false, .func 78 [] []] (.bool (l.all consOk1)) :=
 pure_at (by kernel_rfl) rfl rfl ((bEvC_E_0 l).ends (bEvC_loop l hl l 0 rfl))
theorem bEvN_loop (l : List Node) (p : Prog) (hl : l.length < 1000000) (ih : ∀ x ∈ l, Pure PP 83 [Prog.av p, Node.av x] (.bool (nodeOk p x))) : ∀ (t : List Node) (i : Nat), l.drop i = t → Ends PP 0 (bEvN_c0 l p (i : Int)).as (.ret (.bool (t.all (nodeOk p)))) (hpOf [] 0)
 | [], i, h => by
  have := dropN h
  exact Ends.eqv (bEvN_0_2 l p i sd) (by simp)
 | c :: t, i, h => by
  obtain ⟨g1, g2, g3⟩ := dropC h
  have hq := ih c (List.mem_of_getElem? g1)
  cases k : nodeOk p c with
  | false => rw [k] at hq; exact Ends.eqv (bEvN_0_0 l p i c false sd sd sd hq rfl) (by simp [k])
  | true =>
   rw [k] at hq
   refine (bEvN_0_1 l p i c true sd sd sd hq rfl sd).ends ?_
   exact Ends.eqv (bEvN_loop l p hl ih t (i + 1) g2) (by simp [k])
theorem bEvN_pure (l : List Node) (p : Prog) (hl : l.length < 1000000) (ih : ∀ x ∈ l, Pure PP 83 [Prog.av p, Node.av x] (.bool (nodeOk p x))) : Pure PP 82 [.ilst 4 (List.map Node.av l) false, .func 83 [Prog.av p] []] (.bool (l.all (nodeOk p))) :=
 pure_at (by kernel_rfl) rfl rfl ((bEvN_E_0 l p).ends (bEvN_loop l p hl ih l 0 rfl))
def one (k : Int) : Bool := decide (k = 1)
theorem bEvI_loop (l : List Int) (hl : l.length < 1000000) : ∀ (t : List Int) (i : Nat), l.drop i = t → Ends PP 0 (bEvI_c0 l (i : Int)).as (.ret (.bool (t.all one))) (hpOf [] 0)
 | [], i, h => by
  have := dropN h
  exact Ends.eqv (bEvI_0_2 l i sd) (by simp)
 | c :: t, i, h => by
  obtain ⟨g1, g2, g3⟩ := dropC h
  by_cases k : c = 1
  · refine (bEvI_0_1 l i c sd sd sd (by simp [k]) sd).ends ?_
    exact Ends.eqv (bEvI_loop l hl t (i + 1) g2) (by simp [k, one])
  · exact Ends.eqv (bEvI_0_0 l i c sd sd sd (by simp [k])) (by simp [k, one])
theorem bEvI_pure (l : List Int) (hl : l.length < 1000000) : Pure PP 84 [.ilst 1 (List.map avI l) true, .func 85 [] []] (.bool (l.all one)) :=
 pure_at (by kernel_rfl) rfl rfl ((bEvI_E_0 l).ends (bEvI_loop l hl l 0 rfl))
theorem bMap_loop (l : List Con) (hl : l.length < 100000) : ∀ (t : List Con) (i : Nat), l.drop i = t → Ends PP 0 (bMap_c0 l (i : Int) (consNames (l.take i))).as (.ret (.ilst 1 (List.map avS (consNames l)) false)) (hpOf [] 0)
 | [], i, h => by
  have hi := dropN h
  have e : consNames (l.take i) = consNames l := by rw [List.take_of_length_le hi]
  rw [e]
  exact bMap_0_1 l i _ sd
 | c :: t, i, h => by
  obtain ⟨g1, g2, g3⟩ := dropC h
  have e : consNames (l.take i) ++ [c.name] = consNames (l.take (i + 1)) := by
   rw [List.take_add_one, g1]; simp [consNames]
  refine (bMap_0_0 l i (consNames (l.take i)) c sd sd sd (by simp [consNames]; omega) sd).ends ?_
  rw [e]
  exact bMap_loop l hl t (i + 1) g2
theorem bMap_pure (l : List Con) (hl : l.length < 100000) : Pure PP 80 [.ilst 2 (List.map Con.av l) false, .func 81 [] []] (.ilst 1 (List.map avS (consNames l)) false) :=
 pure_at (by kernel_rfl) rfl rfl ((bMap_E_0 l).ends (bMap_loop l hl l 0 rfl))
def incs (lo n : Int) : List Int → List Int → Option (List Int)
 | [], c => some c
 | k :: ks, c => if inB k lo (n - 1) = true then incs lo n ks (c.set k.toNat (c.getD k.toNat 0 + 1)) else none
def bNodes (p : Prog) : Nat → List Node → List Int → Option (List Int)
 | _, [], c => some c
 | i, x :: t, c => match incs ((i : Int) + 1) (p.nodes.length : Int) x.kids c with
   | some d => bNodes p (i + 1) t d
   | none => none
def allOnes : Option (List Int) → Bool
 | some c => c.all one
 | none => false
def below (b : Int) (c : List Int) : Prop := ∀ k ∈ c, 0 ≤ k ∧ k ≤ b
theorem below_get {b : Int} {c : List Int} (h : below b c) {i : Nat} {z : Int} (hz : c[i]? = some z) : 0 ≤ z ∧ z ≤ b := h z (List.mem_of_getElem? hz)
theorem below_set {b : Int} {c : List Int} (h : below b c) {i : Nat} {z : Int} (hz : c[i]? = some z) : below (b + 1) (c.set i (z + 1)) := fun k hk => by
 rcases List.mem_or_eq_of_mem_set hk with g | g
 · have := h k g; omega
 · have := below_get h hz; omega
theorem bF2 (p : Prog) (i : Nat) (hi : i < p.nodes.length) (hn : p.nodes.length ≤ 1000) (ks : List Int) (hk : ks.length ≤ 1000) (K : List Int → Bool) (B : Int) (hB : 0 ≤ B) (hB2 : B ≤ 1000000)
  (hb : ∀ v : List Int, v.length = p.nodes.length → below (B + ks.length) v → Ends PP 0 (bFormed_c1 p v ((i : Int) + 1)).as (.ret (.bool (K v))) (hpOf [] 0)) :
  ∀ (t : List Int) (k : Nat) (c : List Int), c.length = p.nodes.length → k ≤ ks.length → below (B + k) c → ks.drop k = t → Ends PP 0 (bFormed_c2 p ks (ks.length : Int) c (k : Int) (i : Int) (i : Int)).as (.ret (.bool (match incs ((i : Int) + 1) p.nodes.length t c with | some v => K v | none => false))) (hpOf [] 0)
 | [], k, c, hc, hkl, hbl, h => by
  have := dropN h
  have e : k = ks.length := by omega
  subst e
  refine (bFormed_2_2 p ks ks.length c ks.length i i sd sd).ends ?_
  exact hb c hc hbl
 | y :: t, k, c, hc, hkl, hbl, h => by
  obtain ⟨g1, g2, g3⟩ := dropC h
  have hin := bIn_pure y ((i : Int) + 1) ((p.nodes.length : Int) - 1)
  cases k1 : inB y ((i : Int) + 1) ((p.nodes.length : Int) - 1) with
  | false =>
   rw [k1] at hin
   exact Ends.eqv (bFormed_2_0 p ks ks.length c k i i y false sd sd sd sd sd hin rfl) (by simp [incs, k1])
  | true =>
   rw [k1] at hin
   have hy := inB_iff.1 k1
   obtain ⟨z, hz⟩ : ∃ z, c[y.toNat]? = some z := ⟨_, List.getElem?_eq_getElem (by omega)⟩
   have hzb := below_get hbl hz
   refine (bFormed_2_1 p ks ks.length c k i i y true z sd sd sd sd sd hin rfl (by omega) (by omega) hz sd sd).ends ?_
   have e : c.getD y.toNat 0 = z := by rw [List.getD_eq_getElem?_getD, hz]; rfl
   have ei : incs ((i : Int) + 1) p.nodes.length (y :: t) c = incs ((i : Int) + 1) p.nodes.length t (c.set y.toNat (z + 1)) := by
    rw [incs, if_pos k1, e]
   rw [ei]
   refine bF2 p i hi hn ks hk K B hB hB2 hb t (k + 1) (c.set y.toNat (z + 1)) (by simpa using hc) (by omega) ?_ g2
   have := below_set hbl hz
   intro q hq
   have := this q hq
   push_cast
   omega
def kidsSum : List Node → Nat
 | [] => 0
 | x :: t => x.kids.length + kidsSum t
theorem kidsSum_le : ∀ (t : List Node), (∀ x ∈ t, x.kids.length ≤ 10) → kidsSum t ≤ 10 * t.length
 | [], _ => by simp [kidsSum]
 | x :: t, h => by
  have a := kidsSum_le t (fun y hy => h y (List.mem_cons_of_mem _ hy))
  have b := h x (List.mem_cons_self ..)
  simp only [kidsSum, List.length_cons]; omega
theorem bF1 (p : Prog) (hp : smallProg p = true) (hn : p.nodes.length ≤ 1000) : ∀ (t : List Node) (i : Nat) (c : List Int) (B : Int), 0 ≤ B → B + kidsSum t ≤ 100000 → c.length = p.nodes.length → below B c → p.nodes.drop i = t →
  Ends PP 0 (bFormed_c1 p c (i : Int)).as (.ret (.bool (allOnes (bNodes p i t c)))) (hpOf [] 0)
 | [], i, c, B, h0, h1, hc, hb, h => by
  have := dropN h
  exact Ends.eqv (bFormed_1_1 p c i _ sd (bEvI_pure c (by omega))) rfl
 | x :: t, i, c, B, h0, h1, hc, hb, h => by
  obtain ⟨g1, g2, g3⟩ := dropC h
  have hx : smallNode x = true := by
   simp only [smallProg, Bool.and_eq_true] at hp
   exact List.all_eq_true.1 hp.2 x (List.mem_of_getElem? g1)
  simp only [smallNode, Bool.and_eq_true, decide_eq_true_eq] at hx
  simp only [kidsSum] at h1
  refine (bFormed_1_0 p c i x sd sd sd).ends ?_
  refine Ends.eqv (bF2 p i g3 hn x.kids (by omega) (fun v => allOnes (bNodes p (i + 1) t v)) B h0 (by omega) (fun v hv hbv => bF1 p hp hn t (i + 1) v (B + x.kids.length) (by omega) (by omega) hv hbv g2) x.kids 0 c hc (by omega) (by simpa using hb) rfl) ?_
  rw [bNodes]
  cases incs ((i : Int) + 1) (p.nodes.length : Int) x.kids c <;> rfl
theorem bF0 (p : Prog) (hp : smallProg p = true) (hn : p.nodes.length ≤ 1000) (hks : kidsSum p.nodes ≤ 10000) (hf : p.funs.length ≤ 1000) : ∀ (t : List Int) (i : Nat) (c : List Int), i ≤ p.funs.length → c.length = p.nodes.length → below (i : Int) c → p.funs.drop i = t →
  Ends PP 0 (bFormed_c0 p (i : Int) c).as (.ret (.bool (match incs 0 p.nodes.length t c with | some v => allOnes (bNodes p 0 p.nodes v) | none => false))) (hpOf [] 0)
 | [], i, c, hi, hc, hb, h => by
  have := dropN h
  refine (bFormed_0_2 p i c sd).ends ?_
  exact bF1 p hp hn p.nodes 0 c i (by omega) (by omega) hc hb rfl
 | y :: t, i, c, hi, hc, hb, h => by
  obtain ⟨g1, g2, g3⟩ := dropC h
  have hin := bIn_pure y 0 ((p.nodes.length : Int) - 1)
  cases k1 : inB y 0 ((p.nodes.length : Int) - 1) with
  | false =>
   rw [k1] at hin
   exact Ends.eqv (bFormed_0_0 p i c y false sd sd sd sd hin rfl) (by simp [incs, k1])
  | true =>
   rw [k1] at hin
   have hy := inB_iff.1 k1
   obtain ⟨z, hz⟩ : ∃ z, c[y.toNat]? = some z := ⟨_, List.getElem?_eq_getElem (by omega)⟩
   have hzb := below_get hb hz
   refine (bFormed_0_1 p i c y true z sd sd sd sd hin rfl (by omega) (by omega) hz sd sd).ends ?_
   have e : c.getD y.toNat 0 = z := by rw [List.getD_eq_getElem?_getD, hz]; rfl
   have ei : incs 0 p.nodes.length (y :: t) c = incs 0 p.nodes.length t (c.set y.toNat (z + 1)) := by
    rw [incs, if_pos k1, e]
   rw [ei]
   refine bF0 p hp hn hks hf t (i + 1) (c.set y.toNat (z + 1)) (by omega) (by simpa using hc) ?_ g2
   have := below_set hb hz
   intro q hq
   have := this q hq
   push_cast
   omega
end Go.Hb
namespace Go.Hb
open Go.Proofs
set_option maxHeartbeats 1000000
def bindFormed (p : Prog) : Bool :=
 progHead p && decide (p.cons.length ≤ 20) && p.cons.all consOk1 && differS (consNames p.cons) && p.nodes.all (nodeOk p) &&
  (match incs 0 (p.nodes.length : Int) p.funs (List.replicate p.nodes.length 0) with
  | some v => allOnes (bNodes p 0 p.nodes v)
  | none => false)
theorem small_nodes {p : Prog} (hp : smallProg p = true) : ∀ x ∈ p.nodes, x.kids.length ≤ 10 ∧ x.pats.length ≤ 10 := fun x hx => by
 simp only [smallProg, Bool.and_eq_true] at hp
 have := List.all_eq_true.1 hp.2 x hx
 simp only [smallNode, Bool.and_eq_true, decide_eq_true_eq] at this
 exact this.1
theorem bFormed_pure (p : Prog) (hp : smallProg p = true) : Pure PP 38 [Prog.av p] (.bool (bindFormed p)) := by
 refine pure_at (by kernel_rfl) rfl rfl ?_
 have hs := hp
 simp only [smallProg, Bool.and_eq_true, decide_eq_true_eq] at hs
 obtain ⟨⟨⟨⟨s1, s2⟩, s3⟩, _⟩, _⟩ := hs
 have hno := small_nodes hp
 by_cases k0 : p.nodes.length ≤ 300
 · by_cases k1 : 1 ≤ p.funs.length
   · by_cases k2 : p.funs.length ≤ p.nodes.length
     · have kk : inB (p.funs.length : Int) 1 (p.nodes.length : Int) = true := inB_iff.2 ⟨by omega, by omega⟩
       by_cases k3 : p.cons.length ≤ 20
       · have hi := bIn_pure p.main 0 ((p.funs.length : Int) - 1)
         cases k4 : inB p.main 0 ((p.funs.length : Int) - 1) with
         | false =>
          rw [k4] at hi
          exact Ends.eqv (bFormed_E_4 p false sd sd sd sd sd hi rfl) (by simp [bindFormed, progHead, k4])
         | true =>
          rw [k4] at hi
          have hh : progHead p = true := by simp [progHead, k0, kk, k4]
          have hc := bEvC_pure p.cons (by omega)
          cases k5 : p.cons.all consOk1 with
          | false =>
           rw [k5] at hc
           exact Ends.eqv (bFormed_E_5 p true false sd sd sd sd sd hi rfl hc rfl) (by simp only [bindFormed, k5, Bool.and_false, Bool.false_and])
          | true =>
           rw [k5] at hc
           have hm := bMap_pure p.cons (by omega)
           have hd := bDiffer_pure (consNames p.cons) (by simp [consNames]; omega)
           cases k6 : differS (consNames p.cons) with
           | false =>
            rw [k6] at hd
            exact Ends.eqv (bFormed_E_6 p true true (consNames p.cons) false sd sd sd sd sd hi rfl hc rfl hm hd rfl) (by simp only [bindFormed, k6, Bool.and_false, Bool.false_and])
           | true =>
            rw [k6] at hd
            have hn := bEvN_pure p.nodes p (by omega) (fun x hx => bNode_pure p x (by omega) (by omega) (hno x hx).2 (hno x hx).1)
            cases k7 : p.nodes.all (nodeOk p) with
            | false =>
             rw [k7] at hn
             exact Ends.eqv (bFormed_E_7 p true true (consNames p.cons) true false sd sd sd sd sd hi rfl hc rfl hm hd rfl hn rfl) (by simp only [bindFormed, k7, Bool.and_false, Bool.false_and])
            | true =>
             rw [k7] at hn
             refine (bFormed_E_8 p true true (consNames p.cons) true true sd sd sd sd sd hi rfl hc rfl hm hd rfl hn rfl (by omega)).ends ?_
             have hks := kidsSum_le p.nodes (fun x hx => (hno x hx).1)
             refine Ends.eqv (bF0 p hp (by omega) (by omega) (by omega) p.funs 0 _ (by omega) (by simp) ?_ rfl) ?_
             · intro q hq
               have := (List.mem_replicate.1 hq).2
               omega
             · simp only [bindFormed, hh, decide_eq_true k3, k5, k6, k7, Bool.true_and] <;> rfl
       · exact Ends.eqv (bFormed_E_3 p sd sd sd sd) (by simp [bindFormed, k3])
     · have kk : inB (p.funs.length : Int) 1 (p.nodes.length : Int) = false := inB_not.2 (by omega)
       exact Ends.eqv (bFormed_E_2 p sd sd sd) (by simp [bindFormed, progHead, kk])
   · have kk : inB (p.funs.length : Int) 1 (p.nodes.length : Int) = false := inB_not.2 (by omega)
     exact Ends.eqv (bFormed_E_1 p sd sd) (by simp [bindFormed, progHead, kk])
 · exact Ends.eqv (bFormed_E_0 p sd) (by simp [bindFormed, progHead, k0])
theorem bCheck_pure (p : Prog) (hp : smallProg p = true) : Pure PP 10 [Prog.av p] (.int .i64 (checkN (bindFormed p))) := by
 refine pure_at (by kernel_rfl) rfl rfl ?_
 have h := bFormed_pure p hp
 cases k : bindFormed p with
 | false => rw [k] at h; exact bCheck_E_0 p false h rfl
 | true => rw [k] at h; exact bCheck_E_1 p true h rfl
def cnt (b : Bool) : Int := if b = true then 1 else 0
def cnts (u : List Bool) : List Int := u.map cnt
def Spoilt (c : List Int) : Prop := (∃ (i : Nat) (z : Int), c[i]? = some z ∧ 2 ≤ z) ∧ ∀ z ∈ c, 0 ≤ z
theorem spoilt_ones {c : List Int} (h : Spoilt c) : c.all one = false := by
 obtain ⟨⟨i, z, h1, h2⟩, _⟩ := h
 cases k : c.all one with
 | false => rfl
 | true =>
  have := List.all_eq_true.1 k z (List.mem_of_getElem? h1)
  simp only [one, decide_eq_true_eq] at this; omega
theorem spoilt_set {c : List Int} {j : Nat} (h : Spoilt c) : Spoilt (c.set j (c.getD j 0 + 1)) := by
 obtain ⟨⟨i, z, h1, h2⟩, h3⟩ := h
 have hi := (List.getElem?_eq_some_iff.1 h1).1
 refine ⟨⟨i, if j = i then z + 1 else z, ?_, by split <;> omega⟩, fun q hq => ?_⟩
 · rw [List.getElem?_set]
   by_cases e : j = i
   · subst e
     rw [if_pos rfl, if_pos hi, if_pos rfl, List.getD_eq_getElem?_getD, h1]; rfl
   · rw [if_neg e, if_neg e]; exact h1
 · rcases List.mem_or_eq_of_mem_set hq with g | g
   · exact h3 q g
   · rw [g, List.getD_eq_getElem?_getD]
     cases k : c[j]? with
     | none => simp
     | some w => have := h3 w (List.mem_of_getElem? k); simp; omega
theorem incs_spoilt {lo n : Int} : ∀ {ks c : List Int} {d : List Int}, Spoilt c → incs lo n ks c = some d → Spoilt d
 | [], c, d, h, e => by simp only [incs, Option.some.injEq] at e; rw [← e]; exact h
 | k :: ks, c, d, h, e => by
  simp only [incs] at e
  split at e
  · exact incs_spoilt (spoilt_set h) e
  · cases e
theorem cnts_nonneg (u : List Bool) : ∀ z ∈ cnts u, 0 ≤ z := fun z hz => by
 obtain ⟨b, _, rfl⟩ := List.mem_map.1 hz
 cases b <;> simp [cnt]
theorem marks_incs {lo n : Int} (hlo : 0 ≤ lo) : ∀ (ks : List Int) (u : List Bool), n ≤ u.length →
  (∀ v, marks lo n ks u = some v → incs lo n ks (cnts u) = some (cnts v)) ∧ (marks lo n ks u = none → ∀ d, incs lo n ks (cnts u) = some d → Spoilt d)
 | [], u, hn => by
  simp only [marks, incs, Option.some.injEq]
  exact ⟨fun v e => by rw [e], fun e => by cases e⟩
 | k :: ks, u, hn => by
  simp only [marks, incs]
  by_cases h1 : inB k lo (n - 1) = true
  · have hk := inB_iff.1 h1
    have hlt : k.toNat < u.length := by omega
    have hget : u[k.toNat]? = some u[k.toNat] := List.getElem?_eq_getElem hlt
    have hc : (cnts u).getD k.toNat 0 = cnt u[k.toNat] := by
     rw [List.getD_eq_getElem?_getD, cnts, List.getElem?_map, hget]; rfl
    rw [if_pos h1]
    cases hb : u[k.toNat] with
    | false =>
     rw [hb] at hget hc
     rw [if_pos ⟨h1, hget⟩]
     have e : (cnts u).set k.toNat ((cnts u).getD k.toNat 0 + 1) = cnts (u.set k.toNat true) := by
      rw [hc, cnts, cnts, List.map_set]; rfl
     rw [e]
     exact marks_incs hlo ks (u.set k.toNat true) (by simpa using hn)
    | true =>
     rw [hb] at hget hc
     rw [if_neg (by rw [hget]; simp)]
     refine And.intro (fun v e => nomatch e) (fun _ d e => incs_spoilt (And.intro ⟨k.toNat, 2, ?_, by omega⟩ ?_) e)
     · rw [hc, List.getElem?_set_self (by simp [cnts]; exact hlt)]; rfl
     · intro z hz
       rcases List.mem_or_eq_of_mem_set hz with g | g
       · exact cnts_nonneg u z g
       · rw [g, hc]; simp [cnt]
  · rw [if_neg h1, if_neg (fun g => h1 g.1)]
    exact And.intro (fun v e => nomatch e) (fun _ d e => nomatch e)
theorem bNodes_spoilt (p : Prog) : ∀ (t : List Node) (i : Nat) (c : List Int), Spoilt c → allOnes (bNodes p i t c) = false
 | [], i, c, h => by rw [bNodes]; exact spoilt_ones h
 | x :: t, i, c, h => by
  rw [bNodes]
  cases e : incs ((i : Int) + 1) (p.nodes.length : Int) x.kids c with
  | none => rfl
  | some d => exact bNodes_spoilt p t (i + 1) d (incs_spoilt h e)
theorem cnts_ones : ∀ (u : List Bool), (cnts u).all one = u.all fun b => b
 | [] => rfl
 | b :: u => by
  have := cnts_ones u
  simp only [cnts, List.map_cons, List.all_cons] at this ⊢
  rw [this]
  cases b <;> simp [cnt, one]
theorem nodes_eq (p : Prog) : ∀ (t : List Node) (i : Nat) (u : List Bool), u.length = p.nodes.length → t.all (nodeOk p) = true → allT (refNodes p i t u) = allOnes (bNodes p i t (cnts u))
 | [], i, u, hu, _ => by simp only [refNodes, bNodes, allT, allOnes, cnts_ones]
 | x :: t, i, u, hu, ha => by
  simp only [List.all_cons, Bool.and_eq_true] at ha
  obtain ⟨m1, m2⟩ := marks_incs (lo := (i : Int) + 1) (n := (p.nodes.length : Int)) (by omega) x.kids u (by omega)
  simp only [refNodes, bNodes, if_pos ha.1]
  cases hm : marks ((i : Int) + 1) (p.nodes.length : Int) x.kids u with
  | some v =>
   rw [m1 v hm]
   exact nodes_eq p t (i + 1) v (by rw [marks_len hm, hu]) ha.2
  | none =>
   cases hi : incs ((i : Int) + 1) (p.nodes.length : Int) x.kids (cnts u) with
   | none => rfl
   | some d => exact (bNodes_spoilt p t (i + 1) d (m2 hm d hi)).symm
theorem refNodes_bad (p : Prog) : ∀ (t : List Node) (i : Nat) (u : List Bool), t.all (nodeOk p) = false → allT (refNodes p i t u) = false
 | [], i, u, h => by simp at h
 | x :: t, i, u, h => by
  simp only [refNodes]
  by_cases hx : nodeOk p x = true
  · rw [if_pos hx]
    have ht : t.all (nodeOk p) = false := by simpa [hx] using h
    cases marks ((i : Int) + 1) (p.nodes.length : Int) x.kids u with
    | none => rfl
    | some v => exact refNodes_bad p t (i + 1) v ht
  · rw [if_neg hx]; rfl
theorem formed_eq (p : Prog) : bindFormed p = refFormed p := by
 have e1 : bindFormed p = (progHead p && consOk p.cons && (p.nodes.all (nodeOk p) && (match incs 0 (p.nodes.length : Int) p.funs (List.replicate p.nodes.length 0) with
  | some v => allOnes (bNodes p 0 p.nodes v)
  | none => false))) := by
  unfold bindFormed consOk
  cases progHead p <;> cases p.cons.all consOk1 <;> cases differS (consNames p.cons) <;> cases p.nodes.all (nodeOk p) <;> cases decide (p.cons.length ≤ 20) <;> simp
 rw [e1, refFormed]
 congr 1
 have ez : List.replicate p.nodes.length (0 : Int) = cnts (List.replicate p.nodes.length false) := by rw [cnts, List.map_replicate]; rfl
 rw [ez]
 obtain ⟨m1, m2⟩ := marks_incs (lo := 0) (n := (p.nodes.length : Int)) (by omega) p.funs (List.replicate p.nodes.length false) (by simp)
 cases hm : marks 0 (p.nodes.length : Int) p.funs (List.replicate p.nodes.length false) with
 | some v =>
  rw [m1 v hm]
  cases ha : p.nodes.all (nodeOk p) with
  | true => simp only [Bool.true_and]; exact (nodes_eq p p.nodes 0 v (by rw [marks_len hm]; simp) ha).symm
  | false => simp only [Bool.false_and]; exact (refNodes_bad p p.nodes 0 v ha).symm
 | none =>
  simp only
  cases hi : incs 0 (p.nodes.length : Int) p.funs (cnts (List.replicate p.nodes.length false)) with
  | none => simp
  | some d => simp only [bNodes_spoilt p p.nodes 0 d (m2 hm d hi), Bool.and_false]
end Go.Hb
namespace Go.Hb
open Go.Proofs
theorem bAdds_E_0 (x : Node) (kid : Int) (h0 : (x.op == (5 : Int)) = true) :
  Ends PP 0 (start PP 111 [(Node.av x), (nI kid)]).as (.ret (nI 1)) (hpOf [] 0) :=
 wE 1 [] [qp h0] [rn 13, bt 9, rn 21] trivial
theorem bAdds_E_1 (x : Node) (kid : Int) (h0 : (x.op == (5 : Int)) = false) (h1 : (x.op == (27 : Int)) = true) :
  Ends PP 0 (start PP 111 [(Node.av x), (nI kid)]).as (.ret (nI 1)) (hpOf [] 0) :=
 wE 1 [] [qp h0, qp h1] [rn 13, bf 9, rn 5, bt 14, rn 16] trivial
theorem bAdds_E_2 (x : Node) (kid : Int) (h0 : (x.op == (5 : Int)) = false) (h1 : (x.op == (27 : Int)) = false) (h2 : (x.op == (7 : Int)) = true) (h3 : (kid == (1 : Int)) = true) :
  Ends PP 0 (start PP 111 [(Node.av x), (nI kid)]).as (.ret (nI 1)) (hpOf [] 0) :=
 wE 1 [] [qp h0, qp h1, qp h2, qp h3] [rn 13, bf 9, rn 5, bf 14, rn 4, bt 18, rn 6, bt 5, rn 6] trivial
theorem bAdds_E_5 (x : Node) (kid : Int) (h0 : (x.op == (5 : Int)) = false) (h1 : (x.op == (27 : Int)) = false) (h2 : (x.op == (7 : Int)) = true) (h3 : (kid == (1 : Int)) = false) (h4 : (x.op == (15 : Int)) = false) :
  Ends PP 0 (start PP 111 [(Node.av x), (nI kid)]).as (.ret (nI 0)) (hpOf [] 0) :=
 wE 1 [] [qp h0, qp h1, qp h2, qp h3, qp h4] [rn 13, bf 9, rn 5, bf 14, rn 4, bt 18, rn 6, bf 5, rn 7, bf 27, rn 13] trivial
theorem bAdds_E_6 (x : Node) (kid y_form0 y_n1 : Int) (y_text2 : Str) (y_parts3 : List Pat) (y4 : Int) (h0 : (x.op == (5 : Int)) = false) (h1 : (x.op == (27 : Int)) = false) (h2 : (x.op == (7 : Int)) = false) (h3 : (x.op == (15 : Int)) = true) (h4 : decide (kid > (0 : Int)) = true) (h5 : (IntKind.i64.wrap (kid - (1 : Int))) = (kid - (1 : Int))) (h6 : 0 ≤ (kid - (1 : Int))) (h7 : ((x.pats)[(kid - (1 : Int)).toNat]?) = some (Pat.mk y_form0 y_n1 y_text2 y_parts3)) (h8 : Pure PP 159 [(.agg [(nI y_form0), (nI y_n1), (avS y_text2), (iP y_parts3)])] (nI y4)) :
  Ends PP 0 (start PP 111 [(Node.av x), (nI kid)]).as (.ret (nI y4)) (hpOf [] 0) :=
 wE 1 [] [qp h0, qp h1, qp h2, qp h3, qp h4, qp (congrArg (AV.int .i64) h5), qp h6, qgP h7, qp h8] [rn 13, bf 9, rn 5, bf 14, rn 4, bf 18, rn 13, bt 27, rn 5, bt 23, rn 7, sI 34 (kid - (1 : Int)), aI (Pat.av (Pat.mk y_form0 y_n1 y_text2 y_parts3)), rn 1, .pure (nI y4), rn 3] trivial
theorem bAdds_E_7 (x : Node) (kid : Int) (h0 : (x.op == (5 : Int)) = false) (h1 : (x.op == (27 : Int)) = false) (h2 : (x.op == (7 : Int)) = false) (h3 : (x.op == (15 : Int)) = true) (h4 : decide (kid > (0 : Int)) = false) :
  Ends PP 0 (start PP 111 [(Node.av x), (nI kid)]).as (.ret (nI 0)) (hpOf [] 0) :=
 wE 1 [] [qp h0, qp h1, qp h2, qp h3, qp h4] [rn 13, bf 9, rn 5, bf 14, rn 4, bf 18, rn 13, bt 27, rn 5, bf 23, rn 8] trivial
theorem bAdds_E_8 (x : Node) (kid : Int) (h0 : (x.op == (5 : Int)) = false) (h1 : (x.op == (27 : Int)) = false) (h2 : (x.op == (7 : Int)) = false) (h3 : (x.op == (15 : Int)) = false) :
  Ends PP 0 (start PP 111 [(Node.av x), (nI kid)]).as (.ret (nI 0)) (hpOf [] 0) :=
 wE 1 [] [qp h0, qp h1, qp h2, qp h3] [rn 13, bf 9, rn 5, bf 14, rn 4, bf 18, rn 13, bf 27, rn 13] trivial
noncomputable def bNames_c0 (q_form q_n : Int) (q_text : Str) (q_parts : List Pat) (n3 t12 : Int) : TS :=
 { fr := { fn := 159, nt := 22, sl := [(2, (nI 0)), (3, (nI n3)), (10, (iP q_parts)), (11, (nI (q_parts.length : Int))), (12, (nI t12))], todo := [.code (cd Tryz.f159 [1, 1, 1, 0, 1, 0, 0]), .inLoop (cd Tryz.f159 [1, 1, 1, 0, 1, 0, 0]), .inBlock 0, .code (cd Tryz.f159 [1, 1, 1, 1])] }, cs := [], hp := [], nb := 0 }
theorem bNames_E_0 (q_form q_n : Int) (q_text : Str) (q_parts : List Pat) (h0 : (q_form == (2 : Int)) = true) :
  Ends PP 0 (start PP 159 [(.agg [(nI q_form), (nI q_n), (avS q_text), (iP q_parts)])]).as (.ret (nI 1)) (hpOf [] 0) :=
 wE 1 [] [qp h0] [rn 12, bt 8, rn 6] trivial
theorem bNames_E_1 (q_form q_n : Int) (q_text : Str) (q_parts : List Pat) (h0 : (q_form == (2 : Int)) = false) :
  LeadsM PP 0 (start PP 159 [(.agg [(nI q_form), (nI q_n), (avS q_text), (iP q_parts)])]).as (bNames_c0 q_form q_n q_text q_parts 0 0).as :=
 wW 1 [] [qp h0, qlP q_parts] [rn 12, bf 8, rn 11, aL q_parts, rn 4] trivial
theorem bNames_0_0 (q_form q_n : Int) (q_text : Str) (q_parts : List Pat) (n3 t12 : Int) (y_form0 y_n1 : Int) (y_text2 : Str) (y_parts3 : List Pat) (y4 : Int) (h0 : decide (t12 < (q_parts.length : Int)) = true) (h1 : 0 ≤ t12) (h2 : ((q_parts)[t12.toNat]?) = some (Pat.mk y_form0 y_n1 y_text2 y_parts3)) (h3 : Pure PP 159 [(.agg [(nI y_form0), (nI y_n1), (avS y_text2), (iP y_parts3)])] (nI y4)) (h4 : (IntKind.i64.wrap (n3 + y4)) = (n3 + y4)) (h5 : (IntKind.i64.wrap (t12 + (1 : Int))) = (t12 + (1 : Int))) :
  LeadsM PP 0 (bNames_c0 q_form q_n q_text q_parts n3 t12).as (bNames_c0 q_form q_n q_text q_parts (n3 + y4) (t12 + (1 : Int))).as :=
 wW 1 [] [qp h0, qp h1, qgP h2, qp h3, qp (congrArg (AV.int .i64) h4), qp (congrArg (AV.int .i64) h5)] [rn 5, bt 13, rn 6, aI (Pat.av (Pat.mk y_form0 y_n1 y_text2 y_parts3)), rn 7, .pure (nI y4), rn 1, sI 19 (n3 + y4), rn 5, sI 20 (t12 + (1 : Int)), rn 3] trivial
theorem bNames_0_1 (q_form q_n : Int) (q_text : Str) (q_parts : List Pat) (n3 t12 : Int) (h0 : decide (t12 < (q_parts.length : Int)) = false) :
  Ends PP 0 (bNames_c0 q_form q_n q_text q_parts n3 t12).as (.ret (nI n3)) (hpOf [] 0) :=
 wE 0 [] [qp h0] [rn 5, bf 13, rn 8] trivial
end Go.Hb
namespace Go.Hb
open Go.Proofs
end Go.Hb
namespace Go.Hb
open Go.Proofs
theorem Ends.val {P : Program} {m : Nat} {s : AS} {v v' : AV} {h' : Hp} (h : Ends P m s (.ret v) h') (hv : ∀ E cv, VR E v cv → VR E v' cv) : Ends P m s (.ret v') h' := fun hm E fr ccs w f fs r cl base => by
 obtain ⟨cl', w', E', s1, ⟨cv, e, g⟩, r2, x2⟩ := h hm E fr ccs w f fs r cl base
 exact ⟨cl', w', E', s1, ⟨cv, e, hv _ _ g⟩, r2, x2⟩
mutual
def bnm : Pat → Int
 | .mk f _ _ ps => if f = 2 then 1 else bnms ps
def bnms : List Pat → Int
 | [] => 0
 | p :: ps => bnm p + bnms ps
end
mutual
theorem bnm_le : ∀ p, 0 ≤ bnm p ∧ bnm p ≤ psize p
 | .mk f _ _ ps => by
  have := bnms_le ps
  simp only [bnm, psize]; split <;> omega
theorem bnms_le : ∀ ps, 0 ≤ bnms ps ∧ bnms ps ≤ psizes ps
 | [] => by simp [bnms, psizes]
 | p :: ps => by
  have := bnm_le p; have := bnms_le ps
  simp only [bnms, psizes]; omega
end
theorem bNames_loop (f n : Int) (s : Str) (ps : List Pat) (hl : ps.length < 1000000) (ih : ∀ p ∈ ps, Pure PP 159 [Pat.av p] (.int .i64 (bnm p))) :
  ∀ (t : List Pat) (i : Nat) (a : Int), 0 ≤ a → a + bnms t ≤ 1000000 → ps.drop i = t → Ends PP 0 (bNames_c0 f n s ps a (i : Int)).as (.ret (.int .i64 (a + bnms t))) (hpOf [] 0)
 | [], i, a, _, _, h => by
  have := dropN h
  exact Ends.eqv (bNames_0_1 f n s ps a i sd) (by simp [bnms])
 | .mk f' n' s' ps' :: t, i, a, ha, hb, h => by
  obtain ⟨g1, g2, g3⟩ := dropC h
  have ihp := ih _ (List.mem_of_getElem? g1)
  have b1 := bnm_le (.mk f' n' s' ps')
  have b2 := bnms_le t
  rw [bnms] at hb ⊢
  refine (bNames_0_0 f n s ps a i f' n' s' ps' _ sd sd sd ihp sd sd).ends ?_
  exact Ends.eqv (bNames_loop f n s ps hl ih t (i + 1) (a + bnm (.mk f' n' s' ps')) (by omega) (by omega) g2) (by rw [Int.add_assoc])
mutual
theorem bNames_pure : ∀ (p : Pat), psize p < 100000 → Pure PP 159 [Pat.av p] (.int .i64 (bnm p))
 | .mk f n s ps, h => by
  refine pure_at (by kernel_rfl) (by simp [AV.keylessL, pat_kl]) rfl ?_
  simp only [psize] at h
  have := psizes_len ps
  have b := bnms_le ps
  by_cases g : f = 2
  · subst g
    exact Ends.eqv (bNames_E_0 2 n s ps rfl) (by simp [bnm])
  · refine (bNames_E_1 f n s ps (by simpa using g)).ends ?_
    exact Ends.eqv (bNames_loop f n s ps (by omega) (bNames_all ps (by omega)) ps 0 0 (by omega) (by omega) rfl) (by simp [bnm, g])
theorem bNames_all : ∀ (ps : List Pat), psizes ps < 100000 → ∀ p ∈ ps, Pure PP 159 [Pat.av p] (.int .i64 (bnm p))
 | [], _, p, hp => by cases hp
 | q :: ps, h, p, hp => by
  simp only [psizes] at h
  rcases List.mem_cons.1 hp with e | hp
  · rw [e]; exact bNames_pure q (by omega)
  · exact bNames_all ps (by omega) p hp
end
def addsN (x : Node) (k : Int) : Int :=
 if x.op = 5 ∨ x.op = 27 ∨ (x.op = 7 ∧ k = 1) then 1
 else if x.op = 15 ∧ k > 0 then (match x.pats[(k - 1).toNat]? with | some q => bnm q | none => 0) else 0
structure FineN (cons : List Con) (x : Node) : Prop where
 pats : ∀ q ∈ x.pats, psize q ≤ 12 ∧ patOk cons q = true
 mat : x.op = 15 → x.kids.length = 1 + x.pats.length
 let2 : x.op = 7 → x.kids.length = 2
theorem fine_of {p : Prog} {x : Node} (h : nodeOk p x = true) : FineN p.cons x := by
 simp only [nodeOk, Bool.and_eq_true, decide_eq_true_eq] at h
 obtain ⟨⟨_, h2⟩, h3⟩ := h
 refine ⟨fun q hq => ?_, fun e => ?_, fun e => ?_⟩
 · have := List.all_eq_true.1 h2 q hq
   simpa [nodePat] using this
 · rw [e] at h3; simp [kidsN] at h3; omega
 · rw [e] at h3; simp [kidsN] at h3; omega
theorem addsN_le {cons : List Con} {x : Node} (hf : FineN cons x) (k : Int) : 0 ≤ addsN x k ∧ addsN x k ≤ 12 := by
 unfold addsN
 split
 · omega
 · split
   · split
     · rename_i q hq
       have := (hf.pats q (List.mem_of_getElem? hq)).1
       have := bnm_le q
       omega
     · omega
   · omega
theorem addsN_mat {x : Node} {k : Int} (h15 : x.op = 15) (hk : k > 0) {q : Pat} (hq : x.pats[(k - 1).toNat]? = some q) : addsN x k = bnm q := by
 unfold addsN
 rw [if_neg (by rw [h15]; omega), if_pos ⟨h15, hk⟩, hq]
theorem bAdds_pure {cons : List Con} {x : Node} (hf : FineN cons x) {k : Int} (h0 : 0 ≤ k) (h1 : k < x.kids.length) (hk : x.kids.length ≤ 10) : Pure PP 111 [Node.av x, .int .i64 k] (.int .i64 (addsN x k)) := by
 refine pure_at (by kernel_rfl) rfl rfl ?_
 have mt : x.op = 15 → k > 0 → ∃ f n s ps, x.pats[(k - 1).toNat]? = some (.mk f n s ps) ∧ Pure PP 159 [Pat.av (.mk f n s ps)] (.int .i64 (bnm (.mk f n s ps))) := fun e g => by
  have hl := hf.mat e
  obtain ⟨q, hq⟩ : ∃ q, x.pats[(k - 1).toNat]? = some q := ⟨_, List.getElem?_eq_getElem (by omega)⟩
  obtain ⟨f, n, s, ps⟩ := q
  have := (hf.pats _ (List.mem_of_getElem? hq)).1
  exact ⟨f, n, s, ps, hq, bNames_pure _ (by omega)⟩
 by_cases g5 : x.op = 5
 · exact Ends.eqv (bAdds_E_0 x k (by simp [g5])) (by simp [addsN, g5])
 · by_cases g27 : x.op = 27
   · exact Ends.eqv (bAdds_E_1 x k (by simp [g5]) (by simp [g27])) (by simp [addsN, g27])
   · by_cases g7 : x.op = 7
     · by_cases gk : k = 1
       · exact Ends.eqv (bAdds_E_2 x k (by simp [g5]) (by simp [g27]) (by simp [g7]) (by simp [gk])) (by simp [addsN, g7, gk])
       · exact Ends.eqv (bAdds_E_5 x k (by simp [g5]) (by simp [g27]) (by simp [g7]) (by simp [gk]) (by simp [g7])) (by simp [addsN, g7, gk])
     · by_cases g15 : x.op = 15
       · by_cases gk : k > 0
         · obtain ⟨f, n, s, ps, hq, hp⟩ := mt g15 gk
           exact Ends.eqv (bAdds_E_6 x k f n s ps _ (by simp [g5]) (by simp [g27]) (by simp [g7]) (by simp [g15]) (by simpa using gk) sd (by omega) hq hp) (by rw [addsN_mat g15 gk hq])
         · exact Ends.eqv (bAdds_E_7 x k (by simp [g5]) (by simp [g27]) (by simp [g7]) (by simp [g15]) (by simpa using gk)) (by simp [addsN, g15, gk])
       · exact Ends.eqv (bAdds_E_8 x k (by simp [g5]) (by simp [g27]) (by simp [g7]) (by simp [g15])) (by simp [addsN, g5, g27, g7, g15])
end Go.Hb
namespace Go.Hb
open Go.Proofs
end Go.Hb
namespace Go.Hb
open Go.Proofs
end Go.Hb
namespace Go.Hb
open Go.Proofs
set_option maxHeartbeats 1000000
structure FineP (p : Prog) : Prop where
 small : p.nodes.length ≤ 320
 fsmall : p.funs.length ≤ 320
 node : ∀ (i : Nat) (x : Node), p.nodes[i]? = some x → FineN p.cons x ∧ x.kids.length ≤ 10 ∧ ∀ k ∈ x.kids, (i : Int) < k ∧ k < p.nodes.length
 funs : ∀ f ∈ p.funs, 0 ≤ f ∧ f < p.nodes.length
def stepAV (a fn sz : Int) : AV := .agg [.int .i64 a, .int .i64 fn, .int .i64 sz]
end Go.Hb
namespace Go.Hb
open Go.Proofs
noncomputable abbrev hoh120  : Nat × AObj × Bool := (7, (.loop .ready none 34 (mkT [(4, (.ptr 3 0)), (6, (.ptr 4 0)), (7, (.ptr 14 0)), (10, (.ptr 5 0)), (13, (.ptr 6 0))]) 106 [41] (cd Tryz.f34 [1, 1, 1, 1, 1, 0, 1, 0, 0]) (cd Tryz.f34 [1, 1, 1, 1, 1, 0, 1, 0, 1]) 8), false)
noncomputable abbrev hoh121  : Nat × AObj × Bool := (7, (.loop .busy none 34 (mkT [(4, (.ptr 3 0)), (6, (.ptr 4 0)), (7, (.ptr 14 0)), (10, (.ptr 5 0)), (13, (.ptr 6 0))]) 106 [41] (cd Tryz.f34 [1, 1, 1, 1, 1, 0, 1, 0, 0]) (cd Tryz.f34 [1, 1, 1, 1, 1, 0, 1, 0, 1]) 8), false)
noncomputable abbrev hoh122 (p : Prog) : Nat × AObj × Bool := (10, (.cells (putCells .leaf 0 [(iN p.nodes), (iI p.funs), (nI p.main), (iC p.cons)]) 4 [] false), false)
noncomputable abbrev hoh123 (p : Prog) : Nat × AObj × Bool := (11, (.cells (putCells .leaf 0 [(iN p.nodes), (iI p.funs), (nI p.main), (iC p.cons)]) 4 [] false), false)
noncomputable abbrev hoh124 (p : Prog) : Nat × AObj × Bool := (3, (.cells (putCells .leaf 0 [(iN p.nodes), (iI p.funs), (nI p.main), (iC p.cons)]) 4 [] false), false)
noncomputable abbrev hoh125  : Nat × AObj × Bool := (7, (.loop .ready none 34 (mkT [(6, (.ptr 4 0)), (10, (.ptr 6 0)), (11, (.ptr 12 0))]) 106 [27] (cd Tryz.f34 [1, 1, 1, 0, 1, 0, 0]) (cd Tryz.f34 [1, 1, 1, 0, 1, 0, 1]) 8), false)
noncomputable abbrev hoh126  : Nat × AObj × Bool := (2, (.cells (putCells .leaf 0 [(.func 110 [] [(.ptr 10 0), (.ptr 11 0), (.ptr 2 0)])]) 1 [] false), false)
noncomputable abbrev hoh127  : Nat × AObj × Bool := (2, (.cells (putCells .leaf 0 [(.func 110 [] [(.ptr 9 0), (.ptr 10 0), (.ptr 2 0)])]) 1 [] false), false)
noncomputable abbrev hoh128 (at0 fn0 sz : Int) : Nat × AObj × Bool := (13, (.cells (putCells .leaf 0 [(nI at0), (nI fn0), (nI sz)]) 3 [] false), false)
noncomputable abbrev hoh129 (at0 fn0 sz : Int) : Nat × AObj × Bool := (15, (.cells (putCells .leaf 0 [(nI at0), (nI fn0), (nI sz)]) 3 [] false), false)
noncomputable abbrev hoh1210 (at0 fn0 sz : Int) : Nat × AObj × Bool := (16, (.cells (putCells .leaf 0 [(nI at0), (nI fn0), (nI sz)]) 3 [] false), false)
noncomputable abbrev hoh1211 (l13 zm1 : List Node) : Nat × AObj × Bool := (6, (.cells (putCells .leaf 0 [(.gl 15 4 0 (l13 ++ zm1).length false)]) 1 [] false), false)
noncomputable abbrev hoh1212 (l16 zm3 : List Node) : Nat × AObj × Bool := (6, (.cells (putCells .leaf 0 [(.gl 17 4 0 (l16 ++ zm3).length false)]) 1 [] false), false)
noncomputable abbrev hoh1213 (p : Prog) : Nat × AObj × Bool := (6, (.cells (putCells .leaf 0 [(.gl 11 1 0 p.nodes.length true)]) 1 [] false), false)
noncomputable abbrev hoh1214 (p : Prog) : Nat × AObj × Bool := (5, (.cells (putCells .leaf 0 [(.gl 12 1 0 p.nodes.length true)]) 1 [] false), false)
noncomputable abbrev hoh1215 (l13 : List Node) : Nat × AObj × Bool := (6, (.cells (putCells .leaf 0 [(.gl 13 4 0 l13.length false)]) 1 [] false), false)
noncomputable abbrev hoh1216 (l16 : List Node) : Nat × AObj × Bool := (6, (.cells (putCells .leaf 0 [(.gl 16 4 0 l16.length false)]) 1 [] false), false)
noncomputable abbrev hoh1217  : Nat × AObj × Bool := (14, (.cells (putCells .leaf 0 [(.map 0), (.map 1)]) 2 [] false), false)
noncomputable abbrev hoh1218  : Nat × AObj × Bool := (18, (.cells (putCells .leaf 0 [(.map 0), (.map 1)]) 2 [] false), false)
noncomputable abbrev hoh1219  : Nat × AObj × Bool := (19, (.cells (putCells .leaf 0 [(.map 0), (.map 1)]) 2 [] false), false)
noncomputable abbrev hoh1220  : Nat × AObj × Bool := (5, (.cells (putCells .leaf 0 [(.map 0), (.map 1)]) 2 [] false), false)
noncomputable abbrev hoh1221 (c12_0 : Int) : Nat × AObj × Bool := (12, (.cells (putCells .leaf 0 [(nI c12_0)]) 1 [] false), false)
noncomputable abbrev hoh1222  : Nat × AObj × Bool := (4, (.cells (putCells .leaf 0 [(.func 35 [] [])]) 1 [] false), false)
noncomputable abbrev hoh1223 (zn2 : Int) : Nat × AObj × Bool := (12, (.cells (putCells .leaf 0 [(nI zn2)]) 1 [] false), false)
noncomputable abbrev hoh1224 (zn4 : Int) : Nat × AObj × Bool := (12, (.cells (putCells .leaf 0 [(nI zn4)]) 1 [] false), false)
noncomputable abbrev hoh1225  : Nat × AObj × Bool := (10, (.cells (putCells .leaf 0 [(.yield 7)]) 1 [] false), false)
noncomputable abbrev hoh1226  : Nat × AObj × Bool := (9, (.cells (putCells .leaf 0 [(.yield 7)]) 1 [] false), false)
noncomputable abbrev hoh1227 (mf : List (Int × Int)) : Nat × AObj × Bool := (0, (.map (mEnts avI avI 0 mf) mf.length), true)
noncomputable abbrev hoh1228 (mc : List (Int × Int)) : Nat × AObj × Bool := (1, (.map (mEnts avI avI 0 mc) mc.length), true)
noncomputable abbrev hoh1229 (l13 zm1 : List Node) : Nat × AObj × Bool := (15, (.lst 4 (jN (l13 ++ zm1))), true)
noncomputable abbrev hoh1230 (l16 zm3 : List Node) : Nat × AObj × Bool := (17, (.lst 4 (jN (l16 ++ zm3))), true)
noncomputable abbrev HA (p : Prog) (mf mc : List (Int × Int)) (l : List Int) (n0 : Int) : List (Nat × AObj × Bool) := [hoh1227 mf, hoh1228 mc, hoh127, hoh124 p, hoh1222, hoh1220, hoh1213 p, hoh125, (8, (.defd false), false), hoh1226, hoh122 p, (11, (.lst 1 (jI l)), true), (12, (.cells (putCells .leaf 0 [(nI n0)]) 1 [] false), false)]
noncomputable abbrev HB (p : Prog) (mf mc : List (Int × Int)) (to : List Int) (l : List Node) : List (Nat × AObj × Bool) := [hoh1227 mf, hoh1228 mc, hoh126, hoh124 p, hoh1222, hoh1214 p, (6, (.cells (putCells .leaf 0 [(.gl 13 4 0 l.length false)]) 1 [] false), false), hoh120, (8, (.defd false), false), (9, (.defd false), false), hoh1225, hoh123 p, (12, (.lst 1 (jI to)), true), (13, (.lst 4 (jN l)), true), hoh1217]
noncomputable abbrev HB1 (p : Prog) (mf mc : List (Int × Int)) (to : List Int) (l : List Node) : List (Nat × AObj × Bool) := [hoh1227 mf, hoh1228 mc, hoh126, hoh124 p, hoh1222, hoh1214 p, (6, (.cells (putCells .leaf 0 [(.gl 15 4 0 l.length false)]) 1 [] false), false), hoh120, (8, (.defd false), false), (9, (.defd false), false), hoh1225, hoh123 p, (12, (.lst 1 (jI to)), true), hoh1217, (15, (.lst 4 (jN l)), true)]
noncomputable def orr_s (p : Prog) (mf mc : List (Int × Int)) (from0 : Int) : TS := startH PP 34 [(Prog.av p), (nI from0), (.func 35 [] []), (.agg [(.map 0), (.map 1)])] [hoh1227 mf, hoh1228 mc] 2
noncomputable def orr_c0 (p : Prog) (mf mc : List (Int × Int)) (from0 t11 : Int) (l11 : List Int) (c12_0 : Int) : TS :=
 { fr := { fn := 109, nt := 23, sl := [(3, (.ptr 2 0)), (9, (iI p.funs)), (10, (nI (p.funs.length : Int))), (11, (nI t11))], todo := [.code (cd Tryz.f109 [1, 1, 1, 1, 0, 0]), .inLoop (cd Tryz.f109 [1, 1, 1, 1, 0, 0]), .inBlock 0] }, cs := [{ fn := 34, nt := 106, sl := [(4, (.ptr 3 0)), (6, (.ptr 4 0)), (7, (.ptr 5 0)), (8, .nils), (9, .nils), (10, (.ptr 6 0))], todo := [.inRF 7, .inBlock 0, .code (cd Tryz.f34 [1, 1, 1, 1])], defers := [.col 8] }], hp := [hoh1227 mf, hoh1228 mc, hoh127, hoh124 p, hoh1222, hoh1220, hoh1213 p, hoh125, (8, (.defd false), false), hoh1226, hoh122 p, (11, (.lst 1 (jI l11)), true), hoh1221 c12_0], nb := 13 }
noncomputable def orr_c1 (p : Prog) (mf mc : List (Int × Int)) (from0 : Int) (l12 : List Int) (t11 : Int) (l13 : List Node) : TS :=
 { fr := { fn := 109, nt := 23, sl := [(3, (.ptr 2 0)), (9, (iI p.funs)), (10, (nI (p.funs.length : Int))), (11, (nI t11))], todo := [.code (cd Tryz.f109 [1, 1, 1, 1, 0, 0]), .inLoop (cd Tryz.f109 [1, 1, 1, 1, 0, 0]), .inBlock 0] }, cs := [{ fn := 34, nt := 106, sl := [(4, (.ptr 3 0)), (6, (.ptr 4 0)), (8, .nils), (9, .nils), (10, (.ptr 5 0)), (13, (.ptr 6 0))], todo := [.inRF 7, .inBlock 2, .code (cd Tryz.f34 [1, 1, 1, 1, 1, 1])], defers := [.col 8, .col 9] }], hp := [hoh1227 mf, hoh1228 mc, hoh126, hoh124 p, hoh1222, hoh1214 p, hoh1215 l13, hoh120, (8, (.defd false), false), (9, (.defd false), false), hoh1225, hoh123 p, (12, (.lst 1 (jI l12)), true), (13, (.lst 4 (jN l13)), true), hoh1217], nb := 15 }
noncomputable def orr_c2 (p : Prog) (mf mc : List (Int × Int)) (from0 : Int) (vl12 : List Int) (l9 : List Node) (t88 : Int) (l5 : List Int) : TS :=
 { fr := { fn := 34, nt := 106, sl := [(6, (.ptr 2 0)), (8, .nils), (9, .nils), (10, (.ptr 3 0)), (13, (.ptr 4 0)), (16, (.gl 5 1 0 l5.length false)), (86, (iI p.funs)), (87, (nI (p.funs.length : Int))), (88, (nI t88))], todo := [.code (cd Tryz.f34 [1, 1, 1, 1, 1, 1, 1, 0, 1, 0, 0]), .inLoop (cd Tryz.f34 [1, 1, 1, 1, 1, 1, 1, 0, 1, 0, 0]), .inBlock 5, .code (cd Tryz.f34 [1, 1, 1, 1, 1, 1, 1, 1])], defers := [.col 6, .col 7] }, cs := [], hp := [hoh1227 mf, hoh1228 mc, (2, (.cells (putCells .leaf 0 [(.func 35 [] [])]) 1 [] false), false), (3, (.cells (putCells .leaf 0 [(.gl 8 1 0 p.nodes.length true)]) 1 [] false), false), (4, (.cells (putCells .leaf 0 [(.gl 9 4 0 l9.length false)]) 1 [] false), false), (5, (.lst 1 (jI l5)), true), (6, (.defd false), false), (7, (.defd false), false), (8, (.lst 1 (jI vl12)), true), (9, (.lst 4 (jN l9)), true)], nb := 10 }
theorem orr_E_0 (p : Prog) (mf mc : List (Int × Int)) (from0 : Int) (h0 : p.nodes.length < 100000) :
  LeadsM PP 2 (orr_s p mf mc from0).as (orr_c0 p mf mc from0 0 (List.replicate p.nodes.length (0 : Int)) from0).as :=
 wW 13 [12, 2, 3, 4, 6, 10, 9, 11, 8, 5, 7] [ql Node.av p.nodes, qp (p := (p.nodes.length : Int) = ((p.nodes.length : Nat) : Int)) rfl, qp (p := (p.nodes.length : Int) = ((p.nodes.length : Nat) : Int)) rfl, qp h0, qp (p := List.replicate p.nodes.length (avI (0 : Int)) = (jI (List.replicate p.nodes.length (0 : Int)))) (rep_map _ _ _), ql avI p.funs] [rn 13, aL p.nodes, .mk p.nodes.length, .lset 5 (jI (List.replicate p.nodes.length (0 : Int))), rn 29, .lkeep 10 [6, 10, 11], rn 18, aL p.funs, rn 4] ⟨kl_map (fun _ => rfl) (fun _ => rfl) _ _ _, ⟨kl_map (fun _ => rfl) (fun _ => rfl) _ _ _, ⟨kk, trivial⟩⟩⟩
theorem orr_0_0 (p : Prog) (mf mc : List (Int × Int)) (from0 t11 : Int) (l11 : List Int) (c12_0 y0 : Int) (zl1 : List Int) (zn2 : Int) (h0 : decide (t11 < (p.funs.length : Int)) = true) (h1 : 0 ≤ t11) (h2 : ((p.funs)[t11.toNat]?) = some y0) (h3 : Spec PP (.enter 110 [(.agg [(nI y0), (nI t11), (nI 1)]), (.ptr 9 0), (.ptr 10 0), (.ptr 2 0)]) (hpOf [hoh1227 mf, hoh1228 mc, hoh127, hoh124 p, hoh1222, hoh1220, hoh1213 p, hoh125, (8, (.defd false), false), hoh1226, hoh122 p, (11, (.lst 1 (jI l11)), true), hoh1221 c12_0] 13) (.ret (bV true)) (hpOf [hoh1227 mf, hoh1228 mc, hoh127, hoh124 p, hoh1222, hoh1220, hoh1213 p, hoh125, (8, (.defd false), false), hoh1226, hoh122 p, (11, (.lst 1 (jI zl1)), true), hoh1223 zn2] 13)) (h4 : (IntKind.i64.wrap (t11 + (1 : Int))) = (t11 + (1 : Int))) :
  LeadsM PP 2 (orr_c0 p mf mc from0 t11 l11 c12_0).as (orr_c0 p mf mc from0 (t11 + (1 : Int)) zl1 zn2).as :=
 wW 13 [2, 3, 4, 5, 6, 7, 8, 9, 10, 11, 12] [qp h0, qp h1, qg avI h2, qp h3, qp (congrArg (AV.int .i64) h4)] [rn 5, bt 12, rn 7, aI (avI y0), rn 10, .call (bV true) (hpOf [hoh1227 mf, hoh1228 mc, hoh127, hoh124 p, hoh1222, hoh1220, hoh1213 p, hoh125, (8, (.defd false), false), hoh1226, hoh122 p, (11, (.lst 1 (jI zl1)), true), hoh1223 zn2] 13), rn 7, sI 22 (t11 + (1 : Int)), rn 3] ⟨kl_map (fun _ => rfl) (fun _ => rfl) _ _ _, ⟨kl_map (fun _ => rfl) (fun _ => rfl) _ _ _, ⟨kk, trivial⟩⟩⟩
theorem orr_0_1 (p : Prog) (mf mc : List (Int × Int)) (from0 t11 : Int) (l11 : List Int) (c12_0 : Int) (h0 : decide (t11 < (p.funs.length : Int)) = false) :
  LeadsM PP 2 (orr_c0 p mf mc from0 t11 l11 c12_0).as (orr_c1 p mf mc from0 l11 0 ([] : List Node)).as :=
 wW 20 [18, 3, 4, 6, 13, 16, 15, 8, 17, 14, 11, 19, 5] [qp h0, ql avI p.funs, qp (p := ([] : List AV) = (jN ([] : List Node))) rfl, qp (p := (AV.gl 19 4 0 0 false) = (.gl 19 4 0 ([] : List Node).length false)) rfl] [rn 5, bf 12, rn 30, .lkeep 16 [4, 6, 7, 10, 13], rn 18, aL p.funs, rn 4, .cnil 13 0 4, .lset 19 (jN ([] : List Node)), .cset 13 0 (.gl 19 4 0 ([] : List Node).length false)] ⟨kl_map (fun _ => rfl) (fun _ => rfl) _ _ _, ⟨kl_map (fun _ => rfl) (fun _ => rfl) _ _ _, ⟨kk, ⟨kk, trivial⟩⟩⟩⟩
theorem orr_1_0 (p : Prog) (mf mc : List (Int × Int)) (from0 : Int) (l12 : List Int) (t11 : Int) (l13 : List Node) (y0 : Int) (zm1 : List Node) (h0 : decide (t11 < (p.funs.length : Int)) = true) (h1 : 0 ≤ t11) (h2 : ((p.funs)[t11.toNat]?) = some y0) (h3 : Spec PP (.enter 110 [(.agg [(nI y0), (nI t11), (nI 1)]), (.ptr 10 0), (.ptr 11 0), (.ptr 2 0)]) (hpOf [hoh1227 mf, hoh1228 mc, hoh126, hoh124 p, hoh1222, hoh1214 p, hoh1215 l13, hoh120, (8, (.defd false), false), (9, (.defd false), false), hoh1225, hoh123 p, (12, (.lst 1 (jI l12)), true), (13, (.lst 4 (jN l13)), true), hoh1217] 15) (.ret (bV true)) (hpOf [hoh1227 mf, hoh1228 mc, hoh126, hoh124 p, hoh1222, hoh1214 p, hoh1211 l13 zm1, hoh120, (8, (.defd false), false), (9, (.defd false), false), hoh1225, hoh123 p, (12, (.lst 1 (jI l12)), true), hoh1217, hoh1229 l13 zm1] 16)) (h4 : (IntKind.i64.wrap (t11 + (1 : Int))) = (t11 + (1 : Int))) :
  LeadsM PP 2 (orr_c1 p mf mc from0 l12 t11 l13).as (orr_c1 p mf mc from0 l12 (t11 + (1 : Int)) (l13 ++ zm1)).as :=
 wW 16 [2, 3, 4, 5, 6, 7, 8, 9, 10, 11, 12, 15, 14] [qp h0, qp h1, qg avI h2, qp h3, qp (congrArg (AV.int .i64) h4)] [rn 5, bt 12, rn 7, aI (avI y0), rn 10, .call (bV true) (hpOf [hoh1227 mf, hoh1228 mc, hoh126, hoh124 p, hoh1222, hoh1214 p, hoh1211 l13 zm1, hoh120, (8, (.defd false), false), (9, (.defd false), false), hoh1225, hoh123 p, (12, (.lst 1 (jI l12)), true), hoh1217, hoh1229 l13 zm1] 16), rn 7, sI 22 (t11 + (1 : Int)), rn 3] ⟨kl_map (fun _ => rfl) (fun _ => rfl) _ _ _, ⟨kl_map (fun _ => rfl) (fun _ => rfl) _ _ _, ⟨kk, ⟨kk, trivial⟩⟩⟩⟩
theorem orr_1_1 (p : Prog) (mf mc : List (Int × Int)) (from0 : Int) (l12 : List Int) (t11 : Int) (l13 : List Node) (h0 : decide (t11 < (p.funs.length : Int)) = false) :
  LeadsM PP 2 (orr_c1 p mf mc from0 l12 t11 l13).as (orr_c2 p mf mc from0 l12 l13 0 ([] : List Int)).as :=
 wW 16 [4, 5, 6, 15, 8, 9, 12, 13] [qp h0, ql avI p.funs, qp (p := ([] : List AV) = (jI ([] : List Int))) rfl, qp (p := (AV.gl 15 1 0 0 false) = (.gl 15 1 0 ([] : List Int).length false)) rfl] [rn 5, bf 12, rn 16, aL p.funs, rn 4, .nilL 16 1, .lset 15 (jI ([] : List Int)), .set 16 (.gl 15 1 0 ([] : List Int).length false)] ⟨kl_map (fun _ => rfl) (fun _ => rfl) _ _ _, ⟨kl_map (fun _ => rfl) (fun _ => rfl) _ _ _, ⟨kk, ⟨kk, ⟨kk, trivial⟩⟩⟩⟩⟩
theorem orr_2_0 (p : Prog) (mf mc : List (Int × Int)) (from0 : Int) (vl12 : List Int) (l9 : List Node) (t88 : Int) (l5 : List Int) (y0 y1 : Int) (h0 : decide (t88 < (p.funs.length : Int)) = true) (h1 : 0 ≤ t88) (h2 : ((p.funs)[t88.toNat]?) = some y0) (h3 : 0 ≤ y0) (h4 : y0 < ((p.nodes.length : Nat) : Int)) (h5 : ((vl12)[y0.toNat]?) = some y1) (h6 : List.length (l5 ++ [y1]) ≤ 1000000) (h7 : (IntKind.i64.wrap (t88 + (1 : Int))) = (t88 + (1 : Int))) :
  LeadsM PP 2 (orr_c2 p mf mc from0 vl12 l9 t88 l5).as (orr_c2 p mf mc from0 vl12 l9 (t88 + (1 : Int)) (l5 ++ [y1])).as :=
 wW 12 [2, 3, 4, 11, 6, 7, 8, 9] [qp h0, qp h1, qg avI h2, qp h3, qp h4, qh avI h5, qp (app_p1 avI l5), qp h6, qp (app_p3 avI l5 [y1]), qp (app_p4 avI l5 [y1]), qp (congrArg (AV.int .i64) h7)] [rn 5, bt 89, rn 7, aI (avI y0), rn 25, .ans (.ix), aI (avI y1), rn 1, .app (jI (l5 ++ [y1])) (l5 ++ [y1]).length, rn 5, sI 103 (t88 + (1 : Int)), rn 3] ⟨kl_map (fun _ => rfl) (fun _ => rfl) _ _ _, ⟨kl_map (fun _ => rfl) (fun _ => rfl) _ _ _, ⟨kk, ⟨kk, ⟨kk, trivial⟩⟩⟩⟩⟩
theorem orr_2_1 (p : Prog) (mf mc : List (Int × Int)) (from0 : Int) (vl12 : List Int) (l9 : List Node) (t88 : Int) (l5 : List Int) (h0 : decide (t88 < (p.funs.length : Int)) = false) :
  Ends PP 2 (orr_c2 p mf mc from0 vl12 l9 t88 l5).as (.ret (.tup [(iN l9), (iI l5)])) (hpOf [hoh1227 mf, hoh1228 mc] 2) :=
 wE 10 [] [qp h0, qp (p := AV.keylessL (jN l9) = true) (keylessL_map _ (fun _ => rfl) _), qp (p := AV.frzOk 9 4 (jN l9) (jN l9) (.gl 9 4 0 l9.length false)) (frz_whole _ _), qp (p := AV.keylessL (jI l5) = true) (keylessL_map _ (fun _ => rfl) _), qp (p := AV.frzOk 5 1 (jI l5) (jI l5) (.gl 5 1 0 l5.length false)) (frz_whole _ _)] [rn 5, bf 89, rn 12, .frz 8 9 (jN l9), .frz 9 5 (jI l5)] ⟨kl_map (fun _ => rfl) (fun _ => rfl) _ _ _, ⟨kl_map (fun _ => rfl) (fun _ => rfl) _ _ _, trivial⟩⟩
noncomputable def wkA_s (p : Prog) (mf mc : List (Int × Int)) (l : List Int) (n0 at0 : Int) (fn0 sz : Int) : TS := startH PP 110 [(.agg [(nI at0), (nI fn0), (nI sz)]), (.ptr 9 0), (.ptr 10 0), (.ptr 2 0)] [hoh1227 mf, hoh1228 mc, hoh127, hoh124 p, hoh1222, hoh1220, hoh1213 p, hoh125, (8, (.defd false), false), hoh1226, hoh122 p, (11, (.lst 1 (jI l)), true), (12, (.cells (putCells .leaf 0 [(nI n0)]) 1 [] false), false)] 13
noncomputable def wkA_c0 (p : Prog) (mf mc : List (Int × Int)) (l : List Int) (n0 at0 : Int) (fn0 sz : Int) (t19 : List Int) (t20 t21 : Int) (l11 : List Int) (c12_0 : Int) : TS :=
 { fr := { fn := 110, nt := 46, sl := [(2, (.ptr 10 0)), (3, (.ptr 2 0)), (4, (.ptr 13 0)), (5, (bV false)), (19, (iI t19)), (20, (nI t20)), (21, (nI t21))], todo := [.code (cd Tryz.f110 [1, 1, 0, 1, 0, 0]), .inLoop (cd Tryz.f110 [1, 1, 0, 1, 0, 0]), .inBlock 0, .code (cd Tryz.f110 [1, 1, 1])] }, cs := [], hp := [hoh1227 mf, hoh1228 mc, hoh127, hoh124 p, hoh1222, hoh1220, hoh1213 p, hoh125, (8, (.defd false), false), hoh1226, hoh122 p, (11, (.lst 1 (jI l11)), true), hoh1221 c12_0, hoh128 at0 fn0 sz], nb := 14 }
theorem wkA_E_0 (p : Prog) (mf mc : List (Int × Int)) (l : List Int) (n0 at0 : Int) (fn0 sz y0 : Int) (y1 : Node) (h0 : 0 ≤ at0) (h1 : at0 < ((p.nodes.length : Nat) : Int)) (h2 : ((l)[at0.toNat]?) = some y0) (h3 : (IntKind.i64.wrap (n0 + (1 : Int))) = (n0 + (1 : Int))) (h4 : ((p.nodes)[at0.toNat]?) = some y1) :
  LeadsM PP 13 (wkA_s p mf mc l n0 at0 fn0 sz).as (wkA_c0 p mf mc l n0 at0 fn0 sz y1.kids (y1.kids.length : Int) 0 (List.set l at0.toNat n0) (n0 + (1 : Int))).as :=
 wW 15 [13] [qp h0, qp h1, qh avI h2, qp (p := setElem (avI y0) 0 [(nI n0)] = some (avI n0)) rfl, qp (p := (jI l).set (0 + at0.toNat) (avI n0) = (jI (List.set l at0.toNat n0))) (set_map0 _ _ _ _), qp (congrArg (AV.int .i64) h3), qp h0, qg Node.av h4, ql avI y1.kids] [rn 41, .ans (.ix), .st (avI y0) (avI n0), .lset 11 (jI (List.set l at0.toNat n0)), rn 4, sI 38 (n0 + (1 : Int)), rn 16, aI (Node.av y1), rn 2, aL y1.kids, rn 4] ⟨kl_map (fun _ => rfl) (fun _ => rfl) _ _ _, ⟨kl_map (fun _ => rfl) (fun _ => rfl) _ _ _, ⟨kk, trivial⟩⟩⟩
theorem wkA_0_0 (p : Prog) (mf mc : List (Int × Int)) (l : List Int) (n0 at0 : Int) (fn0 sz : Int) (t19 : List Int) (t20 t21 : Int) (l11 : List Int) (c12_0 y0 : Int) (y1 : Node) (y2 : Int) (zl3 : List Int) (zn4 : Int) (h0 : decide (t21 < t20) = true) (h1 : 0 ≤ t21) (h2 : ((t19)[t21.toNat]?) = some y0) (h3 : 0 ≤ at0) (h4 : ((p.nodes)[at0.toNat]?) = some y1) (h5 : Pure PP 111 [(Node.av y1), (nI t21)] (nI y2)) (h6 : Spec PP (.enter 110 [(.agg [(nI y0), (nI fn0), (nI (IntKind.i64.wrap (sz + y2)))]), (.ptr 9 0), (.ptr 10 0), (.ptr 2 0)]) (hpOf [hoh1227 mf, hoh1228 mc, hoh127, hoh124 p, hoh1222, hoh1220, hoh1213 p, hoh125, (8, (.defd false), false), hoh1226, hoh122 p, (11, (.lst 1 (jI l11)), true), hoh1221 c12_0, hoh128 at0 fn0 sz] 14) (.ret (bV true)) (hpOf [hoh1227 mf, hoh1228 mc, hoh127, hoh124 p, hoh1222, hoh1220, hoh1213 p, hoh125, (8, (.defd false), false), hoh1226, hoh122 p, (11, (.lst 1 (jI zl3)), true), hoh1224 zn4, hoh128 at0 fn0 sz] 14)) (h7 : (IntKind.i64.wrap (t21 + (1 : Int))) = (t21 + (1 : Int))) :
  LeadsM PP 13 (wkA_c0 p mf mc l n0 at0 fn0 sz t19 t20 t21 l11 c12_0).as (wkA_c0 p mf mc l n0 at0 fn0 sz t19 t20 (t21 + (1 : Int)) zl3 zn4).as :=
 wW 14 [13] [qp h0, qp h1, qg avI h2, qp h3, qg Node.av h4, qp h5, qp h6, qr (nI sz), qr (nI sz), qr (nI fn0), qr (nI fn0), qr (AV.func 110 [] [(.ptr 9 0), (.ptr 10 0), (.ptr 2 0)]), qr (AV.func 110 [] [(.ptr 9 0), (.ptr 10 0), (.ptr 2 0)]), qp (congrArg (AV.int .i64) h7)] [rn 5, bt 22, rn 7, aI (avI y0), rn 5, .reg [.d, .d, .d, .d, .d, .d, .d, .d, .d, .d, .d, .ans (.idx (Node.av y1)), .d, .d, .pure (nI y2), .d, .d, .call (bV true) (hpOf [hoh1227 mf, hoh1228 mc, hoh127, hoh124 p, hoh1222, hoh1220, hoh1213 p, hoh125, (8, (.defd false), false), hoh1226, hoh122 p, (11, (.lst 1 (jI zl3)), true), hoh1224 zn4, hoh128 at0 fn0 sz] 14), .d], rn 5, sI 45 (t21 + (1 : Int)), rn 3] ⟨kl_map (fun _ => rfl) (fun _ => rfl) _ _ _, ⟨kl_map (fun _ => rfl) (fun _ => rfl) _ _ _, ⟨kk, trivial⟩⟩⟩
theorem wkA_0_1 (p : Prog) (mf mc : List (Int × Int)) (l : List Int) (n0 at0 : Int) (fn0 sz : Int) (t19 : List Int) (t20 t21 : Int) (l11 : List Int) (c12_0 : Int) (h0 : decide (t21 < t20) = false) :
  Ends PP 13 (wkA_c0 p mf mc l n0 at0 fn0 sz t19 t20 t21 l11 c12_0).as (.ret (bV true)) (hpOf [hoh1227 mf, hoh1228 mc, hoh127, hoh124 p, hoh1222, hoh1220, hoh1213 p, hoh125, (8, (.defd false), false), hoh1226, hoh122 p, (11, (.lst 1 (jI l11)), true), hoh1221 c12_0] 13) :=
 wE 14 [] [qp h0] [rn 5, bf 22, rn 7] ⟨kl_map (fun _ => rfl) (fun _ => rfl) _ _ _, ⟨kl_map (fun _ => rfl) (fun _ => rfl) _ _ _, ⟨kk, trivial⟩⟩⟩
noncomputable def wkB_s (p : Prog) (mf mc : List (Int × Int)) (to : List Int) (l : List Node) (at0 fn0 sz : Int) : TS := startH PP 110 [(.agg [(nI at0), (nI fn0), (nI sz)]), (.ptr 10 0), (.ptr 11 0), (.ptr 2 0)] [hoh1227 mf, hoh1228 mc, hoh126, hoh124 p, hoh1222, hoh1214 p, (6, (.cells (putCells .leaf 0 [(.gl 13 4 0 l.length false)]) 1 [] false), false), hoh120, (8, (.defd false), false), (9, (.defd false), false), hoh1225, hoh123 p, (12, (.lst 1 (jI to)), true), (13, (.lst 4 (jN l)), true), hoh1217] 15
noncomputable def wkB_c0 (p : Prog) (mf mc : List (Int × Int)) (to : List Int) (l : List Node) (at0 fn0 sz : Int) (t19 : List Int) (t20 : Int) (l16 : List Node) (t21 : Int) : TS :=
 { fr := { fn := 110, nt := 46, sl := [(2, (.ptr 11 0)), (3, (.ptr 2 0)), (4, (.ptr 15 0)), (5, (bV false)), (19, (iI t19)), (20, (nI t20)), (21, (nI t21))], todo := [.code (cd Tryz.f110 [1, 1, 0, 1, 0, 0]), .inLoop (cd Tryz.f110 [1, 1, 0, 1, 0, 0]), .inBlock 0, .code (cd Tryz.f110 [1, 1, 1])] }, cs := [], hp := [hoh1227 mf, hoh1228 mc, hoh126, hoh124 p, hoh1222, hoh1214 p, hoh1216 l16, hoh120, (8, (.defd false), false), (9, (.defd false), false), hoh1225, hoh123 p, (12, (.lst 1 (jI to)), true), hoh1217, hoh129 at0 fn0 sz, (16, (.lst 4 (jN l16)), true)], nb := 17 }
theorem wkB_E_0 (p : Prog) (mf mc : List (Int × Int)) (to : List Int) (l : List Node) (at0 fn0 sz : Int) (y0 : Node) (zk1 : List Int) (zs2 : List Pat) (h0 : 0 ≤ at0) (h1 : ((p.nodes)[at0.toNat]?) = some y0) (h2 : (y0.op == (4 : Int)) = true) (h3 : decide (y0.n ≥ (0 : Int)) = true) (h4 : Spec PP (.enter 72 [(iI y0.kids), (.func 73 [] [(.ptr 5 0)])]) (hpOf [hoh1227 mf, hoh1228 mc, hoh126, hoh124 p, hoh1222, hoh1214 p, (6, (.cells (putCells .leaf 0 [(.gl 13 4 0 l.length false)]) 1 [] false), false), hoh121, (8, (.defd false), false), (9, (.defd false), false), hoh1225, hoh123 p, (12, (.lst 1 (jI to)), true), (13, (.lst 4 (jN l)), true), hoh1217, hoh129 at0 fn0 sz, hoh1210 at0 fn0 sz, (17, (.cells (putCells .leaf 0 [(nI y0.op), (nI y0.n), (iI y0.kids), (iP y0.pats)]) 4 [] false), false), hoh1218] 19) (.ret (iI zk1)) (hpOf [hoh1227 mf, hoh1228 mc, hoh126, hoh124 p, hoh1222, hoh1214 p, (6, (.cells (putCells .leaf 0 [(.gl 13 4 0 l.length false)]) 1 [] false), false), hoh121, (8, (.defd false), false), (9, (.defd false), false), hoh1225, hoh123 p, (12, (.lst 1 (jI to)), true), (13, (.lst 4 (jN l)), true), hoh1217, hoh129 at0 fn0 sz, hoh1210 at0 fn0 sz, (17, (.cells (putCells .leaf 0 [(nI y0.op), (nI y0.n), (iI y0.kids), (iP y0.pats)]) 4 [] false), false), hoh1218] 19)) (h5 : Spec PP (.enter 74 [(iP y0.pats), (.func 75 [] [(.ptr 14 0)])]) (hpOf [hoh1227 mf, hoh1228 mc, hoh126, hoh124 p, hoh1222, hoh1214 p, (6, (.cells (putCells .leaf 0 [(.gl 13 4 0 l.length false)]) 1 [] false), false), hoh121, (8, (.defd false), false), (9, (.defd false), false), hoh1225, hoh123 p, (12, (.lst 1 (jI to)), true), (13, (.lst 4 (jN l)), true), hoh1217, hoh129 at0 fn0 sz, hoh1210 at0 fn0 sz, (17, (.cells (putCells .leaf 0 [(nI y0.op), (nI y0.n), (iI zk1), (iP y0.pats)]) 4 [] false), false), hoh1218] 19) (.ret (iP zs2)) (hpOf [hoh1227 mf, hoh1228 mc, hoh126, hoh124 p, hoh1222, hoh1214 p, (6, (.cells (putCells .leaf 0 [(.gl 13 4 0 l.length false)]) 1 [] false), false), hoh121, (8, (.defd false), false), (9, (.defd false), false), hoh1225, hoh123 p, (12, (.lst 1 (jI to)), true), (13, (.lst 4 (jN l)), true), hoh1217, hoh129 at0 fn0 sz, hoh1210 at0 fn0 sz, (17, (.cells (putCells .leaf 0 [(nI y0.op), (nI y0.n), (iI zk1), (iP y0.pats)]) 4 [] false), false), hoh1218] 19)) (h6 : List.length (l ++ [(Node.mk y0.op y0.n zk1 zs2)]) ≤ 1000000) :
  LeadsM PP 15 (wkB_s p mf mc to l at0 fn0 sz).as (wkB_c0 p mf mc to l at0 fn0 sz y0.kids (y0.kids.length : Int) (l ++ [(Node.mk y0.op y0.n zk1 zs2)]) 0).as :=
 wW 21 [15, 20] [qp h0, qg Node.av h1, qp h2, qp h3, qp h4, qp h5, qp (app_p1 Node.av l), qp h6, qp (app_p3 Node.av l [(Node.mk y0.op y0.n zk1 zs2)]), qp (app_p4 Node.av l [(Node.mk y0.op y0.n zk1 zs2)]), qp h0, qg Node.av h1, ql avI y0.kids] [rn 45, aI (Node.av y0), rn 16, bt 56, rn 17, bt 6, rn 17, .call (iI zk1) (hpOf [hoh1227 mf, hoh1228 mc, hoh126, hoh124 p, hoh1222, hoh1214 p, (6, (.cells (putCells .leaf 0 [(.gl 13 4 0 l.length false)]) 1 [] false), false), hoh121, (8, (.defd false), false), (9, (.defd false), false), hoh1225, hoh123 p, (12, (.lst 1 (jI to)), true), (13, (.lst 4 (jN l)), true), hoh1217, hoh129 at0 fn0 sz, hoh1210 at0 fn0 sz, (17, (.cells (putCells .leaf 0 [(nI y0.op), (nI y0.n), (iI y0.kids), (iP y0.pats)]) 4 [] false), false), hoh1218] 19), rn 8, .call (iP zs2) (hpOf [hoh1227 mf, hoh1228 mc, hoh126, hoh124 p, hoh1222, hoh1214 p, (6, (.cells (putCells .leaf 0 [(.gl 13 4 0 l.length false)]) 1 [] false), false), hoh121, (8, (.defd false), false), (9, (.defd false), false), hoh1225, hoh123 p, (12, (.lst 1 (jI to)), true), (13, (.lst 4 (jN l)), true), hoh1217, hoh129 at0 fn0 sz, hoh1210 at0 fn0 sz, (17, (.cells (putCells .leaf 0 [(nI y0.op), (nI y0.n), (iI zk1), (iP y0.pats)]) 4 [] false), false), hoh1218] 19), rn 7, .app (jN (l ++ [(Node.mk y0.op y0.n zk1 zs2)])) (l ++ [(Node.mk y0.op y0.n zk1 zs2)]).length, rn 16, aI (Node.av y0), rn 2, aL y0.kids, rn 4] ⟨kl_map (fun _ => rfl) (fun _ => rfl) _ _ _, ⟨kl_map (fun _ => rfl) (fun _ => rfl) _ _ _, ⟨kk, ⟨kk, trivial⟩⟩⟩⟩
theorem wkB_E_1 (p : Prog) (mf mc : List (Int × Int)) (to : List Int) (l : List Node) (at0 fn0 sz : Int) (y0 : Node) (y1 : Int) (zk2 : List Int) (zs3 : List Pat) (h0 : 0 ≤ at0) (h1 : ((p.nodes)[at0.toNat]?) = some y0) (h2 : (y0.op == (4 : Int)) = true) (h3 : decide (y0.n ≥ (0 : Int)) = false) (h4 : (IntKind.i64.wrap ((-1 : Int) - y0.n)) = ((-1 : Int) - y0.n)) (h5 : mGet ((-1 : Int) - y0.n) mf = some y1) (h6 : (IntKind.i64.wrap ((-1 : Int) - y1)) = ((-1 : Int) - y1)) (h7 : Spec PP (.enter 72 [(iI y0.kids), (.func 73 [] [(.ptr 5 0)])]) (hpOf [hoh1227 mf, hoh1228 mc, hoh126, hoh124 p, hoh1222, hoh1214 p, (6, (.cells (putCells .leaf 0 [(.gl 13 4 0 l.length false)]) 1 [] false), false), hoh121, (8, (.defd false), false), (9, (.defd false), false), hoh1225, hoh123 p, (12, (.lst 1 (jI to)), true), (13, (.lst 4 (jN l)), true), hoh1217, hoh129 at0 fn0 sz, hoh1210 at0 fn0 sz, (17, (.cells (putCells .leaf 0 [(nI y0.op), (nI ((-1 : Int) - y1)), (iI y0.kids), (iP y0.pats)]) 4 [] false), false), hoh1218, hoh1219] 20) (.ret (iI zk2)) (hpOf [hoh1227 mf, hoh1228 mc, hoh126, hoh124 p, hoh1222, hoh1214 p, (6, (.cells (putCells .leaf 0 [(.gl 13 4 0 l.length false)]) 1 [] false), false), hoh121, (8, (.defd false), false), (9, (.defd false), false), hoh1225, hoh123 p, (12, (.lst 1 (jI to)), true), (13, (.lst 4 (jN l)), true), hoh1217, hoh129 at0 fn0 sz, hoh1210 at0 fn0 sz, (17, (.cells (putCells .leaf 0 [(nI y0.op), (nI ((-1 : Int) - y1)), (iI y0.kids), (iP y0.pats)]) 4 [] false), false), hoh1218, hoh1219] 20)) (h8 : Spec PP (.enter 74 [(iP y0.pats), (.func 75 [] [(.ptr 14 0)])]) (hpOf [hoh1227 mf, hoh1228 mc, hoh126, hoh124 p, hoh1222, hoh1214 p, (6, (.cells (putCells .leaf 0 [(.gl 13 4 0 l.length false)]) 1 [] false), false), hoh121, (8, (.defd false), false), (9, (.defd false), false), hoh1225, hoh123 p, (12, (.lst 1 (jI to)), true), (13, (.lst 4 (jN l)), true), hoh1217, hoh129 at0 fn0 sz, hoh1210 at0 fn0 sz, (17, (.cells (putCells .leaf 0 [(nI y0.op), (nI ((-1 : Int) - y1)), (iI zk2), (iP y0.pats)]) 4 [] false), false), hoh1218, hoh1219] 20) (.ret (iP zs3)) (hpOf [hoh1227 mf, hoh1228 mc, hoh126, hoh124 p, hoh1222, hoh1214 p, (6, (.cells (putCells .leaf 0 [(.gl 13 4 0 l.length false)]) 1 [] false), false), hoh121, (8, (.defd false), false), (9, (.defd false), false), hoh1225, hoh123 p, (12, (.lst 1 (jI to)), true), (13, (.lst 4 (jN l)), true), hoh1217, hoh129 at0 fn0 sz, hoh1210 at0 fn0 sz, (17, (.cells (putCells .leaf 0 [(nI y0.op), (nI ((-1 : Int) - y1)), (iI zk2), (iP y0.pats)]) 4 [] false), false), hoh1218, hoh1219] 20)) (h9 : List.length (l ++ [(Node.mk y0.op ((-1 : Int) - y1) zk2 zs3)]) ≤ 1000000) :
  LeadsM PP 15 (wkB_s p mf mc to l at0 fn0 sz).as (wkB_c0 p mf mc to l at0 fn0 sz y0.kids (y0.kids.length : Int) (l ++ [(Node.mk y0.op ((-1 : Int) - y1) zk2 zs3)]) 0).as :=
 wW 22 [15, 21] [qp h0, qg Node.av h1, qp h2, qp h3, qp (congrArg (AV.int .i64) h4), qp (p := findK (avI ((-1 : Int) - y0.n)) (mEnts avI avI 0 mf) 0 = some (some (mIdx ((-1 : Int) - y0.n) mf, (avI y1)))) (look_some key_avI h5), qp (congrArg (AV.int .i64) h6), qp h7, qp h8, qp (app_p1 Node.av l), qp h9, qp (app_p3 Node.av l [(Node.mk y0.op ((-1 : Int) - y1) zk2 zs3)]), qp (app_p4 Node.av l [(Node.mk y0.op ((-1 : Int) - y1) zk2 zs3)]), qp h0, qg Node.av h1, ql avI y0.kids] [rn 45, aI (Node.av y0), rn 16, bt 56, rn 17, bf 6, rn 7, sI 10 ((-1 : Int) - y0.n), rn 11, .ans (.look (some (mIdx ((-1 : Int) - y0.n) mf, (avI y1)))), rn 5, sI 12 ((-1 : Int) - y1), rn 13, .call (iI zk2) (hpOf [hoh1227 mf, hoh1228 mc, hoh126, hoh124 p, hoh1222, hoh1214 p, (6, (.cells (putCells .leaf 0 [(.gl 13 4 0 l.length false)]) 1 [] false), false), hoh121, (8, (.defd false), false), (9, (.defd false), false), hoh1225, hoh123 p, (12, (.lst 1 (jI to)), true), (13, (.lst 4 (jN l)), true), hoh1217, hoh129 at0 fn0 sz, hoh1210 at0 fn0 sz, (17, (.cells (putCells .leaf 0 [(nI y0.op), (nI ((-1 : Int) - y1)), (iI y0.kids), (iP y0.pats)]) 4 [] false), false), hoh1218, hoh1219] 20), rn 8, .call (iP zs3) (hpOf [hoh1227 mf, hoh1228 mc, hoh126, hoh124 p, hoh1222, hoh1214 p, (6, (.cells (putCells .leaf 0 [(.gl 13 4 0 l.length false)]) 1 [] false), false), hoh121, (8, (.defd false), false), (9, (.defd false), false), hoh1225, hoh123 p, (12, (.lst 1 (jI to)), true), (13, (.lst 4 (jN l)), true), hoh1217, hoh129 at0 fn0 sz, hoh1210 at0 fn0 sz, (17, (.cells (putCells .leaf 0 [(nI y0.op), (nI ((-1 : Int) - y1)), (iI zk2), (iP y0.pats)]) 4 [] false), false), hoh1218, hoh1219] 20), rn 7, .app (jN (l ++ [(Node.mk y0.op ((-1 : Int) - y1) zk2 zs3)])) (l ++ [(Node.mk y0.op ((-1 : Int) - y1) zk2 zs3)]).length, rn 16, aI (Node.av y0), rn 2, aL y0.kids, rn 4] ⟨kl_map (fun _ => rfl) (fun _ => rfl) _ _ _, ⟨kl_map (fun _ => rfl) (fun _ => rfl) _ _ _, ⟨kk, ⟨kk, trivial⟩⟩⟩⟩
theorem wkB_E_2 (p : Prog) (mf mc : List (Int × Int)) (to : List Int) (l : List Node) (at0 fn0 sz : Int) (y0 : Node) (zk1 : List Int) (zs2 : List Pat) (h0 : 0 ≤ at0) (h1 : ((p.nodes)[at0.toNat]?) = some y0) (h2 : (y0.op == (4 : Int)) = true) (h3 : decide (y0.n ≥ (0 : Int)) = false) (h4 : (IntKind.i64.wrap ((-1 : Int) - y0.n)) = ((-1 : Int) - y0.n)) (h5 : mGet ((-1 : Int) - y0.n) mf = none) (h6 : Spec PP (.enter 72 [(iI y0.kids), (.func 73 [] [(.ptr 5 0)])]) (hpOf [hoh1227 mf, hoh1228 mc, hoh126, hoh124 p, hoh1222, hoh1214 p, (6, (.cells (putCells .leaf 0 [(.gl 13 4 0 l.length false)]) 1 [] false), false), hoh121, (8, (.defd false), false), (9, (.defd false), false), hoh1225, hoh123 p, (12, (.lst 1 (jI to)), true), (13, (.lst 4 (jN l)), true), hoh1217, hoh129 at0 fn0 sz, hoh1210 at0 fn0 sz, (17, (.cells (putCells .leaf 0 [(nI y0.op), (nI (-1)), (iI y0.kids), (iP y0.pats)]) 4 [] false), false), hoh1218, hoh1219] 20) (.ret (iI zk1)) (hpOf [hoh1227 mf, hoh1228 mc, hoh126, hoh124 p, hoh1222, hoh1214 p, (6, (.cells (putCells .leaf 0 [(.gl 13 4 0 l.length false)]) 1 [] false), false), hoh121, (8, (.defd false), false), (9, (.defd false), false), hoh1225, hoh123 p, (12, (.lst 1 (jI to)), true), (13, (.lst 4 (jN l)), true), hoh1217, hoh129 at0 fn0 sz, hoh1210 at0 fn0 sz, (17, (.cells (putCells .leaf 0 [(nI y0.op), (nI (-1)), (iI y0.kids), (iP y0.pats)]) 4 [] false), false), hoh1218, hoh1219] 20)) (h7 : Spec PP (.enter 74 [(iP y0.pats), (.func 75 [] [(.ptr 14 0)])]) (hpOf [hoh1227 mf, hoh1228 mc, hoh126, hoh124 p, hoh1222, hoh1214 p, (6, (.cells (putCells .leaf 0 [(.gl 13 4 0 l.length false)]) 1 [] false), false), hoh121, (8, (.defd false), false), (9, (.defd false), false), hoh1225, hoh123 p, (12, (.lst 1 (jI to)), true), (13, (.lst 4 (jN l)), true), hoh1217, hoh129 at0 fn0 sz, hoh1210 at0 fn0 sz, (17, (.cells (putCells .leaf 0 [(nI y0.op), (nI (-1)), (iI zk1), (iP y0.pats)]) 4 [] false), false), hoh1218, hoh1219] 20) (.ret (iP zs2)) (hpOf [hoh1227 mf, hoh1228 mc, hoh126, hoh124 p, hoh1222, hoh1214 p, (6, (.cells (putCells .leaf 0 [(.gl 13 4 0 l.length false)]) 1 [] false), false), hoh121, (8, (.defd false), false), (9, (.defd false), false), hoh1225, hoh123 p, (12, (.lst 1 (jI to)), true), (13, (.lst 4 (jN l)), true), hoh1217, hoh129 at0 fn0 sz, hoh1210 at0 fn0 sz, (17, (.cells (putCells .leaf 0 [(nI y0.op), (nI (-1)), (iI zk1), (iP y0.pats)]) 4 [] false), false), hoh1218, hoh1219] 20)) (h8 : List.length (l ++ [(Node.mk y0.op (-1) zk1 zs2)]) ≤ 1000000) :
  LeadsM PP 15 (wkB_s p mf mc to l at0 fn0 sz).as (wkB_c0 p mf mc to l at0 fn0 sz y0.kids (y0.kids.length : Int) (l ++ [(Node.mk y0.op (-1) zk1 zs2)]) 0).as :=
 wW 22 [15, 21] [qp h0, qg Node.av h1, qp h2, qp h3, qp (congrArg (AV.int .i64) h4), qp (p := findK (avI ((-1 : Int) - y0.n)) (mEnts avI avI 0 mf) 0 = some none) (look_none key_avI h5), qp h6, qp h7, qp (app_p1 Node.av l), qp h8, qp (app_p3 Node.av l [(Node.mk y0.op (-1) zk1 zs2)]), qp (app_p4 Node.av l [(Node.mk y0.op (-1) zk1 zs2)]), qp h0, qg Node.av h1, ql avI y0.kids] [rn 45, aI (Node.av y0), rn 16, bt 56, rn 17, bf 6, rn 7, sI 10 ((-1 : Int) - y0.n), rn 11, .ans (.look none), rn 18, .call (iI zk1) (hpOf [hoh1227 mf, hoh1228 mc, hoh126, hoh124 p, hoh1222, hoh1214 p, (6, (.cells (putCells .leaf 0 [(.gl 13 4 0 l.length false)]) 1 [] false), false), hoh121, (8, (.defd false), false), (9, (.defd false), false), hoh1225, hoh123 p, (12, (.lst 1 (jI to)), true), (13, (.lst 4 (jN l)), true), hoh1217, hoh129 at0 fn0 sz, hoh1210 at0 fn0 sz, (17, (.cells (putCells .leaf 0 [(nI y0.op), (nI (-1)), (iI y0.kids), (iP y0.pats)]) 4 [] false), false), hoh1218, hoh1219] 20), rn 8, .call (iP zs2) (hpOf [hoh1227 mf, hoh1228 mc, hoh126, hoh124 p, hoh1222, hoh1214 p, (6, (.cells (putCells .leaf 0 [(.gl 13 4 0 l.length false)]) 1 [] false), false), hoh121, (8, (.defd false), false), (9, (.defd false), false), hoh1225, hoh123 p, (12, (.lst 1 (jI to)), true), (13, (.lst 4 (jN l)), true), hoh1217, hoh129 at0 fn0 sz, hoh1210 at0 fn0 sz, (17, (.cells (putCells .leaf 0 [(nI y0.op), (nI (-1)), (iI zk1), (iP y0.pats)]) 4 [] false), false), hoh1218, hoh1219] 20), rn 7, .app (jN (l ++ [(Node.mk y0.op (-1) zk1 zs2)])) (l ++ [(Node.mk y0.op (-1) zk1 zs2)]).length, rn 16, aI (Node.av y0), rn 2, aL y0.kids, rn 4] ⟨kl_map (fun _ => rfl) (fun _ => rfl) _ _ _, ⟨kl_map (fun _ => rfl) (fun _ => rfl) _ _ _, ⟨kk, ⟨kk, trivial⟩⟩⟩⟩
theorem wkB_E_3 (p : Prog) (mf mc : List (Int × Int)) (to : List Int) (l : List Node) (at0 fn0 sz : Int) (y0 : Node) (y1 : Int) (zk2 : List Int) (zs3 : List Pat) (h0 : 0 ≤ at0) (h1 : ((p.nodes)[at0.toNat]?) = some y0) (h2 : (y0.op == (4 : Int)) = false) (h3 : (y0.op == (14 : Int)) = true) (h4 : mGet y0.n mc = some y1) (h5 : Spec PP (.enter 72 [(iI y0.kids), (.func 73 [] [(.ptr 5 0)])]) (hpOf [hoh1227 mf, hoh1228 mc, hoh126, hoh124 p, hoh1222, hoh1214 p, (6, (.cells (putCells .leaf 0 [(.gl 13 4 0 l.length false)]) 1 [] false), false), hoh121, (8, (.defd false), false), (9, (.defd false), false), hoh1225, hoh123 p, (12, (.lst 1 (jI to)), true), (13, (.lst 4 (jN l)), true), hoh1217, hoh129 at0 fn0 sz, hoh1210 at0 fn0 sz, (17, (.cells (putCells .leaf 0 [(nI y0.op), (nI y1), (iI y0.kids), (iP y0.pats)]) 4 [] false), false), hoh1218] 19) (.ret (iI zk2)) (hpOf [hoh1227 mf, hoh1228 mc, hoh126, hoh124 p, hoh1222, hoh1214 p, (6, (.cells (putCells .leaf 0 [(.gl 13 4 0 l.length false)]) 1 [] false), false), hoh121, (8, (.defd false), false), (9, (.defd false), false), hoh1225, hoh123 p, (12, (.lst 1 (jI to)), true), (13, (.lst 4 (jN l)), true), hoh1217, hoh129 at0 fn0 sz, hoh1210 at0 fn0 sz, (17, (.cells (putCells .leaf 0 [(nI y0.op), (nI y1), (iI y0.kids), (iP y0.pats)]) 4 [] false), false), hoh1218] 19)) (h6 : Spec PP (.enter 74 [(iP y0.pats), (.func 75 [] [(.ptr 14 0)])]) (hpOf [hoh1227 mf, hoh1228 mc, hoh126, hoh124 p, hoh1222, hoh1214 p, (6, (.cells (putCells .leaf 0 [(.gl 13 4 0 l.length false)]) 1 [] false), false), hoh121, (8, (.defd false), false), (9, (.defd false), false), hoh1225, hoh123 p, (12, (.lst 1 (jI to)), true), (13, (.lst 4 (jN l)), true), hoh1217, hoh129 at0 fn0 sz, hoh1210 at0 fn0 sz, (17, (.cells (putCells .leaf 0 [(nI y0.op), (nI y1), (iI zk2), (iP y0.pats)]) 4 [] false), false), hoh1218] 19) (.ret (iP zs3)) (hpOf [hoh1227 mf, hoh1228 mc, hoh126, hoh124 p, hoh1222, hoh1214 p, (6, (.cells (putCells .leaf 0 [(.gl 13 4 0 l.length false)]) 1 [] false), false), hoh121, (8, (.defd false), false), (9, (.defd false), false), hoh1225, hoh123 p, (12, (.lst 1 (jI to)), true), (13, (.lst 4 (jN l)), true), hoh1217, hoh129 at0 fn0 sz, hoh1210 at0 fn0 sz, (17, (.cells (putCells .leaf 0 [(nI y0.op), (nI y1), (iI zk2), (iP y0.pats)]) 4 [] false), false), hoh1218] 19)) (h7 : List.length (l ++ [(Node.mk y0.op y1 zk2 zs3)]) ≤ 1000000) :
  LeadsM PP 15 (wkB_s p mf mc to l at0 fn0 sz).as (wkB_c0 p mf mc to l at0 fn0 sz y0.kids (y0.kids.length : Int) (l ++ [(Node.mk y0.op y1 zk2 zs3)]) 0).as :=
 wW 21 [15, 20] [qp h0, qg Node.av h1, qp h2, qp h3, qp (p := findK (avI y0.n) (mEnts avI avI 0 mc) 0 = some (some (mIdx y0.n mc, (avI y1)))) (look_some key_avI h4), qp h5, qp h6, qp (app_p1 Node.av l), qp h7, qp (app_p3 Node.av l [(Node.mk y0.op y1 zk2 zs3)]), qp (app_p4 Node.av l [(Node.mk y0.op y1 zk2 zs3)]), qp h0, qg Node.av h1, ql avI y0.kids] [rn 45, aI (Node.av y0), rn 16, bf 56, rn 6, bt 63, rn 16, .ans (.look (some (mIdx y0.n mc, (avI y1)))), rn 13, .call (iI zk2) (hpOf [hoh1227 mf, hoh1228 mc, hoh126, hoh124 p, hoh1222, hoh1214 p, (6, (.cells (putCells .leaf 0 [(.gl 13 4 0 l.length false)]) 1 [] false), false), hoh121, (8, (.defd false), false), (9, (.defd false), false), hoh1225, hoh123 p, (12, (.lst 1 (jI to)), true), (13, (.lst 4 (jN l)), true), hoh1217, hoh129 at0 fn0 sz, hoh1210 at0 fn0 sz, (17, (.cells (putCells .leaf 0 [(nI y0.op), (nI y1), (iI y0.kids), (iP y0.pats)]) 4 [] false), false), hoh1218] 19), rn 8, .call (iP zs3) (hpOf [hoh1227 mf, hoh1228 mc, hoh126, hoh124 p, hoh1222, hoh1214 p, (6, (.cells (putCells .leaf 0 [(.gl 13 4 0 l.length false)]) 1 [] false), false), hoh121, (8, (.defd false), false), (9, (.defd false), false), hoh1225, hoh123 p, (12, (.lst 1 (jI to)), true), (13, (.lst 4 (jN l)), true), hoh1217, hoh129 at0 fn0 sz, hoh1210 at0 fn0 sz, (17, (.cells (putCells .leaf 0 [(nI y0.op), (nI y1), (iI zk2), (iP y0.pats)]) 4 [] false), false), hoh1218] 19), rn 7, .app (jN (l ++ [(Node.mk y0.op y1 zk2 zs3)])) (l ++ [(Node.mk y0.op y1 zk2 zs3)]).length, rn 16, aI (Node.av y0), rn 2, aL y0.kids, rn 4] ⟨kl_map (fun _ => rfl) (fun _ => rfl) _ _ _, ⟨kl_map (fun _ => rfl) (fun _ => rfl) _ _ _, ⟨kk, ⟨kk, trivial⟩⟩⟩⟩
theorem wkB_E_4 (p : Prog) (mf mc : List (Int × Int)) (to : List Int) (l : List Node) (at0 fn0 sz : Int) (y0 : Node) (zk1 : List Int) (zs2 : List Pat) (h0 : 0 ≤ at0) (h1 : ((p.nodes)[at0.toNat]?) = some y0) (h2 : (y0.op == (4 : Int)) = false) (h3 : (y0.op == (14 : Int)) = true) (h4 : mGet y0.n mc = none) (h5 : Spec PP (.enter 72 [(iI y0.kids), (.func 73 [] [(.ptr 5 0)])]) (hpOf [hoh1227 mf, hoh1228 mc, hoh126, hoh124 p, hoh1222, hoh1214 p, (6, (.cells (putCells .leaf 0 [(.gl 13 4 0 l.length false)]) 1 [] false), false), hoh121, (8, (.defd false), false), (9, (.defd false), false), hoh1225, hoh123 p, (12, (.lst 1 (jI to)), true), (13, (.lst 4 (jN l)), true), hoh1217, hoh129 at0 fn0 sz, hoh1210 at0 fn0 sz, (17, (.cells (putCells .leaf 0 [(nI y0.op), (nI 0), (iI y0.kids), (iP y0.pats)]) 4 [] false), false), hoh1218] 19) (.ret (iI zk1)) (hpOf [hoh1227 mf, hoh1228 mc, hoh126, hoh124 p, hoh1222, hoh1214 p, (6, (.cells (putCells .leaf 0 [(.gl 13 4 0 l.length false)]) 1 [] false), false), hoh121, (8, (.defd false), false), (9, (.defd false), false), hoh1225, hoh123 p, (12, (.lst 1 (jI to)), true), (13, (.lst 4 (jN l)), true), hoh1217, hoh129 at0 fn0 sz, hoh1210 at0 fn0 sz, (17, (.cells (putCells .leaf 0 [(nI y0.op), (nI 0), (iI y0.kids), (iP y0.pats)]) 4 [] false), false), hoh1218] 19)) (h6 : Spec PP (.enter 74 [(iP y0.pats), (.func 75 [] [(.ptr 14 0)])]) (hpOf [hoh1227 mf, hoh1228 mc, hoh126, hoh124 p, hoh1222, hoh1214 p, (6, (.cells (putCells .leaf 0 [(.gl 13 4 0 l.length false)]) 1 [] false), false), hoh121, (8, (.defd false), false), (9, (.defd false), false), hoh1225, hoh123 p, (12, (.lst 1 (jI to)), true), (13, (.lst 4 (jN l)), true), hoh1217, hoh129 at0 fn0 sz, hoh1210 at0 fn0 sz, (17, (.cells (putCells .leaf 0 [(nI y0.op), (nI 0), (iI zk1), (iP y0.pats)]) 4 [] false), false), hoh1218] 19) (.ret (iP zs2)) (hpOf [hoh1227 mf, hoh1228 mc, hoh126, hoh124 p, hoh1222, hoh1214 p, (6, (.cells (putCells .leaf 0 [(.gl 13 4 0 l.length false)]) 1 [] false), false), hoh121, (8, (.defd false), false), (9, (.defd false), false), hoh1225, hoh123 p, (12, (.lst 1 (jI to)), true), (13, (.lst 4 (jN l)), true), hoh1217, hoh129 at0 fn0 sz, hoh1210 at0 fn0 sz, (17, (.cells (putCells .leaf 0 [(nI y0.op), (nI 0), (iI zk1), (iP y0.pats)]) 4 [] false), false), hoh1218] 19)) (h7 : List.length (l ++ [(Node.mk y0.op 0 zk1 zs2)]) ≤ 1000000) :
  LeadsM PP 15 (wkB_s p mf mc to l at0 fn0 sz).as (wkB_c0 p mf mc to l at0 fn0 sz y0.kids (y0.kids.length : Int) (l ++ [(Node.mk y0.op 0 zk1 zs2)]) 0).as :=
 wW 21 [15, 20] [qp h0, qg Node.av h1, qp h2, qp h3, qp (p := findK (avI y0.n) (mEnts avI avI 0 mc) 0 = some none) (look_none key_avI h4), qp h5, qp h6, qp (app_p1 Node.av l), qp h7, qp (app_p3 Node.av l [(Node.mk y0.op 0 zk1 zs2)]), qp (app_p4 Node.av l [(Node.mk y0.op 0 zk1 zs2)]), qp h0, qg Node.av h1, ql avI y0.kids] [rn 45, aI (Node.av y0), rn 16, bf 56, rn 6, bt 63, rn 16, .ans (.look none), rn 13, .call (iI zk1) (hpOf [hoh1227 mf, hoh1228 mc, hoh126, hoh124 p, hoh1222, hoh1214 p, (6, (.cells (putCells .leaf 0 [(.gl 13 4 0 l.length false)]) 1 [] false), false), hoh121, (8, (.defd false), false), (9, (.defd false), false), hoh1225, hoh123 p, (12, (.lst 1 (jI to)), true), (13, (.lst 4 (jN l)), true), hoh1217, hoh129 at0 fn0 sz, hoh1210 at0 fn0 sz, (17, (.cells (putCells .leaf 0 [(nI y0.op), (nI 0), (iI y0.kids), (iP y0.pats)]) 4 [] false), false), hoh1218] 19), rn 8, .call (iP zs2) (hpOf [hoh1227 mf, hoh1228 mc, hoh126, hoh124 p, hoh1222, hoh1214 p, (6, (.cells (putCells .leaf 0 [(.gl 13 4 0 l.length false)]) 1 [] false), false), hoh121, (8, (.defd false), false), (9, (.defd false), false), hoh1225, hoh123 p, (12, (.lst 1 (jI to)), true), (13, (.lst 4 (jN l)), true), hoh1217, hoh129 at0 fn0 sz, hoh1210 at0 fn0 sz, (17, (.cells (putCells .leaf 0 [(nI y0.op), (nI 0), (iI zk1), (iP y0.pats)]) 4 [] false), false), hoh1218] 19), rn 7, .app (jN (l ++ [(Node.mk y0.op 0 zk1 zs2)])) (l ++ [(Node.mk y0.op 0 zk1 zs2)]).length, rn 16, aI (Node.av y0), rn 2, aL y0.kids, rn 4] ⟨kl_map (fun _ => rfl) (fun _ => rfl) _ _ _, ⟨kl_map (fun _ => rfl) (fun _ => rfl) _ _ _, ⟨kk, ⟨kk, trivial⟩⟩⟩⟩
theorem wkB_E_5 (p : Prog) (mf mc : List (Int × Int)) (to : List Int) (l : List Node) (at0 fn0 sz : Int) (y0 : Node) (zk1 : List Int) (zs2 : List Pat) (h0 : 0 ≤ at0) (h1 : ((p.nodes)[at0.toNat]?) = some y0) (h2 : (y0.op == (4 : Int)) = false) (h3 : (y0.op == (14 : Int)) = false) (h4 : Spec PP (.enter 72 [(iI y0.kids), (.func 73 [] [(.ptr 5 0)])]) (hpOf [hoh1227 mf, hoh1228 mc, hoh126, hoh124 p, hoh1222, hoh1214 p, (6, (.cells (putCells .leaf 0 [(.gl 13 4 0 l.length false)]) 1 [] false), false), hoh121, (8, (.defd false), false), (9, (.defd false), false), hoh1225, hoh123 p, (12, (.lst 1 (jI to)), true), (13, (.lst 4 (jN l)), true), hoh1217, hoh129 at0 fn0 sz, hoh1210 at0 fn0 sz, (17, (.cells (putCells .leaf 0 [(nI y0.op), (nI y0.n), (iI y0.kids), (iP y0.pats)]) 4 [] false), false)] 18) (.ret (iI zk1)) (hpOf [hoh1227 mf, hoh1228 mc, hoh126, hoh124 p, hoh1222, hoh1214 p, (6, (.cells (putCells .leaf 0 [(.gl 13 4 0 l.length false)]) 1 [] false), false), hoh121, (8, (.defd false), false), (9, (.defd false), false), hoh1225, hoh123 p, (12, (.lst 1 (jI to)), true), (13, (.lst 4 (jN l)), true), hoh1217, hoh129 at0 fn0 sz, hoh1210 at0 fn0 sz, (17, (.cells (putCells .leaf 0 [(nI y0.op), (nI y0.n), (iI y0.kids), (iP y0.pats)]) 4 [] false), false)] 18)) (h5 : Spec PP (.enter 74 [(iP y0.pats), (.func 75 [] [(.ptr 14 0)])]) (hpOf [hoh1227 mf, hoh1228 mc, hoh126, hoh124 p, hoh1222, hoh1214 p, (6, (.cells (putCells .leaf 0 [(.gl 13 4 0 l.length false)]) 1 [] false), false), hoh121, (8, (.defd false), false), (9, (.defd false), false), hoh1225, hoh123 p, (12, (.lst 1 (jI to)), true), (13, (.lst 4 (jN l)), true), hoh1217, hoh129 at0 fn0 sz, hoh1210 at0 fn0 sz, (17, (.cells (putCells .leaf 0 [(nI y0.op), (nI y0.n), (iI zk1), (iP y0.pats)]) 4 [] false), false)] 18) (.ret (iP zs2)) (hpOf [hoh1227 mf, hoh1228 mc, hoh126, hoh124 p, hoh1222, hoh1214 p, (6, (.cells (putCells .leaf 0 [(.gl 13 4 0 l.length false)]) 1 [] false), false), hoh121, (8, (.defd false), false), (9, (.defd false), false), hoh1225, hoh123 p, (12, (.lst 1 (jI to)), true), (13, (.lst 4 (jN l)), true), hoh1217, hoh129 at0 fn0 sz, hoh1210 at0 fn0 sz, (17, (.cells (putCells .leaf 0 [(nI y0.op), (nI y0.n), (iI zk1), (iP y0.pats)]) 4 [] false), false)] 18)) (h6 : List.length (l ++ [(Node.mk y0.op y0.n zk1 zs2)]) ≤ 1000000) :
  LeadsM PP 15 (wkB_s p mf mc to l at0 fn0 sz).as (wkB_c0 p mf mc to l at0 fn0 sz y0.kids (y0.kids.length : Int) (l ++ [(Node.mk y0.op y0.n zk1 zs2)]) 0).as :=
 wW 20 [15, 19] [qp h0, qg Node.av h1, qp h2, qp h3, qp h4, qp h5, qp (app_p1 Node.av l), qp h6, qp (app_p3 Node.av l [(Node.mk y0.op y0.n zk1 zs2)]), qp (app_p4 Node.av l [(Node.mk y0.op y0.n zk1 zs2)]), qp h0, qg Node.av h1, ql avI y0.kids] [rn 45, aI (Node.av y0), rn 16, bf 56, rn 6, bf 63, rn 8, .call (iI zk1) (hpOf [hoh1227 mf, hoh1228 mc, hoh126, hoh124 p, hoh1222, hoh1214 p, (6, (.cells (putCells .leaf 0 [(.gl 13 4 0 l.length false)]) 1 [] false), false), hoh121, (8, (.defd false), false), (9, (.defd false), false), hoh1225, hoh123 p, (12, (.lst 1 (jI to)), true), (13, (.lst 4 (jN l)), true), hoh1217, hoh129 at0 fn0 sz, hoh1210 at0 fn0 sz, (17, (.cells (putCells .leaf 0 [(nI y0.op), (nI y0.n), (iI y0.kids), (iP y0.pats)]) 4 [] false), false)] 18), rn 8, .call (iP zs2) (hpOf [hoh1227 mf, hoh1228 mc, hoh126, hoh124 p, hoh1222, hoh1214 p, (6, (.cells (putCells .leaf 0 [(.gl 13 4 0 l.length false)]) 1 [] false), false), hoh121, (8, (.defd false), false), (9, (.defd false), false), hoh1225, hoh123 p, (12, (.lst 1 (jI to)), true), (13, (.lst 4 (jN l)), true), hoh1217, hoh129 at0 fn0 sz, hoh1210 at0 fn0 sz, (17, (.cells (putCells .leaf 0 [(nI y0.op), (nI y0.n), (iI zk1), (iP y0.pats)]) 4 [] false), false)] 18), rn 7, .app (jN (l ++ [(Node.mk y0.op y0.n zk1 zs2)])) (l ++ [(Node.mk y0.op y0.n zk1 zs2)]).length, rn 16, aI (Node.av y0), rn 2, aL y0.kids, rn 4] ⟨kl_map (fun _ => rfl) (fun _ => rfl) _ _ _, ⟨kl_map (fun _ => rfl) (fun _ => rfl) _ _ _, ⟨kk, ⟨kk, trivial⟩⟩⟩⟩
theorem wkB_0_0 (p : Prog) (mf mc : List (Int × Int)) (to : List Int) (l : List Node) (at0 fn0 sz : Int) (t19 : List Int) (t20 : Int) (l16 : List Node) (t21 y0 : Int) (y1 : Node) (y2 : Int) (zm3 : List Node) (h0 : decide (t21 < t20) = true) (h1 : 0 ≤ t21) (h2 : ((t19)[t21.toNat]?) = some y0) (h3 : 0 ≤ at0) (h4 : ((p.nodes)[at0.toNat]?) = some y1) (h5 : Pure PP 111 [(Node.av y1), (nI t21)] (nI y2)) (h6 : Spec PP (.enter 110 [(.agg [(nI y0), (nI fn0), (nI (IntKind.i64.wrap (sz + y2)))]), (.ptr 10 0), (.ptr 11 0), (.ptr 2 0)]) (hpOf [hoh1227 mf, hoh1228 mc, hoh126, hoh124 p, hoh1222, hoh1214 p, hoh1216 l16, hoh120, (8, (.defd false), false), (9, (.defd false), false), hoh1225, hoh123 p, (12, (.lst 1 (jI to)), true), hoh1217, hoh129 at0 fn0 sz, (16, (.lst 4 (jN l16)), true)] 17) (.ret (bV true)) (hpOf [hoh1227 mf, hoh1228 mc, hoh126, hoh124 p, hoh1222, hoh1214 p, hoh1212 l16 zm3, hoh120, (8, (.defd false), false), (9, (.defd false), false), hoh1225, hoh123 p, (12, (.lst 1 (jI to)), true), hoh1217, hoh129 at0 fn0 sz, hoh1230 l16 zm3] 18)) (h7 : (IntKind.i64.wrap (t21 + (1 : Int))) = (t21 + (1 : Int))) :
  LeadsM PP 15 (wkB_c0 p mf mc to l at0 fn0 sz t19 t20 l16 t21).as (wkB_c0 p mf mc to l at0 fn0 sz t19 t20 (l16 ++ zm3) (t21 + (1 : Int))).as :=
 wW 18 [15, 17] [qp h0, qp h1, qg avI h2, qp h3, qg Node.av h4, qp h5, qp h6, qr (nI sz), qr (nI sz), qr (nI fn0), qr (nI fn0), qr (AV.func 110 [] [(.ptr 10 0), (.ptr 11 0), (.ptr 2 0)]), qr (AV.func 110 [] [(.ptr 10 0), (.ptr 11 0), (.ptr 2 0)]), qp (congrArg (AV.int .i64) h7)] [rn 5, bt 22, rn 7, aI (avI y0), rn 5, .reg [.d, .d, .d, .d, .d, .d, .d, .d, .d, .d, .d, .ans (.idx (Node.av y1)), .d, .d, .pure (nI y2), .d, .d, .call (bV true) (hpOf [hoh1227 mf, hoh1228 mc, hoh126, hoh124 p, hoh1222, hoh1214 p, hoh1212 l16 zm3, hoh120, (8, (.defd false), false), (9, (.defd false), false), hoh1225, hoh123 p, (12, (.lst 1 (jI to)), true), hoh1217, hoh129 at0 fn0 sz, hoh1230 l16 zm3] 18), .d], rn 5, sI 45 (t21 + (1 : Int)), rn 3] ⟨kl_map (fun _ => rfl) (fun _ => rfl) _ _ _, ⟨kl_map (fun _ => rfl) (fun _ => rfl) _ _ _, ⟨kk, ⟨kk, trivial⟩⟩⟩⟩
theorem wkB_0_1 (p : Prog) (mf mc : List (Int × Int)) (to : List Int) (l : List Node) (at0 fn0 sz : Int) (t19 : List Int) (t20 : Int) (l16 : List Node) (t21 : Int) (h0 : decide (t21 < t20) = false) :
  Ends PP 15 (wkB_c0 p mf mc to l at0 fn0 sz t19 t20 l16 t21).as (.ret (bV true)) (hpOf [hoh1227 mf, hoh1228 mc, hoh126, hoh124 p, hoh1222, hoh1214 p, (6, (.cells (putCells .leaf 0 [(.gl 15 4 0 l16.length false)]) 1 [] false), false), hoh120, (8, (.defd false), false), (9, (.defd false), false), hoh1225, hoh123 p, (12, (.lst 1 (jI to)), true), hoh1217, (15, (.lst 4 (jN l16)), true)] 16) :=
 wE 17 [16] [qp h0] [rn 5, bf 22, rn 7] ⟨kl_map (fun _ => rfl) (fun _ => rfl) _ _ _, ⟨kl_map (fun _ => rfl) (fun _ => rfl) _ _ _, ⟨kk, ⟨kk, trivial⟩⟩⟩⟩
end Go.Hb
namespace Go.Hb
open Go.Proofs
set_option maxHeartbeats 1000000
noncomputable section
def wAs (f : Int → List Int × Int → Option (List Int × Int)) : List Int → List Int × Int → Option (List Int × Int)
 | [], s => some s
 | k :: ks, s => match f k s with
  | some s' => wAs f ks s'
  | none => none
def wA (p : Prog) : Nat → Int → List Int × Int → Option (List Int × Int)
 | 0, _, _ => none
 | f + 1, a, (l, n) => if -1000000000 ≤ n ∧ n ≤ 1000000000 then match p.nodes[a.toNat]? with
  | some x => wAs (wA p f) x.kids (l.set a.toNat n, n + 1)
  | none => none
  else none
theorem wAs_len {f : Int → List Int × Int → Option (List Int × Int)} (hf : ∀ k s s', f k s = some s' → s'.1.length = s.1.length) : ∀ (ks : List Int) (s s' : List Int × Int), wAs f ks s = some s' → s'.1.length = s.1.length
 | [], s, s', h => by cases h; rfl
 | k :: ks, s, s', h => by
  simp only [wAs] at h
  split at h
  · rename_i s1 h1
    rw [wAs_len hf ks s1 s' h, hf k s s1 h1]
  · cases h
theorem wA_len (p : Prog) : ∀ (f : Nat) (a : Int) (s s' : List Int × Int), wA p f a s = some s' → s'.1.length = s.1.length
 | 0, _, _, _, h => by cases h
 | f + 1, a, (l, n), s', h => by
  simp only [wA] at h
  split at h
  · split at h
    · rw [wAs_len (wA_len p f) _ _ _ h]; simp
    · cases h
  · cases h
abbrev wargsA (a fn sz : Int) : List AV := [stepAV a fn sz, .ptr 9 0, .ptr 10 0, .ptr 2 0]
section
variable (p : Prog) (mf mc : List (Int × Int))
def WalkA (a fn sz : Int) (s s' : List Int × Int) : Prop := Spec PP (.enter 110 (wargsA a fn sz)) (hpOf (HA p mf mc s.1 s.2) 13) (.ret (.bool true)) (hpOf (HA p mf mc s'.1 s'.2) 13)
variable {p mf mc}
abbrev boxS (k : Nat) (b gn tz : Int) : List (Nat × AObj × Bool) := [(k, (.cells (putCells .leaf 0 [.int .i64 b, .int .i64 gn, .int .i64 tz]) 3 [] false), false)]
theorem wkA_frame {s s' : List Int × Int} {a fn sz b gn tz : Int} (h : WalkA p mf mc a fn sz s s') :
  Spec PP (.enter 110 (wargsA a fn sz)) (hpOf (HA p mf mc s.1 s.2 ++ boxS 13 b gn tz) 14) (.ret (.bool true)) (hpOf (HA p mf mc s'.1 s'.2 ++ boxS 13 b gn tz) 14) :=
 spec_frame h (by kernel_rfl) (by rfl) (by rfl) (by kernel_rfl) (by kernel_rfl) ⟨mo_kl mf, mo_kl mc, keylessL_map _ (fun _ => rfl) _, trivial⟩ (by kernel_rfl) (by kernel_rfl) (by kernel_rfl)
theorem wkA_start {l : List Int} {n a fn sz : Int} {s' : List Int × Int} (h : Ends PP 13 (wkA_s p mf mc l n a fn sz).as (.ret (.bool true)) (hpOf (HA p mf mc s'.1 s'.2) 13)) : WalkA p mf mc a fn sz (l, n) s' :=
 ⟨(wkA_s p mf mc l n a fn sz).as.fr, by kernel_rfl, Eq.mp (by kernel_rfl) h⟩
theorem wkA_loop (hp : FineP p) {f : Nat} {a fn sz : Int} (l0 : List Int) (n0 : Int) {x : Node} (ha : 0 ≤ a) (hx : p.nodes[a.toNat]? = some x) (hs0 : 0 ≤ sz) (hs : sz ≤ 1000 * (a + 1))
  (ih : ∀ (k tz : Int) (s s' : List Int × Int), a < k → k < p.nodes.length → s.1.length = p.nodes.length → 0 ≤ tz → tz ≤ 1000 * (k + 1) → wA p f k s = some s' → WalkA p mf mc k fn tz s s') :
  ∀ (t : List Int) (j : Nat) (s s' : List Int × Int), s.1.length = p.nodes.length → x.kids.drop j = t → wAs (wA p f) t s = some s' → Ends PP 13 (wkA_c0 p mf mc l0 n0 a fn sz x.kids ((List.length x.kids : Nat) : Int) (j : Int) s.1 s.2).as (.ret (.bool true)) (hpOf (HA p mf mc s'.1 s'.2) 13)
 | [], j, s, s', hl, h, hw => by
  have := dropN h
  cases hw
  exact wkA_0_1 p mf mc l0 n0 a fn sz x.kids _ j s.1 s.2 sd
 | k :: t, j, s, s', hl, h, hw => by
  obtain ⟨g1, g2, g3⟩ := dropC h
  obtain ⟨hf, hk10, hks⟩ := hp.node _ _ hx
  have hk := hks k (List.mem_of_getElem? g1)
  have hb := addsN_le hf (j : Int)
  have hn := hp.small
  have ew : IntKind.i64.wrap (sz + addsN x j) = sz + addsN x j := wrap64 (by omega) (by omega)
  simp only [wAs] at hw
  split at hw
  · rename_i s1 h1
    have hsp : Spec PP (.enter 110 (wargsA k fn (IntKind.i64.wrap (sz + addsN x j)))) (hpOf (HA p mf mc s.1 s.2 ++ boxS 13 a fn sz) 14) (.ret (.bool true)) (hpOf (HA p mf mc s1.1 s1.2 ++ boxS 13 a fn sz) 14) := by
     rw [ew]
     exact wkA_frame (ih k (sz + addsN x j) s s1 (by omega) (by omega) hl (by omega) (by omega) h1)
    have hstep := wkA_0_0 p mf mc l0 n0 a fn sz x.kids ((List.length x.kids : Nat) : Int) j s.1 s.2 k x _ s1.1 s1.2 sd sd sd ha hx (bAdds_pure hf (by omega) (by omega) hk10) hsp sd
    exact hstep.ends (wkA_loop hp l0 n0 ha hx hs0 hs ih t (j + 1) s1 s' (by rw [wA_len p f k s s1 h1, hl]) g2 hw)
  · cases hw
theorem wkA_walk (hp : FineP p) (fn : Int) : ∀ (f : Nat) (a sz : Int) (s s' : List Int × Int), 0 ≤ a → a < p.nodes.length → s.1.length = p.nodes.length → 0 ≤ sz → sz ≤ 1000 * (a + 1) → wA p f a s = some s' → WalkA p mf mc a fn sz s s'
 | 0, a, sz, s, s', ha, hn, hl, _, _, h => by cases h
 | f + 1, a, sz, (l, n), s', ha, hn, hl, h0, h1, h => by
  have hl : l.length = p.nodes.length := hl
  simp only [wA] at h
  split at h
  · rename_i hr
    split at h
    · rename_i x hx
      obtain ⟨y, hy⟩ : ∃ y, l[a.toNat]? = some y := ⟨_, List.getElem?_eq_getElem (by omega)⟩
      refine wkA_start ?_
      refine (wkA_E_0 p mf mc l n a fn sz y x ha hn hy sd hx).ends ?_
      exact wkA_loop hp l n ha hx h0 h1 (fun k tz s s' hk hkn hl ht0 ht hw => wkA_walk hp fn f k tz s s' (by omega) hkn hl ht0 ht hw) x.kids 0 (l.set a.toNat n, n + 1) s' (by simpa using hl) rfl h
    · cases h
  · cases h
end
end
end Go.Hb
namespace Go.Hb
open Go.Proofs
set_option maxHeartbeats 2000000
noncomputable section
theorem spec_gen2 {P : Program} {f : Nat} {args args' : List AV} {v v' : AV} {l l' lc lc' : List (Nat × AObj × Bool)} {m nb nb' n2 n3 : Nat} {ks : List Nat}
  (h0 : SpecM P m (.enter f args) (hpOf l nb) (.ret v) (hpOf l' nb')) (e3 : nb' - m + n2 = n3) (ev : AV.ren (sigG m n2 ks) v = v') (hargs : AV.renL (tau 0 nb n2 ks) args = args') (hm : Nat.ble m nb = true) (hm' : Nat.ble m nb' = true)
  (hin : okNames 0 ⟨⟨0, 0, [], [], [], .run, .normal, none⟩, [], l, nb⟩ ks = true) (hl : sumH (hpOf lc n2) (tau 0 nb n2 ks) l = wantH (tau 0 nb n2 ks) l) (hkl : klAll l)
  (hl' : sumH (hpOf lc' n3) (sigG m n2 ks) l' = wantH (sigG m n2 ks) l') (hkl' : klAll l') (hpl : plainL l' = true) (hk' : keysLt nb' l' = true)
  (hx : keysLt n2 lc = true) (hx' : keysLt n3 lc' = true) (hlt : ks.all (fun k => Nat.blt k n2) = true) (hout : pickK (namesT (sigG m n2 ks) l') ks (hpOf lc n2) lc' = allH lc') (hll : allH l' = (l'.map fun p => (hpOf l' nb').look p.1)) :
  Spec P (.enter f args') (hpOf lc n2) (.ret v') (hpOf lc' n3) := by
 subst e3 ev
 exact spec_gen h0 hargs hm hm' hin hl hkl hl' hkl' hpl hk' hx hx' hlt hout hll
def bN (mf mc : List (Int × Int)) (op n : Int) : Int := if op = 4 then (if 0 ≤ n then n else -1 - mAt mf (-1 - n)) else if op = 14 then mAt mc n else n
def bNode (mf mc : List (Int × Int)) (to : List Int) (x : Node) : Node := ⟨x.op, bN mf mc x.op x.n, x.kids.map (toAt to), cPats mc x.pats⟩
def nOk (mf : List (Int × Int)) (x : Node) : Prop := psizes x.pats < 1000000 ∧ (x.op = 4 → x.n < 0 → -1000000000 ≤ x.n ∧ -1000000000 ≤ mAt mf (-1 - x.n) ∧ mAt mf (-1 - x.n) ≤ 1000000000)
def wB (p : Prog) (mf mc : List (Int × Int)) (to : List Int) : Nat → Int → List Node
 | 0, _ => []
 | f + 1, a => match p.nodes[a.toNat]? with
  | some x => bNode mf mc to x :: (x.kids.map (wB p mf mc to f)).flatten
  | none => []
abbrev wargsB (a fn sz : Int) : List AV := [stepAV a fn sz, .ptr 10 0, .ptr 11 0, .ptr 2 0]
section
variable (p : Prog) (mf mc : List (Int × Int)) (to : List Int)
def WalkB (a fn sz : Int) (l l' : List Node) : Prop := SpecM PP 15 (.enter 110 (wargsB a fn sz)) (hpOf (HB p mf mc to l) 15) (.ret (.bool true)) (hpOf (HB1 p mf mc to l') 16)
variable {p mf mc to}
theorem wkB_start {l l' : List Node} {a fn sz : Int} (h : Ends PP 15 (wkB_s p mf mc to l a fn sz).as (.ret (.bool true)) (hpOf (HB1 p mf mc to l') 16)) : WalkB p mf mc to a fn sz l l' :=
 ⟨(wkB_s p mf mc to l a fn sz).as.fr, by kernel_rfl, Eq.mp (by kernel_rfl) h⟩
theorem wkB_loop (hp : FineP p) {f : Nat} {a fn sz : Int} (l0 : List Node) {x : Node} (ha : 0 ≤ a) (hx : p.nodes[a.toNat]? = some x) (hs0 : 0 ≤ sz) (hs : sz ≤ 1000 * (a + 1)) (hto : to.length = p.nodes.length)
  (ih : ∀ (k tz : Int) (l : List Node), a < k → k < p.nodes.length → 0 ≤ tz → tz ≤ 1000 * (k + 1) → l.length + (wB p mf mc to f k).length ≤ 1000000 → WalkB p mf mc to k fn tz l (l ++ wB p mf mc to f k)) :
  ∀ (t : List Int) (j : Nat) (l : List Node), x.kids.drop j = t → l.length + ((t.map (wB p mf mc to f)).flatten).length ≤ 1000000 → Ends PP 15 (wkB_c0 p mf mc to l0 a fn sz x.kids ((List.length x.kids : Nat) : Int) l (j : Int)).as (.ret (.bool true)) (hpOf (HB1 p mf mc to (l ++ (t.map (wB p mf mc to f)).flatten)) 16)
 | [], j, l, h, hb => by
  have := dropN h
  rw [List.map_nil, List.flatten_nil, List.append_nil]
  exact wkB_0_1 p mf mc to l0 a fn sz x.kids _ l j sd
 | k :: t, j, l, h, hlen => by
  obtain ⟨g1, g2, g3⟩ := dropC h
  obtain ⟨hf, hk10, hks⟩ := hp.node _ _ hx
  have hk := hks k (List.mem_of_getElem? g1)
  have hb := addsN_le hf (j : Int)
  have hn := hp.small
  have ew : IntKind.i64.wrap (sz + addsN x j) = sz + addsN x j := wrap64 (by omega) (by omega)
  simp only [List.map_cons, List.flatten_cons, List.length_append] at hlen
  have hw : WalkB p mf mc to k fn (IntKind.i64.wrap (sz + addsN x j)) l (l ++ wB p mf mc to f k) := by
   rw [ew]
   exact ih k (sz + addsN x j) l (by omega) (by omega) (by omega) (by omega) (by omega)
  have hstep := wkB_0_0 p mf mc to l0 a fn sz x.kids ((List.length x.kids : Nat) : Int) l j k x _ (wB p mf mc to f k) sd sd sd ha hx (bAdds_pure hf (by omega) (by omega) hk10)
   (spec_gen2 (m := 15) (ks := [0, 1, 2, 3, 4, 5, 6, 7, 8, 9, 10, 11, 12, 16, 14]) hw (by rfl) (by rfl) (by kernel_rfl) (by rfl) (by rfl) (by kernel_rfl) (by kernel_rfl)
    ⟨mo_kl mf, mo_kl mc, keylessL_map _ (fun _ => rfl) _, keylessL_map _ (fun _ => rfl) _, trivial⟩ (by kernel_rfl) ⟨mo_kl mf, mo_kl mc, keylessL_map _ (fun _ => rfl) _, keylessL_map _ (fun _ => rfl) _, trivial⟩
    (by kernel_rfl) (by kernel_rfl) (by kernel_rfl) (by kernel_rfl) (by kernel_rfl) (by kernel_rfl) (by kernel_rfl)) sd
  have h2 := wkB_loop hp l0 ha hx hs0 hs hto ih t (j + 1) (l ++ wB p mf mc to f k) g2 (by rw [List.length_append]; omega)
  rw [List.map_cons, List.flatten_cons, ← List.append_assoc]
  exact hstep.ends h2
theorem wkB_walk (hp : FineP p) (hok : ∀ (i : Nat) (x : Node), p.nodes[i]? = some x → nOk mf x) (hto : to.length = p.nodes.length) (fn : Int) : ∀ (f : Nat) (a sz : Int) (l : List Node), 0 ≤ a → a < p.nodes.length → p.nodes.length - a.toNat ≤ f → 0 ≤ sz → sz ≤ 1000 * (a + 1) → l.length + (wB p mf mc to f a).length ≤ 1000000 → WalkB p mf mc to a fn sz l (l ++ wB p mf mc to f a)
 | 0, a, sz, l, ha, hn, hf, _, _, _ => by omega
 | f + 1, a, sz, l, ha, hn, hf, h0, h1, hb => by
  obtain ⟨x, hx⟩ : ∃ x, p.nodes[a.toNat]? = some x := ⟨_, List.getElem?_eq_getElem (by omega)⟩
  obtain ⟨hfx, hk10, hks⟩ := hp.node _ _ hx
  obtain ⟨hps, hnn⟩ := hok _ _ hx
  have e : wB p mf mc to (f + 1) a = bNode mf mc to x :: (x.kids.map (wB p mf mc to f)).flatten := by rw [wB, hx]
  rw [e] at hb ⊢
  simp only [List.length_cons] at hb
  have hC := wkB_loop (mf := mf) (mc := mc) (to := to) (fn := fn) hp (f := f) l ha hx h0 h1 hto (fun k tz l hk hkn ht0 ht hl => wkB_walk hp hok hto fn f k tz l (by omega) hkn (by omega) ht0 ht hl) x.kids 0 (l ++ [bNode mf mc to x]) rfl (by simp only [List.length_append, List.length_cons, List.length_nil]; omega)
  rw [List.append_assoc, List.singleton_append] at hC
  have hI := mapI_spec x.kids to p.nodes.length (by omega) hto (fun k hk => by have := hks k hk; omega)
  have hM := mapC_spec mf mc x.pats hps
  have hlen : ∀ y : Node, List.length (l ++ [y]) ≤ 1000000 := fun y => by rw [List.length_append]; simp only [List.length_cons, List.length_nil]; omega
  refine wkB_start ?_
  by_cases h4 : x.op = 4
  · by_cases hN : 0 ≤ x.n
    · have eN : bNode mf mc to x = ⟨x.op, x.n, x.kids.map (toAt to), cPats mc x.pats⟩ := by unfold bNode bN; rw [if_pos h4, if_pos hN]
      rw [eN] at hC ⊢
      exact (wkB_E_0 p mf mc to l a fn sz x _ _ ha hx (by simp [h4]) (by simp; omega) (spec_in (ks := [5, 12]) hI (by kernel_rfl) rfl (by kernel_rfl) (by kernel_rfl) ⟨keylessL_map _ (fun _ => rfl) _, trivial⟩ (by kernel_rfl) ⟨keylessL_map _ (fun _ => rfl) _, trivial⟩ (by kernel_rfl) (by kernel_rfl) (by kernel_rfl) (by kernel_rfl) (by kernel_rfl) (by kernel_rfl) (by kernel_rfl) (by kernel_rfl)) (spec_in (ks := [0, 1, 14]) hM (by kernel_rfl) rfl (by kernel_rfl) (by kernel_rfl) ⟨mo_kl mf, mo_kl mc, trivial⟩ (by kernel_rfl) ⟨mo_kl mf, mo_kl mc, trivial⟩ (by kernel_rfl) (by kernel_rfl) (by kernel_rfl) (by kernel_rfl) (by kernel_rfl) (by kernel_rfl) (by kernel_rfl) (by kernel_rfl)) (hlen _)).ends hC
    · obtain ⟨r1, r2, r3⟩ := hnn h4 (by omega)
      cases hm : mGet (-1 - x.n) mf with
      | some y =>
       have em : mAt mf (-1 - x.n) = y := by unfold mAt; rw [hm]; rfl
       have eN : bNode mf mc to x = ⟨x.op, -1 - y, x.kids.map (toAt to), cPats mc x.pats⟩ := by unfold bNode bN; rw [if_pos h4, if_neg hN, em]
       rw [em] at r2 r3
       rw [eN] at hC ⊢
       exact (wkB_E_1 p mf mc to l a fn sz x y _ _ ha hx (by simp [h4]) (by simp; omega) sd hm sd (spec_in (ks := [5, 12]) hI (by kernel_rfl) rfl (by kernel_rfl) (by kernel_rfl) ⟨keylessL_map _ (fun _ => rfl) _, trivial⟩ (by kernel_rfl) ⟨keylessL_map _ (fun _ => rfl) _, trivial⟩ (by kernel_rfl) (by kernel_rfl) (by kernel_rfl) (by kernel_rfl) (by kernel_rfl) (by kernel_rfl) (by kernel_rfl) (by kernel_rfl)) (spec_in (ks := [0, 1, 14]) hM (by kernel_rfl) rfl (by kernel_rfl) (by kernel_rfl) ⟨mo_kl mf, mo_kl mc, trivial⟩ (by kernel_rfl) ⟨mo_kl mf, mo_kl mc, trivial⟩ (by kernel_rfl) (by kernel_rfl) (by kernel_rfl) (by kernel_rfl) (by kernel_rfl) (by kernel_rfl) (by kernel_rfl) (by kernel_rfl)) (hlen _)).ends hC
      | none =>
       have em : mAt mf (-1 - x.n) = 0 := by unfold mAt; rw [hm]; rfl
       have eN : bNode mf mc to x = ⟨x.op, -1, x.kids.map (toAt to), cPats mc x.pats⟩ := by unfold bNode bN; rw [if_pos h4, if_neg hN, em]; rfl
       rw [eN] at hC ⊢
       exact (wkB_E_2 p mf mc to l a fn sz x _ _ ha hx (by simp [h4]) (by simp; omega) sd hm (spec_in (ks := [5, 12]) hI (by kernel_rfl) rfl (by kernel_rfl) (by kernel_rfl) ⟨keylessL_map _ (fun _ => rfl) _, trivial⟩ (by kernel_rfl) ⟨keylessL_map _ (fun _ => rfl) _, trivial⟩ (by kernel_rfl) (by kernel_rfl) (by kernel_rfl) (by kernel_rfl) (by kernel_rfl) (by kernel_rfl) (by kernel_rfl) (by kernel_rfl)) (spec_in (ks := [0, 1, 14]) hM (by kernel_rfl) rfl (by kernel_rfl) (by kernel_rfl) ⟨mo_kl mf, mo_kl mc, trivial⟩ (by kernel_rfl) ⟨mo_kl mf, mo_kl mc, trivial⟩ (by kernel_rfl) (by kernel_rfl) (by kernel_rfl) (by kernel_rfl) (by kernel_rfl) (by kernel_rfl) (by kernel_rfl) (by kernel_rfl)) (hlen _)).ends hC
  · by_cases h14 : x.op = 14
    · cases hm : mGet x.n mc with
      | some y =>
       have eN : bNode mf mc to x = ⟨x.op, y, x.kids.map (toAt to), cPats mc x.pats⟩ := by unfold bNode bN; rw [if_neg h4, if_pos h14]; unfold mAt; rw [hm]; rfl
       rw [eN] at hC ⊢
       exact (wkB_E_3 p mf mc to l a fn sz x y _ _ ha hx (by simp [h4]) (by simp [h14]) hm (spec_in (ks := [5, 12]) hI (by kernel_rfl) rfl (by kernel_rfl) (by kernel_rfl) ⟨keylessL_map _ (fun _ => rfl) _, trivial⟩ (by kernel_rfl) ⟨keylessL_map _ (fun _ => rfl) _, trivial⟩ (by kernel_rfl) (by kernel_rfl) (by kernel_rfl) (by kernel_rfl) (by kernel_rfl) (by kernel_rfl) (by kernel_rfl) (by kernel_rfl)) (spec_in (ks := [0, 1, 14]) hM (by kernel_rfl) rfl (by kernel_rfl) (by kernel_rfl) ⟨mo_kl mf, mo_kl mc, trivial⟩ (by kernel_rfl) ⟨mo_kl mf, mo_kl mc, trivial⟩ (by kernel_rfl) (by kernel_rfl) (by kernel_rfl) (by kernel_rfl) (by kernel_rfl) (by kernel_rfl) (by kernel_rfl) (by kernel_rfl)) (hlen _)).ends hC
      | none =>
       have eN : bNode mf mc to x = ⟨x.op, 0, x.kids.map (toAt to), cPats mc x.pats⟩ := by unfold bNode bN; rw [if_neg h4, if_pos h14]; unfold mAt; rw [hm]; rfl
       rw [eN] at hC ⊢
       exact (wkB_E_4 p mf mc to l a fn sz x _ _ ha hx (by simp [h4]) (by simp [h14]) hm (spec_in (ks := [5, 12]) hI (by kernel_rfl) rfl (by kernel_rfl) (by kernel_rfl) ⟨keylessL_map _ (fun _ => rfl) _, trivial⟩ (by kernel_rfl) ⟨keylessL_map _ (fun _ => rfl) _, trivial⟩ (by kernel_rfl) (by kernel_rfl) (by kernel_rfl) (by kernel_rfl) (by kernel_rfl) (by kernel_rfl) (by kernel_rfl) (by kernel_rfl)) (spec_in (ks := [0, 1, 14]) hM (by kernel_rfl) rfl (by kernel_rfl) (by kernel_rfl) ⟨mo_kl mf, mo_kl mc, trivial⟩ (by kernel_rfl) ⟨mo_kl mf, mo_kl mc, trivial⟩ (by kernel_rfl) (by kernel_rfl) (by kernel_rfl) (by kernel_rfl) (by kernel_rfl) (by kernel_rfl) (by kernel_rfl) (by kernel_rfl)) (hlen _)).ends hC
    · have eN : bNode mf mc to x = ⟨x.op, x.n, x.kids.map (toAt to), cPats mc x.pats⟩ := by unfold bNode bN; rw [if_neg h4, if_neg h14]
      rw [eN] at hC ⊢
      exact (wkB_E_5 p mf mc to l a fn sz x _ _ ha hx (by simp [h4]) (by simp [h14]) (spec_in (ks := [5, 12]) hI (by kernel_rfl) rfl (by kernel_rfl) (by kernel_rfl) ⟨keylessL_map _ (fun _ => rfl) _, trivial⟩ (by kernel_rfl) ⟨keylessL_map _ (fun _ => rfl) _, trivial⟩ (by kernel_rfl) (by kernel_rfl) (by kernel_rfl) (by kernel_rfl) (by kernel_rfl) (by kernel_rfl) (by kernel_rfl) (by kernel_rfl)) (spec_in (ks := [0, 1, 14]) hM (by kernel_rfl) rfl (by kernel_rfl) (by kernel_rfl) ⟨mo_kl mf, mo_kl mc, trivial⟩ (by kernel_rfl) ⟨mo_kl mf, mo_kl mc, trivial⟩ (by kernel_rfl) (by kernel_rfl) (by kernel_rfl) (by kernel_rfl) (by kernel_rfl) (by kernel_rfl) (by kernel_rfl) (by kernel_rfl)) (hlen _)).ends hC
end
end
end Go.Hb
namespace Go.Hb
open Go.Proofs
set_option maxHeartbeats 2000000
noncomputable section
def toOf (p : Prog) (frm : Int) (f : Nat) : Option (List Int × Int) := wAs (wA p f) p.funs (List.replicate p.nodes.length (0 : Int), frm)
def nodesB (p : Prog) (mf mc : List (Int × Int)) (to : List Int) (f : Nat) : List Node := (p.funs.map (wB p mf mc to f)).flatten
section
variable {p : Prog} {mf mc : List (Int × Int)}
abbrev OrdRes (p : Prog) (mf mc : List (Int × Int)) (to : List Int) (f : Nat) : AV := .tup [.ilst 4 (List.map Node.av (nodesB p mf mc to f)) false, .ilst 1 (List.map avI (p.funs.map (toAt to))) false]
theorem orr_3 (hp : FineP p) (frm : Int) (to : List Int) (l : List Node) (hto : to.length = p.nodes.length) : ∀ (t : List Int) (i : Nat) (acc : List Int), p.funs.drop i = t → acc.length = i → i ≤ p.funs.length →
  LeadsM PP 2 (orr_c2 p mf mc frm to l (i : Int) acc).as (orr_c2 p mf mc frm to l ((p.funs.length : Nat) : Int) (acc ++ t.map (toAt to))).as
 | [], i, acc, h, ha, hi => by
  have := dropN h
  obtain rfl : i = p.funs.length := by omega
  rw [List.map_nil, List.append_nil]
  exact LeadsM.refl _
 | k :: t, i, acc, h, ha, hi => by
  obtain ⟨g1, g2, g3⟩ := dropC h
  have hfs := hp.fsmall
  obtain ⟨k0, k1⟩ := hp.funs k (List.mem_of_getElem? g1)
  have hg : to[k.toNat]? = some (toAt to k) := by
   unfold toAt
   rw [List.getD_eq_getElem?_getD, List.getElem?_eq_getElem (by omega)]; rfl
  have h0 := orr_2_0 p mf mc frm to l i acc k _ sd sd sd k0 k1 hg (by simp; omega) sd
  have h1 := orr_3 hp frm to l hto t (i + 1) (acc ++ [toAt to k]) g2 (by simp [ha]) (by omega)
  rw [List.map_cons, show acc ++ toAt to k :: List.map (toAt to) t = (acc ++ [toAt to k]) ++ List.map (toAt to) t by simp]
  exact h0.trans h1
theorem orr_2 (hp : FineP p) (hok : ∀ (i : Nat) (x : Node), p.nodes[i]? = some x → nOk mf x) (frm : Int) (to : List Int) (f : Nat) (hf : p.nodes.length ≤ f) (hto : to.length = p.nodes.length) : ∀ (t : List Int) (i : Nat) (l : List Node), p.funs.drop i = t → l.length + ((t.map (wB p mf mc to f)).flatten).length ≤ 1000000 →
  LeadsM PP 2 (orr_c1 p mf mc frm to (i : Int) l).as (orr_c2 p mf mc frm to (l ++ (t.map (wB p mf mc to f)).flatten) ((p.funs.length : Nat) : Int) (p.funs.map (toAt to))).as
 | [], i, l, h, hb => by
  have := dropN h
  rw [List.map_nil, List.flatten_nil, List.append_nil]
  exact (orr_1_1 p mf mc frm to i l sd).trans (orr_3 hp frm to l hto p.funs 0 [] rfl rfl (Nat.zero_le _))
 | k :: t, i, l, h, hb => by
  obtain ⟨g1, g2, g3⟩ := dropC h
  have hfs := hp.fsmall
  obtain ⟨k0, k1⟩ := hp.funs k (List.mem_of_getElem? g1)
  simp only [List.map_cons, List.flatten_cons, List.length_append] at hb
  have hw := wkB_walk (mf := mf) (mc := mc) (to := to) hp hok hto (i : Int) f k 1 l k0 k1 (by omega) (by omega) (by omega) (by omega)
  have h0 := orr_1_0 p mf mc frm to i l k (wB p mf mc to f k) sd sd sd hw sd
  have h1 := orr_2 hp hok frm to f hf hto t (i + 1) (l ++ wB p mf mc to f k) g2 (by rw [List.length_append]; omega)
  rw [List.map_cons, List.flatten_cons, ← List.append_assoc]
  exact h0.trans h1
theorem orr_1 (hp : FineP p) (hok : ∀ (i : Nat) (x : Node), p.nodes[i]? = some x → nOk mf x) (frm : Int) (f : Nat) (hf : p.nodes.length ≤ f) (to : List Int) (n : Int) (hb : (nodesB p mf mc to f).length ≤ 1000000) : ∀ (t : List Int) (i : Nat) (s : List Int × Int), s.1.length = p.nodes.length → p.funs.drop i = t → wAs (wA p f) t s = some (to, n) →
  LeadsM PP 2 (orr_c0 p mf mc frm (i : Int) s.1 s.2).as (orr_c2 p mf mc frm to (nodesB p mf mc to f) ((p.funs.length : Nat) : Int) (p.funs.map (toAt to))).as
 | [], i, s, hl, h, hw => by
  have := dropN h
  cases hw
  have h1 := orr_2 (mf := mf) (mc := mc) hp hok frm to f hf hl p.funs 0 [] rfl (by simpa [nodesB] using hb)
  rw [List.nil_append] at h1
  exact (orr_0_1 p mf mc frm i to n sd).trans h1
 | k :: t, i, s, hl, h, hw => by
  obtain ⟨g1, g2, g3⟩ := dropC h
  have hfs := hp.fsmall
  obtain ⟨k0, k1⟩ := hp.funs k (List.mem_of_getElem? g1)
  simp only [wAs] at hw
  split at hw
  · rename_i s1 h1
    have hwk := wkA_walk (mf := mf) (mc := mc) hp (i : Int) f k 1 s s1 k0 k1 hl (by omega) (by omega) h1
    have h0 := orr_0_0 p mf mc frm i s.1 s.2 k s1.1 s1.2 sd sd sd hwk sd
    exact h0.trans (orr_1 hp hok frm f hf to n hb t (i + 1) s1 (by rw [wA_len p f k s s1 h1, hl]) g2 hw)
  · cases hw
theorem ordered_leads (hp : FineP p) (hok : ∀ (i : Nat) (x : Node), p.nodes[i]? = some x → nOk mf x) (frm : Int) (f : Nat) (hf : p.nodes.length ≤ f) (to : List Int) (n : Int) (hb : (nodesB p mf mc to f).length ≤ 1000000) (hw : toOf p frm f = some (to, n)) :
  LeadsM PP 2 (orr_s p mf mc frm).as (orr_c2 p mf mc frm to (nodesB p mf mc to f) ((p.funs.length : Nat) : Int) (p.funs.map (toAt to))).as :=
 have hs := hp.small
 (orr_E_0 p mf mc frm (by omega)).trans (orr_1 hp hok frm f hf to n hb p.funs 0 (List.replicate p.nodes.length (0 : Int), frm) (by simp) rfl hw)
theorem ordered_spec (hp : FineP p) (hok : ∀ (i : Nat) (x : Node), p.nodes[i]? = some x → nOk mf x) (frm : Int) (f : Nat) (hf : p.nodes.length ≤ f) (to : List Int) (n : Int) (hb : (nodesB p mf mc to f).length ≤ 1000000) (hw : toOf p frm f = some (to, n)) :
  Spec PP (.enter 34 [.agg [(.ilst 4 (List.map Node.av p.nodes) false), (.ilst 1 (List.map avI p.funs) false), (.int .i64 p.main), (.ilst 2 (List.map Con.av p.cons) false)], .int .i64 frm, .func 35 [] [], .agg [.map 0, .map 1]]) (hpOf [(0, MO mf, true), (1, MO mc, true)] 2) (.ret (OrdRes p mf mc to f)) (hpOf [(0, MO mf, true), (1, MO mc, true)] 2) :=
 ⟨(orr_s p mf mc frm).as.fr, by kernel_rfl, Eq.mp (by kernel_rfl) ((ordered_leads hp hok frm f hf to n hb hw).ends (orr_2_1 p mf mc frm to _ _ _ (by simp)))⟩
end
end
end Go.Hb
namespace Go.Hb
open Go.Proofs
noncomputable section
inductive KV where
 | row (l : List Int)
 | nil
 | val (u : Value)
def KV.av : KV → AV
 | .row l => .ilst 1 (List.map avI l) false
 | .nil => .nils
 | .val u => .val u
structure ONode where
 op : Int
 n : Int
 kv : KV
 pats : List Pat
def ONode.av (x : ONode) : AV := .agg [.int .i64 x.op, .int .i64 x.n, x.kv.av, .ilst 4 (Pats.av x.pats) false]
def Node.o (x : Node) : ONode := ⟨x.op, x.n, .row x.kids, x.pats⟩
end
end Go.Hb
namespace Go.Hb
open Go.Proofs
end Go.Hb
namespace Go.Hb
open Go.Proofs
end Go.Hb
namespace Go.Hb
open Go.Proofs
def mPatN (cons : List Int) (f n : Int) : Option Int := if f = 6 then (if 0 ≤ n then cons[n.toNat]? else none) else some n
mutual
def mPat (cons : List Int) : Pat → Option Pat
 | .mk f n t ps => match mPatN cons f n with
  | some n' => match mPats cons ps with
   | some ps' => some (.mk f n' t ps')
   | none => none
  | none => none
def mPats (cons : List Int) : List Pat → Option (List Pat)
 | [] => some []
 | p :: ps => match mPat cons p with
  | some p' => match mPats cons ps with
   | some ps' => some (p' :: ps')
   | none => none
  | none => none
end
end Go.Hb
namespace Go.Hb
open Go.Proofs
noncomputable section
def mN (funs cons : List Int) (op n : Int) : Option Int :=
 if op = 4 ∧ n < 0 then
  match funs[(-1 - n).toNat]? with
  | some g => if -1000000000 ≤ n ∧ -1000000000 ≤ g ∧ g ≤ 1000000000 then some (-1 - g) else none
  | none => none
 else if op = 14 then (if 0 ≤ n then cons[n.toNat]? else none) else some n
def mKids (f : Nat → Int → Option (List Node)) : Nat → List Int → Option (List Int × List Node)
 | _, [] => some ([], [])
 | len, c :: cs => match f len c with
  | some ns => match mKids f (len + ns.length) cs with
   | some (ks, r) => some ((len : Int) :: ks, ns ++ r)
   | none => none
  | none => none
def mNodes (p : Prog) (funs cons : List Int) : Nat → Nat → Int → Option (List Node)
 | 0, _, _ => none
 | k+1, len, at0 => if 0 ≤ at0 ∧ len < 1000000 then
   match p.nodes[at0.toNat]? with
   | some y => if y.kids.length < 1000000 ∧ psizes y.pats < 1000000 then
     match mN funs cons y.op y.n with
     | some n' => match mPats cons y.pats with
      | some ps' => match mKids (mNodes p funs cons k) (len + 1) y.kids with
       | some (ks, r) => some (⟨y.op, n', ks, ps'⟩ :: r)
       | none => none
      | none => none
     | none => none
    else none
   | none => none
  else none
abbrev PA (p : Prog) : AV := .agg [(.ilst 4 (List.map Node.av p.nodes) false), (.ilst 1 (List.map avI p.funs) false), (.int .i64 p.main), (.ilst 2 (List.map Con.av p.cons) false)]
abbrev PCell (p : Prog) : AObj := .cells (putCells .leaf 0 [(.ilst 4 (List.map Node.av p.nodes) false), (.ilst 1 (List.map avI p.funs) false), (.int .i64 p.main), (.ilst 2 (List.map Con.av p.cons) false)]) 4 [] false
abbrev OL (L : List ONode) : AObj := .lst 4 (List.map ONode.av L)
abbrev EndsL (s : TS) (L : List ONode) : Prop := Ends PP 0 s.as (.ret (.gl 0 4 0 (List.length L) false)) (hpOf [(0, OL L, true)] 1)
def MovSpec (p : Prog) (funs cons : List Int) (c : Int) (L : List ONode) (ns : List Node) : Prop :=
 SpecN PP (.enter 92 [.gl 0 4 0 (List.length L) false, PA p, .int .i64 c, .ilst 1 (List.map avI funs) false, .ilst 1 (List.map avI cons) false]) (hpOf [(0, OL L, true)] 1)
  (.ret (.gl 0 4 0 (List.length (L ++ List.map Node.o ns)) false)) (hpOf [(0, OL (L ++ List.map Node.o ns), true)] 1)
end
end Go.Hb
namespace Go.Hb
open Go.Proofs
noncomputable section
theorem EndsL.of {s : TS} {L L' : List ONode} (h : EndsL s L) (e : L = L') : EndsL s L' := e ▸ h
section
variable (p : Prog) (funs cons : List Int) (k : Nat) (ih : ∀ (L : List ONode) (c : Int) (ns : List Node), mNodes p funs cons k L.length c = some ns → MovSpec p funs cons c L ns)
 (l : List ONode) (at0 op n' : Int) (ps' : List Pat) (kids : List Int) (hkids : kids.length < 1000000)
include ih hkids
end
end
end Go.Hb
namespace Go.Hb
open Go.Proofs
end Go.Hb
namespace Go.Hb
open Go.Proofs
noncomputable section
def numsL (a : Int) : Nat → List Int
 | 0 => []
 | n+1 => numsL a n ++ [a + (n : Int)]
theorem numsL_len (a : Int) : ∀ n, (numsL a n).length = n
 | 0 => rfl
 | n+1 => by simp [numsL, numsL_len a n]
theorem numsL_get (a : Int) : ∀ {n i : Nat}, i < n → (numsL a n)[i]? = some (a + (i : Int))
 | n+1, i, h => by
  rw [numsL]
  by_cases hi : i < n
  · rw [List.getElem?_append_left (by rw [numsL_len]; exact hi), numsL_get a hi]
  · have : i = n := by omega
    subst this
    rw [List.getElem?_append_right (by rw [numsL_len]; omega), numsL_len]
    simp
theorem pure_atH {f : Nat} {args : List AV} {v : AV} {s : TS} (e : (start PP f args).as = s.as) (hb : hasBody PP f = true) (hk : AV.keylessL args = true) (hv : AV.keyless v = true) (he : Ends PP 0 s.as (.ret v) (hpOf [] 0)) : Pure PP f args v :=
 pure_at hb hk hv (by rw [e]; exact he)
end
end Go.Hb
namespace Go.Hb
open Go.Proofs
noncomputable abbrev hoh130 (p : Prog) : Nat × AObj × Bool := (0, (.cells (putCells .leaf 0 [(iN p.nodes), (iI p.funs), (nI p.main), (iC p.cons)]) 4 [] false), false)
noncomputable abbrev hoh131  : Nat × AObj × Bool := (1, (.cells (putCells .leaf 0 [.nils, .nils, (nI 0), .nils]) 4 [] false), false)
noncomputable abbrev hoh132 (zf0 : List (Int × Int)) : Nat × AObj × Bool := (2, (.map (mEnts avI avI 0 zf0) zf0.length), true)
noncomputable abbrev hoh133 (zc1 : List (Int × Int)) : Nat × AObj × Bool := (3, (.map (mEnts avI avI 0 zc1) zc1.length), true)
noncomputable def smB_s (a b : Int) : TS := startH PP 36 [(nI a), (nI b)] [] 0
noncomputable def smB_c0 (a b t12 : Int) (m2 : List (Int × Int)) : TS :=
 { fr := { fn := 36, nt := 30, sl := [(1, (nI b)), (4, (.ptr 0 0)), (5, (.ptr 1 0)), (11, (nI a)), (12, (nI t12))], todo := [.code (cd Tryz.f36 [1, 1, 0, 1, 0, 0]), .inLoop (cd Tryz.f36 [1, 1, 0, 1, 0, 0]), .inBlock 0, .code (cd Tryz.f36 [1, 1, 1])] }, cs := [], hp := [(0, (.cells (putCells .leaf 0 [.nilm, .nilm]) 2 [] false), false), (1, (.cells (putCells .leaf 0 [(.map 2), (.map 3)]) 2 [] false), false), (2, (.map (mEnts avI avI 0 m2) m2.length), true), (3, (.map (mEnts avI avI 0 ([] : List (Int × Int))) ([] : List (Int × Int)).length), true)], nb := 4 }
noncomputable def smB_c1 (a b : Int) (m2 : List (Int × Int)) (t21 : Int) (m3 : List (Int × Int)) : TS :=
 { fr := { fn := 36, nt := 30, sl := [(4, (.ptr 0 0)), (5, (.ptr 1 0)), (20, (nI b)), (21, (nI t21))], todo := [.code (cd Tryz.f36 [1, 1, 1, 0, 1, 0, 0]), .inLoop (cd Tryz.f36 [1, 1, 1, 0, 1, 0, 0]), .inBlock 2, .code (cd Tryz.f36 [1, 1, 1, 1])] }, cs := [], hp := [(0, (.cells (putCells .leaf 0 [.nilm, .nilm]) 2 [] false), false), (1, (.cells (putCells .leaf 0 [(.map 2), (.map 3)]) 2 [] false), false), (2, (.map (mEnts avI avI 0 m2) m2.length), true), (3, (.map (mEnts avI avI 0 m3) m3.length), true)], nb := 4 }
theorem smB_E_0 (a b : Int) :
  LeadsM PP 0 (smB_s a b).as (smB_c0 a b 0 ([] : List (Int × Int))).as :=
 wW 4 [0, 3, 1, 2] [qp (p := ([] : List (AV × AV × Nat)) = (mEnts avI avI 0 ([] : List (Int × Int)))) rfl, qp (p := 0 = List.length ([] : List (Int × Int))) rfl, qp (p := ([] : List (AV × AV × Nat)) = (mEnts avI avI 0 ([] : List (Int × Int)))) rfl, qp (p := 0 = List.length ([] : List (Int × Int))) rfl] [rn 7, .mset 1 (mEnts avI avI 0 ([] : List (Int × Int))) ([] : List (Int × Int)).length, rn 1, .mset 2 (mEnts avI avI 0 ([] : List (Int × Int))) ([] : List (Int × Int)).length, rn 12] ⟨kl_map (fun _ => rfl) (fun _ => rfl) _ _ _, ⟨kl_map (fun _ => rfl) (fun _ => rfl) _ _ _, trivial⟩⟩
theorem smB_0_0 (a b t12 : Int) (m2 : List (Int × Int)) (h0 : decide (t12 < a) = true) (h1 : (IntKind.i64.wrap (t12 + (1 : Int))) = (t12 + (1 : Int))) :
  LeadsM PP 0 (smB_c0 a b t12 m2).as (smB_c0 a b (t12 + (1 : Int)) (mIns t12 t12 m2)).as :=
 wW 4 [0, 1, 2, 3] [qp h0, qp (p := mapPut (mEnts avI avI 0 m2) m2.length (avI t12) (avI t12) = some ((mEnts avI avI 0 (mIns t12 t12 m2)), List.length (mIns t12 t12 m2))) (map_put key_avI _ _ _), qp (congrArg (AV.int .i64) h1)] [rn 5, bt 13, rn 14, .mput (mEnts avI avI 0 (mIns t12 t12 m2)) (mIns t12 t12 m2).length, rn 4, sI 19 (t12 + (1 : Int)), rn 3] ⟨kl_map (fun _ => rfl) (fun _ => rfl) _ _ _, ⟨kl_map (fun _ => rfl) (fun _ => rfl) _ _ _, trivial⟩⟩
theorem smB_0_1 (a b t12 : Int) (m2 : List (Int × Int)) (h0 : decide (t12 < a) = false) :
  LeadsM PP 0 (smB_c0 a b t12 m2).as (smB_c1 a b m2 0 ([] : List (Int × Int))).as :=
 wW 4 [0, 1, 2, 3] [qp h0] [rn 5, bf 13, rn 10] ⟨kl_map (fun _ => rfl) (fun _ => rfl) _ _ _, ⟨kl_map (fun _ => rfl) (fun _ => rfl) _ _ _, trivial⟩⟩
theorem smB_1_0 (a b : Int) (m2 : List (Int × Int)) (t21 : Int) (m3 : List (Int × Int)) (h0 : decide (t21 < b) = true) (h1 : (IntKind.i64.wrap (t21 + (1 : Int))) = (t21 + (1 : Int))) :
  LeadsM PP 0 (smB_c1 a b m2 t21 m3).as (smB_c1 a b m2 (t21 + (1 : Int)) (mIns t21 t21 m3)).as :=
 wW 4 [0, 1, 2, 3] [qp h0, qp (p := mapPut (mEnts avI avI 0 m3) m3.length (avI t21) (avI t21) = some ((mEnts avI avI 0 (mIns t21 t21 m3)), List.length (mIns t21 t21 m3))) (map_put key_avI _ _ _), qp (congrArg (AV.int .i64) h1)] [rn 5, bt 22, rn 14, .mput (mEnts avI avI 0 (mIns t21 t21 m3)) (mIns t21 t21 m3).length, rn 4, sI 28 (t21 + (1 : Int)), rn 3] ⟨kl_map (fun _ => rfl) (fun _ => rfl) _ _ _, ⟨kl_map (fun _ => rfl) (fun _ => rfl) _ _ _, trivial⟩⟩
theorem smB_1_1 (a b : Int) (m2 : List (Int × Int)) (t21 : Int) (m3 : List (Int × Int)) (h0 : decide (t21 < b) = false) :
  Ends PP 0 (smB_c1 a b m2 t21 m3).as (.ret (.agg [(.map 0), (.map 1)])) (hpOf [(0, (.map (mEnts avI avI 0 m2) m2.length), true), (1, (.map (mEnts avI avI 0 m3) m3.length), true)] 2) :=
 wE 4 [2, 3] [qp h0] [rn 5, bf 22, rn 8] ⟨kl_map (fun _ => rfl) (fun _ => rfl) _ _ _, ⟨kl_map (fun _ => rfl) (fun _ => rfl) _ _ _, trivial⟩⟩
noncomputable def cln_s (xs : List Con) : TS := startH PP 37 [(iC xs)] [] 0
noncomputable def cln_c (xs : List Con) : TS :=
 { fr := { fn := 37, nt := 8, sl := [(0, (iC xs)), (2, .nils), (3, (iC xs))], todo := [opsAt Tryz.f37 [1, 0, 0] 1, .code (cd Tryz.f37 [1, 0, 1]), .code (cd Tryz.f37 [1, 1])] }, cs := [], hp := [], nb := 0 }
theorem cln_E (xs : List Con) :
  LeadsM PP 0 (cln_s xs).as (cln_c xs).as :=
 wW 0 [] [] [rn 8] trivial
noncomputable def cln_cn (xs : List Con) : TS :=
 { fr := { fn := 37, nt := 8, sl := [(0, (iC xs)), (2, .nils), (3, .nils)], todo := [opsAt Tryz.f37 [1, 0, 0] 1, .code (cd Tryz.f37 [1, 0, 1]), .code (cd Tryz.f37 [1, 1])] }, cs := [], hp := [], nb := 0 }
theorem cln_n (xs : List Con) :
  Ends PP 0 (cln_cn xs).as (.ret (.ilst 2 (jC ([] : List Con)) true)) (hpOf [] 0) :=
 wE 0 [] [] [rn 8, .nilI 2 2] trivial
noncomputable def cln_cv (xs : List Con) (a : Addr) (n c : Nat) : TS :=
 { fr := { fn := 37, nt := 8, sl := [(0, (iC xs)), (2, .nils), (3, (.val (Value.slice (some a) n c)))], todo := [opsAt Tryz.f37 [1, 0, 0] 1, .code (cd Tryz.f37 [1, 0, 1]), .code (cd Tryz.f37 [1, 1])] }, cs := [], hp := [], nb := 0 }
theorem cln_v (xs : List Con) (a : Addr) (n c : Nat) (h0 : List.length (([] : List Con) ++ xs) ≤ 1000000) :
  Ends PP 0 (cln_cv xs a n c).as (.ret (iC (([] : List Con) ++ xs))) (hpOf [] 0) :=
 wE 2 [] [qp (p := getCells (putCells .leaf 0 []) 0 (0 * 2) = some []) rfl, qp (p := allOne [] = true) rfl, qp (p := [] = (jC ([] : List Con))) rfl, qp (p := (AV.gl 0 2 0 0 true) = (.gl 0 2 0 ([] : List Con).length true)) rfl, qp (app_p1 Con.av ([] : List Con)), qp h0, qp (app_p3 Con.av ([] : List Con) xs), qp (app_p4 Con.av ([] : List Con) xs), qp (p := AV.keylessL (jC (([] : List Con) ++ xs)) = true) (keylessL_map _ (fun _ => rfl) _), qp (p := AV.frzOk 1 2 (jC (([] : List Con) ++ xs)) (jC (([] : List Con) ++ xs)) (.gl 1 2 0 (([] : List Con) ++ xs).length false)) (frz_whole _ _)] [rn 8, .toL 5 true [], .lset 0 (jC ([] : List Con)), .set 5 (.gl 0 2 0 ([] : List Con).length true), .app (jC (([] : List Con) ++ xs)) (([] : List Con) ++ xs).length, rn 3, .frz 2 1 (jC (([] : List Con) ++ xs))] trivial
noncomputable def bCan_s (p : Prog) : TS := startH PP 9 [(Prog.av p)] [] 0
noncomputable def bCan_c0 (p : Prog)  : TS :=
 { fr := { fn := 9, nt := 34, sl := [(1, (.ptr 0 0)), (2, (.ptr 1 0)), (3, (nI 0))], todo := [.code (cd Tryz.f9 [1, 1, 0]), .code (cd Tryz.f9 [1, 1, 1])] }, cs := [], hp := [hoh130 p, hoh131], nb := 2 }
theorem bCan_E_1 (p : Prog) (y0 : Int) (h0 : Pure PP 10 [(Prog.av p)] (nI y0)) (h1 : (y0 != (0 : Int)) = false) :
  LeadsM PP 0 (bCan_s p).as (bCan_c0 p ).as :=
 wW 2 [0, 1] [qp h0, qp h1] [rn 10, .pure (nI y0), rn 7, bf 10, rn 3] trivial
theorem bCan_0_0 (p : Prog) (zf0 zc1 : List (Int × Int)) (zn2 : List Node) (zu3 : List Int) (y4 : List Con) (h0 : Spec PP (.enter 36 [(nI (p.funs.length : Int)), (nI (p.cons.length : Int))]) (hpOf [hoh130 p, hoh131] 2) (.ret (.agg [(.map 2), (.map 3)])) (hpOf [hoh130 p, hoh131, hoh132 zf0, hoh133 zc1] 4)) (h1 : Spec PP (.enter 34 [(Prog.av p), (nI 0), (.func 35 [] []), (.agg [(.map 2), (.map 3)])]) (hpOf [hoh130 p, hoh131, hoh132 zf0, hoh133 zc1] 4) (.ret (.tup [(iN zn2), (iI zu3)])) (hpOf [hoh130 p, hoh131, hoh132 zf0, hoh133 zc1] 4)) (h2 : Pure PP 37 [(iC p.cons)] (iC y4)) :
  Ends PP 0 (bCan_c0 p ).as (.ret (.tup [(.agg [(iN zn2), (iI zu3), (nI p.main), (iC y4)]), (nI 0)])) (hpOf [] 0) :=
 wE 4 [] [ql avI p.funs, ql Con.av p.cons, qp h0, qp h1, qr (Prog.av p), qr (Prog.av p), qp h2, qr (nI p.main), qr (nI p.main)] [.reg [.d, .d, .d, .d, .ans (.len (p.funs.length : Int)), .d, .d, .ans (.len (p.cons.length : Int)), .call (.agg [(.map 2), (.map 3)]) (hpOf [hoh130 p, hoh131, hoh132 zf0, hoh133 zc1] 4), .call (.tup [(iN zn2), (iI zu3)]) (hpOf [hoh130 p, hoh131, hoh132 zf0, hoh133 zc1] 4), .d, .d, .d, .d, .d], rn 1, .reg [.d, .d, .d, .d, .d, .d, .pure (iC y4), .d, .d, .d], rn 1] trivial
end Go.Hb
namespace Go.Hb
open Go.Proofs
set_option maxHeartbeats 2000000
noncomputable section
def sM : Nat → List (Int × Int)
 | 0 => []
 | n+1 => mIns (n : Int) (n : Int) (sM n)
theorem mGet_ins {α β : Type} [DecidableEq α] (k k' : α) (v : β) : ∀ (l : List (α × β)), mGet k (mIns k' v l) = if k = k' then some v else mGet k l
 | [] => by simp [mIns, mGet]
 | e :: l => by
  simp only [mIns]
  split
  · rename_i h
    subst h
    simp only [mGet]
    split <;> rfl
  · rename_i h
    simp only [mGet, mGet_ins k k' v l]
    by_cases h1 : k = e.1
    · subst h1
      rw [if_pos rfl, if_pos rfl, if_neg (fun e => h e.symm)]
    · rw [if_neg h1, if_neg h1]
theorem sM_get : ∀ (n : Nat) (i : Int), 0 ≤ i → i < n → mGet i (sM n) = some i
 | 0, i, h0, h1 => by omega
 | n+1, i, h0, h1 => by
  rw [sM, mGet_ins]
  by_cases h : i = (n : Int)
  · rw [if_pos h, h]
  · rw [if_neg h]; exact sM_get n i h0 (by omega)
theorem sM_at {n : Nat} {i : Int} (h0 : 0 ≤ i) (h1 : i < n) : mAt (sM n) i = i := by unfold mAt; rw [sM_get n i h0 h1]; rfl
theorem smB_2 (a b : Nat) (hb : b < 1000000) : ∀ (j i : Nat), i + j = b → Ends PP 0 (smB_c1 (a : Int) (b : Int) (sM a) (i : Int) (sM i)).as (.ret (.agg [.map 0, .map 1])) (hpOf [(0, MO (sM a), true), (1, MO (sM b), true)] 2)
 | 0, i, h => by
  have : i = b := by omega
  subst this
  exact smB_1_1 a i (sM a) i (sM i) sd
 | j+1, i, h => by
  exact (smB_1_0 a b (sM a) i (sM i) sd sd).ends (smB_2 a b hb j (i + 1) (by omega))
theorem smB_1 (a b : Nat) (ha : a < 1000000) (hb : b < 1000000) : ∀ (j i : Nat), i + j = a → Ends PP 0 (smB_c0 (a : Int) (b : Int) (i : Int) (sM i)).as (.ret (.agg [.map 0, .map 1])) (hpOf [(0, MO (sM a), true), (1, MO (sM b), true)] 2)
 | 0, i, h => by
  have : i = a := by omega
  subst this
  exact (smB_0_1 i b i (sM i) sd).ends (smB_2 i b hb b 0 (by omega))
 | j+1, i, h => by
  exact (smB_0_0 a b i (sM i) sd sd).ends (smB_1 a b ha hb j (i + 1) (by omega))
theorem same_spec (a b : Nat) (ha : a < 1000000) (hb : b < 1000000) : SpecN PP (.enter 36 [.int .i64 (a : Int), .int .i64 (b : Int)]) (hpOf [] 0) (.ret (.agg [.map 0, .map 1])) (hpOf [(0, MO (sM a), true), (1, MO (sM b), true)] 2) :=
 ⟨(smB_s a b).as.fr, by kernel_rfl, Eq.mp (by kernel_rfl) ((smB_E_0 a b).ends (smB_1 a b ha hb a 0 (by omega)))⟩
theorem ends_weak {P : Program} {m : Nat} {s : AS} {v v' : AV} {h' : Hp} (h : Ends P m s (.ret v) h') (hv : ∀ (E : Emb) (cv : Value), VR E v cv → VR E v' cv) : Ends P m s (.ret v') h' := fun hm E fr ccs w f fs r cl base => by
 obtain ⟨cl', w', E', s1, ⟨cv, rfl, g2⟩, r2, x2⟩ := h hm E fr ccs w f fs r cl base
 exact ⟨_, w', E', s1, ⟨cv, rfl, hv E' cv g2⟩, r2, x2⟩
theorem vr_ilst_weak {E : Emb} {e : Nat} {xs : List AV} {cv : Value} (h : VR E (.ilst e xs true) cv) : VR E (.ilst e xs false) cv := by
 simp only [VR] at h ⊢
 obtain ⟨vs, h1, h2, h3⟩ := h
 refine ⟨vs, h1, h2, ?_⟩
 rcases h3 with ⟨rfl, a, cap, rfl, g, _⟩ | ⟨k, a, cap, C, g1, g2, g3, _, g5⟩
 · exact .inl ⟨rfl, a, cap, rfl, g, fun hh => by cases hh⟩
 · exact .inr ⟨k, a, cap, C, g1, g2, g3, (fun hh => by cases hh), g5⟩
theorem clone_pure (xs : List Con) (h : xs.length ≤ 1000000) : Pure PP 37 [.ilst 2 (List.map Con.av xs) false] (.ilst 2 (List.map Con.av xs) false) := by
 refine pure_atH (s := cln_s xs) (by kernel_rfl) (by kernel_rfl) (by simp [AV.keylessL, AV.keyless]) (by simp [AV.keyless]) ((cln_E xs).ends ?_)
 refine ends_nil (j := 3) (e := 2) (ex := false) (xs := List.map Con.av xs) (by kernel_rfl) (fun hx => ?_) (fun a n c => ?_)
 · have hx : xs = [] := by simpa using hx
   subst hx
   have h1 := ends_weak (cln_n []) (fun E cv hv => vr_ilst_weak hv)
   exact Eq.mp (by kernel_rfl) h1
 · have h1 := cln_v xs a n c (by simpa using h)
   rw [List.nil_append] at h1
   exact Eq.mp (by kernel_rfl) h1
section
variable {p : Prog}
theorem bCan_0 (hp : FineP p) (hok : ∀ (i : Nat) (x : Node), p.nodes[i]? = some x → nOk (sM p.funs.length) x) (f : Nat) (hf : p.nodes.length ≤ f) (to : List Int) (n : Int) (hc : p.cons.length < 1000000)
  (hb : (nodesB p (sM p.funs.length) (sM p.cons.length) to f).length ≤ 1000000) (hw : toOf p 0 f = some (to, n)) :
  Ends PP 0 (bCan_c0 p).as (.ret (.tup [PA ⟨nodesB p (sM p.funs.length) (sM p.cons.length) to f, p.funs.map (toAt to), p.main, p.cons⟩, .int .i64 0])) (hpOf [] 0) := by
 have hfs := hp.fsmall
 have h40 := same_spec p.funs.length p.cons.length (by omega) hc
 have h38 := ordered_spec (mf := sM p.funs.length) (mc := sM p.cons.length) hp hok 0 f hf to n hb hw
 exact bCan_0_0 p (sM p.funs.length) (sM p.cons.length) _ _ _
  (Eq.mp (by kernel_rfl) (spec_new (ks := []) (n2 := 2) (lc := [(0, PCell p, false), (1, .cells (putCells .leaf 0 [.nils, .nils, .int .i64 0, .nils]) 4 [] false, false)]) (x := [(0, PCell p, false), (1, .cells (putCells .leaf 0 [.nils, .nils, .int .i64 0, .nils]) 4 [] false, false)])
   (args' := [.int .i64 (p.funs.length : Int), .int .i64 (p.cons.length : Int)]) h40 (by kernel_rfl) (by kernel_rfl) (by kernel_rfl) trivial (by kernel_rfl) (by kernel_rfl) (by kernel_rfl) (by kernel_rfl) ⟨mo_kl _, mo_kl _, trivial⟩ (by kernel_rfl)))
  (spec_in (ks := [2, 3]) h38 (by kernel_rfl) rfl (by kernel_rfl) (by kernel_rfl) ⟨mo_kl _, mo_kl _, trivial⟩ (by kernel_rfl) ⟨mo_kl _, mo_kl _, trivial⟩ (by kernel_rfl) (by kernel_rfl) (by kernel_rfl) (by kernel_rfl) (by kernel_rfl) (by kernel_rfl) (by kernel_rfl) (by kernel_rfl))
  (clone_pure p.cons (by omega))
theorem bCanon_ok (hp : FineP p) (hok : ∀ (i : Nat) (x : Node), p.nodes[i]? = some x → nOk (sM p.funs.length) x) (f : Nat) (hf : p.nodes.length ≤ f) (to : List Int) (n : Int) (hc : p.cons.length < 1000000)
  (hb : (nodesB p (sM p.funs.length) (sM p.cons.length) to f).length ≤ 1000000) (hw : toOf p 0 f = some (to, n)) (h10 : Pure PP 10 [PA p] (.int .i64 0)) :
  Pure PP 9 [PA p] (.tup [PA ⟨nodesB p (sM p.funs.length) (sM p.cons.length) to f, p.funs.map (toAt to), p.main, p.cons⟩, .int .i64 0]) :=
 pure_atH (s := bCan_s p) (by kernel_rfl) (by kernel_rfl) (by simp [AV.keylessL, AV.keyless]) (by simp [AV.keylessL, AV.keyless]) ((bCan_E_1 p 0 h10 rfl).ends (bCan_0 hp hok f hf to n hc hb hw))
end
end
end Go.Hb
namespace Go.Hb
open Go.Proofs
def pre (p : Prog) : Nat → Int → List Int
 | 0, _ => []
 | f + 1, a => match p.nodes[a.toNat]? with
  | some x => a :: (x.kids.map (pre p f)).flatten
  | none => []
def putAll : List Int → Int → List Int → List Int
 | l, _, [] => l
 | l, n, b :: bs => putAll (l.set b.toNat n) (n + 1) bs
theorem putAll_append : ∀ (xs ys l : List Int) (n : Int), putAll l n (xs ++ ys) = putAll (putAll l n xs) (n + xs.length) ys
 | [], ys, l, n => by simp [putAll]
 | x :: xs, ys, l, n => by
  rw [List.cons_append, putAll, putAll_append xs ys, putAll, List.length_cons]
  congr 1; omega
theorem putAll_off : ∀ (xs l : List Int) (n : Int) (m : Nat), (∀ x ∈ xs, x.toNat ≠ m) → (putAll l n xs)[m]? = l[m]?
 | [], l, n, m, h => rfl
 | x :: xs, l, n, m, h => by
  rw [putAll, putAll_off xs _ _ m (fun y hy => h y (List.mem_cons_of_mem _ hy))]
  exact List.getElem?_set_ne (h x (List.mem_cons_self ..))
theorem putAll_at : ∀ (xs l : List Int) (n : Int), xs.Nodup → (∀ x ∈ xs, 0 ≤ x ∧ x < l.length) → ∀ (i : Nat) (b : Int), xs[i]? = some b → toAt (putAll l n xs) b = n + i
 | [], l, n, _, _, i, b, h => by simp at h
 | x :: xs, l, n, hd, hr, i, b, h => by
  have hd := List.nodup_cons.1 hd
  have hx := hr x (List.mem_cons_self ..)
  cases i with
  | zero =>
   simp only [List.getElem?_cons_zero, Option.some.injEq] at h
   subst h
   unfold toAt
   rw [putAll, List.getD_eq_getElem?_getD, putAll_off xs _ _ x.toNat (fun y hy e => hd.1 (by
    have := hr y (List.mem_cons_of_mem _ hy)
    have : y = x := by omega
    exact this ▸ hy)), List.getElem?_set_self (by omega)]
   simp
  | succ i =>
   simp only [List.getElem?_cons_succ] at h
   rw [putAll, putAll_at xs (l.set x.toNat n) (n + 1) hd.2 (fun y hy => by rw [List.length_set]; exact hr y (List.mem_cons_of_mem _ hy)) i b h]
   omega
section
variable {p : Prog}
theorem pre_cons (hp : FineP p) {f : Nat} {a : Int} (ha : 0 ≤ a) (hn : a < p.nodes.length) (hf : p.nodes.length - a.toNat ≤ f) : ∃ x g, f = g + 1 ∧ p.nodes[a.toNat]? = some x ∧ pre p f a = a :: (x.kids.map (pre p g)).flatten := by
 cases f with
 | zero => omega
 | succ g =>
  obtain ⟨x, hx⟩ : ∃ x, p.nodes[a.toNat]? = some x := ⟨_, List.getElem?_eq_getElem (by omega)⟩
  exact ⟨x, g, rfl, hx, by rw [pre, hx]⟩
theorem wAs_put {g : Int → List Int × Int → Option (List Int × Int)} {q : Int → List Int} : ∀ (ks : List Int) (l : List Int) (n : Int), (∀ k ∈ ks, ∀ (l : List Int) (n : Int), n + (q k).length ≤ 1000000000 → 0 ≤ n → g k (l, n) = some (putAll l n (q k), n + (q k).length)) → 0 ≤ n → n + ((ks.map q).flatten).length ≤ 1000000000 →
  wAs g ks (l, n) = some (putAll l n (ks.map q).flatten, n + ((ks.map q).flatten).length)
 | [], l, n, h, _, _ => by simp [wAs, putAll]
 | k :: ks, l, n, h, h0, hb => by
  simp only [List.map_cons, List.flatten_cons, List.length_append] at hb ⊢
  rw [wAs, h k (List.mem_cons_self ..) l n (by omega) h0]
  simp only
  rw [wAs_put ks _ _ (fun k hk => h k (List.mem_cons_of_mem _ hk)) (by omega) (by omega), putAll_append]
  congr 2; omega
theorem wA_put (hp : FineP p) : ∀ (f : Nat) (a : Int), 0 ≤ a → a < p.nodes.length → p.nodes.length - a.toNat ≤ f → ∀ (l : List Int) (n : Int), n + (pre p f a).length ≤ 1000000000 → 0 ≤ n → wA p f a (l, n) = some (putAll l n (pre p f a), n + (pre p f a).length)
 | 0, a, ha, hn, hf, _, _, _, _ => by omega
 | f + 1, a, ha, hn, hf, l, n, hb, h0 => by
  obtain ⟨x, hx⟩ : ∃ x, p.nodes[a.toNat]? = some x := ⟨_, List.getElem?_eq_getElem (by omega)⟩
  obtain ⟨_, _, hks⟩ := hp.node _ _ hx
  have e : pre p (f + 1) a = a :: (x.kids.map (pre p f)).flatten := by rw [pre, hx]
  rw [e] at hb ⊢
  simp only [List.length_cons] at hb ⊢
  rw [wA, if_pos (by omega), hx]
  simp only
  rw [wAs_put (q := pre p f) x.kids _ _ (fun k hk l n h1 h2 => by
   have := hks k hk
   exact wA_put hp f k (by omega) (by omega) (by omega) l n h1 h2) (by omega) (by omega), putAll]
  congr 2; omega
end
end Go.Hb
namespace Go.Hb
open Go.Proofs
section
variable {p : Prog} {mf mc : List (Int × Int)} {F C : List Int} {to : List Int}
end
end Go.Hb
namespace Go.Hb
open Go.Proofs
set_option maxHeartbeats 1000000
end Go.Hb
namespace Go.Hb
open Go.Proofs
end Go.Hb
namespace Go.Hb
open Go.Proofs
end Go.Hb
namespace Go.Hb
open Go.Proofs
set_option maxHeartbeats 1000000
end Go.Hb
namespace Go.Hb
open Go.Proofs
theorem marks_in {lo n : Int} : ∀ {ks : List Int} {u v : List Bool}, marks lo n ks u = some v → ∀ k ∈ ks, lo ≤ k ∧ k ≤ n - 1
 | [], _, _, _, k, hk => by cases hk
 | a :: ks, u, v, h, k, hk => by
  simp only [marks] at h
  split at h
  · rename_i g
    rcases List.mem_cons.1 hk with rfl | hk
    · exact inB_iff.1 g.1
    · exact marks_in h k hk
  · cases h
theorem marks_cons {lo n k : Int} {ks : List Int} {u v : List Bool} (h : marks lo n (k :: ks) u = some v) : u[k.toNat]? = some false ∧ marks lo n ks (u.set k.toNat true) = some v := by
 simp only [marks] at h
 split at h
 · rename_i g; exact ⟨g.2, h⟩
 · cases h
theorem refNodes_cons {p : Prog} {i : Nat} {x : Node} {t : List Node} {u v : List Bool} (h : refNodes p i (x :: t) u = some v) : nodeOk p x = true ∧ ∃ w, marks ((i : Int) + 1) p.nodes.length x.kids u = some w ∧ refNodes p (i + 1) t w = some v := by
 simp only [refNodes] at h
 split at h
 · rename_i g
   split at h
   · rename_i w hw; exact ⟨g, w, hw, h⟩
   · cases h
 · cases h
theorem refNodes_len {p : Prog} : ∀ {t : List Node} {i : Nat} {u v : List Bool}, refNodes p i t u = some v → v.length = u.length
 | [], i, u, v, h => by simp only [refNodes, Option.some.injEq] at h; rw [h]
 | x :: t, i, u, v, h => by
  obtain ⟨_, w, hw, h2⟩ := refNodes_cons h
  rw [refNodes_len h2, marks_len hw]
theorem refNodes_all {p : Prog} : ∀ {t : List Node} {i : Nat} {u v : List Bool}, refNodes p i t u = some v → ∀ (j : Nat) (x : Node), t[j]? = some x → nodeOk p x = true ∧ ∀ k ∈ x.kids, ((i + j : Nat) : Int) < k ∧ k < p.nodes.length
 | [], i, u, v, h, j, x, hx => by simp at hx
 | y :: t, i, u, v, h, j, x, hx => by
  obtain ⟨g, w, hw, h2⟩ := refNodes_cons h
  cases j with
  | zero =>
   simp at hx; subst hx
   exact ⟨g, fun k hk => by have := marks_in hw k hk; omega⟩
  | succ j =>
   have := refNodes_all h2 j x (by simpa using hx)
   exact ⟨this.1, fun k hk => by have := this.2 k hk; omega⟩
structure Sprop (p : Prog) (S : List Int) : Prop where
 len : S.length = p.nodes.length
 root : ∀ f ∈ p.funs, S[f.toNat]? = some 1
 kid : ∀ (i : Nat) (x : Node) (d : Nat) (k : Int), p.nodes[i]? = some x → x.kids[d]? = some k → ∃ s, S[i]? = some s ∧ S[k.toNat]? = some (s + addsN x d)
end Go.Hb
namespace Go.Hb
open Go.Proofs
inductive Reach (p : Prog) : Nat → Nat → Prop where
 | refl (a : Nat) : Reach p a a
 | step {a i : Nat} {x : Node} {k : Int} : Reach p a i → p.nodes[i]? = some x → k ∈ x.kids → Reach p a k.toNat
theorem Reach.first {p : Prog} {a m : Nat} (h : Reach p a m) : m = a ∨ ∃ (x : Node) (k : Int), p.nodes[a]? = some x ∧ k ∈ x.kids ∧ Reach p k.toNat m := by
 induction h with
 | refl => exact .inl rfl
 | step h hx hk ih =>
  rename_i i x k
  rcases ih with rfl | ⟨y, q, h1, h2, h3⟩
  · exact .inr ⟨x, k, hx, hk, Reach.refl _⟩
  · exact .inr ⟨y, q, h1, h2, h3.step hx hk⟩
theorem check_of {p : Prog} (hs : smallProg p = true) : Pure PP 10 [Prog.av p] (.int .i64 (checkN (refFormed p))) := by
 have h2 := bCheck_pure p hs
 rw [formed_eq] at h2
 exact h2
end Go.Hb
namespace Go.Hb
open Go.Proofs
theorem formed_fine {p : Prog} (hp : smallProg p = true) (hf : refFormed p = true) : FineP p := by
 have hs := hp
 simp only [smallProg, Bool.and_eq_true, decide_eq_true_eq] at hs
 obtain ⟨⟨⟨⟨s1, s2⟩, s3⟩, _⟩, s5⟩ := hs
 simp only [refFormed, Bool.and_eq_true] at hf
 obtain ⟨_, hf⟩ := hf
 split at hf
 · rename_i u hu
   unfold allT at hf
   split at hf
   · rename_i v hv
     refine ⟨s1, s2, fun i x hx => ?_, fun f hf => ?_⟩
     · have := refNodes_all hv i x hx
       have h10 := List.all_eq_true.1 s5 x (List.mem_of_getElem? hx)
       simp only [smallNode, Bool.and_eq_true, decide_eq_true_eq] at h10
       exact ⟨fine_of this.1, h10.1.1, fun k hk => by have := this.2 k hk; omega⟩
     · have := marks_in hu f hf; omega
   · cases hf
 · cases hf
theorem numsL_at {n : Nat} {i : Int} (h0 : 0 ≤ i) (h1 : i < n) : (numsL 0 n)[i.toNat]? = some i := by
 rw [numsL_get 0 (by omega)]
 congr 1; omega
def SameL (n : Nat) (m : List (Int × Int)) (l : List Int) : Prop := ∀ i : Int, 0 ≤ i → i < n → l[i.toNat]? = some (mAt m i)
theorem same_sM (n : Nat) : SameL n (sM n) (numsL 0 n) := fun i h0 h1 => by rw [numsL_at h0 h1, sM_at h0 h1]
mutual
theorem mPat_c (cons : List Con) {mc : List (Int × Int)} {C : List Int} (hC : SameL cons.length mc C) : ∀ (q : Pat), patOk cons q = true → mPat C q = some (cPat mc q)
 | .mk f n s ps, h => by
  rw [patOk, Bool.and_eq_true] at h
  have hps := mPats_c cons hC ps h.2
  have hN : mPatN C f n = some (if f = 6 then mAt mc n else n) := by
   unfold mPatN
   by_cases hf : f = 6
   · subst hf
     have hh := h.1
     simp only [patHead] at hh
     simp [inB] at hh
     obtain ⟨⟨⟨h0, h1⟩, _⟩, _⟩ := hh
     rw [if_pos rfl, if_pos rfl, if_pos h0, hC n h0 (by omega)]
   · rw [if_neg hf, if_neg hf]
  rw [mPat, hN]
  simp only
  rw [hps, cPat]
theorem mPats_c (cons : List Con) {mc : List (Int × Int)} {C : List Int} (hC : SameL cons.length mc C) : ∀ (ps : List Pat), patsOk cons ps = true → mPats C ps = some (cPats mc ps)
 | [], _ => rfl
 | q :: ps, h => by
  rw [patsOk, Bool.and_eq_true] at h
  rw [mPats, mPat_c cons hC q h.1]
  simp only
  rw [mPats_c cons hC ps h.2, cPats]
end
theorem patsOk_all {cons : List Con} : ∀ {ps : List Pat}, (∀ q ∈ ps, patOk cons q = true) → patsOk cons ps = true
 | [], _ => rfl
 | q :: ps, h => by
  rw [patsOk, h q (List.mem_cons_self ..), patsOk_all (fun x hx => h x (List.mem_cons_of_mem _ hx))]; rfl
theorem psizes_le {c : Nat} : ∀ {ps : List Pat}, (∀ q ∈ ps, psize q ≤ c) → psizes ps ≤ c * ps.length
 | [], _ => by simp [psizes]
 | q :: ps, h => by
  have h1 := h q (List.mem_cons_self ..)
  have h2 := psizes_le (c := c) (ps := ps) (fun x hx => h x (List.mem_cons_of_mem _ hx))
  simp only [psizes, List.length_cons]
  rw [Nat.mul_add, Nat.mul_one]; omega
theorem node_any {p : Prog} {mf mc : List (Int × Int)} {F C : List Int} (hF : SameL p.funs.length mf F) (hC : SameL p.cons.length mc C) (hB : ∀ i : Int, 0 ≤ i → i < p.funs.length → 0 ≤ mAt mf i ∧ mAt mf i ≤ 1000000) (hs : p.funs.length ≤ 320) {x : Node} (h : nodeOk p x = true) (h10 : x.pats.length ≤ 10) :
  (psizes x.pats < 1000000 ∧ mN F C x.op x.n = some (bN mf mc x.op x.n) ∧ mPats C x.pats = some (cPats mc x.pats)) ∧ nOk mf x := by
 simp only [nodeOk, Bool.and_eq_true, nodeHead] at h
 obtain ⟨⟨⟨h1, _⟩, h2⟩, _⟩ := h
 have hq : ∀ q ∈ x.pats, psize q ≤ 12 ∧ patOk p.cons q = true := fun q hq => by
  have := List.all_eq_true.1 h2 q hq
  simpa [nodePat] using this
 have hps : psizes x.pats ≤ 12 * x.pats.length := psizes_le (fun q h => (hq q h).1)
 have hr4 : x.op = 4 → -(p.funs.length : Int) ≤ x.n ∧ x.n ≤ 29 := fun e => by
  rw [e] at h1
  simp [nodeHead1, inB] at h1
  omega
 have hr14 : x.op = 14 → 0 ≤ x.n ∧ x.n < p.cons.length := fun e => by
  rw [e] at h1
  simp [nodeHead1, inB] at h1
  omega
 refine ⟨⟨by omega, ?_, mPats_c p.cons hC x.pats (patsOk_all fun q h => (hq q h).2)⟩, by omega, fun e hn => ?_⟩
 · unfold mN bN
   by_cases h4 : x.op = 4
   · have hr := hr4 h4
     by_cases hn : x.n < 0
     · have hb := hB (-1 - x.n) (by omega) (by omega)
       rw [if_pos ⟨h4, hn⟩, if_pos h4, if_neg (by omega), hF _ (by omega) (by omega)]
       simp only
       rw [if_pos (by omega)]
     · rw [if_neg (fun h => hn h.2), if_neg (show ¬ x.op = 14 by omega), if_pos h4, if_pos (show 0 ≤ x.n by omega)]
   · rw [if_neg (fun h => h4 h.1), if_neg h4]
     by_cases h14 : x.op = 14
     · have hr := hr14 h14
       rw [if_pos h14, if_pos h14, if_pos hr.1, hC _ hr.1 hr.2]
     · rw [if_neg h14, if_neg h14]
 · have hr := hr4 e
   have hb := hB (-1 - x.n) (by omega) (by omega)
   omega
theorem node_both {p : Prog} (hF : p.funs.length ≤ 320) {x : Node} (h : nodeOk p x = true) (h10 : x.pats.length ≤ 10) :
  (psizes x.pats < 1000000 ∧ mN (numsL 0 p.funs.length) (numsL 0 p.cons.length) x.op x.n = some (bN (sM p.funs.length) (sM p.cons.length) x.op x.n) ∧ mPats (numsL 0 p.cons.length) x.pats = some (cPats (sM p.cons.length) x.pats)) ∧ nOk (sM p.funs.length) x :=
 node_any (same_sM _) (same_sM _) (fun i h0 h1 => by rw [sM_at h0 h1]; omega) hF h h10
end Go.Hb
