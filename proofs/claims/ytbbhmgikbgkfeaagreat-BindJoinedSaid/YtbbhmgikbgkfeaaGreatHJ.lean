/-
  OWN WORK (V43, V44, H16, V47, H17, V48, H18, V49, H14, V45, V50, V60, V61, V62, V63, V64, V65, V66): a machine on abstract values, its soundness, ways through the text (the ways WRITTEN BY A PROGRAM), plain laws.
-/
import Derived.Test.YtbbhmgikbgkfeaaGreatHF
import Derived.Test.YtbbhmgikbgkfeaaGreatHI
set_option linter.unusedVariables false
set_option linter.unusedSimpArgs false
set_option linter.unusedSectionVars false
set_option maxRecDepth 100000
namespace Go.Hb
open Go.Proofs
def kidsOf (p : Prog) (i : Int) : List Int := match p.nodes[i.toNat]? with
 | some x => x.kids
 | none => []
section
variable {p : Prog}
theorem flat_count {q : Int → List Int} (m : Int) : ∀ (ks : List Int), (∀ k ∈ ks, (q k).count m = [k].count m + (((q k).map (kidsOf p)).flatten).count m) →
  ((ks.map q).flatten).count m = ks.count m + ((((ks.map q).flatten).map (kidsOf p)).flatten).count m
 | [], _ => rfl
 | k :: ks, h => by
  have h1 := h k (List.mem_cons_self ..)
  have h2 := flat_count m ks (fun x hx => h x (List.mem_cons_of_mem _ hx))
  rw [List.map_cons, List.flatten_cons, List.count_append, List.map_append, List.flatten_append, List.count_append, h1, h2, show k :: ks = [k] ++ ks from rfl, List.count_append]
  omega
theorem pre_count (hp : FineP p) (m : Int) : ∀ (f : Nat) (a : Int), 0 ≤ a → a < p.nodes.length → p.nodes.length - a.toNat ≤ f → (pre p f a).count m = [a].count m + (((pre p f a).map (kidsOf p)).flatten).count m
 | 0, a, ha, hn, hf => by omega
 | f + 1, a, ha, hn, hf => by
  obtain ⟨x, hx⟩ : ∃ x, p.nodes[a.toNat]? = some x := ⟨_, List.getElem?_eq_getElem (by omega)⟩
  obtain ⟨_, _, hks⟩ := hp.node _ _ hx
  have e : pre p (f + 1) a = a :: (x.kids.map (pre p f)).flatten := by rw [pre, hx]
  have ek : kidsOf p a = x.kids := by unfold kidsOf; rw [hx]
  have h2 := flat_count (p := p) m x.kids (fun k hk => by
   have := hks k hk
   exact pre_count hp m f k (by omega) (by omega) (by omega))
  rw [e, List.map_cons, List.flatten_cons, List.count_append, ek, show a :: (x.kids.map (pre p f)).flatten = [a] ++ (x.kids.map (pre p f)).flatten from rfl, List.count_append, h2]
theorem pre_in (hp : FineP p) : ∀ (f : Nat) (a : Int), 0 ≤ a → a < p.nodes.length → ∀ y ∈ pre p f a, 0 ≤ y ∧ y < p.nodes.length
 | 0, a, _, _, y, hy => by cases hy
 | f + 1, a, ha, hn, y, hy => by
  obtain ⟨x, hx⟩ : ∃ x, p.nodes[a.toNat]? = some x := ⟨_, List.getElem?_eq_getElem (by omega)⟩
  obtain ⟨_, _, hks⟩ := hp.node _ _ hx
  have e : pre p (f + 1) a = a :: (x.kids.map (pre p f)).flatten := by rw [pre, hx]
  rw [e] at hy
  rcases List.mem_cons.1 hy with rfl | hy
  · exact ⟨ha, hn⟩
  · obtain ⟨l, hl, hy⟩ := List.mem_flatten.1 hy
    obtain ⟨k, hk, rfl⟩ := List.mem_map.1 hl
    have := hks k hk
    exact pre_in hp f k (by omega) (by omega) y hy
def tauM (u : List Bool) (m : Int) : Nat := if u[m.toNat]? = some true then 1 else 0
theorem marks_count {lo n : Int} (hlo : 0 ≤ lo) {m : Int} (hm : 0 ≤ m) : ∀ {ks : List Int} {u v : List Bool}, marks lo n ks u = some v → ks.count m + tauM u m = tauM v m
 | [], u, v, h => by cases h; simp
 | k :: ks, u, v, h => by
  have hk := marks_in h k (List.mem_cons_self ..)
  obtain ⟨h1, h2⟩ := marks_cons h
  have h3 := marks_count hlo hm h2
  rw [← h3, show k :: ks = [k] ++ ks from rfl, List.count_append]
  have hlt := (List.getElem?_eq_some_iff.1 h1).1
  by_cases e : k = m
  · subst e
    have a1 : tauM u k = 0 := by unfold tauM; rw [h1]; rfl
    have a2 : tauM (u.set k.toNat true) k = 1 := by unfold tauM; rw [List.getElem?_set_self hlt]; rfl
    rw [a1, a2]; simp; omega
  · have a1 : tauM (u.set k.toNat true) m = tauM u m := by unfold tauM; rw [List.getElem?_set_ne (by omega)]
    rw [a1, List.count_singleton, if_neg (by simpa using e)]; omega
theorem refNodes_count {m : Int} (hm : 0 ≤ m) : ∀ {t : List Node} {i : Nat} {u v : List Bool}, refNodes p i t u = some v → ((t.map Node.kids).flatten).count m + tauM u m = tauM v m
 | [], i, u, v, h => by simp only [refNodes, Option.some.injEq] at h; subst h; simp
 | x :: t, i, u, v, h => by
  obtain ⟨_, w, h1, h2⟩ := refNodes_cons h
  have h3 := marks_count (by omega) hm h1
  have h4 := refNodes_count hm h2
  rw [List.map_cons, List.flatten_cons, List.count_append]
  omega
theorem kids_uniq {m : Int} : ∀ {t : List Node}, ((t.map Node.kids).flatten).count m ≤ 1 → ∀ (i j : Nat) (x y : Node), t[i]? = some x → t[j]? = some y → m ∈ x.kids → m ∈ y.kids → i = j
 | [], _, i, j, x, y, hx, _, _, _ => by simp at hx
 | z :: t, h, i, j, x, y, hx, hy, mx, my => by
  rw [List.map_cons, List.flatten_cons, List.count_append] at h
  have inT : ∀ {i : Nat} {x : Node}, t[i]? = some x → m ∈ x.kids → 0 < ((t.map Node.kids).flatten).count m := fun {i x} hx mx =>
   List.count_pos_iff.2 (List.mem_flatten.2 ⟨x.kids, List.mem_map.2 ⟨x, List.mem_of_getElem? hx, rfl⟩, mx⟩)
  cases i with
  | zero =>
   simp only [List.getElem?_cons_zero, Option.some.injEq] at hx
   subst hx
   cases j with
   | zero => rfl
   | succ j =>
    simp only [List.getElem?_cons_succ] at hy
    have := inT hy my
    have := List.count_pos_iff.2 mx
    omega
  | succ i =>
   simp only [List.getElem?_cons_succ] at hx
   cases j with
   | zero =>
    simp only [List.getElem?_cons_zero, Option.some.injEq] at hy
    subst hy
    have := inT hx mx
    have := List.count_pos_iff.2 my
    omega
   | succ j =>
    simp only [List.getElem?_cons_succ] at hy
    rw [kids_uniq (by omega) i j x y hx hy mx my]
theorem kids_le {m : Int} : ∀ {t : List Node} {i : Nat} {x : Node}, t[i]? = some x → x.kids.count m ≤ ((t.map Node.kids).flatten).count m
 | [], i, x, hx => by simp at hx
 | z :: t, 0, x, hx => by
  simp only [List.getElem?_cons_zero, Option.some.injEq] at hx
  subst hx
  rw [List.map_cons, List.flatten_cons, List.count_append]; omega
 | z :: t, i+1, x, hx => by
  simp only [List.getElem?_cons_succ] at hx
  have := kids_le (m := m) hx
  rw [List.map_cons, List.flatten_cons, List.count_append]; omega
theorem flat_le {m i : Int} : ∀ (L : List Int), (∀ j ∈ L, m ∈ kidsOf p j → j = i) → ((L.map (kidsOf p)).flatten).count m ≤ L.count i * (kidsOf p i).count m
 | [], _ => by simp
 | j :: L, h => by
  have h1 := flat_le L (fun x hx => h x (List.mem_cons_of_mem _ hx))
  rw [List.map_cons, List.flatten_cons, List.count_append, show j :: L = [j] ++ L from rfl, List.count_append, Nat.add_mul]
  by_cases hm : m ∈ kidsOf p j
  · have := h j (List.mem_cons_self ..) hm
    subst this
    simp
    exact h1
  · rw [List.count_eq_zero.2 hm]
    exact Nat.le_trans (by simpa using h1) (Nat.le_add_left ..)
theorem once (hp : FineP p) (hK : ∀ m : Int, 0 ≤ m → p.funs.count m + ((p.nodes.map Node.kids).flatten).count m ≤ 1) {L : List Int} (hin : ∀ x ∈ L, 0 ≤ x ∧ x < p.nodes.length) (hL : ∀ m : Int, L.count m = p.funs.count m + ((L.map (kidsOf p)).flatten).count m) : ∀ (b m : Nat), m ≤ b → L.count (m : Int) ≤ 1 := by
 intro b
 induction b with
 | zero =>
  intro m hmb
  have hm : m = 0 := by omega
  subst hm
  have e := hL ((0 : Nat) : Int)
  have z : ((L.map (kidsOf p)).flatten).count ((0 : Nat) : Int) = 0 := by
   refine List.count_eq_zero.2 (fun h => ?_)
   obtain ⟨l, hl, hy⟩ := List.mem_flatten.1 h
   obtain ⟨j, hj, rfl⟩ := List.mem_map.1 hl
   unfold kidsOf at hy
   split at hy
   · rename_i x hx
     have := (hp.node _ _ hx).2.2 _ hy
     omega
   · cases hy
  have := hK ((0 : Nat) : Int) (by omega)
  omega
 | succ b ih =>
  intro m hmb
  have e := hL (m : Int)
  have hk := hK (m : Int) (by omega)
  by_cases hz : ((L.map (kidsOf p)).flatten).count (m : Int) = 0
  · omega
  · have hpos := List.count_pos_iff.1 (Nat.pos_of_ne_zero hz)
    obtain ⟨l, hl, hy⟩ := List.mem_flatten.1 hpos
    obtain ⟨i, hi, rfl⟩ := List.mem_map.1 hl
    have hir := hin i hi
    obtain ⟨x, hx⟩ : ∃ x, p.nodes[i.toNat]? = some x := ⟨_, List.getElem?_eq_getElem (by omega)⟩
    have ei : kidsOf p i = x.kids := by unfold kidsOf; rw [hx]
    rw [ei] at hy
    have him := (hp.node _ _ hx).2.2 _ hy
    have hci : L.count i ≤ 1 := by
     have := ih i.toNat (by omega)
     rwa [show ((i.toNat : Nat) : Int) = i by omega] at this
    have hle := flat_le (p := p) (m := (m : Int)) (i := i) L (fun j hj hmj => by
     have hjr := hin j hj
     obtain ⟨y, hy'⟩ : ∃ y, p.nodes[j.toNat]? = some y := ⟨_, List.getElem?_eq_getElem (by omega)⟩
     have ej : kidsOf p j = y.kids := by unfold kidsOf; rw [hy']
     rw [ej] at hmj
     have := kids_uniq (by omega) _ _ y x hy' hx hmj hy
     omega)
    rw [ei] at hle
    have hkl := kids_le (m := (m : Int)) hx
    have : L.count i * x.kids.count (m : Int) ≤ 1 * x.kids.count (m : Int) := Nat.mul_le_mul_right _ hci
    omega
theorem nodup_len : ∀ (n : Nat) (l : List Nat), l.Nodup → (∀ x ∈ l, x < n) → l.length ≤ n
 | 0, [], _, _ => by simp
 | 0, x :: l, _, h => by have := h x (List.mem_cons_self ..); omega
 | n+1, l, hd, h => by
  by_cases hm : n ∈ l
  · have h1 := nodup_len n (l.erase n) (hd.erase n) (fun x hx => by
     have := h x (List.mem_of_mem_erase hx)
     have hne : x ≠ n := fun e => by
      subst e
      exact hd.not_mem_erase hx
     omega)
    rw [List.length_erase_of_mem hm] at h1
    omega
  · have := nodup_len n l hd (fun x hx => by
     have := h x hx
     have hne : x ≠ n := fun e => hm (e ▸ hx)
     omega)
    omega
end
end Go.Hb
namespace Go.Hb
open Go.Proofs
theorem nodup_of_count {L : List Int} (h : ∀ a, L.count a ≤ 1) : L.Nodup := List.nodup_iff_count.2 h
theorem all_len : ∀ (n : Nat) (l : List Int), (∀ i : Nat, i < n → (i : Int) ∈ l) → n ≤ l.length
 | 0, l, _ => Nat.zero_le _
 | n+1, l, h => by
  have h0 := h n (Nat.lt_succ_self n)
  have h1 := all_len n (l.erase (n : Int)) (fun i hi => (List.mem_erase_of_ne (by omega)).2 (h i (by omega)))
  rw [List.length_erase_of_mem h0] at h1
  have := List.length_pos_of_mem h0
  omega
theorem all_in {p : Prog} (hp : FineP p) (hK : ∀ m : Nat, m < p.nodes.length → p.funs.count (m : Int) + ((p.nodes.map Node.kids).flatten).count (m : Int) = 1) {L : List Int} (hL : ∀ m : Int, L.count m = p.funs.count m + ((L.map (kidsOf p)).flatten).count m) : ∀ (b m : Nat), m ≤ b → m < p.nodes.length → (m : Int) ∈ L := by
 intro b
 induction b with
 | zero =>
  intro m hmb hm
  have e := hL (m : Int)
  have hk := hK m hm
  by_cases hz : ((p.nodes.map Node.kids).flatten).count (m : Int) = 0
  · exact List.count_pos_iff.1 (by omega)
  · obtain ⟨l, hl, hy⟩ := List.mem_flatten.1 (List.count_pos_iff.1 (Nat.pos_of_ne_zero hz))
    obtain ⟨x, hx, rfl⟩ := List.mem_map.1 hl
    obtain ⟨i, hi⟩ := List.mem_iff_getElem?.1 hx
    have := (hp.node _ _ hi).2.2 _ hy
    omega
 | succ b ih =>
  intro m hmb hm
  have e := hL (m : Int)
  have hk := hK m hm
  by_cases hz : ((p.nodes.map Node.kids).flatten).count (m : Int) = 0
  · exact List.count_pos_iff.1 (by omega)
  · obtain ⟨l, hl, hy⟩ := List.mem_flatten.1 (List.count_pos_iff.1 (Nat.pos_of_ne_zero hz))
    obtain ⟨x, hx, rfl⟩ := List.mem_map.1 hl
    obtain ⟨i, hi⟩ := List.mem_iff_getElem?.1 hx
    have him := (hp.node _ _ hi).2.2 _ hy
    have hiL := ih i (by omega) (by omega)
    have : (m : Int) ∈ (L.map (kidsOf p)).flatten := List.mem_flatten.2 ⟨x.kids, List.mem_map.2 ⟨(i : Int), hiL, by unfold kidsOf; rw [Int.toNat_natCast, hi]⟩, hy⟩
    have := List.count_pos_iff.2 this
    exact List.count_pos_iff.1 (by omega)
theorem formed_pre {p : Prog} (hs : smallProg p = true) (hf : refFormed p = true) : ((p.funs.map (pre p p.nodes.length)).flatten).Nodup ∧ ((p.funs.map (pre p p.nodes.length)).flatten).length = p.nodes.length ∧ (∀ x ∈ (p.funs.map (pre p p.nodes.length)).flatten, 0 ≤ x ∧ x < p.nodes.length) ∧
  (∀ (i : Nat) (x : Node), p.nodes[i]? = some x → nodeOk p x = true) := by
 have hp := formed_fine hs hf
 simp only [refFormed, Bool.and_eq_true] at hf
 obtain ⟨_, hf⟩ := hf
 split at hf
 · rename_i u hu
   unfold allT at hf
   split at hf
   · rename_i v hv
     have hK : ∀ m : Int, 0 ≤ m → p.funs.count m + ((p.nodes.map Node.kids).flatten).count m ≤ 1 := fun m hm => by
      have h1 := marks_count (by omega) hm hu
      have h2 := refNodes_count hm hv
      have h3 : tauM v m ≤ 1 := by unfold tauM; split <;> omega
      omega
     have hin : ∀ x ∈ (p.funs.map (pre p p.nodes.length)).flatten, 0 ≤ x ∧ x < p.nodes.length := fun x hx => by
      obtain ⟨l, hl, hy⟩ := List.mem_flatten.1 hx
      obtain ⟨k, hk, rfl⟩ := List.mem_map.1 hl
      have := hp.funs k hk
      exact pre_in hp _ k this.1 this.2 x hy
     have hL : ∀ m : Int, ((p.funs.map (pre p p.nodes.length)).flatten).count m = p.funs.count m + ((((p.funs.map (pre p p.nodes.length)).flatten).map (kidsOf p)).flatten).count m := fun m => flat_count m p.funs (fun k hk => by
      have := hp.funs k hk
      exact pre_count hp m _ k this.1 this.2 (by omega))
     have hd : ((p.funs.map (pre p p.nodes.length)).flatten).Nodup := nodup_of_count (fun a => by
      by_cases ha : a ∈ (p.funs.map (pre p p.nodes.length)).flatten
      · have hr := hin a ha
        have := once hp hK hin hL a.toNat a.toNat (Nat.le_refl _)
        rwa [show ((a.toNat : Nat) : Int) = a by omega] at this
      · rw [List.count_eq_zero.2 ha]; omega)
     refine ⟨hd, ?_, hin, fun i x hx => (refNodes_all hv i x hx).1⟩
     have hd2 : (((p.funs.map (pre p p.nodes.length)).flatten).map Int.toNat).Nodup := by
      rw [List.nodup_iff_pairwise_ne] at hd ⊢
      refine List.pairwise_map.2 (hd.imp_of_mem (fun {a b} ha hb hne e => ?_))
      have := hin a ha
      have := hin b hb
      exact hne (by omega)
     have := nodup_len p.nodes.length _ hd2 (fun x hx => by
      obtain ⟨y, hy, rfl⟩ := List.mem_map.1 hx
      have := hin y hy
      omega)
     rw [List.length_map] at this
     refine Nat.le_antisymm this (all_len _ _ (fun i hi => all_in hp (fun m hm => ?_) hL i i (Nat.le_refl _) hi))
     have h1 := marks_count (m := (m : Int)) (by omega) (by omega) hu
     have h2 := refNodes_count (m := (m : Int)) (by omega) hv
     have hl1 := marks_len hu
     have hl2 := refNodes_len hv
     rw [List.length_replicate] at hl1
     have h3 : tauM (List.replicate p.nodes.length false) (m : Int) = 0 := by
      unfold tauM
      rw [Int.toNat_natCast, List.getElem?_replicate, if_pos hm]; rfl
     have h4 : tauM v (m : Int) = 1 := by
      unfold tauM
      have hlt : m < v.length := by omega
      have := List.all_eq_true.1 hf _ (List.getElem_mem hlt)
      rw [Int.toNat_natCast, List.getElem?_eq_getElem hlt, this]; rfl
     omega
   · cases hf
 · cases hf
abbrev errProg : AV := .agg [.ilst 4 (List.map Node.av ([] : List Node)) true, .ilst 1 (List.map avI ([] : List Int)) true, .int .i64 0, .ilst 2 (List.map Con.av ([] : List Con)) true]
end Go.Hb
namespace Go.Hb
open Go.Proofs
noncomputable abbrev hoh160 (p : Prog) : Nat × AObj × Bool := (0, (.cells (putCells .leaf 0 [(iN p.nodes), (iI p.funs), (nI p.main), (iC p.cons)]) 4 [] false), false)
noncomputable abbrev hoh161  : Nat × AObj × Bool := (1, (.cells (putCells .leaf 0 [.nils, .nils, (nI 0), .nils]) 4 [] false), false)
noncomputable abbrev hoh162 (zf0 : List (Int × Int)) : Nat × AObj × Bool := (2, (.map (mEnts avI avI 0 zf0) zf0.length), true)
noncomputable abbrev hoh163 (zc1 : List (Int × Int)) : Nat × AObj × Bool := (3, (.map (mEnts avI avI 0 zc1) zc1.length), true)
theorem orr_2_1n (p : Prog) (mf mc : List (Int × Int)) (from0 : Int) (vl12 : List Int) (l9 : List Node) (t88 : Int) (l5 : List Int) (h0 : decide (t88 < (p.funs.length : Int)) = false) :
  Ends PP 2 (orr_c2 p mf mc from0 vl12 l9 t88 l5).as (.ret (.tup [(.gl 2 4 0 l9.length false), (.gl 3 1 0 l5.length false)])) (hpOf [(0, (.map (mEnts avI avI 0 mf) mf.length), true), (1, (.map (mEnts avI avI 0 mc) mc.length), true), (2, (.lst 4 (jN l9)), true), (3, (.lst 1 (jI l5)), true)] 4) :=
 wE 10 [9, 5] [qp h0] [rn 5, bf 89, rn 12] ⟨kl_map (fun _ => rfl) (fun _ => rfl) _ _ _, ⟨kl_map (fun _ => rfl) (fun _ => rfl) _ _ _, ⟨kk, ⟨kk, trivial⟩⟩⟩⟩
theorem cln_nn (xs : List Con) :
  Ends PP 0 (cln_cn xs).as (.ret (.gl 0 2 0 0 false)) (hpOf [(0, (.lst 2 (jC ([] : List Con))), true)] 1) :=
 wE 1 [0] [] [rn 8, .nilL 2 2] ⟨kk, trivial⟩
theorem cln_vn (xs : List Con) (a : Addr) (n c : Nat) (h0 : List.length (([] : List Con) ++ xs) ≤ 1000000) :
  Ends PP 0 (cln_cv xs a n c).as (.ret (.gl 0 2 0 (([] : List Con) ++ xs).length false)) (hpOf [(0, (.lst 2 (jC (([] : List Con) ++ xs))), true)] 1) :=
 wE 2 [1] [qp (p := getCells (putCells .leaf 0 []) 0 (0 * 2) = some []) rfl, qp (p := allOne [] = true) rfl, qp (p := [] = (jC ([] : List Con))) rfl, qp (p := (AV.gl 0 2 0 0 true) = (.gl 0 2 0 ([] : List Con).length true)) rfl, qp (app_p1 Con.av ([] : List Con)), qp h0, qp (app_p3 Con.av ([] : List Con) xs), qp (app_p4 Con.av ([] : List Con) xs)] [rn 8, .toL 5 true [], .lset 0 (jC ([] : List Con)), .set 5 (.gl 0 2 0 ([] : List Con).length true), .app (jC (([] : List Con) ++ xs)) (([] : List Con) ++ xs).length, rn 3] ⟨kk, trivial⟩
noncomputable def bCaN_s (p : Prog) : TS := startH PP 9 [(Prog.av p)] [] 0
noncomputable def bCaN_c0 (p : Prog)  : TS :=
 { fr := { fn := 9, nt := 34, sl := [(1, (.ptr 0 0)), (2, (.ptr 1 0)), (3, (nI 0))], todo := [.code (cd Tryz.f9 [1, 1, 0]), .code (cd Tryz.f9 [1, 1, 1])] }, cs := [], hp := [hoh160 p, hoh161], nb := 2 }
noncomputable def bCaN_c1 (p : Prog) (zn2 : List Node) (zu3 : List Int) : TS :=
 { fr := { fn := 9, nt := 34, sl := [(1, (.ptr 0 0)), (2, (.ptr 1 0)), (3, (nI 0)), (5, (.gl 2 4 0 zn2.length false)), (6, (.gl 3 1 0 zu3.length false))], todo := [.code (cd Tryz.f9 [1, 1, 1, 0]), .code (cd Tryz.f9 [1, 1, 1, 1])] }, cs := [], hp := [hoh160 p, hoh161, (2, (.lst 4 (jN zn2)), true), (3, (.lst 1 (jI zu3)), true)], nb := 4 }
theorem bCaN_E_1 (p : Prog) (y0 : Int) (h0 : Pure PP 10 [(Prog.av p)] (nI y0)) (h1 : (y0 != (0 : Int)) = false) :
  LeadsM PP 0 (bCaN_s p).as (bCaN_c0 p ).as :=
 wW 2 [0, 1] [qp h0, qp h1] [rn 10, .pure (nI y0), rn 7, bf 10, rn 3] trivial
theorem bCaN_0_0 (p : Prog) (zf0 zc1 : List (Int × Int)) (zn2 : List Node) (zu3 : List Int) (h0 : Spec PP (.enter 36 [(nI (p.funs.length : Int)), (nI (p.cons.length : Int))]) (hpOf [hoh160 p, hoh161] 2) (.ret (.agg [(.map 2), (.map 3)])) (hpOf [hoh160 p, hoh161, hoh162 zf0, hoh163 zc1] 4)) (h1 : Spec PP (.enter 34 [(Prog.av p), (nI 0), (.func 35 [] []), (.agg [(.map 2), (.map 3)])]) (hpOf [hoh160 p, hoh161, hoh162 zf0, hoh163 zc1] 4) (.ret (.tup [(.gl 4 4 0 zn2.length false), (.gl 5 1 0 zu3.length false)])) (hpOf [hoh160 p, hoh161, hoh162 zf0, hoh163 zc1, (4, (.lst 4 (jN zn2)), true), (5, (.lst 1 (jI zu3)), true)] 6)) :
  LeadsM PP 0 (bCaN_c0 p ).as (bCaN_c1 p zn2 zu3).as :=
 wW 6 [0, 1, 4, 5] [ql avI p.funs, ql Con.av p.cons, qp h0, qp h1, qr (Prog.av p), qr (Prog.av p)] [.reg [.d, .d, .d, .d, .ans (.len (p.funs.length : Int)), .d, .d, .ans (.len (p.cons.length : Int)), .call (.agg [(.map 2), (.map 3)]) (hpOf [hoh160 p, hoh161, hoh162 zf0, hoh163 zc1] 4), .call (.tup [(.gl 4 4 0 zn2.length false), (.gl 5 1 0 zu3.length false)]) (hpOf [hoh160 p, hoh161, hoh162 zf0, hoh163 zc1, (4, (.lst 4 (jN zn2)), true), (5, (.lst 1 (jI zu3)), true)] 6), .d, .d, .d, .d, .d], rn 1] ⟨kk, ⟨kk, trivial⟩⟩
theorem bCaN_1_0 (p : Prog) (zn2 : List Node) (zu3 : List Int) (h0 : Spec PP (.enter 37 [(iC p.cons)]) (hpOf [hoh160 p, hoh161, (2, (.lst 4 (jN zn2)), true), (3, (.lst 1 (jI zu3)), true)] 4) (.ret (.gl 4 2 0 p.cons.length false)) (hpOf [hoh160 p, hoh161, (2, (.lst 4 (jN zn2)), true), (3, (.lst 1 (jI zu3)), true), (4, (.lst 2 (jC p.cons)), true)] 5)) :
  Ends PP 0 (bCaN_c1 p zn2 zu3).as (.ret (.tup [(.agg [(.gl 0 4 0 zn2.length false), (.gl 1 1 0 zu3.length false), (nI p.main), (.gl 2 2 0 p.cons.length false)]), (nI 0)])) (hpOf [(0, (.lst 4 (jN zn2)), true), (1, (.lst 1 (jI zu3)), true), (2, (.lst 2 (jC p.cons)), true)] 3) :=
 wE 5 [2, 3, 4] [qp h0, qr (nI p.main), qr (nI p.main)] [.reg [.d, .d, .d, .d, .d, .d, .call (.gl 4 2 0 p.cons.length false) (hpOf [hoh160 p, hoh161, (2, (.lst 4 (jN zn2)), true), (3, (.lst 1 (jI zu3)), true), (4, (.lst 2 (jC p.cons)), true)] 5), .d, .d, .d], rn 1] ⟨kk, ⟨kk, ⟨kk, trivial⟩⟩⟩
end Go.Hb
namespace Go.Hb
open Go.Proofs
set_option maxHeartbeats 2000000
noncomputable section
abbrev LN (l : List Node) : AObj := .lst 4 (List.map Node.av l)
abbrev LI (l : List Int) : AObj := .lst 1 (List.map avI l)
abbrev LC (l : List Con) : AObj := .lst 2 (List.map Con.av l)
abbrev gN (b : Nat) (l : List Node) : AV := .gl b 4 0 (List.length l) false
abbrev gI (b : Nat) (l : List Int) : AV := .gl b 1 0 (List.length l) false
abbrev gC (b : Nat) (l : List Con) : AV := .gl b 2 0 (List.length l) false
theorem ln_kl (l : List Node) : (LN l).kl := keylessL_map _ (fun _ => rfl) _
theorem li_kl (l : List Int) : (LI l).kl := keylessL_map _ (fun _ => rfl) _
theorem lc_kl (l : List Con) : (LC l).kl := keylessL_map _ (fun _ => rfl) _
theorem orderedN {p : Prog} {mf mc : List (Int × Int)} (hp : FineP p) (hok : ∀ (i : Nat) (x : Node), p.nodes[i]? = some x → nOk mf x) (frm : Int) (f : Nat) (hf : p.nodes.length ≤ f) (to : List Int) (n : Int) (hb : (nodesB p mf mc to f).length ≤ 1000000) (hw : toOf p frm f = some (to, n)) :
  SpecM PP 2 (.enter 34 [PA p, .int .i64 frm, .func 35 [] [], .agg [.map 0, .map 1]]) (hpOf [(0, MO mf, true), (1, MO mc, true)] 2) (.ret (.tup [gN 2 (nodesB p mf mc to f), gI 3 (p.funs.map (toAt to))]))
   (hpOf [(0, MO mf, true), (1, MO mc, true), (2, LN (nodesB p mf mc to f), true), (3, LI (p.funs.map (toAt to)), true)] 4) :=
 ⟨(orr_s p mf mc frm).as.fr, by kernel_rfl, Eq.mp (by kernel_rfl) ((ordered_leads hp hok frm f hf to n hb hw).ends (orr_2_1n p mf mc frm to _ _ _ (by simp)))⟩
theorem cloneN (xs : List Con) (h : xs.length ≤ 1000000) : SpecN PP (.enter 37 [.ilst 2 (List.map Con.av xs) false]) (hpOf [] 0) (.ret (gC 0 xs)) (hpOf [(0, LC xs, true)] 1) := by
 suffices hh : Ends PP 0 (cln_s xs).as (.ret (gC 0 xs)) (hpOf [(0, LC xs, true)] 1) from ⟨(cln_s xs).as.fr, by kernel_rfl, Eq.mp (by kernel_rfl) hh⟩
 refine (cln_E xs).ends ?_
 refine ends_nil (j := 3) (e := 2) (ex := false) (xs := List.map Con.av xs) (by kernel_rfl) (fun hx => ?_) (fun a n c => ?_)
 · have hx : xs = [] := by simpa using hx
   subst hx
   exact Eq.mp (by kernel_rfl) (cln_nn [])
 · have h1 := cln_vn xs a n c (by simpa using h)
   rw [List.nil_append] at h1
   exact Eq.mp (by kernel_rfl) h1
abbrev Cell0 : AObj := .cells (putCells .leaf 0 [.nils, .nils, .int .i64 0, .nils]) 4 [] false
theorem bCanonN {p : Prog} (hp : FineP p) (hok : ∀ (i : Nat) (x : Node), p.nodes[i]? = some x → nOk (sM p.funs.length) x) (f : Nat) (hf : p.nodes.length ≤ f) (to : List Int) (n : Int) (hc : p.cons.length < 1000000)
  (hb : (nodesB p (sM p.funs.length) (sM p.cons.length) to f).length ≤ 1000000) (hw : toOf p 0 f = some (to, n)) (h10 : Pure PP 10 [PA p] (.int .i64 0)) :
  SpecN PP (.enter 9 [PA p]) (hpOf [] 0) (.ret (.tup [.agg [gN 0 (nodesB p (sM p.funs.length) (sM p.cons.length) to f), gI 1 (p.funs.map (toAt to)), .int .i64 p.main, gC 2 p.cons], .int .i64 0]))
   (hpOf [(0, LN (nodesB p (sM p.funs.length) (sM p.cons.length) to f), true), (1, LI (p.funs.map (toAt to)), true), (2, LC p.cons, true)] 3) := by
 have hfs := hp.fsmall
 have h40 := same_spec p.funs.length p.cons.length (by omega) hc
 have h38 := orderedN (mf := sM p.funs.length) (mc := sM p.cons.length) hp hok 0 f hf to n hb hw
 have h41 := cloneN p.cons (by omega)
 generalize nodesB p (sM p.funs.length) (sM p.cons.length) to f = N at h38 ⊢
 generalize p.funs.map (toAt to) = U at h38 ⊢
 refine ⟨(bCaN_s p).as.fr, by kernel_rfl, Eq.mp (by kernel_rfl) ((bCaN_E_1 p 0 h10 rfl).ends ((bCaN_0_0 p (sM p.funs.length) (sM p.cons.length) N U ?_ ?_).ends (bCaN_1_0 p N U ?_)))⟩
 · exact Eq.mp (by kernel_rfl) (spec_new (ks := []) (n2 := 2) (lc := [(0, PCell p, false), (1, Cell0, false)]) (x := [(0, PCell p, false), (1, Cell0, false)])
    (args' := [.int .i64 (p.funs.length : Int), .int .i64 (p.cons.length : Int)]) h40 (by kernel_rfl) (by kernel_rfl) (by kernel_rfl) trivial (by kernel_rfl) (by kernel_rfl) (by kernel_rfl) (by kernel_rfl) ⟨mo_kl _, mo_kl _, trivial⟩ (by kernel_rfl))
 · exact spec_gen2 (m := 2) (ks := [2, 3]) h38 (by rfl) (by rfl) (by kernel_rfl) (by rfl) (by rfl) (by kernel_rfl) (by kernel_rfl)
    ⟨mo_kl _, mo_kl _, trivial⟩ (by kernel_rfl) ⟨mo_kl _, mo_kl _, ln_kl _, li_kl _, trivial⟩ (by kernel_rfl) (by kernel_rfl) (by kernel_rfl) (by kernel_rfl) (by kernel_rfl) (by kernel_rfl) (by kernel_rfl)
 · exact Eq.mp (by kernel_rfl) (spec_new (ks := []) (n2 := 4) (lc := [(0, PCell p, false), (1, Cell0, false), (2, LN N, true), (3, LI U, true)]) (x := [(0, PCell p, false), (1, Cell0, false), (2, LN N, true), (3, LI U, true)])
    (args' := [.ilst 2 (List.map Con.av p.cons) false]) h41 (by kernel_rfl) (by kernel_rfl) (by kernel_rfl) trivial (by kernel_rfl) (by kernel_rfl) (by kernel_rfl) (by kernel_rfl) ⟨lc_kl _, trivial⟩ (by kernel_rfl))
end
end Go.Hb

namespace Go.Hb
open Go.Proofs
set_option maxHeartbeats 2000000
noncomputable section
def conIx (s : Str) : List Con → Int → Int
 | [], _ => -1
 | c :: t, i => if c.name = s then i else conIx s t (i + 1)
theorem conIx_range (s : Str) : ∀ (l : List Con) (i : Int), 0 ≤ i → conIx s l i = -1 ∨ (i ≤ conIx s l i ∧ conIx s l i < i + l.length ∧ ∃ d, l[(conIx s l i - i).toNat]? = some d ∧ d.name = s)
 | [], i, h => .inl rfl
 | c :: t, i, h => by
  simp only [conIx]
  split
  · rename_i e
    exact .inr ⟨by omega, by simp; omega, c, by simp, e⟩
  · rcases conIx_range s t (i + 1) (by omega) with g | ⟨g1, g2, d, g3, g4⟩
    · exact .inl g
    · refine .inr ⟨by omega, by rw [List.length_cons]; omega, d, ?_, g4⟩
      rw [show (conIx s t (i + 1) - i).toNat = (conIx s t (i + 1) - (i + 1)).toNat + 1 by omega, List.getElem?_cons_succ]
      exact g3
end
end Go.Hb
namespace Go.Hb
open Go.Proofs
noncomputable abbrev hoh180 (p : Prog) : Nat × AObj × Bool := (0, (.cells (putCells .leaf 0 [(iN p.nodes), (iI p.funs), (nI p.main), (iC p.cons)]) 4 [] false), false)
noncomputable abbrev hoh181 (q : Prog) : Nat × AObj × Bool := (1, (.cells (putCells .leaf 0 [(iN q.nodes), (iI q.funs), (nI q.main), (iC q.cons)]) 4 [] false), false)
noncomputable abbrev hoh182 (q : Prog) : Nat × AObj × Bool := (0, (.cells (putCells .leaf 0 [(iN q.nodes), (iI q.funs), (nI q.main), (iC q.cons)]) 4 [] false), false)
noncomputable abbrev hoh183 (zn0 : List Node) (zu1 : List Int) (zm2 : Int) (zc3 : List Con) : Nat × AObj × Bool := (2, (.cells (putCells .leaf 0 [(.gl 4 4 0 zn0.length false), (.gl 5 1 0 zu1.length false), (nI zm2), (.gl 6 2 0 zc3.length false)]) 4 [] false), false)
noncomputable abbrev hoh184  : Nat × AObj × Bool := (2, (.cells (putCells .leaf 0 [.nils, .nils, (nI 0), .nils]) 4 [] false), false)
noncomputable abbrev hoh185  : Nat × AObj × Bool := (1, (.cells (putCells .leaf 0 [.nils, .nils, (nI 0), .nils]) 4 [] false), false)
noncomputable abbrev hoh186  : Nat × AObj × Bool := (3, (.cells (putCells .leaf 0 [(.map 7), (.map 8)]) 2 [] false), false)
noncomputable abbrev hoh187 (m8 : List (Int × Int)) : Nat × AObj × Bool := (8, (.map (mEnts avI avI 0 m8) m8.length), true)
noncomputable abbrev hoh188 (m7 : List (Int × Int)) : Nat × AObj × Bool := (7, (.map (mEnts avI avI 0 m7) m7.length), true)
noncomputable def bJn_s (p q : Prog) : TS := startH PP 8 [(Prog.av p), (Prog.av q)] [] 0
noncomputable def bJn_c0 (p q : Prog)  : TS :=
 { fr := { fn := 8, nt := 131, sl := [(2, (.ptr 0 0)), (3, (.ptr 1 0)), (4, (.ptr 2 0)), (5, (nI 0))], todo := [.code (cd Tryz.f8 [1, 1, 0]), .code (cd Tryz.f8 [1, 1, 1])] }, cs := [], hp := [hoh180 p, hoh181 q, hoh184], nb := 3 }
noncomputable def bJn_c1 (p q : Prog) (zm2 : Int) (zn0 : List Node) (zu1 : List Int) (zc3 : List Con) (t44 : Int) (m8 : List (Int × Int)) : TS :=
 { fr := { fn := 8, nt := 131, sl := [(2, (.ptr 0 0)), (3, (.ptr 1 0)), (4, (.ptr 2 0)), (5, (nI 0)), (9, (.ptr 3 0)), (11, (.ptr 4 0)), (43, (nI (q.funs.length : Int))), (44, (nI t44))], todo := [.code (cd Tryz.f8 [1, 1, 1, 1, 0, 1, 0, 0]), .inLoop (cd Tryz.f8 [1, 1, 1, 1, 0, 1, 0, 0]), .inBlock 2, .code (cd Tryz.f8 [1, 1, 1, 1, 1])] }, cs := [], hp := [hoh180 p, hoh181 q, hoh184, (3, (.cells (putCells .leaf 0 [(.gl 5 4 0 zn0.length false), (.gl 6 1 0 zu1.length false), (nI zm2), (.gl 7 2 0 zc3.length false)]) 4 [] false), false), (4, (.cells (putCells .leaf 0 [(.map 8), (.map 9)]) 2 [] false), false), (5, (.lst 4 (jN zn0)), true), (6, (.lst 1 (jI zu1)), true), (7, (.lst 2 (jC zc3)), true), hoh187 m8, (9, (.map (mEnts avI avI 0 ([] : List (Int × Int))) ([] : List (Int × Int)).length), true)], nb := 10 }
noncomputable def bJn_c2 (p q : Prog) (zm2 : Int) (zn0 : List Node) (zu1 : List Int) (zc3 : List Con) (m7 : List (Int × Int)) (t59 : Int) (m8 : List (Int × Int)) : TS :=
 { fr := { fn := 8, nt := 131, sl := [(3, (.ptr 0 0)), (4, (.ptr 1 0)), (5, (nI 0)), (9, (.ptr 2 0)), (11, (.ptr 3 0)), (57, (iC q.cons)), (58, (nI (q.cons.length : Int))), (59, (nI t59))], todo := [.code (cd Tryz.f8 [1, 1, 1, 1, 1, 0, 1, 0, 0]), .inLoop (cd Tryz.f8 [1, 1, 1, 1, 1, 0, 1, 0, 0]), .inBlock 4, .code (cd Tryz.f8 [1, 1, 1, 1, 1, 1])] }, cs := [], hp := [hoh182 q, hoh185, hoh183 zn0 zu1 zm2 zc3, hoh186, (4, (.lst 4 (jN zn0)), true), (5, (.lst 1 (jI zu1)), true), (6, (.lst 2 (jC zc3)), true), hoh188 m7, hoh187 m8], nb := 9 }
noncomputable def bJn_c3 (p q : Prog) (t7 : Int) (zc3 : List Con) (c1_0 : Str) (c1_1 zm2 : Int) (zn0 : List Node) (zu1 : List Int) (m7 : List (Int × Int)) (t8 i13 t59 : Int) (m9 : List (Int × Int)) : TS :=
 { fr := { fn := 32, nt := 19, sl := [(0, (.gl 0 2 0 zc3.length false)), (1, (.func 33 [] [(.ptr 1 0)])), (4, (nI 0)), (7, (nI t7)), (8, (nI t8))], todo := [.code (cd Tryz.f32 [1, 0, 1, 0, 0]), .inLoop (cd Tryz.f32 [1, 0, 1, 0, 0]), .inBlock 0, .code (cd Tryz.f32 [1, 1])] }, cs := [{ fn := 8, nt := 131, sl := [(3, (.ptr 2 0)), (4, (.ptr 3 0)), (5, (nI 0)), (9, (.ptr 4 0)), (11, (.ptr 5 0)), (13, (nI i13)), (14, (.ptr 1 0)), (57, (iC q.cons)), (58, (nI (q.cons.length : Int))), (59, (nI t59)), (65, (.gl 0 2 0 zc3.length false)), (66, (.func 33 [] [(.ptr 1 0)]))], todo := [opsAt Tryz.f8 [1, 1, 1, 1, 1, 0, 1, 0, 0, 1, 1, 0, 0, 1, 0] 3, .code (cd Tryz.f8 [1, 1, 1, 1, 1, 0, 1, 0, 0, 1, 1, 0, 0, 1, 1]), .inBlock 5, .code (cd Tryz.f8 [1, 1, 1, 1, 1, 0, 1, 0, 0, 1, 1, 1]), .inLoop (cd Tryz.f8 [1, 1, 1, 1, 1, 0, 1, 0, 0]), .inBlock 4, .code (cd Tryz.f8 [1, 1, 1, 1, 1, 1])] }], hp := [(0, (.lst 2 (jC zc3)), true), (1, (.cells (putCells .leaf 0 [(avS c1_0), (nI c1_1)]) 2 [] false), false), (2, (.cells (putCells .leaf 0 [(iN q.nodes), (iI q.funs), (nI q.main), (iC q.cons)]) 4 [] false), false), (3, (.cells (putCells .leaf 0 [.nils, .nils, (nI 0), .nils]) 4 [] false), false), (4, (.cells (putCells .leaf 0 [(.gl 6 4 0 zn0.length false), (.gl 7 1 0 zu1.length false), (nI zm2), (.gl 0 2 0 zc3.length false)]) 4 [] false), false), (5, (.cells (putCells .leaf 0 [(.map 8), (.map 9)]) 2 [] false), false), (6, (.lst 4 (jN zn0)), true), (7, (.lst 1 (jI zu1)), true), (8, (.map (mEnts avI avI 0 m7) m7.length), true), (9, (.map (mEnts avI avI 0 m9) m9.length), true)], nb := 10 }
noncomputable def bJn_c4 (p q : Prog) (zm2 : Int) (zn0 : List Node) (zu1 : List Int) (zc3 : List Con) (m7 m8 : List (Int × Int)) : TS :=
 { fr := { fn := 8, nt := 131, sl := [(3, (.ptr 0 0)), (4, (.ptr 1 0)), (5, (nI 0)), (9, (.ptr 2 0)), (11, (.ptr 3 0))], todo := [.code (cd Tryz.f8 [1, 1, 1, 1, 1, 1, 0]), .code (cd Tryz.f8 [1, 1, 1, 1, 1, 1, 1])] }, cs := [], hp := [hoh182 q, hoh185, hoh183 zn0 zu1 zm2 zc3, hoh186, (4, (.lst 4 (jN zn0)), true), (5, (.lst 1 (jI zu1)), true), (6, (.lst 2 (jC zc3)), true), hoh188 m7, hoh187 m8], nb := 9 }
theorem bJn_E_2 (p q : Prog) (y0 y1 : Int) (h0 : Pure PP 10 [(Prog.av p)] (nI y0)) (h1 : (y0 != (0 : Int)) = false) (h2 : Pure PP 10 [(Prog.av q)] (nI y1)) (h3 : (y1 != (0 : Int)) = false) :
  LeadsM PP 0 (bJn_s p q).as (bJn_c0 p q ).as :=
 wW 6 [0, 1, 2] [qp h0, qp h1, qp h2, qp h3] [rn 37, .pure (nI y0), rn 7, bf 29, rn 27, .pure (nI y1), rn 7, bf 29, rn 16] trivial
theorem bJn_0_0 (p q : Prog) (zn0 : List Node) (zu1 : List Int) (zm2 : Int) (zc3 : List Con) (h0 : Spec PP (.enter 9 [(Prog.av p)]) (hpOf [hoh180 p, hoh181 q, hoh184] 3) (.ret (.tup [(.agg [(.gl 3 4 0 zn0.length false), (.gl 4 1 0 zu1.length false), (nI zm2), (.gl 5 2 0 zc3.length false)]), (nI 0)])) (hpOf [hoh180 p, hoh181 q, hoh184, (3, (.lst 4 (jN zn0)), true), (4, (.lst 1 (jI zu1)), true), (5, (.lst 2 (jC zc3)), true)] 6)) :
  LeadsM PP 0 (bJn_c0 p q ).as (bJn_c1 p q zm2 zn0 zu1 zc3 0 ([] : List (Int × Int))).as :=
 wW 10 [0, 1, 2, 6, 9, 3, 4, 5, 7, 8] [qp h0, qp (p := ([] : List (AV × AV × Nat)) = (mEnts avI avI 0 ([] : List (Int × Int)))) rfl, qp (p := 0 = List.length ([] : List (Int × Int))) rfl, qp (p := ([] : List (AV × AV × Nat)) = (mEnts avI avI 0 ([] : List (Int × Int)))) rfl, qp (p := 0 = List.length ([] : List (Int × Int))) rfl, ql avI q.funs] [rn 2, .call (.tup [(.agg [(.gl 3 4 0 zn0.length false), (.gl 4 1 0 zu1.length false), (nI zm2), (.gl 5 2 0 zc3.length false)]), (nI 0)]) (hpOf [hoh180 p, hoh181 q, hoh184, (3, (.lst 4 (jN zn0)), true), (4, (.lst 1 (jI zu1)), true), (5, (.lst 2 (jC zc3)), true)] 6), rn 10, .mset 7 (mEnts avI avI 0 ([] : List (Int × Int))) ([] : List (Int × Int)).length, rn 1, .mset 8 (mEnts avI avI 0 ([] : List (Int × Int))) ([] : List (Int × Int)).length, rn 9, aL q.funs, rn 4] ⟨kk, ⟨kk, ⟨kk, ⟨kl_map (fun _ => rfl) (fun _ => rfl) _ _ _, ⟨kl_map (fun _ => rfl) (fun _ => rfl) _ _ _, trivial⟩⟩⟩⟩⟩
theorem bJn_1_0 (p q : Prog) (zm2 : Int) (zn0 : List Node) (zu1 : List Int) (zc3 : List Con) (t44 : Int) (m8 : List (Int × Int)) (h0 : decide (t44 < (q.funs.length : Int)) = true) (h1 : (IntKind.i64.wrap ((p.funs.length : Int) + t44)) = ((p.funs.length : Int) + t44)) (h2 : (IntKind.i64.wrap (t44 + (1 : Int))) = (t44 + (1 : Int))) :
  LeadsM PP 0 (bJn_c1 p q zm2 zn0 zu1 zc3 t44 m8).as (bJn_c1 p q zm2 zn0 zu1 zc3 (t44 + (1 : Int)) (mIns t44 ((p.funs.length : Int) + t44) m8)).as :=
 wW 10 [0, 1, 2, 3, 4, 5, 6, 7, 8, 9] [qp h0, ql avI p.funs, qp (congrArg (AV.int .i64) h1), qp (p := mapPut (mEnts avI avI 0 m8) m8.length (avI t44) (avI ((p.funs.length : Int) + t44)) = some ((mEnts avI avI 0 (mIns t44 ((p.funs.length : Int) + t44) m8)), List.length (mIns t44 ((p.funs.length : Int) + t44) m8))) (map_put key_avI _ _ _), qp (congrArg (AV.int .i64) h2)] [rn 5, bt 45, rn 15, aL p.funs, rn 2, sI 54 ((p.funs.length : Int) + t44), .mput (mEnts avI avI 0 (mIns t44 ((p.funs.length : Int) + t44) m8)) (mIns t44 ((p.funs.length : Int) + t44) m8).length, rn 4, sI 55 (t44 + (1 : Int)), rn 3] ⟨kk, ⟨kk, ⟨kk, ⟨kl_map (fun _ => rfl) (fun _ => rfl) _ _ _, ⟨kl_map (fun _ => rfl) (fun _ => rfl) _ _ _, trivial⟩⟩⟩⟩⟩
theorem bJn_1_1 (p q : Prog) (zm2 : Int) (zn0 : List Node) (zu1 : List Int) (zc3 : List Con) (t44 : Int) (m8 : List (Int × Int)) (h0 : decide (t44 < (q.funs.length : Int)) = false) :
  LeadsM PP 0 (bJn_c1 p q zm2 zn0 zu1 zc3 t44 m8).as (bJn_c2 p q zm2 zn0 zu1 zc3 m8 0 ([] : List (Int × Int))).as :=
 wW 10 [1, 2, 3, 4, 5, 6, 7, 8, 9] [qp h0, ql Con.av q.cons] [rn 5, bf 45, rn 7, aL q.cons, rn 4] ⟨kk, ⟨kk, ⟨kk, ⟨kl_map (fun _ => rfl) (fun _ => rfl) _ _ _, ⟨kl_map (fun _ => rfl) (fun _ => rfl) _ _ _, trivial⟩⟩⟩⟩⟩
theorem bJn_2_0 (p q : Prog) (zm2 : Int) (zn0 : List Node) (zu1 : List Int) (zc3 : List Con) (m7 : List (Int × Int)) (t59 : Int) (m8 : List (Int × Int)) (y0 : Con) (h0 : decide (t59 < (q.cons.length : Int)) = true) (h1 : 0 ≤ t59) (h2 : ((q.cons)[t59.toNat]?) = some y0) :
  LeadsM PP 0 (bJn_c2 p q zm2 zn0 zu1 zc3 m7 t59 m8).as (bJn_c3 p q ((zc3.length : Nat) : Int) zc3 y0.name y0.args zm2 zn0 zu1 m7 0 t59 t59 m8).as :=
 wW 10 [6, 9, 0, 1, 2, 3, 4, 5, 7, 8] [qp h0, qp h1, qg Con.av h2] [rn 5, bt 60, rn 7, aI (Con.av y0), rn 24] ⟨kk, ⟨kk, ⟨kk, ⟨kl_map (fun _ => rfl) (fun _ => rfl) _ _ _, ⟨kl_map (fun _ => rfl) (fun _ => rfl) _ _ _, trivial⟩⟩⟩⟩⟩
theorem bJn_2_1 (p q : Prog) (zm2 : Int) (zn0 : List Node) (zu1 : List Int) (zc3 : List Con) (m7 : List (Int × Int)) (t59 : Int) (m8 : List (Int × Int)) (h0 : decide (t59 < (q.cons.length : Int)) = false) :
  LeadsM PP 0 (bJn_c2 p q zm2 zn0 zu1 zc3 m7 t59 m8).as (bJn_c4 p q zm2 zn0 zu1 zc3 m7 m8).as :=
 wW 9 [0, 1, 2, 3, 4, 5, 6, 7, 8] [qp h0] [rn 5, bf 60, rn 3] ⟨kk, ⟨kk, ⟨kk, ⟨kl_map (fun _ => rfl) (fun _ => rfl) _ _ _, ⟨kl_map (fun _ => rfl) (fun _ => rfl) _ _ _, trivial⟩⟩⟩⟩⟩
theorem bJn_3_1 (p q : Prog) (t7 : Int) (zc3 : List Con) (c1_0 : Str) (c1_1 zm2 : Int) (zn0 : List Node) (zu1 : List Int) (m7 : List (Int × Int)) (t8 i13 t59 : Int) (m9 : List (Int × Int)) (y0 : Con) (h0 : decide (t8 < t7) = true) (h1 : 0 ≤ t8) (h2 : t8 < ((zc3.length : Nat) : Int)) (h3 : ((zc3)[t8.toNat]?) = some y0) (h4 : (strEq y0.name.length (bytesNat y0.name) c1_0.length (bytesNat c1_0)) = true) (h5 : decide (t8 < (0 : Int)) = false) (h6 : (y0.args != c1_1) = true) :
  Ends PP 0 (bJn_c3 p q t7 zc3 c1_0 c1_1 zm2 zn0 zu1 m7 t8 i13 t59 m9).as (.ret (.tup [(.agg [(.ilst 4 (jN ([] : List Node)) true), (.ilst 1 (jI ([] : List Int)) true), (nI 0), (.ilst 2 (jC ([] : List Con)) true)]), (nI 7)])) (hpOf [] 0) :=
 wE 11 [] [qp h0, qp h1, qp h2, qh Con.av h3, qp h4, qp h5, qp h1, qp h2, qh Con.av h3, qp h6] [rn 5, bt 9, rn 14, .ans (.ix), aI (Con.av y0), rn 18, bt 16, rn 17, bf 72, rn 2, .reg [.d, .d, .d, .ans (.ix), .d, .ans (.idx (Con.av y0)), .d, .d, .d, .d], bt 87, rn 8, .cnilI 3 0 4, .cnilI 3 1 1, .cnilI 3 3 2] trivial
theorem bJn_3_2 (p q : Prog) (t7 : Int) (zc3 : List Con) (c1_0 : Str) (c1_1 zm2 : Int) (zn0 : List Node) (zu1 : List Int) (m7 : List (Int × Int)) (t8 i13 t59 : Int) (m9 : List (Int × Int)) (y0 : Con) (h0 : decide (t8 < t7) = true) (h1 : 0 ≤ t8) (h2 : t8 < ((zc3.length : Nat) : Int)) (h3 : ((zc3)[t8.toNat]?) = some y0) (h4 : (strEq y0.name.length (bytesNat y0.name) c1_0.length (bytesNat c1_0)) = true) (h5 : decide (t8 < (0 : Int)) = false) (h6 : (y0.args != c1_1) = false) (h7 : (IntKind.i64.wrap (t59 + (1 : Int))) = (t59 + (1 : Int))) :
  LeadsM PP 0 (bJn_c3 p q t7 zc3 c1_0 c1_1 zm2 zn0 zu1 m7 t8 i13 t59 m9).as (bJn_c2 p q zm2 zn0 zu1 zc3 m7 (t59 + (1 : Int)) (mIns i13 t8 m9)).as :=
 wW 11 [2, 3, 4, 5, 6, 7, 0, 8, 9] [qp h0, qp h1, qp h2, qh Con.av h3, qp h4, qp h5, qp h1, qp h2, qh Con.av h3, qp h6, qp (p := mapPut (mEnts avI avI 0 m9) m9.length (avI i13) (avI t8) = some ((mEnts avI avI 0 (mIns i13 t8 m9)), List.length (mIns i13 t8 m9))) (map_put key_avI _ _ _), qp (congrArg (AV.int .i64) h7)] [rn 5, bt 9, rn 14, .ans (.ix), aI (Con.av y0), rn 18, bt 16, rn 17, bf 72, rn 2, .reg [.d, .d, .d, .ans (.ix), .d, .ans (.idx (Con.av y0)), .d, .d, .d, .d], bf 87, rn 6, .mput (mEnts avI avI 0 (mIns i13 t8 m9)) (mIns i13 t8 m9).length, rn 5, sI 98 (t59 + (1 : Int)), rn 3] ⟨kk, ⟨kk, ⟨kk, ⟨kl_map (fun _ => rfl) (fun _ => rfl) _ _ _, ⟨kl_map (fun _ => rfl) (fun _ => rfl) _ _ _, trivial⟩⟩⟩⟩⟩
theorem bJn_3_3 (p q : Prog) (t7 : Int) (zc3 : List Con) (c1_0 : Str) (c1_1 zm2 : Int) (zn0 : List Node) (zu1 : List Int) (m7 : List (Int × Int)) (t8 i13 t59 : Int) (m9 : List (Int × Int)) (y0 : Con) (h0 : decide (t8 < t7) = true) (h1 : 0 ≤ t8) (h2 : t8 < ((zc3.length : Nat) : Int)) (h3 : ((zc3)[t8.toNat]?) = some y0) (h4 : (strEq y0.name.length (bytesNat y0.name) c1_0.length (bytesNat c1_0)) = false) (h5 : (IntKind.i64.wrap (t8 + (1 : Int))) = (t8 + (1 : Int))) :
  LeadsM PP 0 (bJn_c3 p q t7 zc3 c1_0 c1_1 zm2 zn0 zu1 m7 t8 i13 t59 m9).as (bJn_c3 p q t7 zc3 c1_0 c1_1 zm2 zn0 zu1 m7 (t8 + (1 : Int)) i13 t59 m9).as :=
 wW 11 [0, 1, 2, 3, 4, 5, 6, 7, 8, 9] [qp h0, qp h1, qp h2, qh Con.av h3, qp h4, qp (congrArg (AV.int .i64) h5)] [rn 5, bt 9, rn 14, .ans (.ix), aI (Con.av y0), rn 18, bf 16, rn 5, sI 18 (t8 + (1 : Int)), rn 3] ⟨kk, ⟨kk, ⟨kk, ⟨kl_map (fun _ => rfl) (fun _ => rfl) _ _ _, ⟨kl_map (fun _ => rfl) (fun _ => rfl) _ _ _, trivial⟩⟩⟩⟩⟩
theorem bJn_3_4 (p q : Prog) (t7 : Int) (zc3 : List Con) (c1_0 : Str) (c1_1 zm2 : Int) (zn0 : List Node) (zu1 : List Int) (m7 : List (Int × Int)) (t8 i13 t59 : Int) (m9 : List (Int × Int)) (h0 : decide (t8 < t7) = false) (h1 : List.length (zc3 ++ [(Con.mk c1_0 c1_1)]) ≤ 1000000) (h2 : (IntKind.i64.wrap (t59 + (1 : Int))) = (t59 + (1 : Int))) :
  LeadsM PP 0 (bJn_c3 p q t7 zc3 c1_0 c1_1 zm2 zn0 zu1 m7 t8 i13 t59 m9).as (bJn_c2 p q zm2 zn0 zu1 (zc3 ++ [(Con.mk c1_0 c1_1)]) m7 (t59 + (1 : Int)) (mIns i13 ((zc3.length : Nat) : Int) m9)).as :=
 wW 12 [2, 3, 4, 5, 6, 7, 11, 8, 9] [qp h0, qp (p := mapPut (mEnts avI avI 0 m9) m9.length (avI i13) (avI ((zc3.length : Nat) : Int)) = some ((mEnts avI avI 0 (mIns i13 ((zc3.length : Nat) : Int) m9)), List.length (mIns i13 ((zc3.length : Nat) : Int) m9))) (map_put key_avI _ _ _), qp (app_p1 Con.av zc3), qp h1, qp (app_p3 Con.av zc3 [(Con.mk c1_0 c1_1)]), qp (app_p4 Con.av zc3 [(Con.mk c1_0 c1_1)]), qp (congrArg (AV.int .i64) h2)] [rn 5, bf 9, rn 26, .mput (mEnts avI avI 0 (mIns i13 ((zc3.length : Nat) : Int) m9)) (mIns i13 ((zc3.length : Nat) : Int) m9).length, rn 6, .app (jC (zc3 ++ [(Con.mk c1_0 c1_1)])) (zc3 ++ [(Con.mk c1_0 c1_1)]).length, rn 7, sI 98 (t59 + (1 : Int)), rn 3] ⟨kk, ⟨kk, ⟨kk, ⟨kl_map (fun _ => rfl) (fun _ => rfl) _ _ _, ⟨kl_map (fun _ => rfl) (fun _ => rfl) _ _ _, trivial⟩⟩⟩⟩⟩
theorem bJn_4_0 (p q : Prog) (zm2 : Int) (zn0 : List Node) (zu1 : List Int) (zc3 : List Con) (m7 m8 : List (Int × Int)) (wn0 : List Node) (wu1 : List Int) (h0 : Spec PP (.enter 34 [(Prog.av q), (nI ((zn0.length : Nat) : Int)), (.func 35 [] []), (.agg [(.map 7), (.map 8)])]) (hpOf [hoh182 q, hoh185, hoh183 zn0 zu1 zm2 zc3, hoh186, (4, (.lst 4 (jN zn0)), true), (5, (.lst 1 (jI zu1)), true), (6, (.lst 2 (jC zc3)), true), hoh188 m7, hoh187 m8] 9) (.ret (.tup [(iN wn0), (iI wu1)])) (hpOf [hoh182 q, hoh185, hoh183 zn0 zu1 zm2 zc3, hoh186, (4, (.lst 4 (jN zn0)), true), (5, (.lst 1 (jI zu1)), true), (6, (.lst 2 (jC zc3)), true), hoh188 m7, hoh187 m8] 9)) (h1 : List.length (zn0 ++ wn0) ≤ 1000000) (h2 : List.length (zu1 ++ wu1) ≤ 1000000) (h3 : (decide ((((zn0 ++ wn0).length : Nat) : Int) > (300 : Int))) = true) :
  Ends PP 0 (bJn_c4 p q zm2 zn0 zu1 zc3 m7 m8).as (.ret (.tup [(.agg [(.ilst 4 (jN ([] : List Node)) true), (.ilst 1 (jI ([] : List Int)) true), (nI 0), (.ilst 2 (jC ([] : List Con)) true)]), (nI 3)])) (hpOf [] 0) :=
 wE 11 [] [qp h0, qp (app_p1 Node.av zn0), qp h1, qp (app_p3 Node.av zn0 wn0), qp (app_p4 Node.av zn0 wn0), qp (app_p1 avI zu1), qp h2, qp (app_p3 avI zu1 wu1), qp (app_p4 avI zu1 wu1), qr (AV.gl 5 1 0 zu1.length false), qr (AV.gl 5 1 0 zu1.length false), qp h3] [rn 7, .call (.tup [(iN wn0), (iI wu1)]) (hpOf [hoh182 q, hoh185, hoh183 zn0 zu1 zm2 zc3, hoh186, (4, (.lst 4 (jN zn0)), true), (5, (.lst 1 (jI zu1)), true), (6, (.lst 2 (jC zc3)), true), hoh188 m7, hoh187 m8] 9), rn 7, .reg [.d, .d, .d, .app (jN (zn0 ++ wn0)) (zn0 ++ wn0).length, .d, .d, .d, .app (jI (zu1 ++ wu1)) (zu1 ++ wu1).length, .d, .d, .d, .d], rn 8, bt 123, rn 14, .cnilI 1 0 4, .cnilI 1 1 1, .cnilI 1 3 2] trivial
theorem bJn_4_1 (p q : Prog) (zm2 : Int) (zn0 : List Node) (zu1 : List Int) (zc3 : List Con) (m7 m8 : List (Int × Int)) (wn0 : List Node) (wu1 : List Int) (h0 : Spec PP (.enter 34 [(Prog.av q), (nI ((zn0.length : Nat) : Int)), (.func 35 [] []), (.agg [(.map 7), (.map 8)])]) (hpOf [hoh182 q, hoh185, hoh183 zn0 zu1 zm2 zc3, hoh186, (4, (.lst 4 (jN zn0)), true), (5, (.lst 1 (jI zu1)), true), (6, (.lst 2 (jC zc3)), true), hoh188 m7, hoh187 m8] 9) (.ret (.tup [(iN wn0), (iI wu1)])) (hpOf [hoh182 q, hoh185, hoh183 zn0 zu1 zm2 zc3, hoh186, (4, (.lst 4 (jN zn0)), true), (5, (.lst 1 (jI zu1)), true), (6, (.lst 2 (jC zc3)), true), hoh188 m7, hoh187 m8] 9)) (h1 : List.length (zn0 ++ wn0) ≤ 1000000) (h2 : List.length (zu1 ++ wu1) ≤ 1000000) (h3 : (decide ((((zn0 ++ wn0).length : Nat) : Int) > (300 : Int))) = false) (h4 : decide (((zc3.length : Nat) : Int) > (20 : Int)) = true) :
  Ends PP 0 (bJn_c4 p q zm2 zn0 zu1 zc3 m7 m8).as (.ret (.tup [(.agg [(.ilst 4 (jN ([] : List Node)) true), (.ilst 1 (jI ([] : List Int)) true), (nI 0), (.ilst 2 (jC ([] : List Con)) true)]), (nI 3)])) (hpOf [] 0) :=
 wE 11 [] [qp h0, qp (app_p1 Node.av zn0), qp h1, qp (app_p3 Node.av zn0 wn0), qp (app_p4 Node.av zn0 wn0), qp (app_p1 avI zu1), qp h2, qp (app_p3 avI zu1 wu1), qp (app_p4 avI zu1 wu1), qr (AV.gl 5 1 0 zu1.length false), qr (AV.gl 5 1 0 zu1.length false), qp h3, qp h4] [rn 7, .call (.tup [(iN wn0), (iI wu1)]) (hpOf [hoh182 q, hoh185, hoh183 zn0 zu1 zm2 zc3, hoh186, (4, (.lst 4 (jN zn0)), true), (5, (.lst 1 (jI zu1)), true), (6, (.lst 2 (jC zc3)), true), hoh188 m7, hoh187 m8] 9), rn 7, .reg [.d, .d, .d, .app (jN (zn0 ++ wn0)) (zn0 ++ wn0).length, .d, .d, .d, .app (jI (zu1 ++ wu1)) (zu1 ++ wu1).length, .d, .d, .d, .d], rn 8, bf 123, rn 6, bt 128, rn 8, .cnilI 1 0 4, .cnilI 1 1 1, .cnilI 1 3 2] trivial
theorem bJn_4_2 (p q : Prog) (zm2 : Int) (zn0 : List Node) (zu1 : List Int) (zc3 : List Con) (m7 m8 : List (Int × Int)) (wn0 : List Node) (wu1 : List Int) (h0 : Spec PP (.enter 34 [(Prog.av q), (nI ((zn0.length : Nat) : Int)), (.func 35 [] []), (.agg [(.map 7), (.map 8)])]) (hpOf [hoh182 q, hoh185, hoh183 zn0 zu1 zm2 zc3, hoh186, (4, (.lst 4 (jN zn0)), true), (5, (.lst 1 (jI zu1)), true), (6, (.lst 2 (jC zc3)), true), hoh188 m7, hoh187 m8] 9) (.ret (.tup [(iN wn0), (iI wu1)])) (hpOf [hoh182 q, hoh185, hoh183 zn0 zu1 zm2 zc3, hoh186, (4, (.lst 4 (jN zn0)), true), (5, (.lst 1 (jI zu1)), true), (6, (.lst 2 (jC zc3)), true), hoh188 m7, hoh187 m8] 9)) (h1 : List.length (zn0 ++ wn0) ≤ 1000000) (h2 : List.length (zu1 ++ wu1) ≤ 1000000) (h3 : (decide ((((zn0 ++ wn0).length : Nat) : Int) > (300 : Int))) = false) (h4 : decide (((zc3.length : Nat) : Int) > (20 : Int)) = false) :
  Ends PP 0 (bJn_c4 p q zm2 zn0 zu1 zc3 m7 m8).as (.ret (.tup [(.agg [(iN (zn0 ++ wn0)), (iI (zu1 ++ wu1)), (nI zm2), (iC zc3)]), (nI 0)])) (hpOf [] 0) :=
 wE 11 [] [qp h0, qp (app_p1 Node.av zn0), qp h1, qp (app_p3 Node.av zn0 wn0), qp (app_p4 Node.av zn0 wn0), qp (app_p1 avI zu1), qp h2, qp (app_p3 avI zu1 wu1), qp (app_p4 avI zu1 wu1), qr (AV.gl 5 1 0 zu1.length false), qr (AV.gl 5 1 0 zu1.length false), qp h3, qp h4, qp (p := AV.keylessL (jN (zn0 ++ wn0)) = true) (keylessL_map _ (fun _ => rfl) _), qp (p := AV.frzOk 9 4 (jN (zn0 ++ wn0)) (jN (zn0 ++ wn0)) (.gl 9 4 0 (zn0 ++ wn0).length false)) (frz_whole _ _), qp (p := AV.keylessL (jI (zu1 ++ wu1)) = true) (keylessL_map _ (fun _ => rfl) _), qp (p := AV.frzOk 10 1 (jI (zu1 ++ wu1)) (jI (zu1 ++ wu1)) (.gl 10 1 0 (zu1 ++ wu1).length false)) (frz_whole _ _), qp (p := AV.keylessL (jC zc3) = true) (keylessL_map _ (fun _ => rfl) _), qp (p := AV.frzOk 6 2 (jC zc3) (jC zc3) (.gl 6 2 0 zc3.length false)) (frz_whole _ _)] [rn 7, .call (.tup [(iN wn0), (iI wu1)]) (hpOf [hoh182 q, hoh185, hoh183 zn0 zu1 zm2 zc3, hoh186, (4, (.lst 4 (jN zn0)), true), (5, (.lst 1 (jI zu1)), true), (6, (.lst 2 (jC zc3)), true), hoh188 m7, hoh187 m8] 9), rn 7, .reg [.d, .d, .d, .app (jN (zn0 ++ wn0)) (zn0 ++ wn0).length, .d, .d, .d, .app (jI (zu1 ++ wu1)) (zu1 ++ wu1).length, .d, .d, .d, .d], rn 8, bf 123, rn 6, bf 128, rn 9, .cfrz 1 0 9 (jN (zn0 ++ wn0)), .cfrz 1 1 10 (jI (zu1 ++ wu1)), .cfrz 1 3 6 (jC zc3)] trivial
end Go.Hb
namespace Go.Hb
open Go.Proofs
set_option maxHeartbeats 2000000
noncomputable section
def mfJ (a : Nat) : Nat → List (Int × Int)
 | 0 => []
 | n+1 => mIns (n : Int) ((a : Int) + (n : Int)) (mfJ a n)
theorem mfJ_get (a : Nat) : ∀ (n : Nat) (i : Int), 0 ≤ i → i < n → mGet i (mfJ a n) = some ((a : Int) + i)
 | 0, i, h0, h1 => by omega
 | n+1, i, h0, h1 => by
  rw [mfJ, mGet_ins]
  by_cases h : i = (n : Int)
  · rw [if_pos h, h]
  · rw [if_neg h]; exact mfJ_get a n i h0 (by omega)
def joinB : List Con → Int → List Con → List (Int × Int) → Option (List Con × List (Int × Int))
 | [], _, zc, m => some (zc, m)
 | c :: t, i, zc, m =>
  if conIx c.name zc 0 < 0 then joinB t (i + 1) (zc ++ [c]) (mIns i ((zc.length : Nat) : Int) m)
  else match zc[(conIx c.name zc 0).toNat]? with
   | some d => if d.args = c.args then joinB t (i + 1) zc (mIns i (conIx c.name zc 0) m) else none
   | none => none
section
variable (p q : Prog) (mn : Int) (zn : List Node) (zu : List Int)
theorem bJn_funs (zc : List Con) (hp : p.funs.length ≤ 320) (hq : q.funs.length ≤ 320) : ∀ (j i : Nat), i + j = q.funs.length →
  LeadsM PP 0 (bJn_c1 p q mn zn zu zc (i : Int) (mfJ p.funs.length i)).as (bJn_c2 p q mn zn zu zc (mfJ p.funs.length q.funs.length) 0 []).as
 | 0, i, h => by
  obtain rfl : i = q.funs.length := by omega
  exact bJn_1_1 p q mn zn zu zc _ _ sd
 | j+1, i, h => (bJn_1_0 p q mn zn zu zc i _ sd sd sd).trans (bJn_funs zc hp hq j (i + 1) (by omega))
def FindGoal (zc : List Con) (c : Con) (mf : List (Int × Int)) (i : Int) (m : List (Int × Int)) (s : TS) (r : Int) : Prop :=
 if r < 0 then LeadsM PP 0 s.as (bJn_c2 p q mn zn zu (zc ++ [c]) mf (i + 1) (mIns i ((zc.length : Nat) : Int) m)).as
 else match zc[r.toNat]? with
  | some d => if d.args = c.args then LeadsM PP 0 s.as (bJn_c2 p q mn zn zu zc mf (i + 1) (mIns i r m)).as
   else Ends PP 0 s.as (.ret (.tup [errProg, .int .i64 7])) (hpOf [] 0)
  | none => True
theorem FindGoal.of {zc : List Con} {c : Con} {mf : List (Int × Int)} {i : Int} {m : List (Int × Int)} {s s' : TS} {r : Int} (h : LeadsM PP 0 s'.as s.as) (g : FindGoal p q mn zn zu zc c mf i m s r) : FindGoal p q mn zn zu zc c mf i m s' r := by
 unfold FindGoal at g ⊢
 split
 · rename_i hr
   rw [if_pos hr] at g
   exact h.trans g
 · rename_i hr
   rw [if_neg hr] at g
   split
   · rename_i d hd
     rw [hd] at g
     simp only at g
     split
     · rename_i e
       rw [if_pos e] at g
       exact h.trans g
     · rename_i e
       rw [if_neg e] at g
       exact h.ends g
   · trivial
theorem bJn_find (zc : List Con) (c : Con) (mf : List (Int × Int)) (i : Int) (m : List (Int × Int)) (hz : zc.length ≤ 1000) (hi0 : 0 ≤ i) (hi : i ≤ 1000) : ∀ (t : List Con) (j : Nat), zc.drop j = t →
  FindGoal p q mn zn zu zc c mf i m (bJn_c3 p q ((zc.length : Nat) : Int) zc c.name c.args mn zn zu mf (j : Int) i i m) (conIx c.name t j)
 | [], j, h => by
  have := dropN h
  exact bJn_3_4 p q _ zc c.name c.args mn zn zu mf j i i m sd (by simp; omega) sd
 | d :: t, j, h => by
  obtain ⟨g1, g2, g3⟩ := dropC h
  simp only [conIx]
  split
  · rename_i e
    have hs : strEq (List.length d.name) (bytesNat d.name) (List.length c.name) (bytesNat c.name) = true := by rw [strEq_eq]; simpa using e
    unfold FindGoal
    rw [if_neg (by omega), Int.toNat_natCast, g1]
    simp only
    split
    · rename_i ha
      exact bJn_3_2 p q _ zc c.name c.args mn zn zu mf j i i m d sd (by omega) (by omega) (by simpa using g1) hs sd (by simp [ha]) sd
    · rename_i ha
      exact bJn_3_1 p q _ zc c.name c.args mn zn zu mf j i i m d sd (by omega) (by omega) (by simpa using g1) hs sd (by simpa using ha)
  · rename_i e
    have hs : strEq (List.length d.name) (bytesNat d.name) (List.length c.name) (bytesNat c.name) = false := by rw [strEq_eq]; simpa using e
    exact FindGoal.of p q mn zn zu (bJn_3_3 p q _ zc c.name c.args mn zn zu mf j i i m d sd (by omega) (by omega) (by simpa using g1) hs sd) (bJn_find zc c mf i m hz hi0 hi t (j + 1) g2)
def ConsB (mf : List (Int × Int)) (s : TS) : Option (List Con × List (Int × Int)) → Prop
 | none => Ends PP 0 s.as (.ret (.tup [errProg, .int .i64 7])) (hpOf [] 0)
 | some r => LeadsM PP 0 s.as (bJn_c4 p q mn zn zu r.1 mf r.2).as
theorem ConsB.of {mf : List (Int × Int)} {s s' : TS} (h : LeadsM PP 0 s'.as s.as) : ∀ {r : Option (List Con × List (Int × Int))}, ConsB p q mn zn zu mf s r → ConsB p q mn zn zu mf s' r
 | none, g => h.ends g
 | some _, g => h.trans g
theorem bJn_cons (mf : List (Int × Int)) (hq : q.cons.length ≤ 25) : ∀ (t : List Con) (i : Nat) (zc : List Con) (m : List (Int × Int)), q.cons.drop i = t → zc.length ≤ 25 + i →
  ConsB p q mn zn zu mf (bJn_c2 p q mn zn zu zc mf (i : Int) m) (joinB t (i : Int) zc m)
 | [], i, zc, m, h, hz => by
  have := dropN h
  exact bJn_2_1 p q mn zn zu zc mf i m sd
 | c :: t, i, zc, m, h, hz => by
  obtain ⟨g1, g2, g3⟩ := dropC h
  have h0 := bJn_2_0 p q mn zn zu zc mf i m c sd (by omega) (by simpa using g1)
  have hf := FindGoal.of p q mn zn zu h0 (bJn_find p q mn zn zu zc c mf i m (by omega) (by omega) (by omega) zc 0 rfl)
  unfold FindGoal at hf
  simp only [joinB]
  simp only [Int.natCast_zero] at hf
  split
  · rename_i hk
    rw [if_pos hk] at hf
    exact ConsB.of p q mn zn zu hf (bJn_cons mf hq t (i + 1) (zc ++ [c]) _ g2 (by simp; omega))
  · rename_i hk
    rw [if_neg hk] at hf
    split
    · rename_i d hd
      rw [hd] at hf
      simp only at hf
      split
      · rename_i ha
        rw [if_pos ha] at hf
        exact ConsB.of p q mn zn zu hf (bJn_cons mf hq t (i + 1) zc _ g2 (by omega))
      · rename_i ha
        rw [if_neg ha] at hf
        exact hf
    · rename_i hd
      rcases conIx_range c.name zc 0 (by omega) with g | ⟨e1, e2, d, e3, e4⟩
      · omega
      · have e3 : zc[(conIx c.name zc 0).toNat]? = some d := by simpa using e3
        rw [hd] at e3; cases e3
end
theorem bJoin_ok {p q : Prog} (hsp : p.cons.length ≤ 25 ∧ p.funs.length ≤ 320 ∧ p.nodes.length ≤ 320) (hsq : q.cons.length ≤ 25 ∧ q.funs.length ≤ 320 ∧ q.nodes.length ≤ 320) (hp : Pure PP 10 [PA p] (.int .i64 0)) (hq : Pure PP 10 [PA q] (.int .i64 0))
  {zn : List Node} {zu : List Int} {mn : Int} {zc : List Con} (hzn : zn.length ≤ 320) (hzu : zu.length ≤ 320) (hzc : zc.length ≤ 25)
  (h17 : SpecN PP (.enter 9 [PA p]) (hpOf [] 0) (.ret (.tup [.agg [gN 0 zn, gI 1 zu, .int .i64 mn, gC 2 zc], .int .i64 0])) (hpOf [(0, LN zn, true), (1, LI zu, true), (2, LC zc, true)] 3)) :
  match joinB q.cons 0 zc [] with
  | none => Pure PP 8 [PA p, PA q] (.tup [errProg, .int .i64 7])
  | some (al, mc) => ∀ (wn : List Node) (wu : List Int), wn.length ≤ 320 → wu.length ≤ 320 →
   Spec PP (.enter 34 [PA q, .int .i64 ((zn.length : Nat) : Int), .func 35 [] [], .agg [.map 0, .map 1]]) (hpOf [(0, MO (mfJ p.funs.length q.funs.length), true), (1, MO mc, true)] 2) (.ret (.tup [.ilst 4 (List.map Node.av wn) false, .ilst 1 (List.map avI wu) false])) (hpOf [(0, MO (mfJ p.funs.length q.funs.length), true), (1, MO mc, true)] 2) →
   Pure PP 8 [PA p, PA q] (if zn.length + wn.length > 300 ∨ al.length > 20 then .tup [errProg, .int .i64 3] else .tup [PA ⟨zn ++ wn, zu ++ wu, mn, al⟩, .int .i64 0]) := by
 have hP : ∀ v, AV.keyless v = true → Ends PP 0 (bJn_s p q).as (.ret v) (hpOf [] 0) → Pure PP 8 [PA p, PA q] v := fun v hv h => pure_atH (s := bJn_s p q) (by kernel_rfl) (by kernel_rfl) (by simp [AV.keylessL, AV.keyless]) hv h
 have hE := bJn_E_2 p q 0 0 hp rfl hq rfl
 have h0 := bJn_0_0 p q zn zu mn zc (Eq.mp (by kernel_rfl) (spec_new (ks := []) (n2 := 3) (lc := [hoh180 p, hoh181 q, hoh184]) (x := [hoh180 p, hoh181 q, hoh184])
    (args' := [PA p]) h17 (by kernel_rfl) (by kernel_rfl) (by kernel_rfl) trivial (by kernel_rfl) (by kernel_rfl) (by kernel_rfl) (by kernel_rfl) ⟨ln_kl _, li_kl _, lc_kl _, trivial⟩ (by kernel_rfl)))
 have h1 := bJn_funs p q mn zn zu zc hsp.2.1 hsq.2.1 q.funs.length 0 (by omega)
 have h2 := ConsB.of p q mn zn zu (hE.trans (h0.trans h1)) (bJn_cons p q mn zn zu (mfJ p.funs.length q.funs.length) hsq.1 q.cons 0 zc [] rfl (by omega))
 simp only [Int.natCast_zero] at h2
 generalize joinB q.cons 0 zc [] = r at h2 ⊢
 cases r with
 | none => exact hP _ (by simp [AV.keylessL, AV.keyless]) h2
 | some r =>
  obtain ⟨al, mc⟩ := r
  intro wn wu hwn hwu h38
  have h2 : LeadsM PP 0 (bJn_s p q).as (bJn_c4 p q mn zn zu al (mfJ p.funs.length q.funs.length) mc).as := h2
  have hs : Spec PP (.enter 34 [PA q, .int .i64 ((zn.length : Nat) : Int), .func 35 [] [], .agg [.map 7, .map 8]]) (hpOf [hoh182 q, hoh185, hoh183 zn zu mn al, hoh186, (4, LN zn, true), (5, LI zu, true), (6, LC al, true), hoh188 (mfJ p.funs.length q.funs.length), hoh187 mc] 9)
    (.ret (.tup [.ilst 4 (List.map Node.av wn) false, .ilst 1 (List.map avI wu) false])) (hpOf [hoh182 q, hoh185, hoh183 zn zu mn al, hoh186, (4, LN zn, true), (5, LI zu, true), (6, LC al, true), hoh188 (mfJ p.funs.length q.funs.length), hoh187 mc] 9) :=
   spec_in (ks := [7, 8]) h38 (by kernel_rfl) (by simp [AV.keylessL, AV.keyless]) (by kernel_rfl) (by kernel_rfl) ⟨mo_kl _, mo_kl _, trivial⟩ (by kernel_rfl) ⟨mo_kl _, mo_kl _, trivial⟩ (by kernel_rfl) (by kernel_rfl) (by kernel_rfl) (by kernel_rfl) (by kernel_rfl) (by kernel_rfl) (by kernel_rfl) (by kernel_rfl)
  split
  · rename_i hbig
    refine hP _ (by simp [AV.keylessL, AV.keyless]) (h2.ends ?_)
    by_cases h300 : zn.length + wn.length > 300
    · exact bJn_4_0 p q mn zn zu al _ mc wn wu hs (by simp; omega) (by simp; omega) (by simp; omega)
    · exact bJn_4_1 p q mn zn zu al _ mc wn wu hs (by simp; omega) (by simp; omega) (by simp; omega) (by simp; omega)
  · rename_i hsm
    refine hP _ (by simp [AV.keylessL, AV.keyless]) (h2.ends ?_)
    exact bJn_4_2 p q mn zn zu al _ mc wn wu hs (by simp; omega) (by simp; omega) (by simp; omega) (by simp; omega)
end
end Go.Hb
namespace Go.Hb
open Go.Proofs
noncomputable def rsI_c0 (a : List Int) (i5 : Int) : TS :=
 { fr := { fn := 39, nt := 26, sl := [(0, (iI a)), (1, (iI a)), (4, (bV false)), (5, (nI i5))], todo := [.code (cd Tryz.f39 [1, 1, 0, 1, 0, 0]), .inLoop (cd Tryz.f39 [1, 1, 0, 1, 0, 0]), .inBlock 0, .code (cd Tryz.f39 [1, 1, 1])] }, cs := [], hp := [], nb := 0 }
theorem rsI_E_1 (a : List Int) (h0 : ((a.length : Int) != (a.length : Int)) = false) :
  LeadsM PP 0 (start PP 39 [(iI a), (iI a)]).as (rsI_c0 a 0).as :=
 wW 0 [] [ql avI a, ql avI a, qp h0] [rn 8, aL a, rn 1, aL a, rn 2, bf 10, rn 9] trivial
theorem rsI_0_1 (a : List Int) (i5 y0 : Int) (h0 : decide (i5 < (a.length : Int)) = true) (h1 : 0 ≤ i5) (h2 : ((a)[i5.toNat]?) = some y0) (h3 : (y0 != y0) = false) (h4 : (IntKind.i64.wrap (i5 + (1 : Int))) = (i5 + (1 : Int))) :
  LeadsM PP 0 (rsI_c0 a i5).as (rsI_c0 a (i5 + (1 : Int))).as :=
 wW 0 [] [ql avI a, qp h0, qp h1, qg avI h2, qp h1, qg avI h2, qp h3, qp (congrArg (AV.int .i64) h4)] [rn 5, aL a, rn 2, bt 14, rn 5, .reg [.d, .d, .ans (.idx (avI y0)), .d, .d, .d, .ans (.idx (avI y0)), .d, .d], bf 25, rn 6, sI 16 (i5 + (1 : Int)), rn 3] trivial
theorem rsI_0_2 (a : List Int) (i5 : Int) (h0 : decide (i5 < (a.length : Int)) = false) :
  Ends PP 0 (rsI_c0 a i5).as (.ret (bV true)) (hpOf [] 0) :=
 wE 0 [] [ql avI a, qp h0] [rn 5, aL a, rn 2, bf 14, rn 7] trivial
noncomputable def rsP_c0 (q_form q_n : Int) (q_text : Str) (q_parts : List Pat) (i5 : Int) : TS :=
 { fr := { fn := 86, nt := 53, sl := [(2, (.ptr 0 0)), (3, (.ptr 1 0)), (4, (bV false)), (5, (nI i5))], todo := [.code (cd Tryz.f86 [1, 1, 0, 1, 0, 0]), .inLoop (cd Tryz.f86 [1, 1, 0, 1, 0, 0]), .inBlock 0, .code (cd Tryz.f86 [1, 1, 1])] }, cs := [], hp := [(0, (.cells (putCells .leaf 0 [(nI q_form), (nI q_n), (avS q_text), (iP q_parts)]) 4 [] false), false), (1, (.cells (putCells .leaf 0 [(nI q_form), (nI q_n), (avS q_text), (iP q_parts)]) 4 [] false), false)], nb := 2 }
theorem rsP_E_4 (q_form q_n : Int) (q_text : Str) (q_parts : List Pat) (h0 : (q_form != q_form) = false) (h1 : (q_n != q_n) = false) (h2 : (!(strEq q_text.length (bytesNat q_text) q_text.length (bytesNat q_text))) = false) (h3 : ((q_parts.length : Int) != (q_parts.length : Int)) = false) :
  LeadsM PP 0 (start PP 86 [(.agg [(nI q_form), (nI q_n), (avS q_text), (iP q_parts)]), (.agg [(nI q_form), (nI q_n), (avS q_text), (iP q_parts)])]).as (rsP_c0 q_form q_n q_text q_parts 0).as :=
 wW 2 [0, 1] [qp h0, qp h1, qp h2, qlP q_parts, qlP q_parts, qp h3] [rn 15, bf 11, rn 7, bf 18, rn 7, bf 25, rn 2, aL q_parts, rn 2, aL q_parts, rn 3, bf 33, rn 9] trivial
theorem rsP_0_1 (q_form q_n : Int) (q_text : Str) (q_parts : List Pat) (i5 y_form0 y_n1 : Int) (y_text2 : Str) (y_parts3 : List Pat) (y4 : Bool) (h0 : decide (i5 < (q_parts.length : Int)) = true) (h1 : 0 ≤ i5) (h2 : ((q_parts)[i5.toNat]?) = some (Pat.mk y_form0 y_n1 y_text2 y_parts3)) (h3 : Pure PP 86 [(.agg [(nI y_form0), (nI y_n1), (avS y_text2), (iP y_parts3)]), (.agg [(nI y_form0), (nI y_n1), (avS y_text2), (iP y_parts3)])] (bV y4)) (h4 : (!y4) = false) (h5 : (IntKind.i64.wrap (i5 + (1 : Int))) = (i5 + (1 : Int))) :
  LeadsM PP 0 (rsP_c0 q_form q_n q_text q_parts i5).as (rsP_c0 q_form q_n q_text q_parts (i5 + (1 : Int))).as :=
 wW 2 [0, 1] [qlP q_parts, qp h0, qp h1, qgP h2, qp h1, qgP h2, qp h3, qp h4, qp (congrArg (AV.int .i64) h5)] [rn 6, aL q_parts, rn 2, bt 38, rn 5, .reg [.d, .d, .d, .ans (.idx (Pat.av (Pat.mk y_form0 y_n1 y_text2 y_parts3))), .d, .d, .d, .d, .ans (.idx (Pat.av (Pat.mk y_form0 y_n1 y_text2 y_parts3))), .d, .pure (bV y4), .d], bf 52, rn 6, sI 40 (i5 + (1 : Int)), rn 3] trivial
theorem rsP_0_2 (q_form q_n : Int) (q_text : Str) (q_parts : List Pat) (i5 : Int) (h0 : decide (i5 < (q_parts.length : Int)) = false) :
  Ends PP 0 (rsP_c0 q_form q_n q_text q_parts i5).as (.ret (bV true)) (hpOf [] 0) :=
 wE 2 [] [qlP q_parts, qp h0] [rn 6, aL q_parts, rn 2, bf 38, rn 7] trivial
noncomputable def rsN_c0 (x : Node) (i5 : Int) : TS :=
 { fr := { fn := 40, nt := 54, sl := [(2, (.ptr 0 0)), (3, (.ptr 1 0)), (4, (bV false)), (5, (nI i5))], todo := [.code (cd Tryz.f40 [1, 1, 0, 1, 0, 0]), .inLoop (cd Tryz.f40 [1, 1, 0, 1, 0, 0]), .inBlock 0, .code (cd Tryz.f40 [1, 1, 1])] }, cs := [], hp := [(0, (.cells (putCells .leaf 0 [(nI x.op), (nI x.n), (iI x.kids), (iP x.pats)]) 4 [] false), false), (1, (.cells (putCells .leaf 0 [(nI x.op), (nI x.n), (iI x.kids), (iP x.pats)]) 4 [] false), false)], nb := 2 }
theorem rsN_E_4 (x : Node) (y0 : Bool) (h0 : (x.op != x.op) = false) (h1 : (x.n != x.n) = false) (h2 : Pure PP 39 [(iI x.kids), (iI x.kids)] (bV y0)) (h3 : (!y0) = false) (h4 : ((x.pats.length : Int) != (x.pats.length : Int)) = false) :
  LeadsM PP 0 (start PP 40 [(Node.av x), (Node.av x)]).as (rsN_c0 x 0).as :=
 wW 2 [0, 1] [qp h0, qp h1, qp h2, qp h3, qlP x.pats, qlP x.pats, qp h4] [rn 15, bf 11, rn 7, bf 18, rn 4, pB y0, rn 3, bf 26, rn 2, aL x.pats, rn 2, aL x.pats, rn 3, bf 34, rn 9] trivial
theorem rsN_0_1 (x : Node) (i5 y_form0 y_n1 : Int) (y_text2 : Str) (y_parts3 : List Pat) (y4 : Bool) (h0 : decide (i5 < (x.pats.length : Int)) = true) (h1 : 0 ≤ i5) (h2 : ((x.pats)[i5.toNat]?) = some (Pat.mk y_form0 y_n1 y_text2 y_parts3)) (h3 : Pure PP 86 [(.agg [(nI y_form0), (nI y_n1), (avS y_text2), (iP y_parts3)]), (.agg [(nI y_form0), (nI y_n1), (avS y_text2), (iP y_parts3)])] (bV y4)) (h4 : (!y4) = false) (h5 : (IntKind.i64.wrap (i5 + (1 : Int))) = (i5 + (1 : Int))) :
  LeadsM PP 0 (rsN_c0 x i5).as (rsN_c0 x (i5 + (1 : Int))).as :=
 wW 2 [0, 1] [qlP x.pats, qp h0, qp h1, qgP h2, qp h1, qgP h2, qp h3, qp h4, qp (congrArg (AV.int .i64) h5)] [rn 6, aL x.pats, rn 2, bt 39, rn 5, .reg [.d, .d, .d, .ans (.idx (Pat.av (Pat.mk y_form0 y_n1 y_text2 y_parts3))), .d, .d, .d, .d, .ans (.idx (Pat.av (Pat.mk y_form0 y_n1 y_text2 y_parts3))), .d, .pure (bV y4), .d], bf 53, rn 6, sI 41 (i5 + (1 : Int)), rn 3] trivial
theorem rsN_0_2 (x : Node) (i5 : Int) (h0 : decide (i5 < (x.pats.length : Int)) = false) :
  Ends PP 0 (rsN_c0 x i5).as (.ret (bV true)) (hpOf [] 0) :=
 wE 2 [] [qlP x.pats, qp h0] [rn 6, aL x.pats, rn 2, bf 39, rn 7] trivial
noncomputable def rsS_c0 (p : Prog) (i5 : Int) : TS :=
 { fr := { fn := 11, nt := 75, sl := [(2, (.ptr 0 0)), (3, (.ptr 1 0)), (4, (bV false)), (5, (nI i5))], todo := [.code (cd Tryz.f11 [1, 1, 0, 1, 0, 0]), .inLoop (cd Tryz.f11 [1, 1, 0, 1, 0, 0]), .inBlock 0, .code (cd Tryz.f11 [1, 1, 1])] }, cs := [], hp := [(0, (.cells (putCells .leaf 0 [(iN p.nodes), (iI p.funs), (nI p.main), (iC p.cons)]) 4 [] false), false), (1, (.cells (putCells .leaf 0 [(iN p.nodes), (iI p.funs), (nI p.main), (iC p.cons)]) 4 [] false), false)], nb := 2 }
noncomputable def rsS_c1 (p : Prog) (i6 : Int) : TS :=
 { fr := { fn := 11, nt := 75, sl := [(2, (.ptr 0 0)), (3, (.ptr 1 0)), (4, (bV false)), (6, (nI i6))], todo := [.code (cd Tryz.f11 [1, 1, 1, 0, 1, 0, 0]), .inLoop (cd Tryz.f11 [1, 1, 1, 0, 1, 0, 0]), .inBlock 2, .code (cd Tryz.f11 [1, 1, 1, 1])] }, cs := [], hp := [(0, (.cells (putCells .leaf 0 [(iN p.nodes), (iI p.funs), (nI p.main), (iC p.cons)]) 4 [] false), false), (1, (.cells (putCells .leaf 0 [(iN p.nodes), (iI p.funs), (nI p.main), (iC p.cons)]) 4 [] false), false)], nb := 2 }
theorem rsS_E_4 (p : Prog) (y0 : Bool) (h0 : ((p.nodes.length : Int) != (p.nodes.length : Int)) = false) (h1 : Pure PP 39 [(iI p.funs), (iI p.funs)] (bV y0)) (h2 : (!y0) = false) (h3 : (p.main != p.main) = false) (h4 : ((p.cons.length : Int) != (p.cons.length : Int)) = false) :
  LeadsM PP 0 (start PP 11 [(Prog.av p), (Prog.av p)]).as (rsS_c0 p 0).as :=
 wW 2 [0, 1] [ql Node.av p.nodes, ql Node.av p.nodes, qp h0, qp h1, qp h2, qp h3, ql Con.av p.cons, ql Con.av p.cons, qp h4] [rn 11, aL p.nodes, rn 2, aL p.nodes, rn 2, bf 14, rn 4, pB y0, rn 3, bf 22, rn 7, bf 29, rn 2, aL p.cons, rn 2, aL p.cons, rn 3, bf 37, rn 9] trivial
theorem rsS_0_1 (p : Prog) (i5 : Int) (y0 : Con) (h0 : decide (i5 < (p.cons.length : Int)) = true) (h1 : 0 ≤ i5) (h2 : ((p.cons)[i5.toNat]?) = some y0) (h3 : (!((strEq y0.name.length (bytesNat y0.name) y0.name.length (bytesNat y0.name)) && ((y0.args == y0.args) && true))) = false) (h4 : (IntKind.i64.wrap (i5 + (1 : Int))) = (i5 + (1 : Int))) :
  LeadsM PP 0 (rsS_c0 p i5).as (rsS_c0 p (i5 + (1 : Int))).as :=
 wW 2 [0, 1] [ql Con.av p.cons, qp h0, qp h1, qg Con.av h2, qp h1, qg Con.av h2, qp h3, qp (congrArg (AV.int .i64) h4)] [rn 6, aL p.cons, rn 2, bt 42, rn 5, .reg [.d, .d, .d, .ans (.idx (Con.av y0)), .d, .d, .d, .d, .ans (.idx (Con.av y0)), .d, .d], bf 55, rn 6, sI 44 (i5 + (1 : Int)), rn 3] trivial
theorem rsS_0_2 (p : Prog) (i5 : Int) (h0 : decide (i5 < (p.cons.length : Int)) = false) :
  LeadsM PP 0 (rsS_c0 p i5).as (rsS_c1 p 0).as :=
 wW 2 [0, 1] [ql Con.av p.cons, qp h0] [rn 6, aL p.cons, rn 2, bf 42, rn 9] trivial
theorem rsS_1_1 (p : Prog) (i6 : Int) (y0 : Node) (y1 : Bool) (h0 : decide (i6 < (p.nodes.length : Int)) = true) (h1 : 0 ≤ i6) (h2 : ((p.nodes)[i6.toNat]?) = some y0) (h3 : Pure PP 40 [(Node.av y0), (Node.av y0)] (bV y1)) (h4 : (!y1) = false) (h5 : (IntKind.i64.wrap (i6 + (1 : Int))) = (i6 + (1 : Int))) :
  LeadsM PP 0 (rsS_c1 p i6).as (rsS_c1 p (i6 + (1 : Int))).as :=
 wW 2 [0, 1] [ql Node.av p.nodes, qp h0, qp h1, qg Node.av h2, qp h1, qg Node.av h2, qp h3, qp h4, qp (congrArg (AV.int .i64) h5)] [rn 6, aL p.nodes, rn 2, bt 60, rn 5, .reg [.d, .d, .d, .ans (.idx (Node.av y0)), .d, .d, .d, .d, .ans (.idx (Node.av y0)), .d, .pure (bV y1), .d], bf 74, rn 6, sI 62 (i6 + (1 : Int)), rn 3] trivial
theorem rsS_1_2 (p : Prog) (i6 : Int) (h0 : decide (i6 < (p.nodes.length : Int)) = false) :
  Ends PP 0 (rsS_c1 p i6).as (.ret (bV true)) (hpOf [] 0) :=
 wE 2 [] [ql Node.av p.nodes, qp h0] [rn 6, aL p.nodes, rn 2, bf 60, rn 7] trivial
end Go.Hb
namespace Go.Hb
open Go.Proofs
theorem strEq_refl (s : Str) : strEq (List.length s) (bytesNat s) (List.length s) (bytesNat s) = true := by rw [strEq_eq]; simp
theorem rsI_loop (a : List Int) (ha : a.length < 1000000) : ∀ (t : List Int) (i : Nat), a.drop i = t → Ends PP 0 (rsI_c0 a (i : Int)).as (.ret (.bool true)) (hpOf [] 0)
 | [], i, h => by
  have := dropN h
  exact rsI_0_2 a i sd
 | y :: t, i, h => by
  obtain ⟨g1, g2, g3⟩ := dropC h
  have h1 := rsI_0_1 a i y sd sd sd (by simp) sd
  exact h1.ends (rsI_loop a ha t (i + 1) g2)
theorem rsI_pure (a : List Int) (ha : a.length < 1000000) : Pure PP 39 [.ilst 1 (List.map avI a) false, .ilst 1 (List.map avI a) false] (.bool true) :=
 pure_at (by kernel_rfl) rfl rfl ((rsI_E_1 a (by simp)).ends (rsI_loop a ha a 0 rfl))
theorem rsP_loop (f n : Int) (s : Str) (ps : List Pat) (hl : ps.length < 1000000) (ih : ∀ p ∈ ps, Pure PP 86 [Pat.av p, Pat.av p] (.bool true)) : ∀ (t : List Pat) (i : Nat), ps.drop i = t → Ends PP 0 (rsP_c0 f n s ps (i : Int)).as (.ret (.bool true)) (hpOf [] 0)
 | [], i, h => by
  have := dropN h
  exact rsP_0_2 f n s ps i sd
 | .mk f1 n1 s1 ps1 :: t, i, h => by
  obtain ⟨g1, g2, g3⟩ := dropC h
  have h1 := rsP_0_1 f n s ps i f1 n1 s1 ps1 true sd sd sd (ih (.mk f1 n1 s1 ps1) (List.mem_of_getElem? g1)) rfl sd
  exact h1.ends (rsP_loop f n s ps hl ih t (i + 1) g2)
mutual
theorem rsP_pure : ∀ (q : Pat), psize q < 1000000 → Pure PP 86 [Pat.av q, Pat.av q] (.bool true)
 | .mk f n s ps, h => by
  simp only [psize] at h
  have := psizes_len ps
  exact pure_at (by kernel_rfl) (by simp [AV.keylessL, pat_kl]) rfl ((rsP_E_4 f n s ps (by simp) (by simp) (by rw [strEq_refl]; rfl) (by simp)).ends (rsP_loop f n s ps (by omega) (rsP_all ps (by omega)) ps 0 rfl))
theorem rsP_all : ∀ (ps : List Pat), psizes ps < 1000000 → ∀ p ∈ ps, Pure PP 86 [Pat.av p, Pat.av p] (.bool true)
 | [], _, p, hp => by cases hp
 | q :: ps, h, p, hp => by
  simp only [psizes] at h
  rcases List.mem_cons.1 hp with e | hp
  · rw [e]; exact rsP_pure q (by omega)
  · exact rsP_all ps (by omega) p hp
end
theorem rsN_loop (x : Node) (hl : x.pats.length < 1000000) (ih : ∀ p ∈ x.pats, Pure PP 86 [Pat.av p, Pat.av p] (.bool true)) : ∀ (t : List Pat) (i : Nat), x.pats.drop i = t → Ends PP 0 (rsN_c0 x (i : Int)).as (.ret (.bool true)) (hpOf [] 0)
 | [], i, h => by
  have := dropN h
  exact rsN_0_2 x i sd
 | .mk f1 n1 s1 ps1 :: t, i, h => by
  obtain ⟨g1, g2, g3⟩ := dropC h
  have h1 := rsN_0_1 x i f1 n1 s1 ps1 true sd sd sd (ih (.mk f1 n1 s1 ps1) (List.mem_of_getElem? g1)) rfl sd
  exact h1.ends (rsN_loop x hl ih t (i + 1) g2)
def fitN (x : Node) : Prop := x.kids.length < 1000000 ∧ psizes x.pats < 1000000
structure FitP (q : Prog) : Prop where
 nodes : q.nodes.length ≤ 1000000
 funs : q.funs.length < 1000000
 cons : q.cons.length < 1000000
 node : ∀ x ∈ q.nodes, fitN x
theorem rsN_pure (x : Node) (h : fitN x) : Pure PP 40 [Node.av x, Node.av x] (.bool true) := by
 have := psizes_len x.pats
 have h1 := h.1
 have h2 := h.2
 exact pure_at (by kernel_rfl) (by simp [AV.keylessL, Node.av, AV.keyless]) rfl ((rsN_E_4 x true (by simp) (by simp) (rsI_pure x.kids h.1) rfl (by simp)).ends (rsN_loop x (by omega) (rsP_all x.pats h.2) x.pats 0 rfl))
theorem rsS_1 (p : Prog) (hp : FitP p) : ∀ (t : List Node) (i : Nat), p.nodes.drop i = t → Ends PP 0 (rsS_c1 p (i : Int)).as (.ret (.bool true)) (hpOf [] 0)
 | [], i, h => by
  have := dropN h
  exact rsS_1_2 p i sd
 | x :: t, i, h => by
  obtain ⟨g1, g2, g3⟩ := dropC h
  have hn := hp.nodes
  have h1 := rsS_1_1 p i x true sd sd sd (rsN_pure x (hp.node x (List.mem_of_getElem? g1))) rfl sd
  exact h1.ends (rsS_1 p hp t (i + 1) g2)
theorem rsS_0 (p : Prog) (hp : FitP p) : ∀ (t : List Con) (i : Nat), p.cons.drop i = t → Ends PP 0 (rsS_c0 p (i : Int)).as (.ret (.bool true)) (hpOf [] 0)
 | [], i, h => by
  have := dropN h
  exact (rsS_0_2 p i sd).ends (rsS_1 p hp p.nodes 0 rfl)
 | c :: t, i, h => by
  obtain ⟨g1, g2, g3⟩ := dropC h
  have hn := hp.cons
  have h1 := rsS_0_1 p i c sd sd sd (by rw [strEq_refl]; simp) sd
  exact h1.ends (rsS_0 p hp t (i + 1) g2)
theorem rSame_pure (p : Prog) (hp : FitP p) : Pure PP 11 [Prog.av p, Prog.av p] (.bool true) :=
 pure_at (by kernel_rfl) (by simp [AV.keylessL, Prog.av, AV.keyless]) rfl ((rsS_E_4 p true (by simp) (rsI_pure p.funs hp.funs) rfl (by simp) (by simp)).ends (rsS_0 p hp p.cons 0 rfl))
theorem pure_weak {f : Nat} {args : List AV} {v v' : AV} (h : Pure PP f args v) (hv : ∀ (E : Emb) (cv : Value), VR E v cv → VR E v' cv) : Pure PP f args v' := fun hh => by
 obtain ⟨g, hg, he⟩ := h hh
 exact ⟨g, hg, ends_weak he hv⟩
theorem vr_errT {E : Emb} {e : Int} {cv : Value} (h : VR E (.tup [errProg, .int .i64 e]) cv) : VR E (.tup [Prog.av ⟨[], [], 0, []⟩, .int .i64 e]) cv := by
 simp only [VR] at h ⊢
 obtain ⟨us, h1, h2⟩ := h
 obtain ⟨u, us', rfl, h3, h4⟩ := h2.cons_inv
 simp only [errProg, VR] at h3
 obtain ⟨ws, rfl, h5⟩ := h3
 obtain ⟨a1, w1, rfl, c1, h5⟩ := h5.cons_inv
 obtain ⟨a2, w2, rfl, c2, h5⟩ := h5.cons_inv
 obtain ⟨a3, w3, rfl, c3, h5⟩ := h5.cons_inv
 obtain ⟨a4, w4, rfl, c4, h5⟩ := h5.cons_inv
 refine ⟨_, h1, VRs.cons ?_ h4⟩
 simp only [Prog.av, VR]
 exact ⟨_, rfl, VRs.cons (vr_ilst_weak c1) (VRs.cons (vr_ilst_weak c2) (VRs.cons c3 (VRs.cons (vr_ilst_weak c4) h5)))⟩
mutual
theorem cPat_size (mc : List (Int × Int)) : ∀ q : Pat, psize (cPat mc q) = psize q
 | .mk f n t ps => by rw [cPat, psize, psize, cPats_size mc ps]
theorem cPats_size (mc : List (Int × Int)) : ∀ ps : List Pat, psizes (cPats mc ps) = psizes ps
 | [] => rfl
 | q :: ps => by rw [cPats, psizes, psizes, cPat_size mc q, cPats_size mc ps]
end
end Go.Hb
namespace Go.Hb
open Go.Proofs
theorem hasS_mem {l : List Str} {s : Str} : hasS l s = true ↔ s ∈ l := by
 simp [hasS]
theorem differ_nodup : ∀ (l pre : List Str), differFrom pre l = true → l.Nodup ∧ ∀ x ∈ l, x ∉ pre
 | [], pre, _ => ⟨List.nodup_nil, fun x hx => by cases hx⟩
 | x :: t, pre, h => by
  simp only [differFrom, Bool.and_eq_true, Bool.not_eq_true'] at h
  obtain ⟨h1, h2⟩ := differ_nodup t (pre ++ [x]) h.2
  have hx : x ∉ pre := fun hm => by
   have := hasS_mem.2 hm
   rw [h.1] at this; cases this
  refine ⟨List.nodup_cons.2 ⟨fun hm => h2 x hm (by simp), h1⟩, fun y hy => ?_⟩
  rcases List.mem_cons.1 hy with rfl | hy
  · exact hx
  · exact fun hm => h2 y hy (List.mem_append_left _ hm)
theorem conIx_none (s : Str) : ∀ (A : List Con) (i : Int), s ∉ A.map Con.name → conIx s A i = -1
 | [], i, _ => rfl
 | c :: A, i, h => by
  simp only [List.map_cons, List.mem_cons, not_or] at h
  rw [conIx, if_neg (fun e => h.1 e.symm), conIx_none s A (i + 1) h.2]
theorem conIx_app (s : Str) (A : List Con) (hA : s ∉ A.map Con.name) : ∀ (l : List Con) (i : Int), conIx s (l ++ A) i = conIx s l i
 | [], i => by rw [List.nil_append, conIx_none s A i hA]; rfl
 | c :: l, i => by rw [List.cons_append, conIx, conIx, conIx_app s A hA l (i + 1)]
theorem mAt_ins (k v j : Int) (m : List (Int × Int)) : mAt (mIns k v m) j = if j = k then v else mAt m j := by
 unfold mAt
 rw [mGet_ins]
 split <;> rfl
structure Fm (p : Prog) : Prop where
 fine : FineP p
 cons : p.cons.length ≤ 25
 dup : ((p.funs.map (pre p p.nodes.length)).flatten).Nodup
 len : ((p.funs.map (pre p p.nodes.length)).flatten).length = p.nodes.length
 into : ∀ x ∈ (p.funs.map (pre p p.nodes.length)).flatten, 0 ≤ x ∧ x < p.nodes.length
 node : ∀ (i : Nat) (x : Node), p.nodes[i]? = some x → nodeOk p x = true ∧ x.pats.length ≤ 10
 names : (p.cons.map Con.name).Nodup
theorem formed_all {p : Prog} (hs : smallProg p = true) (hf : refFormed p = true) : Fm p := by
 have hss := hs
 simp only [smallProg, Bool.and_eq_true, decide_eq_true_eq] at hss
 obtain ⟨⟨⟨⟨s1, s2⟩, s3⟩, _⟩, s5⟩ := hss
 obtain ⟨a, b, c, d⟩ := formed_pre hs hf
 refine ⟨formed_fine hs hf, s3, a, b, c, fun i x hx => ⟨d i x hx, ?_⟩, ?_⟩
 · have h10 := List.all_eq_true.1 s5 x (List.mem_of_getElem? hx)
   simp only [smallNode, Bool.and_eq_true, decide_eq_true_eq] at h10
   omega
 · simp only [refFormed, Bool.and_eq_true, consOk] at hf
   exact (differ_nodup _ _ hf.1.2.2).1
theorem Fm.fit {p : Prog} (h : Fm p) (i : Nat) (x : Node) (hx : p.nodes[i]? = some x) : fitN x := by
 obtain ⟨h1, h2⟩ := h.node i x hx
 have := (h.fine.node i x hx).2.1
 exact ⟨by omega, (node_both h.fine.fsmall h1 h2).1.1⟩
theorem mfJ_at {a n : Nat} {i : Int} (h0 : 0 ≤ i) (h1 : i < n) : mAt (mfJ a n) i = (a : Int) + i := by unfold mAt; rw [mfJ_get a n i h0 h1]; rfl
end Go.Hb
namespace Go.Hb
open Go.Proofs
def nodeAt (p : Prog) (k : Int) : Node := (p.nodes[k.toNat]?).getD ⟨0, 0, [], []⟩
theorem nodeAt_of {p : Prog} {k : Int} {x : Node} (h : p.nodes[k.toNat]? = some x) : nodeAt p k = x := by unfold nodeAt; rw [h]; rfl
def ordL (p : Prog) : List Int := (p.funs.map (pre p p.nodes.length)).flatten
theorem wB_map (p : Prog) (mf mc : List (Int × Int)) (to : List Int) : ∀ (f : Nat) (a : Int), wB p mf mc to f a = (pre p f a).map fun k => bNode mf mc to (nodeAt p k)
 | 0, a => rfl
 | f + 1, a => by
  rw [wB, pre]
  cases hx : p.nodes[a.toNat]? with
  | none => rfl
  | some x =>
   simp only [List.map_cons, nodeAt_of hx, List.map_flatten, List.map_map]
   congr 2
   exact List.map_congr_left (fun k _ => wB_map p mf mc to f k)
theorem nodesB_map (p : Prog) (mf mc : List (Int × Int)) (to : List Int) : nodesB p mf mc to p.nodes.length = (ordL p).map fun k => bNode mf mc to (nodeAt p k) := by
 unfold nodesB ordL
 rw [List.map_flatten, List.map_map]
 congr 1
 exact List.map_congr_left (fun k _ => wB_map p mf mc to _ k)
theorem pre_fuel {p : Prog} (hp : FineP p) : ∀ (f g : Nat) (k : Int), 0 ≤ k → k < p.nodes.length → p.nodes.length - k.toNat ≤ f → p.nodes.length - k.toNat ≤ g → pre p f k = pre p g k
 | 0, _, k, h0, h1, h2, _ => by omega
 | _ + 1, 0, k, h0, h1, _, h3 => by omega
 | f + 1, g + 1, k, h0, h1, h2, h3 => by
  obtain ⟨x, hx⟩ : ∃ x, p.nodes[k.toNat]? = some x := ⟨_, List.getElem?_eq_getElem (by omega)⟩
  rw [pre, pre, hx]
  simp only
  congr 2
  exact List.map_congr_left (fun c hc => by
   have := (hp.node _ _ hx).2.2 c hc
   exact pre_fuel hp f g c (by omega) (by omega) (by omega) (by omega))
def KidsAfter (p : Prog) (l : List Int) : Prop := ∀ (i : Nat) (k c : Int), l[i]? = some k → c ∈ kidsOf p k → ∃ j, i < j ∧ l[j]? = some c
theorem KidsAfter.append {p : Prog} {l m : List Int} (h1 : KidsAfter p l) (h2 : KidsAfter p m) : KidsAfter p (l ++ m) := fun i k c hi hc => by
 by_cases h : i < l.length
 · rw [List.getElem?_append_left h] at hi
   obtain ⟨j, hj, e⟩ := h1 i k c hi hc
   exact ⟨j, hj, by rw [List.getElem?_append_left (List.getElem?_eq_some_iff.1 e).1]; exact e⟩
 · rw [List.getElem?_append_right (by omega)] at hi
   obtain ⟨j, hj, e⟩ := h2 _ k c hi hc
   exact ⟨l.length + j, by omega, by rw [List.getElem?_append_right (by omega), show l.length + j - l.length = j by omega]; exact e⟩
theorem KidsAfter.flatten {p : Prog} : ∀ {L : List (List Int)}, (∀ l ∈ L, KidsAfter p l) → KidsAfter p L.flatten
 | [], _ => fun i k c hi _ => by simp at hi
 | l :: L, h => by
  rw [List.flatten_cons]
  exact (h l (List.mem_cons_self ..)).append (KidsAfter.flatten fun m hm => h m (List.mem_cons_of_mem _ hm))
theorem pre_after {p : Prog} (hp : FineP p) : ∀ (f : Nat) (k : Int), 0 ≤ k → k < p.nodes.length → p.nodes.length - k.toNat ≤ f → KidsAfter p (pre p f k)
 | 0, k, h0, h1, h2 => by omega
 | f + 1, k, h0, h1, h2 => by
  obtain ⟨x, hx⟩ : ∃ x, p.nodes[k.toNat]? = some x := ⟨_, List.getElem?_eq_getElem (by omega)⟩
  have e : pre p (f + 1) k = k :: (x.kids.map (pre p f)).flatten := by rw [pre, hx]
  have hks := (hp.node _ _ hx).2.2
  have hrest : KidsAfter p (x.kids.map (pre p f)).flatten := KidsAfter.flatten fun l hl => by
   obtain ⟨c, hc, rfl⟩ := List.mem_map.1 hl
   have := hks c hc
   exact pre_after hp f c (by omega) (by omega) (by omega)
  rw [e]
  intro i k' c hi hc
  cases i with
  | zero =>
   simp only [List.getElem?_cons_zero, Option.some.injEq] at hi
   subst hi
   have ek : kidsOf p k = x.kids := by unfold kidsOf; rw [hx]
   rw [ek] at hc
   have hm : c ∈ (x.kids.map (pre p f)).flatten := List.mem_flatten.2 ⟨pre p f c, List.mem_map.2 ⟨c, hc, rfl⟩, by
    have := hks c hc
    obtain ⟨y, g, _, _, h3⟩ := pre_cons hp (f := f) (a := c) (by omega) (by omega) (by omega)
    rw [h3]; exact List.mem_cons_self ..⟩
   obtain ⟨j, hj⟩ := List.mem_iff_getElem?.1 hm
   exact ⟨j + 1, by omega, by simpa using hj⟩
  | succ i =>
   simp only [List.getElem?_cons_succ] at hi
   obtain ⟨j, hj, e2⟩ := hrest i k' c hi hc
   exact ⟨j + 1, by omega, by simpa using e2⟩
theorem walk_after {p : Prog} (h : Fm p) : KidsAfter p (ordL p) := KidsAfter.flatten fun l hl => by
 obtain ⟨k, hk, rfl⟩ := List.mem_map.1 hl
 have := h.fine.funs k hk
 exact pre_after h.fine _ k this.1 this.2 (by omega)
theorem walk_mem {p : Prog} (h : Fm p) {k : Int} (h0 : 0 ≤ k) (h1 : k < p.nodes.length) : ∃ i : Nat, (ordL p)[i]? = some k := by
 refine List.mem_iff_getElem?.1 ?_
 have hd : ((ordL p).map Int.toNat).Nodup := by
  have hd := h.dup
  rw [List.nodup_iff_pairwise_ne] at hd ⊢
  refine List.pairwise_map.2 (hd.imp_of_mem (fun {a b} ha hb hne e => ?_))
  have := h.into a ha
  have := h.into b hb
  exact hne (by omega)
 by_cases hm : k ∈ ordL p
 · exact hm
 · have h2 := nodup_len (p.nodes.length) (k.toNat :: (ordL p).map Int.toNat) (List.nodup_cons.2 ⟨fun hm2 => by
    obtain ⟨y, hy, e⟩ := List.mem_map.1 hm2
    have := h.into y hy
    exact hm ((show y = k by omega) ▸ hy), hd⟩) (fun x hx => by
    rcases List.mem_cons.1 hx with rfl | hx
    · omega
    · obtain ⟨y, hy, rfl⟩ := List.mem_map.1 hx
      have := h.into y hy
      omega)
   rw [List.length_cons, List.length_map] at h2
   have := h.len
   unfold ordL at h2
   omega
structure Laid (a : Prog) (off : Nat) (p : Prog) (mf mc : List (Int × Int)) (to : List Int) : Prop where
 node : ∀ (i : Nat) (k : Int), (ordL p)[i]? = some k → a.nodes[off + i]? = some (bNode mf mc to (nodeAt p k))
 to : ∀ (i : Nat) (k : Int), (ordL p)[i]? = some k → toAt to k = ((off + i : Nat) : Int)
section
variable {a p : Prog} {off : Nat} {mf mc : List (Int × Int)} {to : List Int}
theorem Laid.at (h : Laid a off p mf mc to) (hp : Fm p) {k : Int} (h0 : 0 ≤ k) (h1 : k < p.nodes.length) : 0 ≤ toAt to k ∧ a.nodes[(toAt to k).toNat]? = some (bNode mf mc to (nodeAt p k)) := by
 obtain ⟨i, hi⟩ := walk_mem hp h0 h1
 have e := h.to i k hi
 rw [e, Int.toNat_natCast]
 exact ⟨by omega, h.node i k hi⟩
theorem Laid.pre (h : Laid a off p mf mc to) (hp : Fm p) : ∀ (f : Nat) (k : Int), 0 ≤ k → k < p.nodes.length → p.nodes.length - k.toNat ≤ f → pre a f (toAt to k) = (pre p f k).map (toAt to)
 | 0, k, h0, h1, h2 => by omega
 | f + 1, k, h0, h1, h2 => by
  obtain ⟨x, hx⟩ : ∃ x, p.nodes[k.toNat]? = some x := ⟨_, List.getElem?_eq_getElem (by omega)⟩
  obtain ⟨g0, g1⟩ := h.at hp h0 h1
  rw [nodeAt_of hx] at g1
  rw [Go.Hb.pre, Go.Hb.pre, hx, g1]
  simp only [List.map_cons, List.map_flatten, List.map_map, bNode]
  congr 2
  exact List.map_congr_left (fun c hc => by
   have := (hp.fine.node _ _ hx).2.2 c hc
   exact h.pre hp f c (by omega) (by omega) (by omega))
theorem Laid.walk (h : Laid a off p mf mc to) (hp : Fm p) {F : Nat} (hF : p.nodes.length ≤ F) : ((p.funs.map (toAt to)).map (Go.Hb.pre a F)).flatten = (List.range (ordL p).length).map fun i => ((off + i : Nat) : Int) := by
 have e1 : (p.funs.map (toAt to)).map (Go.Hb.pre a F) = (p.funs.map (Go.Hb.pre p p.nodes.length)).map (List.map (toAt to)) := by
  rw [List.map_map, List.map_map]
  refine List.map_congr_left (fun k hk => ?_)
  have := hp.fine.funs k hk
  show Go.Hb.pre a F (toAt to k) = (Go.Hb.pre p p.nodes.length k).map (toAt to)
  rw [h.pre hp F k this.1 this.2 (by omega), pre_fuel hp.fine F p.nodes.length k this.1 this.2 (by omega) (by omega)]
 rw [e1, ← List.map_flatten]
 refine List.ext_getElem? (fun i => ?_)
 rw [List.getElem?_map, List.getElem?_map]
 by_cases hi : i < (ordL p).length
 · rw [List.getElem?_range hi]
   have e : (ordL p)[i]? = some (ordL p)[i] := List.getElem?_eq_getElem hi
   have : ((p.funs.map (Go.Hb.pre p p.nodes.length)).flatten)[i]? = some (ordL p)[i] := e
   rw [this]
   simp only [Option.map_some]
   rw [h.to i _ e]
 · have e : (ordL p)[i]? = none := List.getElem?_eq_none (by omega)
   have : ((p.funs.map (Go.Hb.pre p p.nodes.length)).flatten)[i]? = none := e
   rw [this, List.getElem?_eq_none (by simp; omega)]; rfl
end
end Go.Hb
namespace Go.Hb
open Go.Proofs
mutual
theorem cPat_small (mc : List (Int × Int)) : ∀ q : Pat, tsmall (cPat mc q) = tsmall q
 | .mk f n s ps => by rw [cPat, tsmall, tsmall, cPats_small mc ps]
theorem cPats_small (mc : List (Int × Int)) : ∀ ps : List Pat, tsmalls (cPats mc ps) = tsmalls ps
 | [] => rfl
 | q :: ps => by rw [cPats, tsmalls, tsmalls, cPat_small mc q, cPats_small mc ps]
end
structure MapsOk (p a : Prog) (mf mc : List (Int × Int)) : Prop where
 funs : ∀ i : Int, 0 ≤ i → i < p.funs.length → 0 ≤ mAt mf i ∧ mAt mf i < a.funs.length
 cons : ∀ (i : Nat) (d : Con), p.cons[i]? = some d → 0 ≤ mAt mc (i : Int) ∧ a.cons[(mAt mc (i : Int)).toNat]? = some d
section
variable {p a : Prog} {mf mc : List (Int × Int)}
theorem MapsOk.at (h : MapsOk p a mf mc) {n : Int} (h0 : 0 ≤ n) (h1 : n < p.cons.length) : 0 ≤ mAt mc n ∧ mAt mc n < a.cons.length ∧ argsAt a.cons (mAt mc n) = argsAt p.cons n ∧ a.cons[(mAt mc n).toNat]? = p.cons[n.toNat]? := by
 have e : p.cons[n.toNat]? = some p.cons[n.toNat] := List.getElem?_eq_getElem (by omega)
 obtain ⟨g0, g1⟩ := h.cons n.toNat _ e
 rw [show ((n.toNat : Nat) : Int) = n by omega] at g0 g1
 have := (List.getElem?_eq_some_iff.1 g1).1
 refine ⟨g0, by omega, ?_, by rw [g1, e]⟩
 unfold argsAt
 rw [g1, e]
theorem cPats_len (mc : List (Int × Int)) : ∀ ps : List Pat, (cPats mc ps).length = ps.length
 | [] => rfl
 | p :: ps => by rw [cPats, List.length_cons, List.length_cons, cPats_len mc ps]
mutual
theorem cPat_ok (h : MapsOk p a mf mc) : ∀ q : Pat, patOk p.cons q = true → patOk a.cons (cPat mc q) = true
 | .mk f n s ps, g => by
  rw [patOk, Bool.and_eq_true] at g
  rw [cPat, patOk, cPats_ok h ps g.2, Bool.and_true, cPats_len]
  have g1 := g.1
  by_cases hf : f = 6
  · subst hf
    unfold patHead at g1 ⊢
    simp [inB] at g1 ⊢
    obtain ⟨⟨⟨a0, a1⟩, a2⟩, a3⟩ := g1
    obtain ⟨b0, b1, b2, b3⟩ := h.at a0 (by omega)
    exact ⟨⟨⟨b0, by omega⟩, by rw [b2]; exact a2⟩, a3⟩
  · rw [if_neg hf]
    unfold patHead at g1 ⊢
    rw [if_neg hf] at g1 ⊢
    exact g1
theorem cPats_ok (h : MapsOk p a mf mc) : ∀ ps : List Pat, patsOk p.cons ps = true → patsOk a.cons (cPats mc ps) = true
 | [], _ => rfl
 | q :: ps, g => by
  rw [patsOk, Bool.and_eq_true] at g
  rw [cPats, patsOk, cPat_ok h q g.1, cPats_ok h ps g.2]; rfl
end
theorem cPats_mem (mc : List (Int × Int)) : ∀ {ps : List Pat} {q' : Pat}, q' ∈ cPats mc ps → ∃ q ∈ ps, q' = cPat mc q
 | [], _, h => by simp [cPats] at h
 | q :: ps, q', h => by
  rw [cPats] at h
  rcases List.mem_cons.1 h with rfl | h
  · exact ⟨q, List.mem_cons_self .., rfl⟩
  · obtain ⟨x, hx, e⟩ := cPats_mem mc h
    exact ⟨x, List.mem_cons_of_mem _ hx, e⟩
theorem bNode_ok (h : MapsOk p a mf mc) (to : List Int) {x : Node} (hx : nodeOk p x = true) : nodeOk a (bNode mf mc to x) = true := by
 simp only [nodeOk, nodeHead, Bool.and_eq_true, decide_eq_true_eq] at hx ⊢
 obtain ⟨⟨⟨h1, h2⟩, h3⟩, h4⟩ := hx
 have hl : (bNode mf mc to x).pats.length = x.pats.length := cPats_len mc _
 have hk : (bNode mf mc to x).kids.length = x.kids.length := List.length_map ..
 have ho : (bNode mf mc to x).op = x.op := rfl
 have hn : (bNode mf mc to x).n = bN mf mc x.op x.n := rfl
 refine ⟨⟨⟨?_, by rw [hl]; exact h2⟩, ?_⟩, ?_⟩
 · rw [ho, hn]
   unfold bN
   by_cases e4 : x.op = 4
   · rw [if_pos e4]
     rw [e4] at h1 ⊢
     simp [nodeHead1, inB] at h1 ⊢
     by_cases hn : 0 ≤ x.n
     · rw [if_pos hn]; omega
     · rw [if_neg hn]
       have := h.funs (-1 - x.n) (by omega) (by omega)
       omega
   · rw [if_neg e4]
     by_cases e14 : x.op = 14
     · rw [if_pos e14]
       rw [e14] at h1 ⊢
       simp [nodeHead1, inB] at h1 ⊢
       obtain ⟨b0, b1, _⟩ := h.at (n := x.n) h1.1 (by omega)
       omega
     · rw [if_neg e14]
       unfold nodeHead1 at h1 ⊢
       rw [if_neg e4, if_neg e14] at *
       exact h1
 · refine List.all_eq_true.2 (fun q' hq => ?_)
   obtain ⟨q, hq2, rfl⟩ := cPats_mem mc hq
   have := List.all_eq_true.1 h3 q hq2
   simp only [nodePat, Bool.and_eq_true, decide_eq_true_eq] at this ⊢
   exact ⟨by rw [cPat_size]; exact this.1, cPat_ok h q this.2⟩
 · rw [hl, hk, ho, h4]
   congr 1
   unfold nodeArgs
   rw [ho, hn]
   by_cases e14 : x.op = 14
   · have h1' := h1
     rw [e14] at h1'
     simp [nodeHead1, inB] at h1'
     obtain ⟨b0, b1, b2, _⟩ := h.at (n := x.n) h1'.1 (by omega)
     unfold bN
     rw [if_neg (show ¬ x.op = 4 by omega), if_pos e14, if_pos ⟨e14, by simp [inB]; omega⟩, if_pos ⟨e14, by simp [inB]; omega⟩, b2]
   · rw [if_neg (fun g => e14 g.1), if_neg (fun g => e14 g.1)]
theorem bNode_small (to : List Int) {x : Node} (hx : smallNode x = true) : smallNode (bNode mf mc to x) = true := by
 simp only [smallNode, Bool.and_eq_true, decide_eq_true_eq] at hx ⊢
 obtain ⟨⟨h1, h2⟩, h3⟩ := hx
 refine ⟨⟨by show (x.kids.map _).length ≤ 10; rw [List.length_map]; exact h1, by show (cPats mc x.pats).length ≤ 10; rw [cPats_len]; exact h2⟩, ?_⟩
 refine List.all_eq_true.2 (fun q' hq => ?_)
 obtain ⟨q, hq2, rfl⟩ := cPats_mem mc hq
 have := List.all_eq_true.1 h3 q hq2
 simp only [smallP, Bool.and_eq_true, decide_eq_true_eq] at this ⊢
 exact ⟨by rw [cPat_size]; exact this.1, by rw [cPat_small]; exact this.2⟩
end
theorem marks_some {lo n : Int} (hlo : 0 ≤ lo) : ∀ (ks : List Int) (u : List Bool), (u.length : Int) = n → (∀ k ∈ ks, lo ≤ k ∧ k < n) → (∀ m : Int, 0 ≤ m → m < n → ks.count m + tauM u m ≤ 1) → ∃ v, marks lo n ks u = some v
 | [], u, _, _, _ => ⟨u, rfl⟩
 | k :: ks, u, hl, hr, hc => by
  have hk := hr k (List.mem_cons_self ..)
  have h1 := hc k (by omega) hk.2
  rw [show k :: ks = [k] ++ ks from rfl, List.count_append, List.count_singleton_self] at h1
  have hu : u[k.toNat]? = some false := by
   have hlt : k.toNat < u.length := by omega
   cases hb : u[k.toNat] with
   | false => rw [List.getElem?_eq_getElem hlt, hb]
   | true =>
    have : tauM u k = 1 := by unfold tauM; rw [List.getElem?_eq_getElem hlt, hb]; rfl
    omega
  obtain ⟨v, hv⟩ := marks_some hlo ks (u.set k.toNat true) (by rw [List.length_set]; exact hl) (fun x hx => hr x (List.mem_cons_of_mem _ hx)) (fun m m0 m1 => by
   have h2 := hc m m0 m1
   rw [show k :: ks = [k] ++ ks from rfl, List.count_append] at h2
   by_cases e : m = k
   · subst e
     have : tauM (u.set m.toNat true) m ≤ 1 := by unfold tauM; split <;> omega
     rw [List.count_singleton_self] at h2
     omega
   · have : tauM (u.set k.toNat true) m = tauM u m := by unfold tauM; rw [List.getElem?_set_ne (by omega)]
     omega)
  exact ⟨v, by rw [marks, if_pos ⟨by simp [inB]; omega, hu⟩]; exact hv⟩
theorem refNodes_some {a : Prog} : ∀ (t : List Node) (i : Nat) (u : List Bool), u.length = a.nodes.length → (∀ x ∈ t, nodeOk a x = true) → (∀ (j : Nat) (x : Node), t[j]? = some x → ∀ k ∈ x.kids, ((i + j : Nat) : Int) < k ∧ k < a.nodes.length) →
  (∀ m : Int, 0 ≤ m → m < a.nodes.length → ((t.map Node.kids).flatten).count m + tauM u m ≤ 1) → ∃ v, refNodes a i t u = some v
 | [], i, u, _, _, _, _ => ⟨u, rfl⟩
 | x :: t, i, u, hl, hok, hk, hc => by
  obtain ⟨w, hw⟩ := marks_some (lo := (i : Int) + 1) (n := (a.nodes.length : Int)) (by omega) x.kids u (by omega) (fun k hkm => by
   have := hk 0 x rfl k hkm
   omega) (fun m m0 m1 => by
   have := hc m m0 m1
   rw [List.map_cons, List.flatten_cons, List.count_append] at this
   omega)
  obtain ⟨v, hv⟩ := refNodes_some t (i + 1) w (by rw [marks_len hw, hl]) (fun y hy => hok y (List.mem_cons_of_mem _ hy)) (fun j y hy k hkm => by
   have := hk (j + 1) y (by simpa using hy) k hkm
   omega) (fun m m0 m1 => by
   have h1 := hc m m0 m1
   have h2 := marks_count (m := m) (by omega) m0 hw
   rw [List.map_cons, List.flatten_cons, List.count_append] at h1
   omega)
  exact ⟨v, by rw [refNodes, if_pos (hok x (List.mem_cons_self ..)), hw]; exact hv⟩
end Go.Hb
namespace Go.Hb
open Go.Proofs
def newC (z t : List Con) : List Con := t.filter fun c => decide (conIx c.name z 0 < 0)
def clash1 (z : List Con) (c : Con) : Bool := match z[(conIx c.name z 0).toNat]? with
 | some d => decide (0 ≤ conIx c.name z 0) && decide (d.args ≠ c.args)
 | none => false
def clash (z t : List Con) : Bool := t.any (clash1 z)
def mcOf (al : List Con) : List Con → Int → List (Int × Int) → List (Int × Int)
 | [], _, m => m
 | c :: t, i, m => mcOf al t (i + 1) (mIns i (conIx c.name al 0) m)
theorem conIx_mem {s : Str} {l : List Con} : 0 ≤ conIx s l 0 ↔ s ∈ l.map Con.name := by
 constructor
 · intro h
   rcases conIx_range s l 0 (Int.le_refl _) with g | ⟨_, _, d, h3, h4⟩
   · omega
   · exact List.mem_map.2 ⟨d, List.mem_of_getElem? h3, h4⟩
 · intro h
   rcases conIx_range s l 0 (Int.le_refl _) with g | ⟨h1, _⟩
   · have : conIx s l 0 ≠ -1 := by
      clear g
      have : ∀ (l : List Con) (i : Int), 0 ≤ i → s ∈ l.map Con.name → conIx s l i ≠ -1 := by
       intro l
       induction l with
       | nil => intro i _ h; simp at h
       | cons c l ih =>
        intro i hi h
        rw [conIx]
        split
        · omega
        · rename_i e
          rcases List.mem_cons.1 (by simpa using h : s ∈ c.name :: l.map Con.name) with g | g
          · exact absurd g.symm e
          · exact ih (i + 1) (by omega) g
      exact this l 0 (Int.le_refl _) h
     exact absurd g this
   · exact h1
theorem conIx_neg {s : Str} {l : List Con} : conIx s l 0 < 0 ↔ s ∉ l.map Con.name := by
 rw [← conIx_mem]; omega
theorem conIx_left (s : Str) (A : List Con) : ∀ (l : List Con) (i : Int), s ∈ l.map Con.name → conIx s (l ++ A) i = conIx s l i
 | [], i, h => by simp at h
 | c :: l, i, h => by
  rw [List.cons_append, conIx, conIx]
  by_cases e : c.name = s
  · rw [if_pos e, if_pos e]
  · rw [if_neg e, if_neg e]
    rcases List.mem_cons.1 (by simpa using h : s ∈ c.name :: l.map Con.name) with g | g
    · exact absurd g.symm e
    · exact conIx_left s A l (i + 1) g
theorem conIx_right (s : Str) (A : List Con) : ∀ (l : List Con) (i : Int), s ∉ l.map Con.name → conIx s (l ++ A) i = conIx s A (i + l.length)
 | [], i, h => by simp
 | c :: l, i, h => by
  simp only [List.map_cons, List.mem_cons, not_or] at h
  rw [List.cons_append, conIx, if_neg (fun e => h.1 e.symm), conIx_right s A l (i + 1) h.2]
  congr 1
  simp; omega
theorem conIx_at {l : List Con} (hd : (l.map Con.name).Nodup) {j : Nat} {d : Con} (h : l[j]? = some d) : conIx d.name l 0 = j := by
 rcases conIx_range d.name l 0 (Int.le_refl _) with g | ⟨h1, h2, e, h3, h4⟩
 · have : 0 ≤ conIx d.name l 0 := conIx_mem.2 (List.mem_map.2 ⟨d, List.mem_of_getElem? h, rfl⟩)
   omega
 · have hj := (List.getElem?_eq_some_iff.1 h).1
   have h3 : l[(conIx d.name l 0).toNat]? = some e := by simpa using h3
   have hk := (List.getElem?_eq_some_iff.1 h3).1
   have a1 : (l.map Con.name)[(conIx d.name l 0).toNat]? = some d.name := by rw [List.getElem?_map, h3]; simp [h4]
   have a2 : (l.map Con.name)[j]? = some d.name := by rw [List.getElem?_map, h]; rfl
   have hne : ∀ (l : List Str) (i j : Nat) (x : Str), l.Nodup → l[i]? = some x → l[j]? = some x → i = j := by
    intro l
    induction l with
    | nil => intro i j x _ h; simp at h
    | cons y l ih =>
     intro i j x hd hi hj
     have hd := List.nodup_cons.1 hd
     cases i with
     | zero =>
      cases j with
      | zero => rfl
      | succ j =>
       simp only [List.getElem?_cons_zero, Option.some.injEq, List.getElem?_cons_succ] at hi hj
       exact absurd (List.mem_of_getElem? hj) (hi ▸ hd.1)
     | succ i =>
      cases j with
      | zero =>
       simp only [List.getElem?_cons_zero, Option.some.injEq, List.getElem?_cons_succ] at hi hj
       exact absurd (List.mem_of_getElem? hi) (hj ▸ hd.1)
      | succ j =>
       simp only [List.getElem?_cons_succ] at hi hj
       rw [ih i j x hd.2 hi hj]
   have := hne _ _ _ _ hd a1 a2
   omega
theorem mem_newC {z t : List Con} {c : Con} : c ∈ newC z t ↔ c ∈ t ∧ c.name ∉ z.map Con.name := by
 unfold newC
 rw [List.mem_filter, decide_eq_true_eq, conIx_neg]
theorem newC_sub (z t : List Con) : ((newC z t).map Con.name).Sublist (t.map Con.name) := (List.filter_sublist).map _
theorem all_nodup {z t : List Con} (hz : (z.map Con.name).Nodup) (ht : (t.map Con.name).Nodup) : ((z ++ newC z t).map Con.name).Nodup := by
 rw [List.map_append, List.nodup_append]
 refine ⟨hz, ht.sublist (newC_sub z t), fun a ha b hb e => ?_⟩
 subst e
 obtain ⟨c, hc, rfl⟩ := List.mem_map.1 hb
 exact (mem_newC.1 hc).2 ha
theorem joinB_eq {z : List Con} (hz : (z.map Con.name).Nodup) : ∀ (t : List Con) (i : Int) (A : List Con) (m : List (Int × Int)), (t.map Con.name).Nodup → (∀ c ∈ t, c.name ∉ A.map Con.name) → (A.map Con.name).Nodup → (∀ c ∈ A, c.name ∉ z.map Con.name) →
  joinB t i (z ++ A) m = if clash z t then none else some (z ++ A ++ newC z t, mcOf (z ++ A ++ newC z t) t i m)
 | [], i, A, m, _, _, _, _ => by simp [joinB, clash, newC, mcOf]
 | c :: t, i, A, m, hd, hA, hAd, hAz => by
  have hd' := List.nodup_cons.1 (by simpa using hd : (c.name :: t.map Con.name).Nodup)
  have hc := hA c (List.mem_cons_self ..)
  have hAt : ∀ d ∈ t, d.name ∉ A.map Con.name := fun d hdm => hA d (List.mem_cons_of_mem _ hdm)
  rw [joinB, conIx_app c.name A hc]
  by_cases hk : conIx c.name z 0 < 0
  · have hcz := conIx_neg.1 hk
    have e1 : clash z (c :: t) = clash z t := by
     unfold clash
     rw [List.any_cons]
     have : clash1 z c = false := by unfold clash1; split <;> simp; omega
     rw [this, Bool.false_or]
    have e2 : newC z (c :: t) = c :: newC z t := by unfold newC; rw [List.filter_cons, if_pos (by simpa using hk)]
    rw [if_pos hk, e1, e2, List.append_assoc, joinB_eq hz t (i + 1) (A ++ [c]) _ hd'.2 (fun d hdm => by
     rw [List.map_append, List.mem_append, not_or]
     refine ⟨hAt d hdm, fun e => ?_⟩
     simp only [List.map_cons, List.map_nil, List.mem_singleton] at e
     exact hd'.1 (e ▸ List.mem_map.2 ⟨d, hdm, rfl⟩)) (by
     rw [List.map_append, List.nodup_append]
     refine ⟨hAd, by simp, fun x hx y hy e => ?_⟩
     simp only [List.map_cons, List.map_nil, List.mem_singleton] at hy
     subst hy e
     exact hc hx) (fun d hdm => by
     rcases List.mem_append.1 hdm with g | g
     · exact hAz d g
     · rw [List.mem_singleton] at g; subst g; exact hcz)]
    have e3 : z ++ (A ++ [c]) ++ newC z t = z ++ A ++ (c :: newC z t) := by simp
    rw [e3, mcOf]
    have e4 : conIx c.name (z ++ A ++ c :: newC z t) 0 = (((z ++ A).length : Nat) : Int) := by
     rw [conIx_right c.name _ (z ++ A) 0 (by rw [List.map_append, List.mem_append, not_or]; exact ⟨hcz, hc⟩), conIx, if_pos rfl, Int.zero_add]
    rw [e4]
  · rw [if_neg hk]
    have hcz := conIx_mem.1 (show 0 ≤ conIx c.name z 0 by omega)
    have e2 : newC z (c :: t) = newC z t := by unfold newC; rw [List.filter_cons, if_neg (by simpa using hk)]
    rcases conIx_range c.name z 0 (Int.le_refl _) with g | ⟨_, h2, d, h3, h4⟩
    · omega
    · have h3 : z[(conIx c.name z 0).toNat]? = some d := by simpa using h3
      rw [List.getElem?_append_left (List.getElem?_eq_some_iff.1 h3).1, h3, e2]
      simp only
      have e1 : clash z (c :: t) = (decide (d.args ≠ c.args) || clash z t) := by
       unfold clash
       rw [List.any_cons]
       have : clash1 z c = decide (d.args ≠ c.args) := by unfold clash1; rw [h3]; simp only; rw [decide_eq_true (show 0 ≤ conIx c.name z 0 by omega), Bool.true_and]
       rw [this]
      rw [e1]
      by_cases ha : d.args = c.args
      · rw [if_pos ha, joinB_eq hz t (i + 1) A _ hd'.2 hAt hAd hAz, mcOf]
        have e5 : conIx c.name (z ++ A ++ newC z t) 0 = conIx c.name z 0 := by
         rw [List.append_assoc, conIx_left c.name _ z 0 hcz]
        rw [e5]
        simp [ha]
      · rw [if_neg ha]
        simp [ha]
theorem mcOf_low (al : List Con) : ∀ (t : List Con) (i : Int) (m : List (Int × Int)) (j : Int), j < i → mAt (mcOf al t i m) j = mAt m j
 | [], i, m, j, h => rfl
 | c :: t, i, m, j, h => by rw [mcOf, mcOf_low al t (i + 1) _ j (by omega), mAt_ins, if_neg (by omega)]
theorem mcOf_at (al : List Con) : ∀ (t : List Con) (i : Int) (m : List (Int × Int)) (j : Nat) (d : Con), t[j]? = some d → mAt (mcOf al t i m) (i + j) = conIx d.name al 0
 | [], i, m, j, d, h => by simp at h
 | c :: t, i, m, 0, d, h => by
  simp only [List.getElem?_cons_zero, Option.some.injEq] at h
  subst h
  rw [mcOf, mcOf_low al t (i + 1) _ _ (by omega), mAt_ins, if_pos (by omega)]
 | c :: t, i, m, j+1, d, h => by
  simp only [List.getElem?_cons_succ] at h
  have := mcOf_at al t (i + 1) (mIns i (conIx c.name al 0) m) j d h
  rw [mcOf, show i + ((j + 1 : Nat) : Int) = i + 1 + (j : Int) by omega]
  exact this
theorem all_at {z t : List Con} (hz : (z.map Con.name).Nodup) (ht : (t.map Con.name).Nodup) (hc : clash z t = false) {d : Con} (hd : d ∈ t) : 0 ≤ conIx d.name (z ++ newC z t) 0 ∧ (z ++ newC z t)[(conIx d.name (z ++ newC z t) 0).toNat]? = some d := by
 by_cases h : d.name ∈ z.map Con.name
 · have e := conIx_left d.name (newC z t) z 0 h
   rw [e]
   have h0 := conIx_mem.2 h
   refine ⟨h0, ?_⟩
   rcases conIx_range d.name z 0 (Int.le_refl _) with g | ⟨_, h2, e, h3, h4⟩
   · omega
   · have h3 : z[(conIx d.name z 0).toNat]? = some e := by simpa using h3
     rw [List.getElem?_append_left (List.getElem?_eq_some_iff.1 h3).1, h3]
     have h5 : clash1 z d = false := by
      have := List.any_eq_false.1 hc d hd
      simpa using this
     unfold clash1 at h5
     rw [h3] at h5
     simp only [Bool.and_eq_false_iff, decide_eq_false_iff_not] at h5
     have ha : e.args = d.args := by
      rcases h5 with g | g
      · omega
      · exact Decidable.not_not.1 g
     obtain ⟨en, ea⟩ := e
     obtain ⟨dn, da⟩ := d
     simp only at h4 ha
     rw [h4, ha]
 · have hm : d ∈ newC z t := mem_newC.2 ⟨hd, h⟩
   obtain ⟨j, hj⟩ := List.mem_iff_getElem?.1 (List.mem_append_right z hm)
   have := conIx_at (all_nodup hz ht) hj
   rw [this]
   exact ⟨by omega, by rw [Int.toNat_natCast]; exact hj⟩
end Go.Hb
namespace Go.Hb
open Go.Proofs
def toL (p : Prog) (off : Nat) : List Int := putAll (List.replicate p.nodes.length 0) off (ordL p)
def canonP (p : Prog) : Prog := ⟨nodesB p (sM p.funs.length) (sM p.cons.length) (toL p 0) p.nodes.length, p.funs.map (toAt (toL p 0)), p.main, p.cons⟩
def allC (p q : Prog) : List Con := p.cons ++ newC p.cons q.cons
def joinP (p q : Prog) : Prog :=
 ⟨nodesB p (sM p.funs.length) (sM p.cons.length) (toL p 0) p.nodes.length ++ nodesB q (mfJ p.funs.length q.funs.length) (mcOf (allC p q) q.cons 0 []) (toL q p.nodes.length) q.nodes.length,
  p.funs.map (toAt (toL p 0)) ++ q.funs.map (toAt (toL q p.nodes.length)), p.main, allC p q⟩
theorem same_any (n : Nat) (m : List (Int × Int)) : SameL n m ((List.range n).map fun (i : Nat) => mAt m (i : Int)) := fun i h0 h1 => by
 rw [List.getElem?_map, List.getElem?_range (by omega)]
 simp only [Option.map_some]
 rw [show ((i.toNat : Nat) : Int) = i by omega]
section
variable {p : Prog}
theorem toL_at (h : Fm p) (off : Nat) : ∀ (i : Nat) (k : Int), (ordL p)[i]? = some k → toAt (toL p off) k = ((off + i : Nat) : Int) := fun i k hk => by
 have := putAll_at (ordL p) (List.replicate p.nodes.length 0) off h.dup (fun x hx => by rw [List.length_replicate]; exact h.into x hx) i k hk
 unfold toL
 rw [this]; simp
theorem ordL_len (h : Fm p) : (ordL p).length = p.nodes.length := h.len
theorem nodesB_len (h : Fm p) (mf mc : List (Int × Int)) (to : List Int) : (nodesB p mf mc to p.nodes.length).length = p.nodes.length := by
 rw [nodesB_map, List.length_map, ordL_len h]
theorem toL_of (h : Fm p) {off : Nat} (ho : off ≤ 1000) : toOf p (off : Int) p.nodes.length = some (toL p off, (off : Int) + (((ordL p).length : Nat) : Int)) := by
 have hs := h.fine.small
 have hl := ordL_len h
 unfold toOf
 exact wAs_put (q := pre p p.nodes.length) p.funs _ _ (fun k hk l n h1 h2 => by
  have := h.fine.funs k hk
  exact wA_put h.fine _ k (by omega) (by omega) (by omega) l n h1 h2) (by omega) (by unfold ordL at hl; omega)
theorem nOk_any (h : Fm p) {mf : List (Int × Int)} (hB : ∀ i : Int, 0 ≤ i → i < p.funs.length → 0 ≤ mAt mf i ∧ mAt mf i ≤ 1000000) (i : Nat) (x : Node) (hx : p.nodes[i]? = some x) : nOk mf x :=
 (node_any (mc := []) (same_any _ _) (same_any _ _) hB h.fine.fsmall (h.node i x hx).1 (h.node i x hx).2).2
theorem sM_B (n : Nat) (hn : n ≤ 320) : ∀ i : Int, 0 ≤ i → i < n → 0 ≤ mAt (sM n) i ∧ mAt (sM n) i ≤ 1000000 := fun i h0 h1 => by rw [sM_at h0 h1]; omega
theorem bCanon_val (h : Fm p) (h10 : Pure PP 10 [PA p] (.int .i64 0)) : Pure PP 9 [PA p] (.tup [PA (canonP p), .int .i64 0]) := by
 have hs := h.fine.small
 have hc := h.cons
 have hb := nodesB_len h (sM p.funs.length) (sM p.cons.length) (toL p 0)
 exact bCanon_ok h.fine (nOk_any h (sM_B _ h.fine.fsmall)) _ (Nat.le_refl _) (toL p 0) _ (by omega) (by omega) (toL_of h (Nat.zero_le _)) h10
theorem bJoin_val {q : Prog} (h : Fm p) (g : Fm q) (hp : Pure PP 10 [PA p] (.int .i64 0)) (hq : Pure PP 10 [PA q] (.int .i64 0)) :
  Pure PP 8 [PA p, PA q] (if clash p.cons q.cons = true then .tup [errProg, .int .i64 7] else if p.nodes.length + q.nodes.length > 300 ∨ (allC p q).length > 20 then .tup [errProg, .int .i64 3] else .tup [PA (joinP p q), .int .i64 0]) := by
 have sp := h.fine.small; have fp := h.fine.fsmall; have cp := h.cons
 have sq := g.fine.small; have fq := g.fine.fsmall; have cq := g.cons
 have hb := nodesB_len h (sM p.funs.length) (sM p.cons.length) (toL p 0)
 have h17 := bCanonN h.fine (nOk_any h (sM_B _ fp)) _ (Nat.le_refl _) (toL p 0) _ (by omega) (by omega) (toL_of h (Nat.zero_le _)) hp
 have B := bJoin_ok ⟨cp, fp, sp⟩ ⟨cq, fq, sq⟩ hp hq (by omega) (by rw [List.length_map]; exact fp) cp h17
 have e := joinB_eq h.names q.cons 0 [] [] g.names (fun c _ => by simp) (by simp) (fun c hc => by cases hc)
 rw [List.append_nil] at e
 rw [e] at B
 by_cases hc : clash p.cons q.cons = true
 · rw [if_pos hc] at B ⊢
   exact B
 · rw [if_neg hc] at B ⊢
   have B := B (nodesB q (mfJ p.funs.length q.funs.length) (mcOf (allC p q) q.cons 0 []) (toL q p.nodes.length) q.nodes.length) (q.funs.map (toAt (toL q p.nodes.length))) (by rw [nodesB_len g]; omega) (by rw [List.length_map]; exact fq) (by
    rw [hb]
    exact ordered_spec g.fine (nOk_any g (fun i h0 h1 => by rw [mfJ_at h0 h1]; omega)) _ _ (Nat.le_refl _) _ _ (by rw [nodesB_len g]; omega) (toL_of g (by omega)))
   rw [hb, nodesB_len g] at B
   exact B
end
end Go.Hb
namespace Go.Hb
open Go.Proofs
theorem nodup_differ : ∀ (l pre : List Str), l.Nodup → (∀ x ∈ l, x ∉ pre) → differFrom pre l = true
 | [], _, _, _ => rfl
 | x :: t, pre, hd, h => by
  have hd := List.nodup_cons.1 hd
  simp only [differFrom, Bool.and_eq_true, Bool.not_eq_true']
  refine ⟨?_, nodup_differ t (pre ++ [x]) hd.2 (fun y hy => ?_)⟩
  · cases e : hasS pre x with
    | false => rfl
    | true => exact absurd (hasS_mem.1 e) (h x (List.mem_cons_self ..))
  · rw [List.mem_append, not_or, List.mem_singleton]
    exact ⟨h y (List.mem_cons_of_mem _ hy), fun e => hd.1 (e ▸ hy)⟩
structure Fs (p : Prog) : Prop extends Fm p where
 sm : smallProg p = true
 fo : refFormed p = true
theorem Fs.of {p : Prog} (hs : smallProg p = true) (hf : refFormed p = true) : Fs p := { formed_all hs hf with sm := hs, fo := hf }
theorem Fs.head {p : Prog} (h : Fs p) : p.nodes.length ≤ 300 ∧ 1 ≤ p.funs.length ∧ p.funs.length ≤ p.nodes.length ∧ 0 ≤ p.main ∧ p.main < p.funs.length ∧ p.cons.length ≤ 20 ∧ (∀ c ∈ p.cons, consOk1 c = true) := by
 have := h.fo
 simp only [refFormed, Bool.and_eq_true, progHead, consOk, decide_eq_true_eq] at this
 obtain ⟨⟨⟨⟨a1, a2⟩, a3⟩, ⟨a4, a5⟩, _⟩, _⟩ := this
 simp [inB] at a2 a3
 exact ⟨a1, by omega, by omega, by omega, by omega, a5, fun c hc => List.all_eq_true.1 a4 c hc⟩
theorem Fs.snode {p : Prog} (h : Fs p) {i : Nat} {x : Node} (hx : p.nodes[i]? = some x) : smallNode x = true := by
 have := h.sm
 simp only [smallProg, Bool.and_eq_true] at this
 exact List.all_eq_true.1 this.2 x (List.mem_of_getElem? hx)
theorem Fs.scons {p : Prog} (h : Fs p) {c : Con} (hc : c ∈ p.cons) : c.name.length ≤ 40 := by
 have := h.sm
 simp only [smallProg, Bool.and_eq_true, smallCons] at this
 simpa using List.all_eq_true.1 this.1.2 c hc
section
variable {a : Prog} {N : Nat}
theorem range_formed (hN : a.nodes.length = N) (h300 : N ≤ 300) (hf1 : 1 ≤ a.funs.length) (hf2 : a.funs.length ≤ N) (hm0 : 0 ≤ a.main) (hm1 : a.main < a.funs.length) (hc20 : a.cons.length ≤ 20) (hc : ∀ c ∈ a.cons, consOk1 c = true ∧ c.name.length ≤ 40) (hcd : (a.cons.map Con.name).Nodup)
  (hnode : ∀ (i : Nat) (x : Node), a.nodes[i]? = some x → nodeOk a x = true ∧ smallNode x = true ∧ ∀ k ∈ x.kids, (i : Int) < k ∧ k < N) (hfun : ∀ f ∈ a.funs, 0 ≤ f ∧ f < N) (hw : ordL a = (List.range N).map fun (i : Nat) => (i : Int)) : Fs a := by
 have hsm : smallProg a = true := by
  simp only [smallProg, Bool.and_eq_true, decide_eq_true_eq, smallCons]
  refine ⟨⟨⟨⟨by omega, by omega⟩, by omega⟩, List.all_eq_true.2 fun c h => by simpa using (hc c h).2⟩, List.all_eq_true.2 fun x hx => ?_⟩
  obtain ⟨i, hi⟩ := List.mem_iff_getElem?.1 hx
  exact (hnode i x hi).2.1
 have hfine : FineP a := ⟨by omega, by omega, fun i x hx => by
  obtain ⟨h1, h2, h3⟩ := hnode i x hx
  simp only [smallNode, Bool.and_eq_true, decide_eq_true_eq] at h2
  exact ⟨fine_of h1, h2.1.1, fun k hk => by have := h3 k hk; omega⟩, fun f hf => by have := hfun f hf; omega⟩
 refine Fs.of hsm ?_
 have hnd : (ordL a).Nodup := by
  rw [hw, List.nodup_iff_pairwise_ne]
  refine List.pairwise_map.2 ((List.nodup_iff_pairwise_ne.1 List.nodup_range).imp fun h e => h (by omega))
 have hcnt : ∀ m : Int, 0 ≤ m → m < a.nodes.length → a.funs.count m + ((a.nodes.map Node.kids).flatten).count m = 1 := fun m h0 h1 => by
  have e1 := flat_count (p := a) (q := pre a a.nodes.length) m a.funs (fun k hk => by
   have := hfine.funs k hk
   exact pre_count hfine m _ k this.1 this.2 (by omega))
  have e2 : (ordL a).map (kidsOf a) = a.nodes.map Node.kids := by
   refine List.ext_getElem? (fun i => ?_)
   rw [hw, List.getElem?_map, List.getElem?_map, List.getElem?_map]
   by_cases hi : i < N
   · rw [List.getElem?_range hi]
     have : a.nodes[i]? = some a.nodes[i] := List.getElem?_eq_getElem (by omega)
     simp only [Option.map_some, this]
     unfold kidsOf
     rw [Int.toNat_natCast, this]
   · rw [List.getElem?_eq_none (by simp; omega), List.getElem?_eq_none (by omega)]; rfl
  have e3 : (ordL a).count m = 1 := by
   have a1 := List.nodup_iff_count.1 hnd m
   have a2 : m ∈ ordL a := by rw [hw]; exact List.mem_map.2 ⟨m.toNat, List.mem_range.2 (by omega), by omega⟩
   have := List.count_pos_iff.2 a2
   omega
  change (ordL a).count m = a.funs.count m + (((ordL a).map (kidsOf a)).flatten).count m at e1
  rw [e2, e3] at e1
  omega
 have hrep : ∀ m : Int, tauM (List.replicate a.nodes.length false) m = 0 := fun m => by
  unfold tauM
  rw [List.getElem?_replicate]
  by_cases g : m.toNat < a.nodes.length
  · rw [if_pos g]; rfl
  · rw [if_neg g]; rfl
 obtain ⟨u, hu⟩ := marks_some (lo := 0) (n := (a.nodes.length : Int)) (Int.le_refl _) a.funs (List.replicate a.nodes.length false) (by rw [List.length_replicate]) (fun k hk => by have := hfun k hk; omega) (fun m h0 h1 => by
  have := hcnt m h0 h1
  rw [hrep]; omega)
 have hul := marks_len hu
 rw [List.length_replicate] at hul
 obtain ⟨v, hv⟩ := refNodes_some (a := a) a.nodes 0 u hul (fun x hx => by
  obtain ⟨i, hi⟩ := List.mem_iff_getElem?.1 hx
  exact (hnode i x hi).1) (fun j x hx k hk => by have := (hnode j x hx).2.2 k hk; omega) (fun m h0 h1 => by
  have h2 := marks_count (m := m) (by omega) h0 hu
  have := hcnt m h0 h1
  rw [hrep] at h2
  omega)
 simp only [refFormed, Bool.and_eq_true]
 refine ⟨⟨?_, ?_⟩, ?_⟩
 · simp [progHead, inB]; omega
 · simp only [consOk, Bool.and_eq_true, decide_eq_true_eq]
   exact ⟨⟨List.all_eq_true.2 fun c h => (hc c h).1, hc20⟩, nodup_differ _ [] hcd (fun x _ => by simp)⟩
 · rw [hu]
   simp only
   rw [hv]
   unfold allT
   refine List.all_eq_true.2 (fun b hb => ?_)
   obtain ⟨i, hi⟩ := List.mem_iff_getElem?.1 hb
   have hvl := refNodes_len hv
   have hlt := (List.getElem?_eq_some_iff.1 hi).1
   have h2 := marks_count (m := (i : Int)) (by omega) (by omega) hu
   have h3 := refNodes_count (m := (i : Int)) (by omega) hv
   have := hcnt (i : Int) (by omega) (by omega)
   rw [hrep] at h2
   have h4 : tauM v (i : Int) = 1 := by omega
   unfold tauM at h4
   rw [Int.toNat_natCast, hi] at h4
   cases b with
   | true => rfl
   | false => simp at h4
end
section
variable {p a : Prog} {off : Nat} {mf mc : List (Int × Int)} {to : List Int}
theorem Laid.nodeFine (h : Laid a off p mf mc to) (hp : Fs p) (hm : MapsOk p a mf mc) {N : Nat} (hN : off + p.nodes.length ≤ N) {i : Nat} {k : Int} (hi : (ordL p)[i]? = some k) :
  nodeOk a (bNode mf mc to (nodeAt p k)) = true ∧ smallNode (bNode mf mc to (nodeAt p k)) = true ∧ ∀ c ∈ (bNode mf mc to (nodeAt p k)).kids, ((off + i : Nat) : Int) < c ∧ c < N := by
 have hk := hp.into k (List.mem_of_getElem? hi)
 obtain ⟨x, hx⟩ : ∃ x, p.nodes[k.toNat]? = some x := ⟨_, List.getElem?_eq_getElem (by omega)⟩
 rw [nodeAt_of hx]
 refine ⟨bNode_ok hm to (hp.node _ x hx).1, bNode_small to (hp.snode hx), fun c hc => ?_⟩
 obtain ⟨c0, hc0, rfl⟩ := List.mem_map.1 hc
 have ek : kidsOf p k = x.kids := by unfold kidsOf; rw [hx]
 obtain ⟨j, hj, e⟩ := walk_after hp.toFm i k c0 hi (by rw [ek]; exact hc0)
 rw [h.to j c0 e]
 have := (List.getElem?_eq_some_iff.1 e).1
 rw [ordL_len hp.toFm] at this
 omega
end
section
variable {p q : Prog}
theorem join_laid1 (h : Fm p) (q : Prog) : Laid (joinP p q) 0 p (sM p.funs.length) (sM p.cons.length) (toL p 0) :=
 ⟨fun i k hi => by
  have hlt := (List.getElem?_eq_some_iff.1 hi).1
  rw [Nat.zero_add]
  unfold joinP
  simp only
  rw [List.getElem?_append_left (by rw [nodesB_len h, ← ordL_len h]; exact hlt), nodesB_map, List.getElem?_map, hi]; rfl, toL_at h 0⟩
theorem join_laid2 (h : Fm p) (g : Fm q) : Laid (joinP p q) p.nodes.length q (mfJ p.funs.length q.funs.length) (mcOf (allC p q) q.cons 0 []) (toL q p.nodes.length) :=
 ⟨fun i k hi => by
  unfold joinP
  simp only
  rw [List.getElem?_append_right (by rw [nodesB_len h]; omega), nodesB_len h, show p.nodes.length + i - p.nodes.length = i by omega, nodesB_map q, List.getElem?_map, hi]; rfl, toL_at g _⟩
theorem canon_laid (h : Fm p) : Laid (canonP p) 0 p (sM p.funs.length) (sM p.cons.length) (toL p 0) :=
 ⟨fun i k hi => by
  rw [Nat.zero_add]
  unfold canonP
  simp only
  rw [nodesB_map, List.getElem?_map, hi]; rfl, toL_at h 0⟩
theorem join_maps1 (p q : Prog) : MapsOk p (joinP p q) (sM p.funs.length) (sM p.cons.length) :=
 ⟨fun i h0 h1 => by
  rw [sM_at h0 h1]
  unfold joinP
  simp only [List.length_append, List.length_map]
  omega, fun i d hd => by
  have hlt := (List.getElem?_eq_some_iff.1 hd).1
  rw [sM_at (by omega) (by omega), Int.toNat_natCast]
  refine ⟨by omega, ?_⟩
  show (p.cons ++ newC p.cons q.cons)[i]? = some d
  rw [List.getElem?_append_left hlt]; exact hd⟩
theorem join_maps2 (h : Fm p) (g : Fm q) (hc : clash p.cons q.cons = false) : MapsOk q (joinP p q) (mfJ p.funs.length q.funs.length) (mcOf (allC p q) q.cons 0 []) :=
 ⟨fun i h0 h1 => by
  rw [mfJ_at h0 h1]
  unfold joinP
  simp only [List.length_append, List.length_map]
  omega, fun i d hd => by
  have e := mcOf_at (allC p q) q.cons 0 [] i d hd
  rw [Int.zero_add] at e
  rw [e]
  exact all_at h.names g.names hc (List.mem_of_getElem? hd)⟩
theorem range_two (m n : Nat) : (List.range m).map (fun i => ((0 + i : Nat) : Int)) ++ (List.range n).map (fun i => ((m + i : Nat) : Int)) = (List.range (m + n)).map fun (i : Nat) => (i : Int) := by
 rw [List.range_add, List.map_append, List.map_map]
 congr 1
 exact List.map_congr_left (fun i _ => by rw [Nat.zero_add])
theorem join_len (h : Fm p) (g : Fm q) : (joinP p q).nodes.length = p.nodes.length + q.nodes.length := by
 unfold joinP
 simp only [List.length_append]
 rw [nodesB_len h, nodesB_len g]
theorem join_walk (h : Fm p) (g : Fm q) : ordL (joinP p q) = (List.range (p.nodes.length + q.nodes.length)).map fun (i : Nat) => (i : Int) := by
 have e := join_len h g
 unfold ordL
 rw [show (joinP p q).funs = p.funs.map (toAt (toL p 0)) ++ q.funs.map (toAt (toL q p.nodes.length)) from rfl, List.map_append, List.flatten_append, (join_laid1 h q).walk h (by omega), (join_laid2 h g).walk g (by omega), ordL_len h, ordL_len g, range_two]
theorem join_formed (h : Fs p) (g : Fs q) (hc : clash p.cons q.cons = false) (hn : p.nodes.length + q.nodes.length ≤ 300) (hl : (allC p q).length ≤ 20) : Fs (joinP p q) := by
 obtain ⟨a1, a2, a3, a4, a5, a6, a7⟩ := h.head
 obtain ⟨b1, b2, b3, b4, b5, b6, b7⟩ := g.head
 have e := join_len h.toFm g.toFm
 have L1 := join_laid1 h.toFm q
 have L2 := join_laid2 h.toFm g.toFm
 have hfl : (joinP p q).funs.length = p.funs.length + q.funs.length := by unfold joinP; simp
 refine range_formed e hn (by omega) (by omega) a4 (by show p.main < _; omega) hl (fun c hcm => ?_) (all_nodup h.names g.names) (fun i x hx => ?_) (fun f hf => ?_) (join_walk h.toFm g.toFm)
 · rcases List.mem_append.1 hcm with hm | hm
   · exact ⟨a7 c hm, h.scons hm⟩
   · have := (mem_newC.1 hm).1
     exact ⟨b7 c this, g.scons this⟩
 · have hlt := (List.getElem?_eq_some_iff.1 hx).1
   by_cases hi : i < p.nodes.length
   · obtain ⟨kk, ek⟩ : ∃ kk, (ordL p)[i]? = some kk := ⟨_, List.getElem?_eq_getElem (by rw [ordL_len h.toFm]; exact hi)⟩
     have e1 := L1.node i _ ek
     rw [Nat.zero_add, hx] at e1
     have := L1.nodeFine h (join_maps1 p q) (N := p.nodes.length + q.nodes.length) (by omega) ek
     rw [Nat.zero_add, ← Option.some.inj e1] at this
     exact this
   · obtain ⟨kk, ek⟩ : ∃ kk, (ordL q)[i - p.nodes.length]? = some kk := ⟨_, List.getElem?_eq_getElem (by rw [ordL_len g.toFm]; omega)⟩
     have e1 := L2.node _ _ ek
     rw [show p.nodes.length + (i - p.nodes.length) = i by omega, hx] at e1
     have := L2.nodeFine g (join_maps2 h.toFm g.toFm hc) (N := p.nodes.length + q.nodes.length) (Nat.le_refl _) ek
     rw [show p.nodes.length + (i - p.nodes.length) = i by omega, ← Option.some.inj e1] at this
     exact this
 · rcases List.mem_append.1 hf with hm | hm
   · obtain ⟨k, hk, rfl⟩ := List.mem_map.1 hm
     have hr := h.fine.funs k hk
     obtain ⟨j, hj⟩ := walk_mem h.toFm hr.1 hr.2
     rw [L1.to j k hj]
     have := (List.getElem?_eq_some_iff.1 hj).1
     rw [ordL_len h.toFm] at this
     omega
   · obtain ⟨k, hk, rfl⟩ := List.mem_map.1 hm
     have hr := g.fine.funs k hk
     obtain ⟨j, hj⟩ := walk_mem g.toFm hr.1 hr.2
     rw [L2.to j k hj]
     have := (List.getElem?_eq_some_iff.1 hj).1
     rw [ordL_len g.toFm] at this
     omega
end
end Go.Hb
namespace Go.Hb
open Go.Proofs
theorem clash1_iff {z : List Con} (hz : (z.map Con.name).Nodup) {c : Con} : clash1 z c = true ↔ ∃ d ∈ z, d.name = c.name ∧ d.args ≠ c.args := by
 constructor
 · intro h
   unfold clash1 at h
   split at h
   · rename_i d hd
     simp only [Bool.and_eq_true, decide_eq_true_eq] at h
     rcases conIx_range c.name z 0 (Int.le_refl _) with g | ⟨_, _, e, h3, h4⟩
     · omega
     · have h3 : z[(conIx c.name z 0).toNat]? = some e := by simpa using h3
       rw [hd] at h3
       cases h3
       exact ⟨d, List.mem_of_getElem? hd, h4, h.2⟩
   · cases h
 · rintro ⟨d, hd, hn, ha⟩
   obtain ⟨j, hj⟩ := List.mem_iff_getElem?.1 hd
   have := conIx_at hz hj
   unfold clash1
   rw [← hn, this, Int.toNat_natCast, hj]
   simp [ha]
theorem clash_iff {z t : List Con} (hz : (z.map Con.name).Nodup) : clash z t = true ↔ ∃ c ∈ t, ∃ d ∈ z, d.name = c.name ∧ d.args ≠ c.args := by
 unfold clash
 rw [List.any_eq_true]
 constructor
 · rintro ⟨c, hc, h⟩
   exact ⟨c, hc, (clash1_iff hz).1 h⟩
 · rintro ⟨c, hc, h⟩
   exact ⟨c, hc, (clash1_iff hz).2 h⟩
theorem newC_append (z s t : List Con) : newC z (s ++ t) = newC z s ++ newC z t := List.filter_append ..
theorem names_all {z t : List Con} {s : Str} : s ∈ (z ++ newC z t).map Con.name ↔ s ∈ z.map Con.name ∨ s ∈ t.map Con.name := by
 rw [List.map_append, List.mem_append]
 constructor
 · rintro (h | h)
   · exact .inl h
   · obtain ⟨c, hc, rfl⟩ := List.mem_map.1 h
     exact .inr (List.mem_map.2 ⟨c, (mem_newC.1 hc).1, rfl⟩)
 · rintro (h | h)
   · exact .inl h
   · by_cases g : s ∈ z.map Con.name
     · exact .inl g
     · obtain ⟨c, hc, rfl⟩ := List.mem_map.1 h
       exact .inr (List.mem_map.2 ⟨c, mem_newC.2 ⟨hc, g⟩, rfl⟩)
theorem newC_newC (x y t : List Con) : newC x (newC y t) = newC (x ++ newC x y) t := by
 unfold newC
 rw [List.filter_filter]
 refine List.filter_congr (fun c _ => ?_)
 have e : decide (conIx c.name (x ++ List.filter (fun c => decide (conIx c.name x 0 < 0)) y) 0 < 0) = decide (¬ (c.name ∈ x.map Con.name ∨ c.name ∈ y.map Con.name)) := decide_eq_decide.2 (by
  rw [conIx_neg]
  exact not_congr names_all)
 rw [e]
 have e1 : decide (conIx c.name x 0 < 0) = decide (c.name ∉ x.map Con.name) := decide_eq_decide.2 conIx_neg
 have e2 : decide (conIx c.name y 0 < 0) = decide (c.name ∉ y.map Con.name) := decide_eq_decide.2 conIx_neg
 rw [e1, e2]
 by_cases a : c.name ∈ x.map Con.name <;> by_cases b : c.name ∈ y.map Con.name <;> simp [a, b]
theorem all_assoc (x y t : List Con) : (x ++ newC x y) ++ newC (x ++ newC x y) t = x ++ newC x (y ++ newC y t) := by
 rw [newC_append, newC_newC, List.append_assoc]
theorem clash_assoc {x y t : List Con} (hx : (x.map Con.name).Nodup) (hy : (y.map Con.name).Nodup) (h1 : clash x y = false) (h2 : clash y t = false) : clash (x ++ newC x y) t = clash x (y ++ newC y t) := by
 have n1 : ¬ ∃ c ∈ y, ∃ d ∈ x, d.name = c.name ∧ d.args ≠ c.args := fun h => by rw [(clash_iff hx).2 h] at h1; cases h1
 have n2 : ¬ ∃ c ∈ t, ∃ d ∈ y, d.name = c.name ∧ d.args ≠ c.args := fun h => by rw [(clash_iff hy).2 h] at h2; cases h2
 rw [Bool.eq_iff_iff, clash_iff (all_nodup hx hy), clash_iff hx]
 constructor
 · rintro ⟨c, hc, d, hd, hn, ha⟩
   rcases List.mem_append.1 hd with hd | hd
   · by_cases g : c.name ∈ y.map Con.name
     · obtain ⟨e, he, hen⟩ := List.mem_map.1 g
       have a1 : e.args = c.args := Decidable.not_not.1 fun h => n2 ⟨c, hc, e, he, hen, h⟩
       have a2 : d.args = e.args := Decidable.not_not.1 fun h => n1 ⟨e, he, d, hd, by rw [hn, hen], h⟩
       exact absurd (a2.trans a1) ha
     · exact ⟨c, List.mem_append_right _ (mem_newC.2 ⟨hc, g⟩), d, hd, hn, ha⟩
   · exact absurd ⟨c, hc, d, (mem_newC.1 hd).1, hn, ha⟩ n2
 · rintro ⟨c, hc, d, hd, hn, ha⟩
   rcases List.mem_append.1 hc with hc | hc
   · exact absurd ⟨c, hc, d, hd, hn, ha⟩ n1
   · exact ⟨c, (mem_newC.1 hc).1, d, List.mem_append_left _ hd, hn, ha⟩
mutual
theorem cPat_comp {cons : List Con} {mc mc' mc2 : List (Int × Int)} (h : ∀ n : Int, 0 ≤ n → n < cons.length → mAt mc2 n = mAt mc' (mAt mc n)) : ∀ q : Pat, patOk cons q = true → cPat mc' (cPat mc q) = cPat mc2 q
 | .mk f n s ps, g => by
  rw [patOk, Bool.and_eq_true] at g
  rw [cPat, cPat, cPat, cPats_comp h ps g.2]
  by_cases hf : f = 6
  · subst hf
    have g1 := g.1
    unfold patHead at g1
    simp [inB] at g1
    rw [if_pos rfl, if_pos rfl, if_pos rfl, h n g1.1.1.1 (by omega)]
  · rw [if_neg hf, if_neg hf, if_neg hf]
theorem cPats_comp {cons : List Con} {mc mc' mc2 : List (Int × Int)} (h : ∀ n : Int, 0 ≤ n → n < cons.length → mAt mc2 n = mAt mc' (mAt mc n)) : ∀ ps : List Pat, patsOk cons ps = true → cPats mc' (cPats mc ps) = cPats mc2 ps
 | [], _ => rfl
 | q :: ps, g => by
  rw [patsOk, Bool.and_eq_true] at g
  rw [cPats, cPats, cPats, cPat_comp h q g.1, cPats_comp h ps g.2]
end
theorem node_has {p : Prog} {x : Node} (h : nodeOk p x = true) : (x.op = 4 → -(p.funs.length : Int) ≤ x.n) ∧ (x.op = 14 → 0 ≤ x.n ∧ x.n < p.cons.length) ∧ patsOk p.cons x.pats = true := by
 simp only [nodeOk, nodeHead, Bool.and_eq_true] at h
 obtain ⟨⟨⟨h1, _⟩, h2⟩, _⟩ := h
 refine ⟨fun e => ?_, fun e => ?_, patsOk_all fun q hq => ?_⟩
 · rw [e] at h1
   simp [nodeHead1, inB] at h1
   omega
 · rw [e] at h1
   simp [nodeHead1, inB] at h1
   omega
 · have := List.all_eq_true.1 h2 q hq
   simp only [nodePat, Bool.and_eq_true] at this
   exact this.2
structure Comp (p : Prog) (mf mc : List (Int × Int)) (to : List Int) (mf' mc' : List (Int × Int)) (to' : List Int) (mf2 mc2 : List (Int × Int)) (to2 : List Int) : Prop where
 f0 : ∀ i : Int, 0 ≤ i → i < p.funs.length → 0 ≤ mAt mf i
 f : ∀ i : Int, 0 ≤ i → i < p.funs.length → mAt mf2 i = mAt mf' (mAt mf i)
 c : ∀ i : Int, 0 ≤ i → i < p.cons.length → mAt mc2 i = mAt mc' (mAt mc i)
 t : ∀ (i : Nat) (k : Int), (ordL p)[i]? = some k → toAt to2 k = toAt to' (toAt to k)
theorem Comp.node {p : Prog} {mf mc mf' mc' mf2 mc2 : List (Int × Int)} {to to' to2 : List Int} (h : Comp p mf mc to mf' mc' to' mf2 mc2 to2) (hp : Fm p) {k : Int} (hk : k ∈ ordL p) : bNode mf' mc' to' (bNode mf mc to (nodeAt p k)) = bNode mf2 mc2 to2 (nodeAt p k) := by
 have hr := hp.into k hk
 obtain ⟨x, hx⟩ : ∃ x, p.nodes[k.toNat]? = some x := ⟨_, List.getElem?_eq_getElem (by omega)⟩
 rw [nodeAt_of hx]
 obtain ⟨h4, h14, hps⟩ := node_has (hp.node _ x hx).1
 unfold bNode
 simp only [Node.mk.injEq, List.map_map, true_and]
 refine ⟨?_, List.map_congr_left fun c hc => ?_, cPats_comp h.c _ hps⟩
 · unfold bN
   by_cases e4 : x.op = 4
   · rw [if_pos e4, if_pos e4, if_pos e4]
     by_cases hn : 0 ≤ x.n
     · rw [if_pos hn, if_pos hn, if_pos hn]
     · have := h4 e4
       have h0 := h.f0 (-1 - x.n) (by omega) (by omega)
       have h1 := h.f (-1 - x.n) (by omega) (by omega)
       rw [if_neg hn, if_neg hn, if_neg (by omega), h1]
       congr 2
       omega
   · rw [if_neg e4, if_neg e4, if_neg e4]
     by_cases e14 : x.op = 14
     · have := h14 e14
       rw [if_pos e14, if_pos e14, if_pos e14, h.c x.n this.1 this.2]
     · rw [if_neg e14, if_neg e14, if_neg e14]
 · have := (hp.fine.node _ _ hx).2.2 c hc
   obtain ⟨i, hi⟩ := walk_mem hp (k := c) (by omega) (by omega)
   exact (h.t i c hi).symm
theorem Laid.slice {a p : Prog} {off : Nat} {mf mc : List (Int × Int)} {to : List Int} (h : Laid a off p mf mc to) (F : Node → Node) : ((List.range (ordL p).length).map fun i => F (nodeAt a ((off + i : Nat) : Int))) = (ordL p).map fun k => F (bNode mf mc to (nodeAt p k)) := by
 refine List.ext_getElem? (fun i => ?_)
 rw [List.getElem?_map, List.getElem?_map]
 by_cases hi : i < (ordL p).length
 · have e : (ordL p)[i]? = some (ordL p)[i] := List.getElem?_eq_getElem hi
   rw [List.getElem?_range hi, e]
   simp only [Option.map_some]
   rw [nodeAt_of (p := a) (k := ((off + i : Nat) : Int)) (by rw [Int.toNat_natCast]; exact h.node i _ e)]
 · rw [List.getElem?_eq_none (by simp; omega), List.getElem?_eq_none (by omega)]; rfl
section
variable {p q r : Prog}
theorem nodesB_join (h : Fm p) (g : Fm q) (mf mc : List (Int × Int)) (to : List Int) : nodesB (joinP p q) mf mc to (joinP p q).nodes.length =
  ((ordL p).map fun k => bNode mf mc to (bNode (sM p.funs.length) (sM p.cons.length) (toL p 0) (nodeAt p k))) ++ ((ordL q).map fun k => bNode mf mc to (bNode (mfJ p.funs.length q.funs.length) (mcOf (allC p q) q.cons 0 []) (toL q p.nodes.length) (nodeAt q k))) := by
 rw [nodesB_map, join_walk h g, List.range_add, List.map_append, List.map_append, List.map_map, List.map_map, List.map_map]
 have e1 := (join_laid1 h q).slice (bNode mf mc to)
 have e2 := (join_laid2 h g).slice (bNode mf mc to)
 rw [ordL_len h] at e1
 rw [ordL_len g] at e2
 rw [← e1, ← e2]
 congr 1
 exact List.map_congr_left (fun i _ => by simp)
theorem join_to (h : Fm p) (g : Fm q) (ha : Fm (joinP p q)) (off i : Nat) (hi : i < p.nodes.length + q.nodes.length) : toAt (toL (joinP p q) off) (i : Int) = ((off + i : Nat) : Int) :=
 toL_at ha off i (i : Int) (by rw [join_walk h g, List.getElem?_map, List.getElem?_range hi]; rfl)
theorem ord_lt (h : Fm p) {i : Nat} {k : Int} (hi : (ordL p)[i]? = some k) : i < p.nodes.length := by
 have := (List.getElem?_eq_some_iff.1 hi).1
 rw [ordL_len h] at this
 exact this
theorem mc_at (al : List Con) {t : List Con} {n : Int} (h0 : 0 ≤ n) (h1 : n < t.length) : ∃ d, t[n.toNat]? = some d ∧ mAt (mcOf al t 0 []) n = conIx d.name al 0 := by
 have e : t[n.toNat]? = some t[n.toNat] := List.getElem?_eq_getElem (by omega)
 refine ⟨_, e, ?_⟩
 have := mcOf_at al t 0 [] n.toNat _ e
 rwa [show (0 : Int) + ((n.toNat : Nat) : Int) = n by omega] at this
theorem join_assoc (h : Fm p) (g : Fm q) (k : Fm r) (ha : Fm (joinP p q)) (hb : Fm (joinP q r)) (c2 : clash q.cons r.cons = false) : joinP (joinP p q) r = joinP p (joinP q r) := by
 have la := join_len h g
 have lb := join_len g k
 have fa : (joinP p q).funs.length = p.funs.length + q.funs.length := by unfold joinP; simp
 have fb : (joinP q r).funs.length = q.funs.length + r.funs.length := by unfold joinP; simp
 have ca : (joinP p q).cons = allC p q := rfl
 have cb : (joinP q r).cons = allC q r := rfl
 have hall : allC (joinP p q) r = allC p (joinP q r) := all_assoc p.cons q.cons r.cons
 have hal : allC p (joinP q r) = allC p q ++ newC p.cons (newC q.cons r.cons) := by
  show p.cons ++ newC p.cons (q.cons ++ newC q.cons r.cons) = (p.cons ++ newC p.cons q.cons) ++ _
  rw [newC_append, List.append_assoc]
 have C1 : Comp p (sM p.funs.length) (sM p.cons.length) (toL p 0) (sM (joinP p q).funs.length) (sM (joinP p q).cons.length) (toL (joinP p q) 0) (sM p.funs.length) (sM p.cons.length) (toL p 0) :=
  ⟨fun i h0 h1 => by rw [sM_at h0 h1]; exact h0, fun i h0 h1 => by rw [sM_at h0 h1, sM_at h0 (by omega)], fun i h0 h1 => by
   rw [sM_at h0 h1, sM_at h0 (by rw [ca]; unfold allC; rw [List.length_append]; omega)], fun i c hi => by
   have := ord_lt h hi
   rw [toL_at h 0 i c hi, Nat.zero_add, join_to h g ha 0 i (by omega), Nat.zero_add]⟩
 have C2 : Comp q (mfJ p.funs.length q.funs.length) (mcOf (allC p q) q.cons 0 []) (toL q p.nodes.length) (sM (joinP p q).funs.length) (sM (joinP p q).cons.length) (toL (joinP p q) 0) (mfJ p.funs.length q.funs.length) (mcOf (allC p q) q.cons 0 []) (toL q p.nodes.length) :=
  ⟨fun i h0 h1 => by rw [mfJ_at h0 h1]; omega, fun i h0 h1 => by rw [mfJ_at h0 h1, sM_at (by omega) (by omega)], fun i h0 h1 => by
   obtain ⟨d, hd, e⟩ := mc_at (allC p q) h0 h1
   have hm : d.name ∈ (allC p q).map Con.name := names_all.2 (.inr (List.mem_map.2 ⟨d, List.mem_of_getElem? hd, rfl⟩))
   have h2 := conIx_mem.2 hm
   rcases conIx_range d.name (allC p q) 0 (Int.le_refl _) with g | ⟨_, h3, _⟩
   · omega
   · rw [e, sM_at h2 (by rw [ca]; omega)], fun i c hi => by
   have := ord_lt g hi
   rw [toL_at g _ i c hi, join_to h g ha 0 _ (by omega), Nat.zero_add]⟩
 have C3 : Comp q (sM q.funs.length) (sM q.cons.length) (toL q 0) (mfJ p.funs.length (joinP q r).funs.length) (mcOf (allC p (joinP q r)) (joinP q r).cons 0 []) (toL (joinP q r) p.nodes.length) (mfJ p.funs.length q.funs.length) (mcOf (allC p q) q.cons 0 []) (toL q p.nodes.length) :=
  ⟨fun i h0 h1 => by rw [sM_at h0 h1]; exact h0, fun i h0 h1 => by rw [sM_at h0 h1, mfJ_at h0 h1, mfJ_at h0 (by omega)], fun i h0 h1 => by
   obtain ⟨d, hd, e⟩ := mc_at (allC p q) h0 h1
   obtain ⟨d', hd', e'⟩ := mc_at (allC p (joinP q r)) (t := (joinP q r).cons) (n := i) h0 (by rw [cb]; unfold allC; rw [List.length_append]; omega)
   have : (joinP q r).cons[i.toNat]? = some d := by
    rw [cb]; unfold allC
    rw [List.getElem?_append_left (by omega)]; exact hd
   rw [this] at hd'
   cases hd'
   rw [sM_at h0 h1, e, e', hal, conIx_left d.name _ (allC p q) 0 (names_all.2 (.inr (List.mem_map.2 ⟨d, List.mem_of_getElem? hd, rfl⟩)))], fun i c hi => by
   have := ord_lt g hi
   rw [toL_at g _ i c hi, toL_at g 0 i c hi, Nat.zero_add, join_to g k hb _ i (by omega)]⟩
 have C4 : Comp r (mfJ q.funs.length r.funs.length) (mcOf (allC q r) r.cons 0 []) (toL r q.nodes.length) (mfJ p.funs.length (joinP q r).funs.length) (mcOf (allC p (joinP q r)) (joinP q r).cons 0 []) (toL (joinP q r) p.nodes.length) (mfJ (joinP p q).funs.length r.funs.length) (mcOf (allC (joinP p q) r) r.cons 0 []) (toL r (joinP p q).nodes.length) :=
  ⟨fun i h0 h1 => by rw [mfJ_at h0 h1]; omega, fun i h0 h1 => by rw [mfJ_at h0 h1, mfJ_at h0 h1, mfJ_at (by omega) (by omega), fa]; omega, fun i h0 h1 => by
   obtain ⟨d, hd, e⟩ := mc_at (allC (joinP p q) r) h0 h1
   obtain ⟨d2, hd2, e2⟩ := mc_at (allC q r) h0 h1
   rw [hd] at hd2
   cases hd2
   obtain ⟨n0, n1⟩ := all_at g.names k.names c2 (List.mem_of_getElem? hd)
   have hlt := (List.getElem?_eq_some_iff.1 n1).1
   change 0 ≤ conIx d.name (allC q r) 0 at n0
   change (allC q r)[(conIx d.name (allC q r) 0).toNat]? = some d at n1
   change (conIx d.name (allC q r) 0).toNat < (allC q r).length at hlt
   obtain ⟨d3, hd3, e3⟩ := mc_at (allC p (joinP q r)) (t := (joinP q r).cons) (n := conIx d.name (allC q r) 0) n0 (by rw [cb]; omega)
   rw [cb, n1] at hd3
   cases hd3
   rw [e, e2, e3, hall], fun i c hi => by
   have := ord_lt k hi
   rw [toL_at k _ i c hi, toL_at k _ i c hi, join_to g k hb _ _ (by omega), la]
   congr 1; omega⟩
 have e1 := nodesB_join h g (sM (joinP p q).funs.length) (sM (joinP p q).cons.length) (toL (joinP p q) 0)
 have e2 := nodesB_join g k (mfJ p.funs.length (joinP q r).funs.length) (mcOf (allC p (joinP q r)) (joinP q r).cons 0 []) (toL (joinP q r) p.nodes.length)
 have m1 : ((ordL p).map fun k => bNode (sM (joinP p q).funs.length) (sM (joinP p q).cons.length) (toL (joinP p q) 0) (bNode (sM p.funs.length) (sM p.cons.length) (toL p 0) (nodeAt p k))) = nodesB p (sM p.funs.length) (sM p.cons.length) (toL p 0) p.nodes.length := by
  rw [nodesB_map]; exact List.map_congr_left fun c hc => C1.node h hc
 have m2 : ((ordL q).map fun k => bNode (sM (joinP p q).funs.length) (sM (joinP p q).cons.length) (toL (joinP p q) 0) (bNode (mfJ p.funs.length q.funs.length) (mcOf (allC p q) q.cons 0 []) (toL q p.nodes.length) (nodeAt q k))) = ((ordL q).map fun k => bNode (mfJ p.funs.length (joinP q r).funs.length) (mcOf (allC p (joinP q r)) (joinP q r).cons 0 []) (toL (joinP q r) p.nodes.length) (bNode (sM q.funs.length) (sM q.cons.length) (toL q 0) (nodeAt q k))) :=
  List.map_congr_left fun c hc => by rw [C2.node g hc, C3.node g hc]
 have m3 : ((ordL r).map fun k => bNode (mfJ p.funs.length (joinP q r).funs.length) (mcOf (allC p (joinP q r)) (joinP q r).cons 0 []) (toL (joinP q r) p.nodes.length) (bNode (mfJ q.funs.length r.funs.length) (mcOf (allC q r) r.cons 0 []) (toL r q.nodes.length) (nodeAt r k))) = nodesB r (mfJ (joinP p q).funs.length r.funs.length) (mcOf (allC (joinP p q) r) r.cons 0 []) (toL r (joinP p q).nodes.length) r.nodes.length := by
  rw [nodesB_map]; exact List.map_congr_left fun c hc => C4.node k hc
 rw [m1, m2] at e1
 rw [m3] at e2
 have hnodes : nodesB (joinP p q) (sM (joinP p q).funs.length) (sM (joinP p q).cons.length) (toL (joinP p q) 0) (joinP p q).nodes.length ++ nodesB r (mfJ (joinP p q).funs.length r.funs.length) (mcOf (allC (joinP p q) r) r.cons 0 []) (toL r (joinP p q).nodes.length) r.nodes.length =
   nodesB p (sM p.funs.length) (sM p.cons.length) (toL p 0) p.nodes.length ++ nodesB (joinP q r) (mfJ p.funs.length (joinP q r).funs.length) (mcOf (allC p (joinP q r)) (joinP q r).cons 0 []) (toL (joinP q r) p.nodes.length) (joinP q r).nodes.length := by
  rw [e1, e2, List.append_assoc]
 have hfuns : (joinP p q).funs.map (toAt (toL (joinP p q) 0)) ++ r.funs.map (toAt (toL r (joinP p q).nodes.length)) = p.funs.map (toAt (toL p 0)) ++ (joinP q r).funs.map (toAt (toL (joinP q r) p.nodes.length)) := by
  have a1 : (joinP p q).funs = p.funs.map (toAt (toL p 0)) ++ q.funs.map (toAt (toL q p.nodes.length)) := rfl
  have a2 : (joinP q r).funs = q.funs.map (toAt (toL q 0)) ++ r.funs.map (toAt (toL r q.nodes.length)) := rfl
  rw [a1, a2, List.map_append, List.map_append, List.map_map, List.map_map, List.map_map, List.map_map, List.append_assoc]
  congr 1
  · refine List.map_congr_left fun c hc => ?_
    have := h.fine.funs c hc
    obtain ⟨i, hi⟩ := walk_mem h this.1 this.2
    exact (C1.t i c hi).symm
  · congr 1
    · refine List.map_congr_left fun c hc => ?_
      have := g.fine.funs c hc
      obtain ⟨i, hi⟩ := walk_mem g this.1 this.2
      show toAt _ (toAt _ c) = toAt _ (toAt _ c)
      rw [← C2.t i c hi, ← C3.t i c hi]
    · refine List.map_congr_left fun c hc => ?_
      have := k.fine.funs c hc
      obtain ⟨i, hi⟩ := walk_mem k this.1 this.2
      exact C4.t i c hi
 have x1 : joinP (joinP p q) r = ⟨nodesB (joinP p q) (sM (joinP p q).funs.length) (sM (joinP p q).cons.length) (toL (joinP p q) 0) (joinP p q).nodes.length ++ nodesB r (mfJ (joinP p q).funs.length r.funs.length) (mcOf (allC (joinP p q) r) r.cons 0 []) (toL r (joinP p q).nodes.length) r.nodes.length,
  (joinP p q).funs.map (toAt (toL (joinP p q) 0)) ++ r.funs.map (toAt (toL r (joinP p q).nodes.length)), (joinP p q).main, allC (joinP p q) r⟩ := rfl
 rw [x1, hnodes, hfuns, hall]
 rfl
end
end Go.Hb
namespace Go.Hb
open Go.Proofs
def noProg : Prog := ⟨[], [], 0, []⟩
def valJ (p q : Prog) : Prog × Int := if clash p.cons q.cons = true then (noProg, 7) else if p.nodes.length + q.nodes.length > 300 ∨ (allC p q).length > 20 then (noProg, 3) else (joinP p q, 0)
theorem valJ_pure {p q : Prog} (h : Fs p) (g : Fs q) : Pure PP 8 [PA p, PA q] (.tup [PA (valJ p q).1, .int .i64 (valJ p q).2]) := by
 have hp := check_of h.sm
 have hq := check_of g.sm
 rw [h.fo] at hp
 rw [g.fo] at hq
 have := bJoin_val h.toFm g.toFm hp hq
 unfold valJ
 by_cases hc : clash p.cons q.cons = true
 · rw [if_pos hc] at this ⊢
   exact pure_weak this (fun E cv h => vr_errT h)
 · rw [if_neg hc] at this ⊢
   by_cases hl : p.nodes.length + q.nodes.length > 300 ∨ (allC p q).length > 20
   · rw [if_pos hl] at this ⊢
     exact pure_weak this (fun E cv h => vr_errT h)
   · rw [if_neg hl] at this ⊢
     exact this
theorem valJ_ok {p q : Prog} (h : Fs p) (g : Fs q) (e : (valJ p q).2 = 0) : (valJ p q).1 = joinP p q ∧ clash p.cons q.cons = false ∧ p.nodes.length + q.nodes.length ≤ 300 ∧ (allC p q).length ≤ 20 ∧ Fs (joinP p q) := by
 unfold valJ at e ⊢
 by_cases hc : clash p.cons q.cons = true
 · rw [if_pos hc] at e; cases e
 · rw [if_neg hc] at e ⊢
   by_cases hl : p.nodes.length + q.nodes.length > 300 ∨ (allC p q).length > 20
   · rw [if_pos hl] at e; cases e
   · rw [if_neg hl]
     have hc' : clash p.cons q.cons = false := by simpa using hc
     exact ⟨rfl, hc', by omega, by omega, join_formed h g hc' (by omega) (by omega)⟩
theorem valJ_assoc {p q r : Prog} (h : Fs p) (g : Fs q) (k : Fs r) (e1 : (valJ p q).2 = 0) (e2 : (valJ q r).2 = 0) : valJ (joinP p q) r = valJ p (joinP q r) := by
 obtain ⟨_, c1, _, _, ha⟩ := valJ_ok h g e1
 obtain ⟨_, c2, _, _, hb⟩ := valJ_ok g k e2
 have hc : clash (joinP p q).cons r.cons = clash p.cons (joinP q r).cons := clash_assoc h.names g.names c1 c2
 have hl : allC (joinP p q) r = allC p (joinP q r) := all_assoc p.cons q.cons r.cons
 have hj := join_assoc h.toFm g.toFm k.toFm ha.toFm hb.toFm c2
 unfold valJ
 rw [hc, hl, hj, join_len h.toFm g.toFm, join_len g.toFm k.toFm, Nat.add_assoc]
theorem Fs.fitp {p : Prog} (h : Fs p) : FitP p := ⟨by have := h.fine.small; omega, by have := h.fine.fsmall; omega, by have := h.cons; omega, fun x hx => by
 obtain ⟨i, hi⟩ := List.mem_iff_getElem?.1 hx
 exact h.fit i x hi⟩
theorem valC_pure {p : Prog} (h : Fs p) : Pure PP 9 [PA p] (.tup [PA (canonP p), .int .i64 0]) := by
 have hp := check_of h.sm
 rw [h.fo] at hp
 exact bCanon_val h.toFm hp
theorem canon_len {p : Prog} (h : Fs p) : (canonP p).nodes.length = p.nodes.length := nodesB_len h.toFm _ _ _
mutual
def lettP (l : List Con) : Pat → Pat
 | .mk f n s ps => match (if f = 6 ∧ 0 ≤ n ∧ n < l.length then l[n.toNat]? else none) with
  | some c => .mk f 0 c.name (lettPs l ps)
  | none => .mk f n s (lettPs l ps)
def lettPs (l : List Con) : List Pat → List Pat
 | [] => []
 | p :: ps => lettP l p :: lettPs l ps
end
def onlyP (x : Node) (l : List Con) : Prog := ⟨[⟨x.op, if x.op = 14 then 0 else x.n, x.kids, lettPs l x.pats⟩], [], 0, match (if x.op = 14 ∧ 0 ≤ x.n ∧ x.n < l.length then l[x.n.toNat]? else none) with
 | some c => [c]
 | none => []⟩
mutual
theorem lettP_same {cons l l' : List Con} {mc mc' : List (Int × Int)} (h : ∀ n : Int, 0 ≤ n → n < cons.length → ∃ d, 0 ≤ mAt mc n ∧ 0 ≤ mAt mc' n ∧ l[(mAt mc n).toNat]? = some d ∧ l'[(mAt mc' n).toNat]? = some d) : ∀ q : Pat, patOk cons q = true → lettP l (cPat mc q) = lettP l' (cPat mc' q)
 | .mk f n s ps, g => by
  rw [patOk, Bool.and_eq_true] at g
  rw [cPat, cPat, lettP, lettP, lettPs_same h ps g.2]
  by_cases hf : f = 6
  · subst hf
    have g1 := g.1
    unfold patHead at g1
    simp [inB] at g1
    obtain ⟨d, h0, h1, h2, h3⟩ := h n g1.1.1.1 (by omega)
    have l2 := (List.getElem?_eq_some_iff.1 h2).1
    have l3 := (List.getElem?_eq_some_iff.1 h3).1
    rw [if_pos rfl, if_pos rfl, if_pos ⟨rfl, h0, by omega⟩, if_pos ⟨rfl, h1, by omega⟩, h2, h3]
  · rw [if_neg hf, if_neg hf, if_neg (fun h => hf h.1), if_neg (fun h => hf h.1)]
theorem lettPs_same {cons l l' : List Con} {mc mc' : List (Int × Int)} (h : ∀ n : Int, 0 ≤ n → n < cons.length → ∃ d, 0 ≤ mAt mc n ∧ 0 ≤ mAt mc' n ∧ l[(mAt mc n).toNat]? = some d ∧ l'[(mAt mc' n).toNat]? = some d) : ∀ ps : List Pat, patsOk cons ps = true → lettPs l (cPats mc ps) = lettPs l' (cPats mc' ps)
 | [], _ => rfl
 | q :: ps, g => by
  rw [patsOk, Bool.and_eq_true] at g
  rw [cPats, cPats, lettPs, lettPs, lettP_same h q g.1, lettPs_same h ps g.2]
end
def shiftX (x : Node) (df dn : Int) : Node := ⟨x.op, if x.op = 4 ∧ x.n < 0 then x.n - df else x.n, x.kids.map (fun k => k + dn), x.pats⟩
theorem only_same {p : Prog} {l l' : List Con} {mf mf' mc mc' : List (Int × Int)} {to to' : List Int} {df dn : Int} {x : Node} (hx : nodeOk p x = true)
  (hf : ∀ i : Int, 0 ≤ i → i < p.funs.length → 0 ≤ mAt mf i ∧ mAt mf' i = mAt mf i + df) (hc : ∀ n : Int, 0 ≤ n → n < p.cons.length → ∃ d, 0 ≤ mAt mc n ∧ 0 ≤ mAt mc' n ∧ l[(mAt mc n).toNat]? = some d ∧ l'[(mAt mc' n).toNat]? = some d)
  (ht : ∀ k ∈ x.kids, toAt to' k = toAt to k + dn) : onlyP (shiftX (bNode mf mc to x) df dn) l = onlyP (bNode mf' mc' to' x) l' := by
 obtain ⟨h4, h14, hps⟩ := node_has hx
 have e1 : (shiftX (bNode mf mc to x) df dn).pats = cPats mc x.pats := rfl
 have e2 : (shiftX (bNode mf mc to x) df dn).kids = x.kids.map (toAt to') := by
  show (x.kids.map (toAt to)).map (fun k => k + dn) = _
  rw [List.map_map]
  exact List.map_congr_left fun k hk => (ht k hk).symm
 have e3 : (shiftX (bNode mf mc to x) df dn).op = x.op := rfl
 have e4 : (bNode mf' mc' to' x).op = x.op := rfl
 have e5 : (bNode mf' mc' to' x).pats = cPats mc' x.pats := rfl
 have e6 : (bNode mf' mc' to' x).kids = x.kids.map (toAt to') := rfl
 unfold onlyP
 rw [e1, e2, e3, e4, e5, e6, lettPs_same hc _ hps]
 by_cases o14 : x.op = 14
 · obtain ⟨n0, n1⟩ := h14 o14
   obtain ⟨d, d0, d1, d2, d3⟩ := hc x.n n0 n1
   have a1 : (shiftX (bNode mf mc to x) df dn).n = mAt mc x.n := by
    unfold shiftX bNode bN
    simp only
    rw [if_neg (fun h => by omega), if_neg (by omega), if_pos o14]
   have a2 : (bNode mf' mc' to' x).n = mAt mc' x.n := by
    unfold bNode bN
    simp only
    rw [if_neg (by omega), if_pos o14]
   have l2 := (List.getElem?_eq_some_iff.1 d2).1
   have l3 := (List.getElem?_eq_some_iff.1 d3).1
   have c1 : x.op = 14 ∧ 0 ≤ mAt mc x.n ∧ mAt mc x.n < l.length := ⟨o14, d0, by omega⟩
   have c2 : x.op = 14 ∧ 0 ≤ mAt mc' x.n ∧ mAt mc' x.n < l'.length := ⟨o14, d1, by omega⟩
   rw [a1, a2, if_pos c1, if_pos c2, d2, d3]
   simp only [if_pos o14]
 · rw [if_neg o14, if_neg o14, if_neg (fun h => o14 h.1), if_neg (fun h => o14 h.1)]
   have a1 : (shiftX (bNode mf mc to x) df dn).n = (bNode mf' mc' to' x).n := by
    unfold shiftX bNode bN
    simp only
    by_cases o4 : x.op = 4
    · rw [if_pos o4, if_pos o4]
      by_cases hn : 0 ≤ x.n
      · rw [if_pos hn, if_pos hn, if_neg (by omega)]
      · have := h4 o4
        obtain ⟨f0, f1⟩ := hf (-1 - x.n) (by omega) (by omega)
        rw [if_neg hn, if_neg hn, if_pos ⟨o4, by omega⟩, f1]
        omega
    · rw [if_neg o4, if_neg o4, if_neg o14, if_neg o14, if_neg (fun h => o4 h.1)]
   rw [a1]
theorem shift0 (x : Node) : shiftX x 0 0 = x := by
 obtain ⟨a, b, c, d⟩ := x
 simp [shiftX]
theorem only_first {p q : Prog} (h : Fs p) {i : Nat} {x : Node} (hx : (canonP p).nodes[i]? = some x) : ∃ y, (joinP p q).nodes[i]? = some y ∧ onlyP x (canonP p).cons = onlyP y (joinP p q).cons := by
 have hlt := (List.getElem?_eq_some_iff.1 hx).1
 rw [canon_len h] at hlt
 obtain ⟨k, hk⟩ : ∃ k, (ordL p)[i]? = some k := ⟨_, List.getElem?_eq_getElem (by rw [ordL_len h.toFm]; exact hlt)⟩
 have e1 := (canon_laid h.toFm).node i k hk
 have e2 := (join_laid1 h.toFm q).node i k hk
 rw [Nat.zero_add] at e1 e2
 rw [hx] at e1
 have hr := h.into k (List.mem_of_getElem? hk)
 obtain ⟨z, hz⟩ : ∃ z, p.nodes[k.toNat]? = some z := ⟨_, List.getElem?_eq_getElem (by omega)⟩
 rw [nodeAt_of hz] at e1 e2
 refine ⟨_, e2, ?_⟩
 rw [Option.some.inj e1]
 have := only_same (df := 0) (dn := 0) (l := (canonP p).cons) (l' := (joinP p q).cons) (mf := sM p.funs.length) (mf' := sM p.funs.length) (mc := sM p.cons.length) (mc' := sM p.cons.length) (to := toL p 0) (to' := toL p 0) (h.node _ z hz).1 (fun i h0 h1 => by rw [sM_at h0 h1]; omega) (fun n h0 h1 => by
  rw [sM_at h0 h1]
  have e : p.cons[n.toNat]? = some p.cons[n.toNat] := List.getElem?_eq_getElem (by omega)
  refine ⟨_, h0, h0, e, ?_⟩
  show (p.cons ++ newC p.cons q.cons)[n.toNat]? = _
  rw [List.getElem?_append_left (by omega)]; exact e) (fun k _ => by omega)
 rwa [shift0] at this
theorem only_second {p q : Prog} (h : Fs p) (g : Fs q) (hc : clash p.cons q.cons = false) {i : Nat} {x : Node} (hx : (canonP q).nodes[i]? = some x) : ∃ y, (joinP p q).nodes[p.nodes.length + i]? = some y ∧ onlyP (shiftX x p.funs.length p.nodes.length) (canonP q).cons = onlyP y (joinP p q).cons := by
 have hlt := (List.getElem?_eq_some_iff.1 hx).1
 rw [canon_len g] at hlt
 obtain ⟨k, hk⟩ : ∃ k, (ordL q)[i]? = some k := ⟨_, List.getElem?_eq_getElem (by rw [ordL_len g.toFm]; exact hlt)⟩
 have e1 := (canon_laid g.toFm).node i k hk
 have e2 := (join_laid2 h.toFm g.toFm).node i k hk
 rw [Nat.zero_add, hx] at e1
 have hr := g.into k (List.mem_of_getElem? hk)
 obtain ⟨z, hz⟩ : ∃ z, q.nodes[k.toNat]? = some z := ⟨_, List.getElem?_eq_getElem (by omega)⟩
 rw [nodeAt_of hz] at e1 e2
 refine ⟨_, e2, ?_⟩
 rw [Option.some.inj e1]
 refine only_same (g.node _ z hz).1 (fun i h0 h1 => by rw [sM_at h0 h1, mfJ_at h0 h1]; omega) (fun n h0 h1 => ?_) (fun c hc => ?_)
 · obtain ⟨d, hd, e⟩ := mc_at (allC p q) h0 h1
   obtain ⟨a0, a1⟩ := all_at h.names g.names hc (List.mem_of_getElem? hd)
   rw [sM_at h0 h1, e]
   exact ⟨d, h0, a0, hd, a1⟩
 · have := (g.fine.node _ _ hz).2.2 c hc
   obtain ⟨j, hj⟩ := walk_mem g.toFm (k := c) (by omega) (by omega)
   rw [toL_at g.toFm _ j c hj, toL_at g.toFm 0 j c hj]
   omega
end Go.Hb
