/-
  OWN WORK (H13, V39, V40, V41, V23, H5, H6, V24, V25, V26, V42, V43, V44, H16, V47, H17, V48): a machine on abstract values, its soundness, ways through the text (the ways WRITTEN BY A PROGRAM), plain laws.
-/
import Derived.Test.YtogkjcpighphfaaGreatHF
import Derived.Test.YtogkjcpighphfaaGreatHI
import Derived.Test.YtogkjcpighphfaaGreatHJ
set_option linter.unusedVariables false
set_option linter.unusedSimpArgs false
set_option linter.unusedSectionVars false
set_option maxRecDepth 100000
namespace Go.Hb
open Go.Proofs
noncomputable def smB_s (a : Int) (b : Int) : TS := startH PP 40 [(nI a), (nI b)] [] 0
noncomputable def smB_c0 (a : Int) (b : Int) (t12 : Int) (m2 : (List (Int × Int))) : TS :=
 { fr := { fn := 40, nt := 30, sl := [(1, (nI b)), (4, (.ptr 0 0)), (5, (.ptr 1 0)), (11, (nI a)), (12, (nI t12))], todo := [.code (cd Tryz.f40 [1, 1, 0, 1, 0, 0]), .inLoop (cd Tryz.f40 [1, 1, 0, 1, 0, 0]), .inBlock 0, .code (cd Tryz.f40 [1, 1, 1])] }, cs := [], hp := [(0, (.cells (putCells .leaf 0 [.nilm, .nilm]) 2 [] false), false), (1, (.cells (putCells .leaf 0 [(.map 2), (.map 3)]) 2 [] false), false), (2, (.map (mEnts avI avI 0 m2) m2.length), true), (3, (.map (mEnts avI avI 0 ([] : List (Int × Int))) ([] : List (Int × Int)).length), true)], nb := 4 }
noncomputable def smB_c1 (a : Int) (b : Int) (m2 : (List (Int × Int))) (t21 : Int) (m3 : (List (Int × Int))) : TS :=
 { fr := { fn := 40, nt := 30, sl := [(4, (.ptr 0 0)), (5, (.ptr 1 0)), (20, (nI b)), (21, (nI t21))], todo := [.code (cd Tryz.f40 [1, 1, 1, 0, 1, 0, 0]), .inLoop (cd Tryz.f40 [1, 1, 1, 0, 1, 0, 0]), .inBlock 2, .code (cd Tryz.f40 [1, 1, 1, 1])] }, cs := [], hp := [(0, (.cells (putCells .leaf 0 [.nilm, .nilm]) 2 [] false), false), (1, (.cells (putCells .leaf 0 [(.map 2), (.map 3)]) 2 [] false), false), (2, (.map (mEnts avI avI 0 m2) m2.length), true), (3, (.map (mEnts avI avI 0 m3) m3.length), true)], nb := 4 }
theorem smB_E_0 (a : Int) (b : Int) :
  LeadsM PP 0 (smB_s a b).as (smB_c0 a b 0 ([] : List (Int × Int))).as :=
 wW 4 [0, 3, 1, 2] [qp (p := ([] : List (AV × AV × Nat)) = (mEnts avI avI 0 ([] : List (Int × Int)))) rfl, qp (p := 0 = List.length ([] : List (Int × Int))) rfl, qp (p := ([] : List (AV × AV × Nat)) = (mEnts avI avI 0 ([] : List (Int × Int)))) rfl, qp (p := 0 = List.length ([] : List (Int × Int))) rfl] [rn 7, .mset 1 (mEnts avI avI 0 ([] : List (Int × Int))) ([] : List (Int × Int)).length, rn 1, .mset 2 (mEnts avI avI 0 ([] : List (Int × Int))) ([] : List (Int × Int)).length, rn 12] ⟨kl_map (fun _ => rfl) (fun _ => rfl) _ _ _, ⟨kl_map (fun _ => rfl) (fun _ => rfl) _ _ _, trivial⟩⟩
theorem smB_0_0 (a : Int) (b : Int) (t12 : Int) (m2 : (List (Int × Int))) (h0 : decide (t12 < a) = true) (h1 : (IntKind.i64.wrap (t12 + (1 : Int))) = (t12 + (1 : Int))) :
  LeadsM PP 0 (smB_c0 a b t12 m2).as (smB_c0 a b (t12 + (1 : Int)) (mIns t12 t12 m2)).as :=
 wW 4 [0, 1, 2, 3] [qp h0, qp (p := mapPut (mEnts avI avI 0 m2) m2.length (avI t12) (avI t12) = some ((mEnts avI avI 0 (mIns t12 t12 m2)), List.length (mIns t12 t12 m2))) (map_put key_avI _ _ _), qp (congrArg (AV.int .i64) h1)] [rn 5, bt 13, rn 14, .mput (mEnts avI avI 0 (mIns t12 t12 m2)) (mIns t12 t12 m2).length, rn 4, sI 19 (t12 + (1 : Int)), rn 3] ⟨kl_map (fun _ => rfl) (fun _ => rfl) _ _ _, ⟨kl_map (fun _ => rfl) (fun _ => rfl) _ _ _, trivial⟩⟩
theorem smB_0_1 (a : Int) (b : Int) (t12 : Int) (m2 : (List (Int × Int))) (h0 : decide (t12 < a) = false) :
  LeadsM PP 0 (smB_c0 a b t12 m2).as (smB_c1 a b m2 0 ([] : List (Int × Int))).as :=
 wW 4 [0, 1, 2, 3] [qp h0] [rn 5, bf 13, rn 10] ⟨kl_map (fun _ => rfl) (fun _ => rfl) _ _ _, ⟨kl_map (fun _ => rfl) (fun _ => rfl) _ _ _, trivial⟩⟩
theorem smB_1_0 (a : Int) (b : Int) (m2 : (List (Int × Int))) (t21 : Int) (m3 : (List (Int × Int))) (h0 : decide (t21 < b) = true) (h1 : (IntKind.i64.wrap (t21 + (1 : Int))) = (t21 + (1 : Int))) :
  LeadsM PP 0 (smB_c1 a b m2 t21 m3).as (smB_c1 a b m2 (t21 + (1 : Int)) (mIns t21 t21 m3)).as :=
 wW 4 [0, 1, 2, 3] [qp h0, qp (p := mapPut (mEnts avI avI 0 m3) m3.length (avI t21) (avI t21) = some ((mEnts avI avI 0 (mIns t21 t21 m3)), List.length (mIns t21 t21 m3))) (map_put key_avI _ _ _), qp (congrArg (AV.int .i64) h1)] [rn 5, bt 22, rn 14, .mput (mEnts avI avI 0 (mIns t21 t21 m3)) (mIns t21 t21 m3).length, rn 4, sI 28 (t21 + (1 : Int)), rn 3] ⟨kl_map (fun _ => rfl) (fun _ => rfl) _ _ _, ⟨kl_map (fun _ => rfl) (fun _ => rfl) _ _ _, trivial⟩⟩
theorem smB_1_1 (a : Int) (b : Int) (m2 : (List (Int × Int))) (t21 : Int) (m3 : (List (Int × Int))) (h0 : decide (t21 < b) = false) :
  Ends PP 0 (smB_c1 a b m2 t21 m3).as (.ret (.agg [(.map 0), (.map 1)])) (hpOf [(0, (.map (mEnts avI avI 0 m2) m2.length), true), (1, (.map (mEnts avI avI 0 m3) m3.length), true)] 2) :=
 wE 4 [2, 3] [qp h0] [rn 5, bf 22, rn 8] ⟨kl_map (fun _ => rfl) (fun _ => rfl) _ _ _, ⟨kl_map (fun _ => rfl) (fun _ => rfl) _ _ _, trivial⟩⟩
noncomputable def cln_s (xs : List Con) : TS := startH PP 41 [(iC xs)] [] 0
noncomputable def cln_c (xs : List Con) : TS :=
 { fr := { fn := 41, nt := 8, sl := [(0, (iC xs)), (2, .nils), (3, (iC xs))], todo := [opsAt Tryz.f41 [1, 0, 0] 1, .code (cd Tryz.f41 [1, 0, 1]), .code (cd Tryz.f41 [1, 1])] }, cs := [], hp := [], nb := 0 }
theorem cln_E (xs : List Con) :
  LeadsM PP 0 (cln_s xs).as (cln_c xs).as :=
 wW 0 [] [] [rn 8] trivial
noncomputable def cln_cn (xs : List Con) : TS :=
 { fr := { fn := 41, nt := 8, sl := [(0, (iC xs)), (2, .nils), (3, .nils)], todo := [opsAt Tryz.f41 [1, 0, 0] 1, .code (cd Tryz.f41 [1, 0, 1]), .code (cd Tryz.f41 [1, 1])] }, cs := [], hp := [], nb := 0 }
noncomputable def cln_cv (xs : List Con) (a : Addr) (n c : Nat) : TS :=
 { fr := { fn := 41, nt := 8, sl := [(0, (iC xs)), (2, .nils), (3, (.val (Value.slice (some a) n c)))], todo := [opsAt Tryz.f41 [1, 0, 0] 1, .code (cd Tryz.f41 [1, 0, 1]), .code (cd Tryz.f41 [1, 1])] }, cs := [], hp := [], nb := 0 }
end Go.Hb
namespace Go.Hb
open Go.Proofs
set_option maxHeartbeats 2000000
noncomputable section
/-! ## bind.same, slices.Clone, bind.Canon -/
/-- the first numbers, to themselves -/
def sM : Nat → List (Int × Int)
 | 0 => []
 | n+1 => mIns (n : Int) (n : Int) (sM n)
theorem mGet_ins {α β : Type} [DecidableEq α] (k k' : α) (v : β) : ∀ (l : List (α × β)), mGet k (mIns k' v l) = if k = k' then some v else mGet k l
 | [] => by simp [mIns, mGet]
 | e :: l => by
  simp only [mIns]
  split
  · rename_i h
    subst h
    simp only [mGet]
    split <;> rfl
  · rename_i h
    simp only [mGet, mGet_ins k k' v l]
    by_cases h1 : k = e.1
    · subst h1
      rw [if_pos rfl, if_pos rfl, if_neg (fun e => h e.symm)]
    · rw [if_neg h1, if_neg h1]
theorem sM_get : ∀ (n : Nat) (i : Int), 0 ≤ i → i < n → mGet i (sM n) = some i
 | 0, i, h0, h1 => by omega
 | n+1, i, h0, h1 => by
  rw [sM, mGet_ins]
  by_cases h : i = (n : Int)
  · rw [if_pos h, h]
  · rw [if_neg h]; exact sM_get n i h0 (by omega)
theorem sM_at {n : Nat} {i : Int} (h0 : 0 ≤ i) (h1 : i < n) : mAt (sM n) i = i := by unfold mAt; rw [sM_get n i h0 h1]; rfl
theorem smB_2 (a b : Nat) (hb : b < 1000000) : ∀ (j i : Nat), i + j = b → Ends PP 0 (smB_c1 (a : Int) (b : Int) (sM a) (i : Int) (sM i)).as (.ret (.agg [.map 0, .map 1])) (hpOf [(0, MO (sM a), true), (1, MO (sM b), true)] 2)
 | 0, i, h => by
  have : i = b := by omega
  subst this
  exact smB_1_1 a i (sM a) i (sM i) sd
 | j+1, i, h => by
  exact (smB_1_0 a b (sM a) i (sM i) sd sd).ends (smB_2 a b hb j (i + 1) (by omega))
theorem smB_1 (a b : Nat) (ha : a < 1000000) (hb : b < 1000000) : ∀ (j i : Nat), i + j = a → Ends PP 0 (smB_c0 (a : Int) (b : Int) (i : Int) (sM i)).as (.ret (.agg [.map 0, .map 1])) (hpOf [(0, MO (sM a), true), (1, MO (sM b), true)] 2)
 | 0, i, h => by
  have : i = a := by omega
  subst this
  exact (smB_0_1 i b i (sM i) sd).ends (smB_2 i b hb b 0 (by omega))
 | j+1, i, h => by
  exact (smB_0_0 a b i (sM i) sd sd).ends (smB_1 a b ha hb j (i + 1) (by omega))
theorem same_spec (a b : Nat) (ha : a < 1000000) (hb : b < 1000000) : SpecN PP (.enter 40 [.int .i64 (a : Int), .int .i64 (b : Int)]) (hpOf [] 0) (.ret (.agg [.map 0, .map 1])) (hpOf [(0, MO (sM a), true), (1, MO (sM b), true)] 2) :=
 ⟨(smB_s a b).as.fr, by kernel_rfl, Eq.mp (by kernel_rfl) ((smB_E_0 a b).ends (smB_1 a b ha hb a 0 (by omega)))⟩
theorem ends_weak {P : Program} {m : Nat} {s : AS} {v v' : AV} {h' : Hp} (h : Ends P m s (.ret v) h') (hv : ∀ (E : Emb) (cv : Value), VR E v cv → VR E v' cv) : Ends P m s (.ret v') h' := fun hm E fr ccs w f fs r cl base => by
 obtain ⟨cl', w', E', s1, ⟨cv, rfl, g2⟩, r2, x2⟩ := h hm E fr ccs w f fs r cl base
 exact ⟨_, w', E', s1, ⟨cv, rfl, hv E' cv g2⟩, r2, x2⟩
theorem vr_ilst_weak {E : Emb} {e : Nat} {xs : List AV} {cv : Value} (h : VR E (.ilst e xs true) cv) : VR E (.ilst e xs false) cv := by
 simp only [VR] at h ⊢
 obtain ⟨vs, h1, h2, h3⟩ := h
 refine ⟨vs, h1, h2, ?_⟩
 rcases h3 with ⟨rfl, a, cap, rfl, g, _⟩ | ⟨k, a, cap, C, g1, g2, g3, _, g5⟩
 · exact .inl ⟨rfl, a, cap, rfl, g, fun hh => by cases hh⟩
 · exact .inr ⟨k, a, cap, C, g1, g2, g3, (fun hh => by cases hh), g5⟩
section
variable {p : Prog}
end
end
end Go.Hb
namespace Go.Hb
open Go.Proofs
/-! ## the plain law of Canon: the nodes in the order of the walk -/
def pre (p : Prog) : Nat → Int → List Int
 | 0, _ => []
 | f + 1, a => match p.nodes[a.toNat]? with
  | some x => a :: (x.kids.map (pre p f)).flatten
  | none => []
/-- numbers one after another, at these places -/
def putAll : List Int → Int → List Int → List Int
 | l, _, [] => l
 | l, n, b :: bs => putAll (l.set b.toNat n) (n + 1) bs
theorem putAll_append : ∀ (xs ys l : List Int) (n : Int), putAll l n (xs ++ ys) = putAll (putAll l n xs) (n + xs.length) ys
 | [], ys, l, n => by simp [putAll]
 | x :: xs, ys, l, n => by
  rw [List.cons_append, putAll, putAll_append xs ys, putAll, List.length_cons]
  congr 1; omega
theorem putAll_off : ∀ (xs l : List Int) (n : Int) (m : Nat), (∀ x ∈ xs, x.toNat ≠ m) → (putAll l n xs)[m]? = l[m]?
 | [], l, n, m, h => rfl
 | x :: xs, l, n, m, h => by
  rw [putAll, putAll_off xs _ _ m (fun y hy => h y (List.mem_cons_of_mem _ hy))]
  exact List.getElem?_set_ne (h x (List.mem_cons_self ..))
/-- without a repetition: each place has its number -/
theorem putAll_at : ∀ (xs l : List Int) (n : Int), xs.Nodup → (∀ x ∈ xs, 0 ≤ x ∧ x < l.length) → ∀ (i : Nat) (b : Int), xs[i]? = some b → toAt (putAll l n xs) b = n + i
 | [], l, n, _, _, i, b, h => by simp at h
 | x :: xs, l, n, hd, hr, i, b, h => by
  have hd := List.nodup_cons.1 hd
  have hx := hr x (List.mem_cons_self ..)
  cases i with
  | zero =>
   simp only [List.getElem?_cons_zero, Option.some.injEq] at h
   subst h
   unfold toAt
   rw [putAll, List.getD_eq_getElem?_getD, putAll_off xs _ _ x.toNat (fun y hy e => hd.1 (by
    have := hr y (List.mem_cons_of_mem _ hy)
    have : y = x := by omega
    exact this ▸ hy)), List.getElem?_set_self (by omega)]
   simp
  | succ i =>
   simp only [List.getElem?_cons_succ] at h
   rw [putAll, putAll_at xs (l.set x.toNat n) (n + 1) hd.2 (fun y hy => by rw [List.length_set]; exact hr y (List.mem_cons_of_mem _ hy)) i b h]
   omega
section
variable {p : Prog}
theorem pre_cons (hp : FineP p) {f : Nat} {a : Int} (ha : 0 ≤ a) (hn : a < p.nodes.length) (hf : p.nodes.length - a.toNat ≤ f) : ∃ x g, f = g + 1 ∧ p.nodes[a.toNat]? = some x ∧ pre p f a = a :: (x.kids.map (pre p g)).flatten := by
 cases f with
 | zero => omega
 | succ g =>
  obtain ⟨x, hx⟩ : ∃ x, p.nodes[a.toNat]? = some x := ⟨_, List.getElem?_eq_getElem (by omega)⟩
  exact ⟨x, g, rfl, hx, by rw [pre, hx]⟩
/-- the first walk numbers -/
theorem wAs_put {g : Int → List Int × Int → Option (List Int × Int)} {q : Int → List Int} : ∀ (ks : List Int) (l : List Int) (n : Int), (∀ k ∈ ks, ∀ (l : List Int) (n : Int), n + (q k).length ≤ 1000000000 → 0 ≤ n → g k (l, n) = some (putAll l n (q k), n + (q k).length)) → 0 ≤ n → n + ((ks.map q).flatten).length ≤ 1000000000 →
  wAs g ks (l, n) = some (putAll l n (ks.map q).flatten, n + ((ks.map q).flatten).length)
 | [], l, n, h, _, _ => by simp [wAs, putAll]
 | k :: ks, l, n, h, h0, hb => by
  simp only [List.map_cons, List.flatten_cons, List.length_append] at hb ⊢
  rw [wAs, h k (List.mem_cons_self ..) l n (by omega) h0]
  simp only
  rw [wAs_put ks _ _ (fun k hk => h k (List.mem_cons_of_mem _ hk)) (by omega) (by omega), putAll_append]
  congr 2; omega
theorem wA_put (hp : FineP p) : ∀ (f : Nat) (a : Int), 0 ≤ a → a < p.nodes.length → p.nodes.length - a.toNat ≤ f → ∀ (l : List Int) (n : Int), n + (pre p f a).length ≤ 1000000000 → 0 ≤ n → wA p f a (l, n) = some (putAll l n (pre p f a), n + (pre p f a).length)
 | 0, a, ha, hn, hf, _, _, _, _ => by omega
 | f + 1, a, ha, hn, hf, l, n, hb, h0 => by
  obtain ⟨x, hx⟩ : ∃ x, p.nodes[a.toNat]? = some x := ⟨_, List.getElem?_eq_getElem (by omega)⟩
  obtain ⟨_, _, hks⟩ := hp.node _ _ hx
  have e : pre p (f + 1) a = a :: (x.kids.map (pre p f)).flatten := by rw [pre, hx]
  rw [e] at hb ⊢
  simp only [List.length_cons] at hb ⊢
  rw [wA, if_pos (by omega), hx]
  simp only
  rw [wAs_put (q := pre p f) x.kids _ _ (fun k hk l n h1 h2 => by
   have := hks k hk
   exact wA_put hp f k (by omega) (by omega) (by omega) l n h1 h2) (by omega) (by omega), putAll]
  congr 2; omega
/-- the second walk appends aS many -/
theorem wB_len (mf mc : List (Int × Int)) (to : List Int) : ∀ (f : Nat) (a : Int), (wB p mf mc to f a).length = (pre p f a).length
 | 0, a => rfl
 | f + 1, a => by
  rw [wB, pre]
  cases hx : p.nodes[a.toNat]? with
  | some x =>
   simp only [List.length_cons, List.length_flatten, List.map_map]
   congr 2
   exact List.map_congr_left (fun k _ => wB_len mf mc to f k)
  | none => rfl
end
end Go.Hb
namespace Go.Hb
open Go.Proofs
section
variable {p : Prog} {mf mc : List (Int × Int)} {F C : List Int} {to : List Int}
/-- node by node, both roads make the same -/
def MOk (p : Prog) (mf mc : List (Int × Int)) (F C : List Int) : Prop := ∀ (i : Nat) (x : Node), p.nodes[i]? = some x → psizes x.pats < 1000000 ∧ mN F C x.op x.n = some (bN mf mc x.op x.n) ∧ mPats C x.pats = some (cPats mc x.pats)
theorem mKids_eq {g : Nat → Int → Option (List Node)} {h : Int → List Node} {q : Int → List Int} : ∀ (ks : List Int) (len : Nat),
  (∀ k ∈ ks, ∀ len : Nat, len + (q k).length ≤ 1000000 → (∀ (i : Nat) (b : Int), (q k)[i]? = some b → toAt to b = ((len + i : Nat) : Int)) → g len k = some (h k)) → (∀ k ∈ ks, (h k).length = (q k).length ∧ (q k)[0]? = some k) →
  len + ((ks.map q).flatten).length ≤ 1000000 → (∀ (i : Nat) (b : Int), ((ks.map q).flatten)[i]? = some b → toAt to b = ((len + i : Nat) : Int)) →
  mKids g len ks = some (ks.map (toAt to), (ks.map h).flatten)
 | [], len, _, _, _, _ => rfl
 | k :: ks, len, hg, hh, hb, ht => by
  simp only [List.map_cons, List.flatten_cons, List.length_append] at hb ht ⊢
  obtain ⟨h1, h2⟩ := hh k (List.mem_cons_self ..)
  have hlt : ∀ {i : Nat} {b : Int}, (q k)[i]? = some b → i < (q k).length := fun e => (List.getElem?_eq_some_iff.1 e).1
  rw [mKids, hg k (List.mem_cons_self ..) len (by omega) (fun i b e => ht i b (by rw [List.getElem?_append_left (hlt e)]; exact e))]
  simp only
  rw [mKids_eq ks (len + (h k).length) (fun k hk => hg k (List.mem_cons_of_mem _ hk)) (fun k hk => hh k (List.mem_cons_of_mem _ hk)) (by omega) (fun i b e => by
   rw [ht ((q k).length + i) b (by rw [List.getElem?_append_right (by omega), show (q k).length + i - (q k).length = i by omega]; exact e), h1]
   congr 1; omega)]
  simp only
  rw [ht 0 k (by rw [List.getElem?_append_left (hlt h2)]; exact h2)]
  rfl
theorem mNodes_eq (hp : FineP p) (hm : MOk p mf mc F C) : ∀ (k : Nat) (a : Int) (len : Nat), 0 ≤ a → a < p.nodes.length → p.nodes.length - a.toNat ≤ k → len + (pre p k a).length ≤ 1000000 → (∀ (i : Nat) (b : Int), (pre p k a)[i]? = some b → toAt to b = ((len + i : Nat) : Int)) →
  mNodes p F C k len a = some (wB p mf mc to k a)
 | 0, a, len, ha, hn, hf, _, _ => by omega
 | k + 1, a, len, ha, hn, hf, hb, ht => by
  obtain ⟨x, hx⟩ : ∃ x, p.nodes[a.toNat]? = some x := ⟨_, List.getElem?_eq_getElem (by omega)⟩
  obtain ⟨_, hk10, hks⟩ := hp.node _ _ hx
  obtain ⟨m1, m2, m3⟩ := hm _ _ hx
  have e : pre p (k + 1) a = a :: (x.kids.map (pre p k)).flatten := by rw [pre, hx]
  rw [e] at hb ht
  simp only [List.length_cons] at hb
  have hkk := mKids_eq (to := to) (g := mNodes p F C k) (h := wB p mf mc to k) (q := pre p k) x.kids (len + 1) (fun c hc len h1 h2 => by
    have := hks c hc
    exact mNodes_eq hp hm k c len (by omega) (by omega) (by omega) h1 h2) (fun c hc => by
    have := hks c hc
    obtain ⟨y, g, _, _, h3⟩ := pre_cons hp (f := k) (a := c) (by omega) (by omega) (by omega)
    exact ⟨wB_len mf mc to k c, by rw [h3]; rfl⟩) (by omega) (fun i b h => by
    rw [ht (i + 1) b (by simpa using h)]
    congr 1; omega)
  rw [mNodes, if_pos ⟨ha, by omega⟩, hx]
  simp only
  rw [if_pos ⟨by omega, m1⟩, m2]
  simp only
  rw [m3]
  simp only
  rw [hkk]
  simp only
  rw [wB, hx]
  rfl
/-- both roads, for a program whose walk repeats no node -/
theorem moved_agree (hp : FineP p) (hm : MOk p mf mc F C) (frm : Nat) {f : Nat} (hf : p.nodes.length ≤ f)
  (hd : ((p.funs.map (pre p f)).flatten).Nodup) (hlen : frm + ((p.funs.map (pre p f)).flatten).length ≤ 1000000) (hin : ∀ x ∈ (p.funs.map (pre p f)).flatten, 0 ≤ x ∧ x < p.nodes.length) :
  ∃ to n, toOf p (frm : Int) f = some (to, n) ∧ mKids (mNodes p F C f) frm p.funs = some (p.funs.map (toAt to), nodesB p mf mc to f) ∧ (nodesB p mf mc to f).length = ((p.funs.map (pre p f)).flatten).length := by
 have hA : toOf p (frm : Int) f = some (putAll (List.replicate p.nodes.length 0) frm (p.funs.map (pre p f)).flatten, (frm : Int) + (((p.funs.map (pre p f)).flatten).length : Int)) := by
  unfold toOf
  exact wAs_put (q := pre p f) p.funs _ _ (fun k hk l n h1 h2 => by
   have := hp.funs k hk
   exact wA_put hp f k (by omega) (by omega) (by omega) l n h1 h2) (by omega) (by omega)
 have ht := putAll_at (p.funs.map (pre p f)).flatten (List.replicate p.nodes.length 0) frm hd (fun x hx => by rw [List.length_replicate]; exact hin x hx)
 refine ⟨_, _, hA, ?_, ?_⟩
 · exact mKids_eq (to := putAll (List.replicate p.nodes.length 0) frm (p.funs.map (pre p f)).flatten) (h := wB p mf mc (putAll (List.replicate p.nodes.length 0) frm (p.funs.map (pre p f)).flatten) f) (q := pre p f) p.funs frm (fun k hk len h1 h2 => by
    have := hp.funs k hk
    exact mNodes_eq hp hm f k len (by omega) (by omega) (by omega) h1 h2) (fun k hk => by
    have := hp.funs k hk
    obtain ⟨y, g, _, _, h3⟩ := pre_cons hp (f := f) (a := k) (by omega) (by omega) (by omega)
    exact ⟨wB_len _ _ _ f k, by rw [h3]; rfl⟩) (by omega) (fun i b h => by rw [ht i b h]; simp)
 · unfold nodesB
   rw [List.length_flatten, List.map_map]
   have : List.map (List.length ∘ wB p mf mc (putAll (List.replicate p.nodes.length 0) frm (p.funs.map (pre p f)).flatten) f) p.funs = List.map (List.length ∘ pre p f) p.funs := List.map_congr_left (fun k _ => wB_len _ _ _ f k)
   rw [this, ← List.map_map, ← List.length_flatten]
theorem canon_agree (hp : FineP p) (hm : MOk p (sM p.funs.length) (sM p.cons.length) (numsL 0 p.funs.length) (numsL 0 p.cons.length)) {f : Nat} (hf : p.nodes.length ≤ f)
  (hd : ((p.funs.map (pre p f)).flatten).Nodup) (hlen : ((p.funs.map (pre p f)).flatten).length ≤ 1000000) (hin : ∀ x ∈ (p.funs.map (pre p f)).flatten, 0 ≤ x ∧ x < p.nodes.length) :
  ∃ to n, toOf p 0 f = some (to, n) ∧ orderOf p f = some ⟨nodesB p (sM p.funs.length) (sM p.cons.length) to f, p.funs.map (toAt to), p.main, p.cons⟩ ∧ (nodesB p (sM p.funs.length) (sM p.cons.length) to f).length = ((p.funs.map (pre p f)).flatten).length := by
 obtain ⟨to, n, h1, h2, h3⟩ := moved_agree hp hm 0 hf hd (by omega) hin
 refine ⟨to, n, h1, ?_, h3⟩
 unfold orderOf
 rw [h2]
end
end Go.Hb
namespace Go.Hb
open Go.Proofs
set_option maxHeartbeats 1000000
/-! ## the walk that looks for a place outside -/
/-! ## over the functions -/
end Go.Hb
namespace Go.Hb
open Go.Proofs
end Go.Hb
namespace Go.Hb
open Go.Proofs
end Go.Hb
namespace Go.Hb
open Go.Proofs
set_option maxHeartbeats 1000000
/-! ## the reference's sizes -/
/-! ## is each place within -/
/-! ## equal lists of numbers -/
end Go.Hb
namespace Go.Hb
open Go.Proofs
/-! ## what a formed program's marks say -/
theorem marks_in {lo n : Int} : ∀ {ks : List Int} {u v : List Bool}, marks lo n ks u = some v → ∀ k ∈ ks, lo ≤ k ∧ k ≤ n - 1
 | [], _, _, _, k, hk => by cases hk
 | a :: ks, u, v, h, k, hk => by
  simp only [marks] at h
  split at h
  · rename_i g
    rcases List.mem_cons.1 hk with rfl | hk
    · exact inB_iff.1 g.1
    · exact marks_in h k hk
  · cases h
/-- the first one of the list: it was not marked, and is now -/
theorem marks_cons {lo n k : Int} {ks : List Int} {u v : List Bool} (h : marks lo n (k :: ks) u = some v) : u[k.toNat]? = some false ∧ marks lo n ks (u.set k.toNat true) = some v := by
 simp only [marks] at h
 split at h
 · rename_i g; exact ⟨g.2, h⟩
 · cases h
theorem refNodes_cons {p : Prog} {i : Nat} {x : Node} {t : List Node} {u v : List Bool} (h : refNodes p i (x :: t) u = some v) : nodeOk p x = true ∧ ∃ w, marks ((i : Int) + 1) p.nodes.length x.kids u = some w ∧ refNodes p (i + 1) t w = some v := by
 simp only [refNodes] at h
 split at h
 · rename_i g
   split at h
   · rename_i w hw; exact ⟨g, w, hw, h⟩
   · cases h
 · cases h
theorem refNodes_len {p : Prog} : ∀ {t : List Node} {i : Nat} {u v : List Bool}, refNodes p i t u = some v → v.length = u.length
 | [], i, u, v, h => by simp only [refNodes, Option.some.injEq] at h; rw [h]
 | x :: t, i, u, v, h => by
  obtain ⟨_, w, hw, h2⟩ := refNodes_cons h
  rw [refNodes_len h2, marks_len hw]
theorem refNodes_all {p : Prog} : ∀ {t : List Node} {i : Nat} {u v : List Bool}, refNodes p i t u = some v → ∀ (j : Nat) (x : Node), t[j]? = some x → nodeOk p x = true ∧ ∀ k ∈ x.kids, ((i + j : Nat) : Int) < k ∧ k < p.nodes.length
 | [], i, u, v, h, j, x, hx => by simp at hx
 | y :: t, i, u, v, h, j, x, hx => by
  obtain ⟨g, w, hw, h2⟩ := refNodes_cons h
  cases j with
  | zero =>
   simp at hx; subst hx
   exact ⟨g, fun k hk => by have := marks_in hw k hk; omega⟩
  | succ j =>
   have := refNodes_all h2 j x (by simpa using hx)
   exact ⟨this.1, fun k hk => by have := this.2 k hk; omega⟩
/-! ## the reference's sizes stay once they are set -/
/-- what the sizes of a formed program are -/
structure Sprop (p : Prog) (S : List Int) : Prop where
 len : S.length = p.nodes.length
 root : ∀ f ∈ p.funs, S[f.toNat]? = some 1
 kid : ∀ (i : Nat) (x : Node) (d : Nat) (k : Int), p.nodes[i]? = some x → x.kids[d]? = some k → ∃ s, S[i]? = some s ∧ S[k.toNat]? = some (s + addsN x d)
end Go.Hb
namespace Go.Hb
open Go.Proofs
/-! ## the walk comes to every node, with its size -/
inductive Reach (p : Prog) : Nat → Nat → Prop where
 | refl (a : Nat) : Reach p a a
 | step {a i : Nat} {x : Node} {k : Int} : Reach p a i → p.nodes[i]? = some x → k ∈ x.kids → Reach p a k.toNat
theorem Reach.first {p : Prog} {a m : Nat} (h : Reach p a m) : m = a ∨ ∃ (x : Node) (k : Int), p.nodes[a]? = some x ∧ k ∈ x.kids ∧ Reach p k.toNat m := by
 induction h with
 | refl => exact .inl rfl
 | step h hx hk ih =>
  rename_i i x k
  rcases ih with rfl | ⟨y, q, h1, h2, h3⟩
  · exact .inr ⟨x, k, hx, hk, Reach.refl _⟩
  · exact .inr ⟨y, q, h1, h2, h3.step hx hk⟩
/-! ## and it finds what is outside -/
/-! ## Depths, Closed: the program's, the reference's -/
theorem check_of {p : Prog} (hs : smallProg p = true) : Pure PP 10 [Prog.av p] (.int .i64 (checkN (refFormed p))) := by
 have h2 := bCheck_pure p hs
 rw [formed_eq] at h2
 exact h2
end Go.Hb
namespace Go.Hb
open Go.Proofs
/-! ## a formed program: node by node -/
theorem formed_fine {p : Prog} (hp : smallProg p = true) (hf : refFormed p = true) : FineP p := by
 have hs := hp
 simp only [smallProg, Bool.and_eq_true, decide_eq_true_eq] at hs
 obtain ⟨⟨⟨⟨s1, s2⟩, s3⟩, _⟩, s5⟩ := hs
 simp only [refFormed, Bool.and_eq_true] at hf
 obtain ⟨_, hf⟩ := hf
 split at hf
 · rename_i u hu
   unfold allT at hf
   split at hf
   · rename_i v hv
     refine ⟨s1, s2, fun i x hx => ?_, fun f hf => ?_⟩
     · have := refNodes_all hv i x hx
       have h10 := List.all_eq_true.1 s5 x (List.mem_of_getElem? hx)
       simp only [smallNode, Bool.and_eq_true, decide_eq_true_eq] at h10
       exact ⟨fine_of this.1, h10.1.1, fun k hk => by have := this.2 k hk; omega⟩
     · have := marks_in hu f hf; omega
   · cases hf
 · cases hf
theorem numsL_at {n : Nat} {i : Int} (h0 : 0 ≤ i) (h1 : i < n) : (numsL 0 n)[i.toNat]? = some i := by
 rw [numsL_get 0 (by omega)]
 congr 1; omega
/-- a map and a list that say the same of the numbers below n -/
def SameL (n : Nat) (m : List (Int × Int)) (l : List Int) : Prop := ∀ i : Int, 0 ≤ i → i < n → l[i.toNat]? = some (mAt m i)
theorem same_sM (n : Nat) : SameL n (sM n) (numsL 0 n) := fun i h0 h1 => by rw [numsL_at h0 h1, sM_at h0 h1]
mutual
theorem mPat_c (cons : List Con) {mc : List (Int × Int)} {C : List Int} (hC : SameL cons.length mc C) : ∀ (q : Pat), patOk cons q = true → mPat C q = some (cPat mc q)
 | .mk f n s ps, h => by
  rw [patOk, Bool.and_eq_true] at h
  have hps := mPats_c cons hC ps h.2
  have hN : mPatN C f n = some (if f = 6 then mAt mc n else n) := by
   unfold mPatN
   by_cases hf : f = 6
   · subst hf
     have hh := h.1
     simp only [patHead] at hh
     simp [inB] at hh
     obtain ⟨⟨⟨h0, h1⟩, _⟩, _⟩ := hh
     rw [if_pos rfl, if_pos rfl, if_pos h0, hC n h0 (by omega)]
   · rw [if_neg hf, if_neg hf]
  rw [mPat, hN]
  simp only
  rw [hps, cPat]
theorem mPats_c (cons : List Con) {mc : List (Int × Int)} {C : List Int} (hC : SameL cons.length mc C) : ∀ (ps : List Pat), patsOk cons ps = true → mPats C ps = some (cPats mc ps)
 | [], _ => rfl
 | q :: ps, h => by
  rw [patsOk, Bool.and_eq_true] at h
  rw [mPats, mPat_c cons hC q h.1]
  simp only
  rw [mPats_c cons hC ps h.2, cPats]
end
theorem patsOk_all {cons : List Con} : ∀ {ps : List Pat}, (∀ q ∈ ps, patOk cons q = true) → patsOk cons ps = true
 | [], _ => rfl
 | q :: ps, h => by
  rw [patsOk, h q (List.mem_cons_self ..), patsOk_all (fun x hx => h x (List.mem_cons_of_mem _ hx))]; rfl
theorem psizes_le {c : Nat} : ∀ {ps : List Pat}, (∀ q ∈ ps, psize q ≤ c) → psizes ps ≤ c * ps.length
 | [], _ => by simp [psizes]
 | q :: ps, h => by
  have h1 := h q (List.mem_cons_self ..)
  have h2 := psizes_le (c := c) (ps := ps) (fun x hx => h x (List.mem_cons_of_mem _ hx))
  simp only [psizes, List.length_cons]
  rw [Nat.mul_add, Nat.mul_one]; omega
theorem node_any {p : Prog} {mf mc : List (Int × Int)} {F C : List Int} (hF : SameL p.funs.length mf F) (hC : SameL p.cons.length mc C) (hB : ∀ i : Int, 0 ≤ i → i < p.funs.length → 0 ≤ mAt mf i ∧ mAt mf i ≤ 1000000) (hs : p.funs.length ≤ 320) {x : Node} (h : nodeOk p x = true) (h10 : x.pats.length ≤ 10) :
  (psizes x.pats < 1000000 ∧ mN F C x.op x.n = some (bN mf mc x.op x.n) ∧ mPats C x.pats = some (cPats mc x.pats)) ∧ nOk mf x := by
 simp only [nodeOk, Bool.and_eq_true, nodeHead] at h
 obtain ⟨⟨⟨h1, _⟩, h2⟩, _⟩ := h
 have hq : ∀ q ∈ x.pats, psize q ≤ 12 ∧ patOk p.cons q = true := fun q hq => by
  have := List.all_eq_true.1 h2 q hq
  simpa [nodePat] using this
 have hps : psizes x.pats ≤ 12 * x.pats.length := psizes_le (fun q h => (hq q h).1)
 have hr4 : x.op = 4 → -(p.funs.length : Int) ≤ x.n ∧ x.n ≤ 29 := fun e => by
  rw [e] at h1
  simp [nodeHead1, inB] at h1
  omega
 have hr14 : x.op = 14 → 0 ≤ x.n ∧ x.n < p.cons.length := fun e => by
  rw [e] at h1
  simp [nodeHead1, inB] at h1
  omega
 refine ⟨⟨by omega, ?_, mPats_c p.cons hC x.pats (patsOk_all fun q h => (hq q h).2)⟩, by omega, fun e hn => ?_⟩
 · unfold mN bN
   by_cases h4 : x.op = 4
   · have hr := hr4 h4
     by_cases hn : x.n < 0
     · have hb := hB (-1 - x.n) (by omega) (by omega)
       rw [if_pos ⟨h4, hn⟩, if_pos h4, if_neg (by omega), hF _ (by omega) (by omega)]
       simp only
       rw [if_pos (by omega)]
     · rw [if_neg (fun h => hn h.2), if_neg (show ¬ x.op = 14 by omega), if_pos h4, if_pos (show 0 ≤ x.n by omega)]
   · rw [if_neg (fun h => h4 h.1), if_neg h4]
     by_cases h14 : x.op = 14
     · have hr := hr14 h14
       rw [if_pos h14, if_pos h14, if_pos hr.1, hC _ hr.1 hr.2]
     · rw [if_neg h14, if_neg h14]
 · have hr := hr4 e
   have hb := hB (-1 - x.n) (by omega) (by omega)
   omega
theorem node_both {p : Prog} (hF : p.funs.length ≤ 320) {x : Node} (h : nodeOk p x = true) (h10 : x.pats.length ≤ 10) :
  (psizes x.pats < 1000000 ∧ mN (numsL 0 p.funs.length) (numsL 0 p.cons.length) x.op x.n = some (bN (sM p.funs.length) (sM p.cons.length) x.op x.n) ∧ mPats (numsL 0 p.cons.length) x.pats = some (cPats (sM p.cons.length) x.pats)) ∧ nOk (sM p.funs.length) x :=
 node_any (same_sM _) (same_sM _) (fun i h0 h1 => by rw [sM_at h0 h1]; omega) hF h h10
end Go.Hb
namespace Go.Hb
open Go.Proofs
/-! ## a formed program: the walk repeats no node -/
def kidsOf (p : Prog) (i : Int) : List Int := match p.nodes[i.toNat]? with
 | some x => x.kids
 | none => []
section
variable {p : Prog}
theorem flat_count {q : Int → List Int} (m : Int) : ∀ (ks : List Int), (∀ k ∈ ks, (q k).count m = [k].count m + (((q k).map (kidsOf p)).flatten).count m) →
  ((ks.map q).flatten).count m = ks.count m + ((((ks.map q).flatten).map (kidsOf p)).flatten).count m
 | [], _ => rfl
 | k :: ks, h => by
  have h1 := h k (List.mem_cons_self ..)
  have h2 := flat_count m ks (fun x hx => h x (List.mem_cons_of_mem _ hx))
  rw [List.map_cons, List.flatten_cons, List.count_append, List.map_append, List.flatten_append, List.count_append, h1, h2, show k :: ks = [k] ++ ks from rfl, List.count_append]
  omega
theorem pre_count (hp : FineP p) (m : Int) : ∀ (f : Nat) (a : Int), 0 ≤ a → a < p.nodes.length → p.nodes.length - a.toNat ≤ f → (pre p f a).count m = [a].count m + (((pre p f a).map (kidsOf p)).flatten).count m
 | 0, a, ha, hn, hf => by omega
 | f + 1, a, ha, hn, hf => by
  obtain ⟨x, hx⟩ : ∃ x, p.nodes[a.toNat]? = some x := ⟨_, List.getElem?_eq_getElem (by omega)⟩
  obtain ⟨_, _, hks⟩ := hp.node _ _ hx
  have e : pre p (f + 1) a = a :: (x.kids.map (pre p f)).flatten := by rw [pre, hx]
  have ek : kidsOf p a = x.kids := by unfold kidsOf; rw [hx]
  have h2 := flat_count (p := p) m x.kids (fun k hk => by
   have := hks k hk
   exact pre_count hp m f k (by omega) (by omega) (by omega))
  rw [e, List.map_cons, List.flatten_cons, List.count_append, ek, show a :: (x.kids.map (pre p f)).flatten = [a] ++ (x.kids.map (pre p f)).flatten from rfl, List.count_append, h2]
theorem pre_in (hp : FineP p) : ∀ (f : Nat) (a : Int), 0 ≤ a → a < p.nodes.length → ∀ y ∈ pre p f a, 0 ≤ y ∧ y < p.nodes.length
 | 0, a, _, _, y, hy => by cases hy
 | f + 1, a, ha, hn, y, hy => by
  obtain ⟨x, hx⟩ : ∃ x, p.nodes[a.toNat]? = some x := ⟨_, List.getElem?_eq_getElem (by omega)⟩
  obtain ⟨_, _, hks⟩ := hp.node _ _ hx
  have e : pre p (f + 1) a = a :: (x.kids.map (pre p f)).flatten := by rw [pre, hx]
  rw [e] at hy
  rcases List.mem_cons.1 hy with rfl | hy
  · exact ⟨ha, hn⟩
  · obtain ⟨l, hl, hy⟩ := List.mem_flatten.1 hy
    obtain ⟨k, hk, rfl⟩ := List.mem_map.1 hl
    have := hks k hk
    exact pre_in hp f k (by omega) (by omega) y hy
/-- is it marked -/
def tauM (u : List Bool) (m : Int) : Nat := if u[m.toNat]? = some true then 1 else 0
theorem marks_count {lo n : Int} (hlo : 0 ≤ lo) {m : Int} (hm : 0 ≤ m) : ∀ {ks : List Int} {u v : List Bool}, marks lo n ks u = some v → ks.count m + tauM u m = tauM v m
 | [], u, v, h => by cases h; simp
 | k :: ks, u, v, h => by
  have hk := marks_in h k (List.mem_cons_self ..)
  obtain ⟨h1, h2⟩ := marks_cons h
  have h3 := marks_count hlo hm h2
  rw [← h3, show k :: ks = [k] ++ ks from rfl, List.count_append]
  have hlt := (List.getElem?_eq_some_iff.1 h1).1
  by_cases e : k = m
  · subst e
    have a1 : tauM u k = 0 := by unfold tauM; rw [h1]; rfl
    have a2 : tauM (u.set k.toNat true) k = 1 := by unfold tauM; rw [List.getElem?_set_self hlt]; rfl
    rw [a1, a2]; simp; omega
  · have a1 : tauM (u.set k.toNat true) m = tauM u m := by unfold tauM; rw [List.getElem?_set_ne (by omega)]
    rw [a1, List.count_singleton, if_neg (by simpa using e)]; omega
theorem refNodes_count {m : Int} (hm : 0 ≤ m) : ∀ {t : List Node} {i : Nat} {u v : List Bool}, refNodes p i t u = some v → ((t.map Node.kids).flatten).count m + tauM u m = tauM v m
 | [], i, u, v, h => by simp only [refNodes, Option.some.injEq] at h; subst h; simp
 | x :: t, i, u, v, h => by
  obtain ⟨_, w, h1, h2⟩ := refNodes_cons h
  have h3 := marks_count (by omega) hm h1
  have h4 := refNodes_count hm h2
  rw [List.map_cons, List.flatten_cons, List.count_append]
  omega
theorem kids_uniq {m : Int} : ∀ {t : List Node}, ((t.map Node.kids).flatten).count m ≤ 1 → ∀ (i j : Nat) (x y : Node), t[i]? = some x → t[j]? = some y → m ∈ x.kids → m ∈ y.kids → i = j
 | [], _, i, j, x, y, hx, _, _, _ => by simp at hx
 | z :: t, h, i, j, x, y, hx, hy, mx, my => by
  rw [List.map_cons, List.flatten_cons, List.count_append] at h
  have inT : ∀ {i : Nat} {x : Node}, t[i]? = some x → m ∈ x.kids → 0 < ((t.map Node.kids).flatten).count m := fun {i x} hx mx =>
   List.count_pos_iff.2 (List.mem_flatten.2 ⟨x.kids, List.mem_map.2 ⟨x, List.mem_of_getElem? hx, rfl⟩, mx⟩)
  cases i with
  | zero =>
   simp only [List.getElem?_cons_zero, Option.some.injEq] at hx
   subst hx
   cases j with
   | zero => rfl
   | succ j =>
    simp only [List.getElem?_cons_succ] at hy
    have := inT hy my
    have := List.count_pos_iff.2 mx
    omega
  | succ i =>
   simp only [List.getElem?_cons_succ] at hx
   cases j with
   | zero =>
    simp only [List.getElem?_cons_zero, Option.some.injEq] at hy
    subst hy
    have := inT hx mx
    have := List.count_pos_iff.2 my
    omega
   | succ j =>
    simp only [List.getElem?_cons_succ] at hy
    rw [kids_uniq (by omega) i j x y hx hy mx my]
theorem kids_le {m : Int} : ∀ {t : List Node} {i : Nat} {x : Node}, t[i]? = some x → x.kids.count m ≤ ((t.map Node.kids).flatten).count m
 | [], i, x, hx => by simp at hx
 | z :: t, 0, x, hx => by
  simp only [List.getElem?_cons_zero, Option.some.injEq] at hx
  subst hx
  rw [List.map_cons, List.flatten_cons, List.count_append]; omega
 | z :: t, i+1, x, hx => by
  simp only [List.getElem?_cons_succ] at hx
  have := kids_le (m := m) hx
  rw [List.map_cons, List.flatten_cons, List.count_append]; omega
theorem flat_le {m i : Int} : ∀ (L : List Int), (∀ j ∈ L, m ∈ kidsOf p j → j = i) → ((L.map (kidsOf p)).flatten).count m ≤ L.count i * (kidsOf p i).count m
 | [], _ => by simp
 | j :: L, h => by
  have h1 := flat_le L (fun x hx => h x (List.mem_cons_of_mem _ hx))
  rw [List.map_cons, List.flatten_cons, List.count_append, show j :: L = [j] ++ L from rfl, List.count_append, Nat.add_mul]
  by_cases hm : m ∈ kidsOf p j
  · have := h j (List.mem_cons_self ..) hm
    subst this
    simp
    exact h1
  · rw [List.count_eq_zero.2 hm]
    exact Nat.le_trans (by simpa using h1) (Nat.le_add_left ..)
theorem once (hp : FineP p) (hK : ∀ m : Int, 0 ≤ m → p.funs.count m + ((p.nodes.map Node.kids).flatten).count m ≤ 1) {L : List Int} (hin : ∀ x ∈ L, 0 ≤ x ∧ x < p.nodes.length) (hL : ∀ m : Int, L.count m = p.funs.count m + ((L.map (kidsOf p)).flatten).count m) : ∀ (b m : Nat), m ≤ b → L.count (m : Int) ≤ 1 := by
 intro b
 induction b with
 | zero =>
  intro m hmb
  have hm : m = 0 := by omega
  subst hm
  have e := hL ((0 : Nat) : Int)
  have z : ((L.map (kidsOf p)).flatten).count ((0 : Nat) : Int) = 0 := by
   refine List.count_eq_zero.2 (fun h => ?_)
   obtain ⟨l, hl, hy⟩ := List.mem_flatten.1 h
   obtain ⟨j, hj, rfl⟩ := List.mem_map.1 hl
   unfold kidsOf at hy
   split at hy
   · rename_i x hx
     have := (hp.node _ _ hx).2.2 _ hy
     omega
   · cases hy
  have := hK ((0 : Nat) : Int) (by omega)
  omega
 | succ b ih =>
  intro m hmb
  have e := hL (m : Int)
  have hk := hK (m : Int) (by omega)
  by_cases hz : ((L.map (kidsOf p)).flatten).count (m : Int) = 0
  · omega
  · have hpos := List.count_pos_iff.1 (Nat.pos_of_ne_zero hz)
    obtain ⟨l, hl, hy⟩ := List.mem_flatten.1 hpos
    obtain ⟨i, hi, rfl⟩ := List.mem_map.1 hl
    have hir := hin i hi
    obtain ⟨x, hx⟩ : ∃ x, p.nodes[i.toNat]? = some x := ⟨_, List.getElem?_eq_getElem (by omega)⟩
    have ei : kidsOf p i = x.kids := by unfold kidsOf; rw [hx]
    rw [ei] at hy
    have him := (hp.node _ _ hx).2.2 _ hy
    have hci : L.count i ≤ 1 := by
     have := ih i.toNat (by omega)
     rwa [show ((i.toNat : Nat) : Int) = i by omega] at this
    have hle := flat_le (p := p) (m := (m : Int)) (i := i) L (fun j hj hmj => by
     have hjr := hin j hj
     obtain ⟨y, hy'⟩ : ∃ y, p.nodes[j.toNat]? = some y := ⟨_, List.getElem?_eq_getElem (by omega)⟩
     have ej : kidsOf p j = y.kids := by unfold kidsOf; rw [hy']
     rw [ej] at hmj
     have := kids_uniq (by omega) _ _ y x hy' hx hmj hy
     omega)
    rw [ei] at hle
    have hkl := kids_le (m := (m : Int)) hx
    have : L.count i * x.kids.count (m : Int) ≤ 1 * x.kids.count (m : Int) := Nat.mul_le_mul_right _ hci
    omega
theorem nodup_len : ∀ (n : Nat) (l : List Nat), l.Nodup → (∀ x ∈ l, x < n) → l.length ≤ n
 | 0, [], _, _ => by simp
 | 0, x :: l, _, h => by have := h x (List.mem_cons_self ..); omega
 | n+1, l, hd, h => by
  by_cases hm : n ∈ l
  · have h1 := nodup_len n (l.erase n) (hd.erase n) (fun x hx => by
     have := h x (List.mem_of_mem_erase hx)
     have hne : x ≠ n := fun e => by
      subst e
      exact hd.not_mem_erase hx
     omega)
    rw [List.length_erase_of_mem hm] at h1
    omega
  · have := nodup_len n l hd (fun x hx => by
     have := h x hx
     have hne : x ≠ n := fun e => hm (e ▸ hx)
     omega)
    omega
end
end Go.Hb
namespace Go.Hb
open Go.Proofs
/-! ## Canon: both roads -/
theorem nodup_of_count {L : List Int} (h : ∀ a, L.count a ≤ 1) : L.Nodup := List.nodup_iff_count.2 h
theorem all_len : ∀ (n : Nat) (l : List Int), (∀ i : Nat, i < n → (i : Int) ∈ l) → n ≤ l.length
 | 0, l, _ => Nat.zero_le _
 | n+1, l, h => by
  have h0 := h n (Nat.lt_succ_self n)
  have h1 := all_len n (l.erase (n : Int)) (fun i hi => (List.mem_erase_of_ne (by omega)).2 (h i (by omega)))
  rw [List.length_erase_of_mem h0] at h1
  have := List.length_pos_of_mem h0
  omega
theorem all_in {p : Prog} (hp : FineP p) (hK : ∀ m : Nat, m < p.nodes.length → p.funs.count (m : Int) + ((p.nodes.map Node.kids).flatten).count (m : Int) = 1) {L : List Int} (hL : ∀ m : Int, L.count m = p.funs.count m + ((L.map (kidsOf p)).flatten).count m) : ∀ (b m : Nat), m ≤ b → m < p.nodes.length → (m : Int) ∈ L := by
 intro b
 induction b with
 | zero =>
  intro m hmb hm
  have e := hL (m : Int)
  have hk := hK m hm
  by_cases hz : ((p.nodes.map Node.kids).flatten).count (m : Int) = 0
  · exact List.count_pos_iff.1 (by omega)
  · obtain ⟨l, hl, hy⟩ := List.mem_flatten.1 (List.count_pos_iff.1 (Nat.pos_of_ne_zero hz))
    obtain ⟨x, hx, rfl⟩ := List.mem_map.1 hl
    obtain ⟨i, hi⟩ := List.mem_iff_getElem?.1 hx
    have := (hp.node _ _ hi).2.2 _ hy
    omega
 | succ b ih =>
  intro m hmb hm
  have e := hL (m : Int)
  have hk := hK m hm
  by_cases hz : ((p.nodes.map Node.kids).flatten).count (m : Int) = 0
  · exact List.count_pos_iff.1 (by omega)
  · obtain ⟨l, hl, hy⟩ := List.mem_flatten.1 (List.count_pos_iff.1 (Nat.pos_of_ne_zero hz))
    obtain ⟨x, hx, rfl⟩ := List.mem_map.1 hl
    obtain ⟨i, hi⟩ := List.mem_iff_getElem?.1 hx
    have him := (hp.node _ _ hi).2.2 _ hy
    have hiL := ih i (by omega) (by omega)
    have : (m : Int) ∈ (L.map (kidsOf p)).flatten := List.mem_flatten.2 ⟨x.kids, List.mem_map.2 ⟨(i : Int), hiL, by unfold kidsOf; rw [Int.toNat_natCast, hi]⟩, hy⟩
    have := List.count_pos_iff.2 this
    exact List.count_pos_iff.1 (by omega)
theorem formed_pre {p : Prog} (hs : smallProg p = true) (hf : refFormed p = true) : ((p.funs.map (pre p p.nodes.length)).flatten).Nodup ∧ ((p.funs.map (pre p p.nodes.length)).flatten).length = p.nodes.length ∧ (∀ x ∈ (p.funs.map (pre p p.nodes.length)).flatten, 0 ≤ x ∧ x < p.nodes.length) ∧
  (∀ (i : Nat) (x : Node), p.nodes[i]? = some x → nodeOk p x = true) := by
 have hp := formed_fine hs hf
 simp only [refFormed, Bool.and_eq_true] at hf
 obtain ⟨_, hf⟩ := hf
 split at hf
 · rename_i u hu
   unfold allT at hf
   split at hf
   · rename_i v hv
     have hK : ∀ m : Int, 0 ≤ m → p.funs.count m + ((p.nodes.map Node.kids).flatten).count m ≤ 1 := fun m hm => by
      have h1 := marks_count (by omega) hm hu
      have h2 := refNodes_count hm hv
      have h3 : tauM v m ≤ 1 := by unfold tauM; split <;> omega
      omega
     have hin : ∀ x ∈ (p.funs.map (pre p p.nodes.length)).flatten, 0 ≤ x ∧ x < p.nodes.length := fun x hx => by
      obtain ⟨l, hl, hy⟩ := List.mem_flatten.1 hx
      obtain ⟨k, hk, rfl⟩ := List.mem_map.1 hl
      have := hp.funs k hk
      exact pre_in hp _ k this.1 this.2 x hy
     have hL : ∀ m : Int, ((p.funs.map (pre p p.nodes.length)).flatten).count m = p.funs.count m + ((((p.funs.map (pre p p.nodes.length)).flatten).map (kidsOf p)).flatten).count m := fun m => flat_count m p.funs (fun k hk => by
      have := hp.funs k hk
      exact pre_count hp m _ k this.1 this.2 (by omega))
     have hd : ((p.funs.map (pre p p.nodes.length)).flatten).Nodup := nodup_of_count (fun a => by
      by_cases ha : a ∈ (p.funs.map (pre p p.nodes.length)).flatten
      · have hr := hin a ha
        have := once hp hK hin hL a.toNat a.toNat (Nat.le_refl _)
        rwa [show ((a.toNat : Nat) : Int) = a by omega] at this
      · rw [List.count_eq_zero.2 ha]; omega)
     refine ⟨hd, ?_, hin, fun i x hx => (refNodes_all hv i x hx).1⟩
     have hd2 : (((p.funs.map (pre p p.nodes.length)).flatten).map Int.toNat).Nodup := by
      rw [List.nodup_iff_pairwise_ne] at hd ⊢
      refine List.pairwise_map.2 (hd.imp_of_mem (fun {a b} ha hb hne e => ?_))
      have := hin a ha
      have := hin b hb
      exact hne (by omega)
     have := nodup_len p.nodes.length _ hd2 (fun x hx => by
      obtain ⟨y, hy, rfl⟩ := List.mem_map.1 hx
      have := hin y hy
      omega)
     rw [List.length_map] at this
     refine Nat.le_antisymm this (all_len _ _ (fun i hi => all_in hp (fun m hm => ?_) hL i i (Nat.le_refl _) hi))
     have h1 := marks_count (m := (m : Int)) (by omega) (by omega) hu
     have h2 := refNodes_count (m := (m : Int)) (by omega) hv
     have hl1 := marks_len hu
     have hl2 := refNodes_len hv
     rw [List.length_replicate] at hl1
     have h3 : tauM (List.replicate p.nodes.length false) (m : Int) = 0 := by
      unfold tauM
      rw [Int.toNat_natCast, List.getElem?_replicate, if_pos hm]; rfl
     have h4 : tauM v (m : Int) = 1 := by
      unfold tauM
      have hlt : m < v.length := by omega
      have := List.all_eq_true.1 hf _ (List.getElem_mem hlt)
      rw [Int.toNat_natCast, List.getElem?_eq_getElem hlt, this]; rfl
     omega
   · cases hf
 · cases hf
abbrev errProg : AV := .agg [.ilst 4 (List.map Node.av ([] : List Node)) true, .ilst 1 (List.map avI ([] : List Int)) true, .int .i64 0, .ilst 2 (List.map Con.av ([] : List Con)) true]
end Go.Hb
namespace Go.Hb
open Go.Proofs
noncomputable abbrev hoh160 (p : Prog) : Nat × AObj × Bool := (0, (.cells (putCells .leaf 0 [(iN p.nodes), (iI p.funs), (nI p.main), (iC p.cons)]) 4 [] false), false)
noncomputable abbrev hoh161  : Nat × AObj × Bool := (1, (.cells (putCells .leaf 0 [.nils, .nils, (nI 0), .nils]) 4 [] false), false)
noncomputable abbrev hoh162 (zf0 : (List (Int × Int))) : Nat × AObj × Bool := (2, (.map (mEnts avI avI 0 zf0) zf0.length), true)
noncomputable abbrev hoh163 (zc1 : (List (Int × Int))) : Nat × AObj × Bool := (3, (.map (mEnts avI avI 0 zc1) zc1.length), true)
theorem ord_0_1n (p : Prog) (mn0 : Int) (cs1 : (List Con)) (i4 : Int) (l3 : (List Node)) (l4 : (List Int)) (h0 : decide (i4 < (p.funs.length : Int)) = false) :
  Ends PP 0 (ord_c0 p mn0 cs1 i4 l3 l4).as (.ret (.agg [(.gl 0 4 0 l3.length false), (.gl 1 1 0 l4.length false), (nI mn0), (iC cs1)])) (hpOf [(0, (.lst 4 (jN l3)), true), (1, (.lst 1 (jI l4)), true)] 2) :=
 wE 5 [3, 4] [ql avI p.funs, qp h0] [rn 6, aL p.funs, rn 2, bf 11, rn 8] ⟨kk, ⟨kk, trivial⟩⟩
theorem orr_2_1n (p : Prog) (mf : (List (Int × Int))) (mc : (List (Int × Int))) (from0 : Int) (vl12 : (List Int)) (l9 : (List Node)) (t88 : Int) (l5 : (List Int)) (h0 : decide (t88 < (p.funs.length : Int)) = false) :
  Ends PP 2 (orr_c2 p mf mc from0 vl12 l9 t88 l5).as (.ret (.tup [(.gl 2 4 0 l9.length false), (.gl 3 1 0 l5.length false)])) (hpOf [(0, (.map (mEnts avI avI 0 mf) mf.length), true), (1, (.map (mEnts avI avI 0 mc) mc.length), true), (2, (.lst 4 (jN l9)), true), (3, (.lst 1 (jI l5)), true)] 4) :=
 wE 10 [9, 5] [qp h0] [rn 5, bf 89, rn 12] ⟨kl_map (fun _ => rfl) (fun _ => rfl) _ _ _, ⟨kl_map (fun _ => rfl) (fun _ => rfl) _ _ _, ⟨kk, ⟨kk, trivial⟩⟩⟩⟩
theorem cln_nn (xs : List Con) :
  Ends PP 0 (cln_cn xs).as (.ret (.gl 0 2 0 0 false)) (hpOf [(0, (.lst 2 (jC ([] : List Con))), true)] 1) :=
 wE 1 [0] [] [rn 8, .nilL 2 2] ⟨kk, trivial⟩
theorem cln_vn (xs : List Con) (a : Addr) (n c : Nat) (h0 : List.length (([] : List Con) ++ xs) ≤ 1000000) :
  Ends PP 0 (cln_cv xs a n c).as (.ret (.gl 0 2 0 (([] : List Con) ++ xs).length false)) (hpOf [(0, (.lst 2 (jC (([] : List Con) ++ xs))), true)] 1) :=
 wE 2 [1] [qp (p := getCells (putCells .leaf 0 []) 0 (0 * 2) = some []) rfl, qp (p := allOne [] = true) rfl, qp (p := [] = (jC ([] : List Con))) rfl, qp (p := (AV.gl 0 2 0 0 true) = (.gl 0 2 0 ([] : List Con).length true)) rfl, qp (app_p1 Con.av ([] : List Con)), qp h0, qp (app_p3 Con.av ([] : List Con) xs), qp (app_p4 Con.av ([] : List Con) xs)] [rn 8, .toL 5 true [], .lset 0 (jC ([] : List Con)), .set 5 (.gl 0 2 0 ([] : List Con).length true), .app (jC (([] : List Con) ++ xs)) (([] : List Con) ++ xs).length, rn 3] ⟨kk, trivial⟩
noncomputable def bCaN_s (p : Prog) : TS := startH PP 17 [(Prog.av p)] [] 0
noncomputable def bCaN_c0 (p : Prog)  : TS :=
 { fr := { fn := 17, nt := 34, sl := [(1, (.ptr 0 0)), (2, (.ptr 1 0)), (3, (nI 0))], todo := [.code (cd Tryz.f17 [1, 1, 0]), .code (cd Tryz.f17 [1, 1, 1])] }, cs := [], hp := [hoh160 p, hoh161], nb := 2 }
noncomputable def bCaN_c1 (p : Prog) (zn2 : (List Node)) (zu3 : (List Int)) : TS :=
 { fr := { fn := 17, nt := 34, sl := [(1, (.ptr 0 0)), (2, (.ptr 1 0)), (3, (nI 0)), (5, (.gl 2 4 0 zn2.length false)), (6, (.gl 3 1 0 zu3.length false))], todo := [.code (cd Tryz.f17 [1, 1, 1, 0]), .code (cd Tryz.f17 [1, 1, 1, 1])] }, cs := [], hp := [hoh160 p, hoh161, (2, (.lst 4 (jN zn2)), true), (3, (.lst 1 (jI zu3)), true)], nb := 4 }
theorem bCaN_E_1 (p : Prog) (y0 : Int) (h0 : Pure PP 10 [(Prog.av p)] (nI y0)) (h1 : (y0 != (0 : Int)) = false) :
  LeadsM PP 0 (bCaN_s p).as (bCaN_c0 p ).as :=
 wW 2 [0, 1] [qp h0, qp h1] [rn 10, .pure (nI y0), rn 7, bf 10, rn 3] trivial
theorem bCaN_0_0 (p : Prog) (zf0 : (List (Int × Int))) (zc1 : (List (Int × Int))) (zn2 : (List Node)) (zu3 : (List Int)) (h0 : Spec PP (.enter 40 [(nI (p.funs.length : Int)), (nI (p.cons.length : Int))]) (hpOf [hoh160 p, hoh161] 2) (.ret (.agg [(.map 2), (.map 3)])) (hpOf [hoh160 p, hoh161, hoh162 zf0, hoh163 zc1] 4)) (h1 : Spec PP (.enter 38 [(Prog.av p), (nI 0), (.func 39 [] []), (.agg [(.map 2), (.map 3)])]) (hpOf [hoh160 p, hoh161, hoh162 zf0, hoh163 zc1] 4) (.ret (.tup [(.gl 4 4 0 zn2.length false), (.gl 5 1 0 zu3.length false)])) (hpOf [hoh160 p, hoh161, hoh162 zf0, hoh163 zc1, (4, (.lst 4 (jN zn2)), true), (5, (.lst 1 (jI zu3)), true)] 6)) :
  LeadsM PP 0 (bCaN_c0 p ).as (bCaN_c1 p zn2 zu3).as :=
 wW 6 [0, 1, 4, 5] [ql avI p.funs, ql Con.av p.cons, qp h0, qp h1, qr (Prog.av p), qr (Prog.av p)] [.reg [.d, .d, .d, .d, .ans (.len (p.funs.length : Int)), .d, .d, .ans (.len (p.cons.length : Int)), .call (.agg [(.map 2), (.map 3)]) (hpOf [hoh160 p, hoh161, hoh162 zf0, hoh163 zc1] 4), .call (.tup [(.gl 4 4 0 zn2.length false), (.gl 5 1 0 zu3.length false)]) (hpOf [hoh160 p, hoh161, hoh162 zf0, hoh163 zc1, (4, (.lst 4 (jN zn2)), true), (5, (.lst 1 (jI zu3)), true)] 6), .d, .d, .d, .d, .d], rn 1] ⟨kk, ⟨kk, trivial⟩⟩
theorem bCaN_1_0 (p : Prog) (zn2 : (List Node)) (zu3 : (List Int)) (h0 : Spec PP (.enter 41 [(iC p.cons)]) (hpOf [hoh160 p, hoh161, (2, (.lst 4 (jN zn2)), true), (3, (.lst 1 (jI zu3)), true)] 4) (.ret (.gl 4 2 0 p.cons.length false)) (hpOf [hoh160 p, hoh161, (2, (.lst 4 (jN zn2)), true), (3, (.lst 1 (jI zu3)), true), (4, (.lst 2 (jC p.cons)), true)] 5)) :
  Ends PP 0 (bCaN_c1 p zn2 zu3).as (.ret (.tup [(.agg [(.gl 0 4 0 zn2.length false), (.gl 1 1 0 zu3.length false), (nI p.main), (.gl 2 2 0 p.cons.length false)]), (nI 0)])) (hpOf [(0, (.lst 4 (jN zn2)), true), (1, (.lst 1 (jI zu3)), true), (2, (.lst 2 (jC p.cons)), true)] 3) :=
 wE 5 [2, 3, 4] [qp h0, qr (nI p.main), qr (nI p.main)] [.reg [.d, .d, .d, .d, .d, .d, .call (.gl 4 2 0 p.cons.length false) (hpOf [hoh160 p, hoh161, (2, (.lst 4 (jN zn2)), true), (3, (.lst 1 (jI zu3)), true), (4, (.lst 2 (jC p.cons)), true)] 5), .d, .d, .d], rn 1] ⟨kk, ⟨kk, ⟨kk, trivial⟩⟩⟩
end Go.Hb
namespace Go.Hb
open Go.Proofs
set_option maxHeartbeats 2000000
noncomputable section
/-! ## contracts whose results are list objects: Order, ordered, Clone, Canon -/
abbrev LN (l : List Node) : AObj := .lst 4 (List.map Node.av l)
abbrev LI (l : List Int) : AObj := .lst 1 (List.map avI l)
abbrev LC (l : List Con) : AObj := .lst 2 (List.map Con.av l)
abbrev gN (b : Nat) (l : List Node) : AV := .gl b 4 0 (List.length l) false
abbrev gI (b : Nat) (l : List Int) : AV := .gl b 1 0 (List.length l) false
abbrev gC (b : Nat) (l : List Con) : AV := .gl b 2 0 (List.length l) false
theorem ln_kl (l : List Node) : (LN l).kl := keylessL_map _ (fun _ => rfl) _
theorem li_kl (l : List Int) : (LI l).kl := keylessL_map _ (fun _ => rfl) _
theorem lc_kl (l : List Con) : (LC l).kl := keylessL_map _ (fun _ => rfl) _
theorem ordN_spec {p q : Prog} {k : Nat} (hf : p.funs.length < 1000000) (hc : p.cons.length < 1000000) (h : orderOf p k = some q) :
  SpecN PP (.enter 42 [PA p]) (hpOf [] 0) (.ret (.agg [gN 0 q.nodes, gI 1 q.funs, .int .i64 q.main, .ilst 2 (List.map Con.av q.cons) false])) (hpOf [(0, LN q.nodes, true), (1, LI q.funs, true)] 2) := by
 unfold orderOf at h
 split at h
 · rename_i ks r hm
   cases h
   exact ⟨(ord_s p).as.fr, by kernel_rfl, Eq.mp (by kernel_rfl) (((ord_E_0 p p.main p.cons (cpd_pure (by omega))).trans (ord_loop p k p.main p.cons hf hc p.funs 0 [] [] ks r rfl rfl (Nat.zero_le _) hm)).ends (ord_0_1n p p.main p.cons _ _ _ (by simp)))⟩
 · cases h
theorem orderedN {p : Prog} {mf mc : List (Int × Int)} (hp : FineP p) (hok : ∀ (i : Nat) (x : Node), p.nodes[i]? = some x → nOk mf x) (frm : Int) (f : Nat) (hf : p.nodes.length ≤ f) (to : List Int) (n : Int) (hb : (nodesB p mf mc to f).length ≤ 1000000) (hw : toOf p frm f = some (to, n)) :
  SpecM PP 2 (.enter 38 [PA p, .int .i64 frm, .func 39 [] [], .agg [.map 0, .map 1]]) (hpOf [(0, MO mf, true), (1, MO mc, true)] 2) (.ret (.tup [gN 2 (nodesB p mf mc to f), gI 3 (p.funs.map (toAt to))]))
   (hpOf [(0, MO mf, true), (1, MO mc, true), (2, LN (nodesB p mf mc to f), true), (3, LI (p.funs.map (toAt to)), true)] 4) :=
 ⟨(orr_s p mf mc frm).as.fr, by kernel_rfl, Eq.mp (by kernel_rfl) ((ordered_leads hp hok frm f hf to n hb hw).ends (orr_2_1n p mf mc frm to _ _ _ (by simp)))⟩
theorem cloneN (xs : List Con) (h : xs.length ≤ 1000000) : SpecN PP (.enter 41 [.ilst 2 (List.map Con.av xs) false]) (hpOf [] 0) (.ret (gC 0 xs)) (hpOf [(0, LC xs, true)] 1) := by
 suffices hh : Ends PP 0 (cln_s xs).as (.ret (gC 0 xs)) (hpOf [(0, LC xs, true)] 1) from ⟨(cln_s xs).as.fr, by kernel_rfl, Eq.mp (by kernel_rfl) hh⟩
 refine (cln_E xs).ends ?_
 refine ends_nil (j := 3) (e := 2) (ex := false) (xs := List.map Con.av xs) (by kernel_rfl) (fun hx => ?_) (fun a n c => ?_)
 · have hx : xs = [] := by simpa using hx
   subst hx
   exact Eq.mp (by kernel_rfl) (cln_nn [])
 · have h1 := cln_vn xs a n c (by simpa using h)
   rw [List.nil_append] at h1
   exact Eq.mp (by kernel_rfl) h1
abbrev Cell0 : AObj := .cells (putCells .leaf 0 [.nils, .nils, .int .i64 0, .nils]) 4 [] false
theorem bCanonN {p : Prog} (hp : FineP p) (hok : ∀ (i : Nat) (x : Node), p.nodes[i]? = some x → nOk (sM p.funs.length) x) (f : Nat) (hf : p.nodes.length ≤ f) (to : List Int) (n : Int) (hc : p.cons.length < 1000000)
  (hb : (nodesB p (sM p.funs.length) (sM p.cons.length) to f).length ≤ 1000000) (hw : toOf p 0 f = some (to, n)) (h10 : Pure PP 10 [PA p] (.int .i64 0)) :
  SpecN PP (.enter 17 [PA p]) (hpOf [] 0) (.ret (.tup [.agg [gN 0 (nodesB p (sM p.funs.length) (sM p.cons.length) to f), gI 1 (p.funs.map (toAt to)), .int .i64 p.main, gC 2 p.cons], .int .i64 0]))
   (hpOf [(0, LN (nodesB p (sM p.funs.length) (sM p.cons.length) to f), true), (1, LI (p.funs.map (toAt to)), true), (2, LC p.cons, true)] 3) := by
 have hfs := hp.fsmall
 have h40 := same_spec p.funs.length p.cons.length (by omega) hc
 have h38 := orderedN (mf := sM p.funs.length) (mc := sM p.cons.length) hp hok 0 f hf to n hb hw
 have h41 := cloneN p.cons (by omega)
 generalize nodesB p (sM p.funs.length) (sM p.cons.length) to f = N at h38 ⊢
 generalize p.funs.map (toAt to) = U at h38 ⊢
 refine ⟨(bCaN_s p).as.fr, by kernel_rfl, Eq.mp (by kernel_rfl) ((bCaN_E_1 p 0 h10 rfl).ends ((bCaN_0_0 p (sM p.funs.length) (sM p.cons.length) N U ?_ ?_).ends (bCaN_1_0 p N U ?_)))⟩
 · exact Eq.mp (by kernel_rfl) (spec_new (ks := []) (n2 := 2) (lc := [(0, PCell p, false), (1, Cell0, false)]) (x := [(0, PCell p, false), (1, Cell0, false)])
    (args' := [.int .i64 (p.funs.length : Int), .int .i64 (p.cons.length : Int)]) h40 (by kernel_rfl) (by kernel_rfl) (by kernel_rfl) trivial (by kernel_rfl) (by kernel_rfl) (by kernel_rfl) (by kernel_rfl) ⟨mo_kl _, mo_kl _, trivial⟩ (by kernel_rfl))
 · exact spec_gen2 (m := 2) (ks := [2, 3]) h38 (by rfl) (by rfl) (by kernel_rfl) (by rfl) (by rfl) (by kernel_rfl) (by kernel_rfl)
    ⟨mo_kl _, mo_kl _, trivial⟩ (by kernel_rfl) ⟨mo_kl _, mo_kl _, ln_kl _, li_kl _, trivial⟩ (by kernel_rfl) (by kernel_rfl) (by kernel_rfl) (by kernel_rfl) (by kernel_rfl) (by kernel_rfl) (by kernel_rfl)
 · exact Eq.mp (by kernel_rfl) (spec_new (ks := []) (n2 := 4) (lc := [(0, PCell p, false), (1, Cell0, false), (2, LN N, true), (3, LI U, true)]) (x := [(0, PCell p, false), (1, Cell0, false), (2, LN N, true), (3, LI U, true)])
    (args' := [.ilst 2 (List.map Con.av p.cons) false]) h41 (by kernel_rfl) (by kernel_rfl) (by kernel_rfl) trivial (by kernel_rfl) (by kernel_rfl) (by kernel_rfl) (by kernel_rfl) ⟨lc_kl _, trivial⟩ (by kernel_rfl))
end
end Go.Hb
namespace Go.Hb
open Go.Proofs
noncomputable abbrev hoh170 (p : Prog) : Nat × AObj × Bool := (0, (.cells (putCells .leaf 0 [(iN p.nodes), (iI p.funs), (nI p.main), (iC p.cons)]) 4 [] false), false)
noncomputable abbrev hoh171 (q : Prog) : Nat × AObj × Bool := (1, (.cells (putCells .leaf 0 [(iN q.nodes), (iI q.funs), (nI q.main), (iC q.cons)]) 4 [] false), false)
noncomputable abbrev hoh172 (zn0 : (List Node)) (l5 : (List Int)) (zm2 : Int) (all6 : (List Con)) : Nat × AObj × Bool := (3, (.cells (putCells .leaf 0 [(.gl 4 4 0 zn0.length false), (.gl 5 1 0 l5.length false), (nI zm2), (iC all6)]) 4 [] false), false)
noncomputable abbrev hoh173  : Nat × AObj × Bool := (2, (.cells (putCells .leaf 0 [.nils, .nils, (nI 0), .nils]) 4 [] false), false)
noncomputable abbrev hoh174 (zn0 : (List Node)) (m2 : (List Node)) : Nat × AObj × Bool := (6, (.lst 4 (jN (zn0 ++ m2))), true)
noncomputable def rCn_c0 (l : (List Con)) (s : Str) (i5 : Int) : TS :=
 { fr := { fn := 46, nt := 20, sl := [(0, (iC l)), (1, (avS s)), (4, (nI 0)), (5, (nI i5))], todo := [.code (cd Tryz.f46 [1, 0, 1, 0, 0]), .inLoop (cd Tryz.f46 [1, 0, 1, 0, 0]), .inBlock 0, .code (cd Tryz.f46 [1, 1])] }, cs := [], hp := [], nb := 0 }
theorem rCn_E_0 (l : (List Con)) (s : Str) :
  LeadsM PP 0 (start PP 46 [(iC l), (avS s)]).as (rCn_c0 l s 0).as :=
 wW 0 [] [] [rn 11] trivial
theorem rCn_0_0 (l : (List Con)) (s : Str) (i5 : Int) (y0 : Con) (h0 : decide (i5 < (l.length : Int)) = true) (h1 : 0 ≤ i5) (h2 : ((l)[i5.toNat]?) = some y0) (h3 : (strEq y0.name.length (bytesNat y0.name) s.length (bytesNat s)) = true) :
  Ends PP 0 (rCn_c0 l s i5).as (.ret (nI i5)) (hpOf [] 0) :=
 wE 0 [] [ql Con.av l, qp h0, qp h1, qg Con.av h2, qp h3] [rn 5, aL l, rn 2, bt 9, rn 8, aI (Con.av y0), rn 5, bt 18, rn 7] trivial
theorem rCn_0_1 (l : (List Con)) (s : Str) (i5 : Int) (y0 : Con) (h0 : decide (i5 < (l.length : Int)) = true) (h1 : 0 ≤ i5) (h2 : ((l)[i5.toNat]?) = some y0) (h3 : (strEq y0.name.length (bytesNat y0.name) s.length (bytesNat s)) = false) (h4 : (IntKind.i64.wrap (i5 + (1 : Int))) = (i5 + (1 : Int))) :
  LeadsM PP 0 (rCn_c0 l s i5).as (rCn_c0 l s (i5 + (1 : Int))).as :=
 wW 0 [] [ql Con.av l, qp h0, qp h1, qg Con.av h2, qp h3, qp (congrArg (AV.int .i64) h4)] [rn 5, aL l, rn 2, bt 9, rn 8, aI (Con.av y0), rn 5, bf 18, rn 6, sI 11 (i5 + (1 : Int)), rn 3] trivial
theorem rCn_0_2 (l : (List Con)) (s : Str) (i5 : Int) (h0 : decide (i5 < (l.length : Int)) = false) :
  Ends PP 0 (rCn_c0 l s i5).as (.ret (nI (-1))) (hpOf [] 0) :=
 wE 0 [] [ql Con.av l, qp h0] [rn 5, aL l, rn 2, bf 9, rn 7] trivial
noncomputable def rJn_s (p : Prog) (q : Prog) : TS := startH PP 21 [(Prog.av p), (Prog.av q)] [] 0
noncomputable def rJn_c0 (p : Prog) (q : Prog) (i8 : Int) (l3 : (List Con)) (l4 : (List Int)) : TS :=
 { fr := { fn := 21, nt := 122, sl := [(2, (.ptr 0 0)), (3, (.ptr 1 0)), (4, (.ptr 2 0)), (5, (nI 0)), (6, (.gl 3 2 0 l3.length false)), (7, (.gl 4 1 0 l4.length false)), (8, (nI i8))], todo := [.code (cd Tryz.f21 [1, 1, 1, 1, 0, 1, 0, 0]), .inLoop (cd Tryz.f21 [1, 1, 1, 1, 0, 1, 0, 0]), .inBlock 0, .code (cd Tryz.f21 [1, 1, 1, 1, 1])] }, cs := [], hp := [hoh170 p, hoh171 q, hoh173, (3, (.lst 2 (jC l3)), true), (4, (.lst 1 (jI l4)), true)], nb := 5 }
noncomputable def rJn_c1 (p : Prog) (q : Prog) (all6 : (List Con)) (to7 : (List Int)) : TS :=
 { fr := { fn := 21, nt := 122, sl := [(2, (.ptr 0 0)), (3, (.ptr 1 0)), (4, (.ptr 2 0)), (5, (nI 0)), (6, (iC all6)), (7, (iI to7))], todo := [.code (cd Tryz.f21 [1, 1, 1, 1, 1, 1, 0]), .code (cd Tryz.f21 [1, 1, 1, 1, 1, 1, 1])] }, cs := [], hp := [hoh170 p, hoh171 q, hoh173], nb := 3 }
noncomputable def rJn_c2 (p : Prog) (q : Prog) (to7 : (List Int)) (zm2 : Int) (all6 : (List Con)) (zn0 : (List Node)) (zf1 : (List Int)) (i11 : Int) : TS :=
 { fr := { fn := 21, nt := 122, sl := [(2, (.ptr 0 0)), (3, (.ptr 1 0)), (4, (.ptr 2 0)), (5, (nI 0)), (7, (iI to7)), (10, (.ptr 3 0)), (11, (nI i11))], todo := [.code (cd Tryz.f21 [1, 1, 1, 1, 1, 1, 1, 1, 0, 1, 0, 0]), .inLoop (cd Tryz.f21 [1, 1, 1, 1, 1, 1, 1, 1, 0, 1, 0, 0]), .inBlock 2, .code (cd Tryz.f21 [1, 1, 1, 1, 1, 1, 1, 1, 1])] }, cs := [], hp := [hoh170 p, hoh171 q, hoh173, (3, (.cells (putCells .leaf 0 [(.gl 4 4 0 zn0.length false), (.gl 5 1 0 zf1.length false), (nI zm2), (iC all6)]) 4 [] false), false), (4, (.lst 4 (jN zn0)), true), (5, (.lst 1 (jI zf1)), true)], nb := 6 }
noncomputable def rJn_c3 (p : Prog) (q : Prog) (to7 : (List Int)) (zm2 : Int) (all6 : (List Con)) (zn0 : (List Node)) (l5 : (List Int)) (i11 : Int) : TS :=
 { fr := { fn := 21, nt := 122, sl := [(2, (.ptr 0 0)), (3, (.ptr 1 0)), (4, (.ptr 2 0)), (5, (nI 0)), (7, (iI to7)), (10, (.ptr 3 0)), (11, (nI i11))], todo := [.code (cd Tryz.f21 [1, 1, 1, 1, 1, 1, 1, 1, 0, 1, 0, 0, 1, 0, 0, 1]), .inBlock 3, .code (cd Tryz.f21 [1, 1, 1, 1, 1, 1, 1, 1, 0, 1, 0, 0, 1, 1]), .inLoop (cd Tryz.f21 [1, 1, 1, 1, 1, 1, 1, 1, 0, 1, 0, 0]), .inBlock 2, .code (cd Tryz.f21 [1, 1, 1, 1, 1, 1, 1, 1, 1])] }, cs := [], hp := [hoh170 p, hoh171 q, hoh173, hoh172 zn0 l5 zm2 all6, (4, (.lst 4 (jN zn0)), true), (5, (.lst 1 (jI l5)), true)], nb := 6 }
theorem rJn_E_0 (p : Prog) (q : Prog) (y0 : Bool) (h0 : Pure PP 33 [(Prog.av p)] (bV y0)) (h1 : (!y0) = true) :
  Ends PP 0 (rJn_s p q).as (.ret (.tup [(.agg [(.ilst 4 (jN ([] : List Node)) true), (.ilst 1 (jI ([] : List Int)) true), (nI 0), (.ilst 2 (jC ([] : List Con)) true)]), (nI 2)])) (hpOf [] 0) :=
 wE 3 [] [qp h0, qp h1] [rn 11, pB y0, rn 2, bt 15, rn 13, .cnilI 2 0 4, .cnilI 2 1 1, .cnilI 2 3 2] trivial
theorem rJn_E_1 (p : Prog) (q : Prog) (y0 : Bool) (y1 : Bool) (h0 : Pure PP 33 [(Prog.av p)] (bV y0)) (h1 : (!y0) = false) (h2 : Pure PP 33 [(Prog.av q)] (bV y1)) (h3 : (!y1) = true) :
  Ends PP 0 (rJn_s p q).as (.ret (.tup [(.agg [(.ilst 4 (jN ([] : List Node)) true), (.ilst 1 (jI ([] : List Int)) true), (nI 0), (.ilst 2 (jC ([] : List Con)) true)]), (nI 2)])) (hpOf [] 0) :=
 wE 3 [] [qp h0, qp h1, qp h2, qp h3] [rn 11, pB y0, rn 2, bf 15, rn 1, pB y1, rn 3, bt 19, rn 8, .cnilI 2 0 4, .cnilI 2 1 1, .cnilI 2 3 2] trivial
theorem rJn_E_2 (p : Prog) (q : Prog) (y0 : Bool) (y1 : Bool) (h0 : Pure PP 33 [(Prog.av p)] (bV y0)) (h1 : (!y0) = false) (h2 : Pure PP 33 [(Prog.av q)] (bV y1)) (h3 : (!y1) = false) (h4 : p.cons.length ≤ 1000000) :
  LeadsM PP 0 (rJn_s p q).as (rJn_c0 p q 0 p.cons ([] : List Int)).as :=
 wW 5 [0, 1, 2, 3, 4] [qp h0, qp h1, qp h2, qp h3, qp h4, qr (jC p.cons), qp (p := List.length (jC p.cons) = p.cons.length) (List.length_map ..), qp (p := ([] : List AV) = (jI ([] : List Int))) rfl, qp (p := (AV.gl 4 1 0 0 false) = (.gl 4 1 0 ([] : List Int).length false)) rfl] [rn 11, pB y0, rn 2, bf 15, rn 1, pB y1, rn 3, bf 19, rn 6, .appN (jC p.cons) p.cons.length, rn 13, .nilL 7 1, .lset 4 (jI ([] : List Int)), .set 7 (.gl 4 1 0 ([] : List Int).length false)] ⟨kk, ⟨kk, trivial⟩⟩
theorem rJn_0_0 (p : Prog) (q : Prog) (i8 : Int) (l3 : (List Con)) (l4 : (List Int)) (y0 : Con) (y1 : Int) (h0 : decide (i8 < (q.cons.length : Int)) = true) (h1 : 0 ≤ i8) (h2 : ((q.cons)[i8.toNat]?) = some y0) (h3 : Pure PP 46 [(iC p.cons), (avS y0.name)] (nI y1)) (h4 : decide (y1 < (0 : Int)) = true) (h5 : List.length (l3 ++ [y0]) ≤ 1000000) (h6 : List.length (l4 ++ [((l3.length : Nat) : Int)]) ≤ 1000000) (h7 : (IntKind.i64.wrap (i8 + (1 : Int))) = (i8 + (1 : Int))) :
  LeadsM PP 0 (rJn_c0 p q i8 l3 l4).as (rJn_c0 p q (i8 + (1 : Int)) (l3 ++ [y0]) (l4 ++ [((l3.length : Nat) : Int)])).as :=
 wW 9 [0, 1, 2, 6, 8] [ql Con.av q.cons, qp h0, qp h1, qg Con.av h2, qp h3, qp h4, qp h1, qg Con.av h2, qp (app_p1 Con.av l3), qp h5, qp (app_p3 Con.av l3 [y0]), qp (app_p4 Con.av l3 [y0]), qp (app_p1 avI l4), qp h6, qp (app_p3 avI l4 [((l3.length : Nat) : Int)]), qp (app_p4 avI l4 [((l3.length : Nat) : Int)]), qp (congrArg (AV.int .i64) h7)] [rn 6, aL q.cons, rn 2, bt 28, rn 5, .reg [.d, .d, .d, .d, .d, .ans (.idx (Con.av y0)), .d, .d, .pure (nI y1), .d], rn 6, bt 41, rn 12, aI (Con.av y0), rn 2, .app (jC (l3 ++ [y0])) (l3 ++ [y0]).length, rn 6, .app (jI (l4 ++ [((l3.length : Nat) : Int)])) (l4 ++ [((l3.length : Nat) : Int)]).length, rn 6, sI 30 (i8 + (1 : Int)), rn 3] ⟨kk, ⟨kk, trivial⟩⟩
theorem rJn_0_1 (p : Prog) (q : Prog) (i8 : Int) (l3 : (List Con)) (l4 : (List Int)) (y0 : Con) (y1 : Int) (y2 : Con) (h0 : decide (i8 < (q.cons.length : Int)) = true) (h1 : 0 ≤ i8) (h2 : ((q.cons)[i8.toNat]?) = some y0) (h3 : Pure PP 46 [(iC p.cons), (avS y0.name)] (nI y1)) (h4 : decide (y1 < (0 : Int)) = false) (h5 : 0 ≤ y1) (h6 : ((p.cons)[y1.toNat]?) = some y2) (h7 : (y2.args != y0.args) = true) :
  Ends PP 0 (rJn_c0 p q i8 l3 l4).as (.ret (.tup [(.agg [(.ilst 4 (jN ([] : List Node)) true), (.ilst 1 (jI ([] : List Int)) true), (nI 0), (.ilst 2 (jC ([] : List Con)) true)]), (nI 7)])) (hpOf [] 0) :=
 wE 5 [] [ql Con.av q.cons, qp h0, qp h1, qg Con.av h2, qp h3, qp h4, qp h5, qg Con.av h6, qp h1, qg Con.av h2, qp h7] [rn 6, aL q.cons, rn 2, bt 28, rn 5, .reg [.d, .d, .d, .d, .d, .ans (.idx (Con.av y0)), .d, .d, .pure (nI y1), .d], rn 6, bf 41, rn 2, .reg [.d, .d, .d, .ans (.idx (Con.av y2)), .d, .d, .d, .d, .d, .ans (.idx (Con.av y0)), .d, .d, .d], bt 64, rn 8, .cnilI 2 0 4, .cnilI 2 1 1, .cnilI 2 3 2] trivial
theorem rJn_0_2 (p : Prog) (q : Prog) (i8 : Int) (l3 : (List Con)) (l4 : (List Int)) (y0 : Con) (y1 : Int) (y2 : Con) (h0 : decide (i8 < (q.cons.length : Int)) = true) (h1 : 0 ≤ i8) (h2 : ((q.cons)[i8.toNat]?) = some y0) (h3 : Pure PP 46 [(iC p.cons), (avS y0.name)] (nI y1)) (h4 : decide (y1 < (0 : Int)) = false) (h5 : 0 ≤ y1) (h6 : ((p.cons)[y1.toNat]?) = some y2) (h7 : (y2.args != y0.args) = false) (h8 : List.length (l4 ++ [y1]) ≤ 1000000) (h9 : (IntKind.i64.wrap (i8 + (1 : Int))) = (i8 + (1 : Int))) :
  LeadsM PP 0 (rJn_c0 p q i8 l3 l4).as (rJn_c0 p q (i8 + (1 : Int)) l3 (l4 ++ [y1])).as :=
 wW 7 [0, 1, 2, 3, 6] [ql Con.av q.cons, qp h0, qp h1, qg Con.av h2, qp h3, qp h4, qp h5, qg Con.av h6, qp h1, qg Con.av h2, qp h7, qp (app_p1 avI l4), qp h8, qp (app_p3 avI l4 [y1]), qp (app_p4 avI l4 [y1]), qp (congrArg (AV.int .i64) h9)] [rn 6, aL q.cons, rn 2, bt 28, rn 5, .reg [.d, .d, .d, .d, .d, .ans (.idx (Con.av y0)), .d, .d, .pure (nI y1), .d], rn 6, bf 41, rn 2, .reg [.d, .d, .d, .ans (.idx (Con.av y2)), .d, .d, .d, .d, .d, .ans (.idx (Con.av y0)), .d, .d, .d], bf 64, rn 6, .app (jI (l4 ++ [y1])) (l4 ++ [y1]).length, rn 6, sI 30 (i8 + (1 : Int)), rn 3] ⟨kk, ⟨kk, trivial⟩⟩
theorem rJn_0_3 (p : Prog) (q : Prog) (i8 : Int) (l3 : (List Con)) (l4 : (List Int)) (h0 : decide (i8 < (q.cons.length : Int)) = false) (h1 : decide (((l3.length : Nat) : Int) > (20 : Int)) = true) :
  Ends PP 0 (rJn_c0 p q i8 l3 l4).as (.ret (.tup [(.agg [(.ilst 4 (jN ([] : List Node)) true), (.ilst 1 (jI ([] : List Int)) true), (nI 0), (.ilst 2 (jC ([] : List Con)) true)]), (nI 3)])) (hpOf [] 0) :=
 wE 5 [] [ql Con.av q.cons, qp h0, qp h1] [rn 6, aL q.cons, rn 2, bf 28, rn 9, bt 73, rn 18, .cnilI 2 0 4, .cnilI 2 1 1, .cnilI 2 3 2] trivial
theorem rJn_0_4 (p : Prog) (q : Prog) (i8 : Int) (l3 : (List Con)) (l4 : (List Int)) (h0 : decide (i8 < (q.cons.length : Int)) = false) (h1 : decide (((l3.length : Nat) : Int) > (20 : Int)) = false) (h2 : (IntKind.i64.wrap ((p.nodes.length : Int) + (q.nodes.length : Int))) = ((p.nodes.length : Int) + (q.nodes.length : Int))) (h3 : decide (((p.nodes.length : Int) + (q.nodes.length : Int)) > (300 : Int)) = true) :
  Ends PP 0 (rJn_c0 p q i8 l3 l4).as (.ret (.tup [(.agg [(.ilst 4 (jN ([] : List Node)) true), (.ilst 1 (jI ([] : List Int)) true), (nI 0), (.ilst 2 (jC ([] : List Con)) true)]), (nI 3)])) (hpOf [] 0) :=
 wE 5 [] [ql Con.av q.cons, qp h0, qp h1, ql Node.av p.nodes, ql Node.av q.nodes, qp (congrArg (AV.int .i64) h2), qp h3] [rn 6, aL q.cons, rn 2, bf 28, rn 9, bf 73, rn 2, aL p.nodes, rn 2, aL q.nodes, rn 1, sI 80 ((p.nodes.length : Int) + (q.nodes.length : Int)), rn 3, bt 82, rn 8, .cnilI 2 0 4, .cnilI 2 1 1, .cnilI 2 3 2] trivial
theorem rJn_0_5 (p : Prog) (q : Prog) (i8 : Int) (l3 : (List Con)) (l4 : (List Int)) (h0 : decide (i8 < (q.cons.length : Int)) = false) (h1 : decide (((l3.length : Nat) : Int) > (20 : Int)) = false) (h2 : (IntKind.i64.wrap ((p.nodes.length : Int) + (q.nodes.length : Int))) = ((p.nodes.length : Int) + (q.nodes.length : Int))) (h3 : decide (((p.nodes.length : Int) + (q.nodes.length : Int)) > (300 : Int)) = false) :
  LeadsM PP 0 (rJn_c0 p q i8 l3 l4).as (rJn_c1 p q l3 l4).as :=
 wW 5 [0, 1, 2] [ql Con.av q.cons, qp h0, qp h1, ql Node.av p.nodes, ql Node.av q.nodes, qp (congrArg (AV.int .i64) h2), qp h3, qp (p := AV.keylessL (jC l3) = true) (keylessL_map _ (fun _ => rfl) _), qp (p := AV.frzOk 3 2 (jC l3) (jC l3) (.gl 3 2 0 l3.length false)) (frz_whole _ _), qp (p := AV.keylessL (jI l4) = true) (keylessL_map _ (fun _ => rfl) _), qp (p := AV.frzOk 4 1 (jI l4) (jI l4) (.gl 4 1 0 l4.length false)) (frz_whole _ _)] [rn 6, aL q.cons, rn 2, bf 28, rn 9, bf 73, rn 2, aL p.nodes, rn 2, aL q.nodes, rn 1, sI 80 ((p.nodes.length : Int) + (q.nodes.length : Int)), rn 3, bf 82, rn 3, .frz 6 3 (jC l3), .frz 7 4 (jI l4)] trivial
theorem rJn_1_0 (p : Prog) (q : Prog) (all6 : (List Con)) (to7 : (List Int)) (zn0 : (List Node)) (zf1 : (List Int)) (zm2 : Int) (zc3 : (List Con)) (h0 : Spec PP (.enter 42 [(Prog.av p)]) (hpOf [hoh170 p, hoh171 q, hoh173] 3) (.ret (.agg [(.gl 3 4 0 zn0.length false), (.gl 4 1 0 zf1.length false), (nI zm2), (iC zc3)])) (hpOf [hoh170 p, hoh171 q, hoh173, (3, (.lst 4 (jN zn0)), true), (4, (.lst 1 (jI zf1)), true)] 5)) :
  LeadsM PP 0 (rJn_c1 p q all6 to7).as (rJn_c2 p q to7 zm2 all6 zn0 zf1 0).as :=
 wW 6 [0, 1, 2, 5, 3, 4] [qp h0] [rn 2, .call (.agg [(.gl 3 4 0 zn0.length false), (.gl 4 1 0 zf1.length false), (nI zm2), (iC zc3)]) (hpOf [hoh170 p, hoh171 q, hoh173, (3, (.lst 4 (jN zn0)), true), (4, (.lst 1 (jI zf1)), true)] 5), rn 16] ⟨kk, ⟨kk, trivial⟩⟩
theorem rJn_2_0 (p : Prog) (q : Prog) (to7 : (List Int)) (zm2 : Int) (all6 : (List Con)) (zn0 : (List Node)) (zf1 : (List Int)) (i11 : Int) (h0 : decide (i11 < (q.funs.length : Int)) = true) (h1 : List.length (zf1 ++ [((zn0.length : Nat) : Int)]) ≤ 1000000) :
  LeadsM PP 0 (rJn_c2 p q to7 zm2 all6 zn0 zf1 i11).as (rJn_c3 p q to7 zm2 all6 zn0 (zf1 ++ [((zn0.length : Nat) : Int)]) i11).as :=
 wW 8 [0, 1, 2, 3, 4, 7] [ql avI q.funs, qp h0, qp (app_p1 avI zf1), qp h1, qp (app_p3 avI zf1 [((zn0.length : Nat) : Int)]), qp (app_p4 avI zf1 [((zn0.length : Nat) : Int)])] [rn 6, aL q.funs, rn 2, bt 92, rn 12, .app (jI (zf1 ++ [((zn0.length : Nat) : Int)])) (zf1 ++ [((zn0.length : Nat) : Int)]).length, rn 3] ⟨kk, ⟨kk, trivial⟩⟩
theorem rJn_2_1 (p : Prog) (q : Prog) (to7 : (List Int)) (zm2 : Int) (all6 : (List Con)) (zn0 : (List Node)) (zf1 : (List Int)) (i11 : Int) (h0 : decide (i11 < (q.funs.length : Int)) = false) :
  Ends PP 0 (rJn_c2 p q to7 zm2 all6 zn0 zf1 i11).as (.ret (.tup [(.agg [(iN zn0), (iI zf1), (nI zm2), (iC all6)]), (nI 0)])) (hpOf [] 0) :=
 wE 6 [] [ql avI q.funs, qp h0, qp (p := AV.keylessL (jN zn0) = true) (keylessL_map _ (fun _ => rfl) _), qp (p := AV.frzOk 4 4 (jN zn0) (jN zn0) (.gl 4 4 0 zn0.length false)) (frz_whole _ _), qp (p := AV.keylessL (jI zf1) = true) (keylessL_map _ (fun _ => rfl) _), qp (p := AV.frzOk 5 1 (jI zf1) (jI zf1) (.gl 5 1 0 zf1.length false)) (frz_whole _ _)] [rn 6, aL q.funs, rn 2, bf 92, rn 9, .cfrz 2 0 4 (jN zn0), .cfrz 2 1 5 (jI zf1)] trivial
theorem rJn_3_0 (p : Prog) (q : Prog) (to7 : (List Int)) (zm2 : Int) (all6 : (List Con)) (zn0 : (List Node)) (l5 : (List Int)) (i11 : Int) (y0 : Int) (y1 : (List Int)) (m2 : (List Node)) (h0 : 0 ≤ i11) (h1 : ((q.funs)[i11.toNat]?) = some y0) (h2 : Pure PP 48 [(nI (p.funs.length : Int)), (nI (q.funs.length : Int))] (iI y1)) (h3 : Spec PP (.enter 47 [(.gl 4 4 0 zn0.length false), (Prog.av q), (nI y0), (iI y1), (iI to7)]) (hpOf [hoh170 p, hoh171 q, hoh173, hoh172 zn0 l5 zm2 all6, (4, (.lst 4 (jN zn0)), true), (5, (.lst 1 (jI l5)), true)] 6) (.ret (.gl 6 4 0 (zn0 ++ m2).length false)) (hpOf [hoh170 p, hoh171 q, hoh173, hoh172 zn0 l5 zm2 all6, (5, (.lst 1 (jI l5)), true), hoh174 zn0 m2] 7)) (h4 : (IntKind.i64.wrap (i11 + (1 : Int))) = (i11 + (1 : Int))) :
  LeadsM PP 0 (rJn_c3 p q to7 zm2 all6 zn0 l5 i11).as (rJn_c2 p q to7 zm2 all6 (zn0 ++ m2) l5 (i11 + (1 : Int))).as :=
 wW 7 [0, 1, 2, 3, 6, 5] [qp h0, qg avI h1, ql avI p.funs, ql avI q.funs, qp h2, qp h3, qr (nI y0), qr (nI y0), qr (AV.ilst 1 (jI q.funs) false), qr (AV.ilst 1 (jI q.funs) false), qr (Prog.av q), qr (Prog.av q), qr (AV.gl 4 4 0 zn0.length false), qr (AV.gl 4 4 0 zn0.length false), qp (congrArg (AV.int .i64) h4)] [.reg [.d, .d, .d, .d, .d, .d, .ans (.idx (avI y0)), .d, .d, .d, .ans (.len (p.funs.length : Int)), .d, .d, .ans (.len (q.funs.length : Int)), .pure (iI y1), .d, .call (.gl 6 4 0 (zn0 ++ m2).length false) (hpOf [hoh170 p, hoh171 q, hoh173, hoh172 zn0 l5 zm2 all6, (5, (.lst 1 (jI l5)), true), hoh174 zn0 m2] 7), .d, .d], rn 4, sI 94 (i11 + (1 : Int)), rn 3] ⟨kk, ⟨kk, trivial⟩⟩
end Go.Hb
namespace Go.Hb
open Go.Proofs
set_option maxHeartbeats 2000000
noncomputable section
/-! ## ref.con, ref.Join -/
/-- the place of the first constructor with a name, counted from i on; -1 -/
def conIx (s : Str) : List Con → Int → Int
 | [], _ => -1
 | c :: t, i => if c.name = s then i else conIx s t (i + 1)
theorem rCn_loop (l : List Con) (s : Str) (hl : l.length < 1000000) : ∀ (t : List Con) (i : Nat), l.drop i = t → Ends PP 0 (rCn_c0 l s (i : Int)).as (.ret (.int .i64 (conIx s t i))) (hpOf [] 0)
 | [], i, h => by
  have := dropN h
  exact rCn_0_2 l s i sd
 | c :: t, i, h => by
  obtain ⟨g1, g2, g3⟩ := dropC h
  simp only [conIx]
  split
  · rename_i e
    exact rCn_0_0 l s i c sd sd sd (by rw [strEq_eq]; simpa using e)
  · rename_i e
    exact (rCn_0_1 l s i c sd sd sd (by rw [strEq_eq]; simpa using e) sd).ends (rCn_loop l s hl t (i + 1) g2)
theorem rCn_pure (l : List Con) (s : Str) (hl : l.length < 1000000) : Pure PP 46 [.ilst 2 (List.map Con.av l) false, avS s] (.int .i64 (conIx s l 0)) :=
 pure_at (by kernel_rfl) (by simp [AV.keylessL, AV.keyless, avS]) (by simp [AV.keyless]) ((rCn_E_0 l s).ends (rCn_loop l s hl l 0 rfl))
theorem conIx_range (s : Str) : ∀ (l : List Con) (i : Int), 0 ≤ i → conIx s l i = -1 ∨ (i ≤ conIx s l i ∧ conIx s l i < i + l.length ∧ ∃ d, l[(conIx s l i - i).toNat]? = some d ∧ d.name = s)
 | [], i, h => .inl rfl
 | c :: t, i, h => by
  simp only [conIx]
  split
  · rename_i e
    exact .inr ⟨by omega, by simp; omega, c, by simp, e⟩
  · rcases conIx_range s t (i + 1) (by omega) with g | ⟨g1, g2, d, g3, g4⟩
    · exact .inl g
    · refine .inr ⟨by omega, by rw [List.length_cons]; omega, d, ?_, g4⟩
      rw [show (conIx s t (i + 1) - i).toNat = (conIx s t (i + 1) - (i + 1)).toNat + 1 by omega, List.getElem?_cons_succ]
      exact g3
/-- the constructors of both, and the new numbers of the second one's; none: a name has other arguments -/
def joinC (pc : List Con) : List Con → List Con → List Int → Option (List Con × List Int)
 | [], al, to => some (al, to)
 | c :: t, al, to =>
  if conIx c.name pc 0 < 0 then joinC pc t (al ++ [c]) (to ++ [((al.length : Nat) : Int)])
  else match pc[(conIx c.name pc 0).toNat]? with
   | some d => if d.args = c.args then joinC pc t al (to ++ [conIx c.name pc 0]) else none
   | none => none
def ConsGoal (p q : Prog) (i : Int) (al : List Con) (to : List Int) : Option (List Con × List Int) → Prop
 | none => Ends PP 0 (rJn_c0 p q i al to).as (.ret (.tup [errProg, .int .i64 7])) (hpOf [] 0)
 | some r => LeadsM PP 0 (rJn_c0 p q i al to).as (rJn_c0 p q ((q.cons.length : Nat) : Int) r.1 r.2).as
theorem ConsGoal.of {p q : Prog} {i i' : Int} {al al' : List Con} {to to' : List Int} (h : LeadsM PP 0 (rJn_c0 p q i al to).as (rJn_c0 p q i' al' to').as) : ∀ {r : Option (List Con × List Int)}, ConsGoal p q i' al' to' r → ConsGoal p q i al to r
 | none, g => h.ends g
 | some _, g => h.trans g
theorem rJn_cons (p q : Prog) (hp : p.cons.length ≤ 25) (hq : q.cons.length ≤ 25) : ∀ (t : List Con) (i : Nat) (al : List Con) (to : List Int), q.cons.drop i = t → i ≤ q.cons.length → al.length ≤ 25 + i → to.length ≤ i →
  ConsGoal p q (i : Int) al to (joinC p.cons t al to)
 | [], i, al, to, h, hi, ha, ht => by
  have := dropN h
  obtain rfl : i = q.cons.length := by omega
  exact LeadsM.refl _
 | c :: t, i, al, to, h, hi, ha, ht => by
  obtain ⟨g1, g2, g3⟩ := dropC h
  have hcn := rCn_pure p.cons c.name (by omega)
  simp only [joinC]
  split
  · rename_i hk
    have h0 := rJn_0_0 p q i al to c _ sd sd sd hcn (by simpa using hk) (by simp; omega) (by simp; omega) sd
    have ih := rJn_cons p q hp hq t (i + 1) (al ++ [c]) (to ++ [((al.length : Nat) : Int)]) g2 (by omega) (by simp; omega) (by simp; omega)
    exact ConsGoal.of h0 ih
  · rename_i hk
    rcases conIx_range c.name p.cons 0 (by omega) with g | ⟨e1, e2, d, e3, e4⟩
    · omega
    · have e3 : p.cons[(conIx c.name p.cons 0).toNat]? = some d := by simpa using e3
      rw [e3]
      simp only
      split
      · rename_i hd
        have h0 := rJn_0_2 p q i al to c _ d sd sd sd hcn (by simpa using hk) (by omega) e3 (by simp [hd]) (by simp; omega) sd
        have ih := rJn_cons p q hp hq t (i + 1) al (to ++ [conIx c.name p.cons 0]) g2 (by omega) (by omega) (by simp; omega)
        exact ConsGoal.of h0 ih
      · rename_i hd
        exact rJn_0_1 p q i al to c _ d sd sd sd hcn (by simpa using hk) (by omega) e3 (by simpa using hd)
theorem jn_call {p q : Prog} {F C : List Int} {k : Nat} {l ns : List Node} {c : Int} (h : mNodes q F C k l.length c = some ns) (mn : Int) (al : List Con) (fs : List Int) :
  Spec PP (.enter 47 [gN 4 l, PA q, .int .i64 c, .ilst 1 (List.map avI F) false, .ilst 1 (List.map avI C) false])
   (hpOf [hoh170 p, hoh171 q, hoh173, hoh172 l fs mn al, (4, LN l, true), (5, LI fs, true)] 6)
   (.ret (gN 6 (l ++ ns))) (hpOf [hoh170 p, hoh171 q, hoh173, hoh172 l fs mn al, (5, LI fs, true), hoh174 l ns] 7) :=
 Eq.mp (by kernel_rfl) (spec_new (ks := [4]) (n2 := 6) (lc := [hoh170 p, hoh171 q, hoh173, hoh172 l fs mn al, (4, LN l, true), (5, LI fs, true)])
  (x := [hoh170 p, hoh171 q, hoh173, hoh172 l fs mn al, (5, LI fs, true)])
  (args' := [gN 4 l, PA q, .int .i64 c, .ilst 1 (List.map avI F) false, .ilst 1 (List.map avI C) false])
  (movN_spec h) (by kernel_rfl) (by kernel_rfl) (by kernel_rfl) ⟨ln_kl _, trivial⟩ (by kernel_rfl) (by kernel_rfl) (by kernel_rfl) (by kernel_rfl) ⟨ln_kl _, trivial⟩ (by kernel_rfl))
theorem rJn_nodes (p q : Prog) (k : Nat) (to : List Int) (mn : Int) (al : List Con) (hp : p.funs.length ≤ 320) (hq : q.funs.length ≤ 320) : ∀ (t : List Int) (i : Nat) (l : List Node) (fs ks : List Int) (r : List Node), q.funs.drop i = t → i ≤ q.funs.length → fs.length ≤ 320 + i →
  mKids (mNodes q (numsL (p.funs.length : Int) q.funs.length) to k) l.length t = some (ks, r) →
  LeadsM PP 0 (rJn_c2 p q to mn al l fs (i : Int)).as (rJn_c2 p q to mn al (l ++ r) (fs ++ ks) ((q.funs.length : Nat) : Int)).as
 | [], i, l, fs, ks, r, h, hi, hl, hm => by
  have := dropN h
  obtain rfl : i = q.funs.length := by omega
  cases hm
  rw [List.append_nil, List.append_nil]
  exact LeadsM.refl _
 | c :: t, i, l, fs, ks, r, h, hi, hl, hm => by
  obtain ⟨g1, g2, g3⟩ := dropC h
  simp only [mKids] at hm
  split at hm
  · rename_i ns hns
    split at hm
    · rename_i ks1 r1 hm1
      cases hm
      have h1 := rJn_2_0 p q to mn al l fs i sd (by simp; omega)
      have h2 := rJn_3_0 p q to mn al l (fs ++ [((l.length : Nat) : Int)]) i c _ ns sd (by simpa using g1) (nums_pure (p.funs.length : Int) q.funs.length (by omega) (by omega) (by omega)) (jn_call hns mn al _) sd
      have h3 := rJn_nodes p q k to mn al hp hq t (i + 1) (l ++ ns) (fs ++ [((l.length : Nat) : Int)]) ks1 r1 g2 (by omega) (by simp; omega) (by rw [List.length_append]; exact hm1)
      rw [show fs ++ ((l.length : Nat) : Int) :: ks1 = (fs ++ [((l.length : Nat) : Int)]) ++ ks1 by simp, ← List.append_assoc l ns r1]
      exact h1.trans (h2.trans h3)
    · cases hm
  · cases hm
/-- what ref.Join answers for two formed programs -/
theorem rJoin_ok {p q pq : Prog} {k k2 : Nat} (hp : p.cons.length ≤ 25 ∧ p.funs.length ≤ 320 ∧ p.nodes.length ≤ 320) (hq : q.cons.length ≤ 25 ∧ q.funs.length ≤ 320 ∧ q.nodes.length ≤ 320) (hfp : Pure PP 33 [PA p] (.bool true)) (hfq : Pure PP 33 [PA q] (.bool true))
  (ho : orderOf p k = some pq) (hm : ∀ al to, joinC p.cons q.cons p.cons [] = some (al, to) → ∃ ks r, mKids (mNodes q (numsL (p.funs.length : Int) q.funs.length) to k2) pq.nodes.length q.funs = some (ks, r)) (hlen : pq.funs.length ≤ 320) :
  match joinC p.cons q.cons p.cons [] with
  | none => Pure PP 21 [PA p, PA q] (.tup [errProg, .int .i64 7])
  | some (al, to) => if al.length > 20 ∨ p.nodes.length + q.nodes.length > 300 then Pure PP 21 [PA p, PA q] (.tup [errProg, .int .i64 3])
   else ∀ ks r, mKids (mNodes q (numsL (p.funs.length : Int) q.funs.length) to k2) pq.nodes.length q.funs = some (ks, r) → Pure PP 21 [PA p, PA q] (.tup [PA ⟨pq.nodes ++ r, pq.funs ++ ks, pq.main, al⟩, .int .i64 0]) := by
 have hE := rJn_E_2 p q true true hfp rfl hfq rfl (by omega)
 have hC := rJn_cons p q hp.1 hq.1 q.cons 0 p.cons [] rfl (Nat.zero_le _) (by omega) (Nat.zero_le _)
 have hP : ∀ v, AV.keyless v = true → Ends PP 0 (rJn_s p q).as (.ret v) (hpOf [] 0) → Pure PP 21 [PA p, PA q] v := fun v hv h => pure_atH (s := rJn_s p q) (by kernel_rfl) (by kernel_rfl) (by simp [AV.keylessL, AV.keyless]) hv h
 generalize hj : joinC p.cons q.cons p.cons [] = r at hC ⊢
 cases r with
 | none => exact hP _ (by simp [AV.keylessL, AV.keyless]) (hE.ends hC)
 | some r =>
  obtain ⟨al, to⟩ := r
  have hC : LeadsM PP 0 (rJn_c0 p q ((0 : Nat) : Int) p.cons []).as (rJn_c0 p q ((q.cons.length : Nat) : Int) al to).as := hC
  simp only
  split
  · rename_i hbig
    by_cases h20 : al.length > 20
    · exact hP _ (by simp [AV.keylessL, AV.keyless]) (hE.ends (hC.ends (rJn_0_3 p q _ al to (by simp) (by simp; omega))))
    · exact hP _ (by simp [AV.keylessL, AV.keyless]) (hE.ends (hC.ends (rJn_0_4 p q _ al to (by simp) (by simp; omega) sd (by simp; omega))))
  · rename_i hsm
    intro ks r hm
    have h1 := rJn_0_5 p q ((q.cons.length : Nat) : Int) al to (by simp) (by simp; omega) sd (by simp; omega)
    have h2 := rJn_1_0 p q al to pq.nodes pq.funs pq.main pq.cons (Eq.mp (by kernel_rfl) (spec_new (ks := []) (n2 := 3) (lc := [hoh170 p, hoh171 q, hoh173]) (x := [hoh170 p, hoh171 q, hoh173])
     (args' := [PA p]) (ordN_spec (by omega) (by omega) ho) (by kernel_rfl) (by kernel_rfl) (by kernel_rfl) trivial (by kernel_rfl) (by kernel_rfl) (by kernel_rfl) (by kernel_rfl) ⟨ln_kl _, li_kl _, trivial⟩ (by kernel_rfl)))
    have h3 := rJn_nodes p q k2 to pq.main al hp.2.1 hq.2.1 q.funs 0 pq.nodes pq.funs ks r rfl (Nat.zero_le _) (by omega) hm
    have h4 := rJn_2_1 p q to pq.main al (pq.nodes ++ r) (pq.funs ++ ks) ((q.funs.length : Nat) : Int) (by simp)
    exact hP _ (by simp [AV.keylessL, AV.keyless]) (hE.ends (hC.ends (h1.ends (h2.ends (h3.ends h4)))))
theorem rJoin_err {p q : Prog} {b c : Bool} (hfp : Pure PP 33 [PA p] (.bool b)) (hfq : Pure PP 33 [PA q] (.bool c)) (h : b = false ∨ c = false) : Pure PP 21 [PA p, PA q] (.tup [errProg, .int .i64 2]) := by
 have hP : ∀ v, AV.keyless v = true → Ends PP 0 (rJn_s p q).as (.ret v) (hpOf [] 0) → Pure PP 21 [PA p, PA q] v := fun v hv h => pure_atH (s := rJn_s p q) (by kernel_rfl) (by kernel_rfl) (by simp [AV.keylessL, AV.keyless]) hv h
 refine hP _ (by simp [AV.keylessL, AV.keyless]) ?_
 cases b with
 | false => exact rJn_E_0 p q false hfp rfl
 | true =>
  cases c with
  | false => exact rJn_E_1 p q true false hfp rfl hfq rfl
  | true => rcases h with h | h <;> cases h
end
end Go.Hb
