/-
  OWN WORK (V39, V40, V41, V23, H5, H6, V24, V25, V26, V42, V43, V44, H14, V45, V19, H15, V46): a machine on abstract values, its soundness, ways through the text (the ways WRITTEN BY A PROGRAM), plain laws.
-/
import Derived.Test.YtogkjcpighphfaaGreatHF
import Derived.Test.YtogkjcpighphfaaGreatHI
import Derived.Test.YtogkjcpighphfaaGreatHJ
set_option linter.unusedVariables false
set_option linter.unusedSimpArgs false
set_option linter.unusedSectionVars false
set_option maxRecDepth 100000
namespace Go.Hb
open Go.Proofs
set_option maxHeartbeats 2000000
noncomputable section
/-! ## bind.same, slices.Clone, bind.Canon -/
/-- the first numbers, to themselves -/
def sM : Nat → List (Int × Int)
 | 0 => []
 | n+1 => mIns (n : Int) (n : Int) (sM n)
theorem mGet_ins {α β : Type} [DecidableEq α] (k k' : α) (v : β) : ∀ (l : List (α × β)), mGet k (mIns k' v l) = if k = k' then some v else mGet k l
 | [] => by simp [mIns, mGet]
 | e :: l => by
  simp only [mIns]
  split
  · rename_i h
    subst h
    simp only [mGet]
    split <;> rfl
  · rename_i h
    simp only [mGet, mGet_ins k k' v l]
    by_cases h1 : k = e.1
    · subst h1
      rw [if_pos rfl, if_pos rfl, if_neg (fun e => h e.symm)]
    · rw [if_neg h1, if_neg h1]
theorem sM_get : ∀ (n : Nat) (i : Int), 0 ≤ i → i < n → mGet i (sM n) = some i
 | 0, i, h0, h1 => by omega
 | n+1, i, h0, h1 => by
  rw [sM, mGet_ins]
  by_cases h : i = (n : Int)
  · rw [if_pos h, h]
  · rw [if_neg h]; exact sM_get n i h0 (by omega)
theorem sM_at {n : Nat} {i : Int} (h0 : 0 ≤ i) (h1 : i < n) : mAt (sM n) i = i := by unfold mAt; rw [sM_get n i h0 h1]; rfl
theorem smB_2 (a b : Nat) (hb : b < 1000000) : ∀ (j i : Nat), i + j = b → Ends PP 0 (smB_c1 (a : Int) (b : Int) (sM a) (i : Int) (sM i)).as (.ret (.agg [.map 0, .map 1])) (hpOf [(0, MO (sM a), true), (1, MO (sM b), true)] 2)
 | 0, i, h => by
  have : i = b := by omega
  subst this
  exact smB_1_1 a i (sM a) i (sM i) sd
 | j+1, i, h => by
  exact (smB_1_0 a b (sM a) i (sM i) sd sd).ends (smB_2 a b hb j (i + 1) (by omega))
theorem smB_1 (a b : Nat) (ha : a < 1000000) (hb : b < 1000000) : ∀ (j i : Nat), i + j = a → Ends PP 0 (smB_c0 (a : Int) (b : Int) (i : Int) (sM i)).as (.ret (.agg [.map 0, .map 1])) (hpOf [(0, MO (sM a), true), (1, MO (sM b), true)] 2)
 | 0, i, h => by
  have : i = a := by omega
  subst this
  exact (smB_0_1 i b i (sM i) sd).ends (smB_2 i b hb b 0 (by omega))
 | j+1, i, h => by
  exact (smB_0_0 a b i (sM i) sd sd).ends (smB_1 a b ha hb j (i + 1) (by omega))
theorem same_spec (a b : Nat) (ha : a < 1000000) (hb : b < 1000000) : SpecN PP (.enter 40 [.int .i64 (a : Int), .int .i64 (b : Int)]) (hpOf [] 0) (.ret (.agg [.map 0, .map 1])) (hpOf [(0, MO (sM a), true), (1, MO (sM b), true)] 2) :=
 ⟨(smB_s a b).as.fr, by kernel_rfl, Eq.mp (by kernel_rfl) ((smB_E_0 a b).ends (smB_1 a b ha hb a 0 (by omega)))⟩
theorem ends_weak {P : Program} {m : Nat} {s : AS} {v v' : AV} {h' : Hp} (h : Ends P m s (.ret v) h') (hv : ∀ (E : Emb) (cv : Value), VR E v cv → VR E v' cv) : Ends P m s (.ret v') h' := fun hm E fr ccs w f fs r cl base => by
 obtain ⟨cl', w', E', s1, ⟨cv, rfl, g2⟩, r2, x2⟩ := h hm E fr ccs w f fs r cl base
 exact ⟨_, w', E', s1, ⟨cv, rfl, hv E' cv g2⟩, r2, x2⟩
theorem vr_ilst_weak {E : Emb} {e : Nat} {xs : List AV} {cv : Value} (h : VR E (.ilst e xs true) cv) : VR E (.ilst e xs false) cv := by
 simp only [VR] at h ⊢
 obtain ⟨vs, h1, h2, h3⟩ := h
 refine ⟨vs, h1, h2, ?_⟩
 rcases h3 with ⟨rfl, a, cap, rfl, g, _⟩ | ⟨k, a, cap, C, g1, g2, g3, _, g5⟩
 · exact .inl ⟨rfl, a, cap, rfl, g, fun hh => by cases hh⟩
 · exact .inr ⟨k, a, cap, C, g1, g2, g3, (fun hh => by cases hh), g5⟩
theorem clone_pure (xs : List Con) (h : xs.length ≤ 1000000) : Pure PP 41 [.ilst 2 (List.map Con.av xs) false] (.ilst 2 (List.map Con.av xs) false) := by
 refine pure_atH (s := cln_s xs) (by kernel_rfl) (by kernel_rfl) (by simp [AV.keylessL, AV.keyless]) (by simp [AV.keyless]) ((cln_E xs).ends ?_)
 refine ends_nil (j := 3) (e := 2) (ex := false) (xs := List.map Con.av xs) (by kernel_rfl) (fun hx => ?_) (fun a n c => ?_)
 · have hx : xs = [] := by simpa using hx
   subst hx
   have h1 := ends_weak (cln_n []) (fun E cv hv => vr_ilst_weak hv)
   exact Eq.mp (by kernel_rfl) h1
 · have h1 := cln_v xs a n c (by simpa using h)
   rw [List.nil_append] at h1
   exact Eq.mp (by kernel_rfl) h1
section
variable {p : Prog}
theorem bCan_0 (hp : FineP p) (hok : ∀ (i : Nat) (x : Node), p.nodes[i]? = some x → nOk (sM p.funs.length) x) (f : Nat) (hf : p.nodes.length ≤ f) (to : List Int) (n : Int) (hc : p.cons.length < 1000000)
  (hb : (nodesB p (sM p.funs.length) (sM p.cons.length) to f).length ≤ 1000000) (hw : toOf p 0 f = some (to, n)) :
  Ends PP 0 (bCan_c0 p).as (.ret (.tup [PA ⟨nodesB p (sM p.funs.length) (sM p.cons.length) to f, p.funs.map (toAt to), p.main, p.cons⟩, .int .i64 0])) (hpOf [] 0) := by
 have hfs := hp.fsmall
 have h40 := same_spec p.funs.length p.cons.length (by omega) hc
 have h38 := ordered_spec (mf := sM p.funs.length) (mc := sM p.cons.length) hp hok 0 f hf to n hb hw
 exact bCan_0_0 p (sM p.funs.length) (sM p.cons.length) _ _ _
  (Eq.mp (by kernel_rfl) (spec_new (ks := []) (n2 := 2) (lc := [(0, PCell p, false), (1, .cells (putCells .leaf 0 [.nils, .nils, .int .i64 0, .nils]) 4 [] false, false)]) (x := [(0, PCell p, false), (1, .cells (putCells .leaf 0 [.nils, .nils, .int .i64 0, .nils]) 4 [] false, false)])
   (args' := [.int .i64 (p.funs.length : Int), .int .i64 (p.cons.length : Int)]) h40 (by kernel_rfl) (by kernel_rfl) (by kernel_rfl) trivial (by kernel_rfl) (by kernel_rfl) (by kernel_rfl) (by kernel_rfl) ⟨mo_kl _, mo_kl _, trivial⟩ (by kernel_rfl)))
  (spec_in (ks := [2, 3]) h38 (by kernel_rfl) rfl (by kernel_rfl) (by kernel_rfl) ⟨mo_kl _, mo_kl _, trivial⟩ (by kernel_rfl) ⟨mo_kl _, mo_kl _, trivial⟩ (by kernel_rfl) (by kernel_rfl) (by kernel_rfl) (by kernel_rfl) (by kernel_rfl) (by kernel_rfl) (by kernel_rfl) (by kernel_rfl))
  (clone_pure p.cons (by omega))
/-- a formed program -/
theorem bCanon_ok (hp : FineP p) (hok : ∀ (i : Nat) (x : Node), p.nodes[i]? = some x → nOk (sM p.funs.length) x) (f : Nat) (hf : p.nodes.length ≤ f) (to : List Int) (n : Int) (hc : p.cons.length < 1000000)
  (hb : (nodesB p (sM p.funs.length) (sM p.cons.length) to f).length ≤ 1000000) (hw : toOf p 0 f = some (to, n)) (h10 : Pure PP 10 [PA p] (.int .i64 0)) :
  Pure PP 17 [PA p] (.tup [PA ⟨nodesB p (sM p.funs.length) (sM p.cons.length) to f, p.funs.map (toAt to), p.main, p.cons⟩, .int .i64 0]) :=
 pure_atH (s := bCan_s p) (by kernel_rfl) (by kernel_rfl) (by simp [AV.keylessL, AV.keyless]) (by simp [AV.keylessL, AV.keyless]) ((bCan_E_1 p 0 h10 rfl).ends (bCan_0 hp hok f hf to n hc hb hw))
/-- one that is not formed -/
theorem bCanon_err (e : Int) (he : e ≠ 0) (h10 : Pure PP 10 [PA p] (.int .i64 e)) :
  Pure PP 17 [PA p] (.tup [.agg [.ilst 4 (List.map Node.av ([] : List Node)) true, .ilst 1 (List.map avI ([] : List Int)) true, .int .i64 0, .ilst 2 (List.map Con.av ([] : List Con)) true], .int .i64 e]) :=
 pure_atH (s := bCan_s p) (by kernel_rfl) (by kernel_rfl) (by simp [AV.keylessL, AV.keyless]) (by simp [AV.keylessL, AV.keyless]) (bCan_E_0 p e h10 (by simpa using he))
end
end
end Go.Hb
namespace Go.Hb
open Go.Proofs
/-! ## the plain law of Canon: the nodes in the order of the walk -/
def pre (p : Prog) : Nat → Int → List Int
 | 0, _ => []
 | f + 1, a => match p.nodes[a.toNat]? with
  | some x => a :: (x.kids.map (pre p f)).flatten
  | none => []
/-- numbers one after another, at these places -/
def putAll : List Int → Int → List Int → List Int
 | l, _, [] => l
 | l, n, b :: bs => putAll (l.set b.toNat n) (n + 1) bs
theorem putAll_append : ∀ (xs ys l : List Int) (n : Int), putAll l n (xs ++ ys) = putAll (putAll l n xs) (n + xs.length) ys
 | [], ys, l, n => by simp [putAll]
 | x :: xs, ys, l, n => by
  rw [List.cons_append, putAll, putAll_append xs ys, putAll, List.length_cons]
  congr 1; omega
theorem putAll_off : ∀ (xs l : List Int) (n : Int) (m : Nat), (∀ x ∈ xs, x.toNat ≠ m) → (putAll l n xs)[m]? = l[m]?
 | [], l, n, m, h => rfl
 | x :: xs, l, n, m, h => by
  rw [putAll, putAll_off xs _ _ m (fun y hy => h y (List.mem_cons_of_mem _ hy))]
  exact List.getElem?_set_ne (h x (List.mem_cons_self ..))
/-- without a repetition: each place has its number -/
theorem putAll_at : ∀ (xs l : List Int) (n : Int), xs.Nodup → (∀ x ∈ xs, 0 ≤ x ∧ x < l.length) → ∀ (i : Nat) (b : Int), xs[i]? = some b → toAt (putAll l n xs) b = n + i
 | [], l, n, _, _, i, b, h => by simp at h
 | x :: xs, l, n, hd, hr, i, b, h => by
  have hd := List.nodup_cons.1 hd
  have hx := hr x (List.mem_cons_self ..)
  cases i with
  | zero =>
   simp only [List.getElem?_cons_zero, Option.some.injEq] at h
   subst h
   unfold toAt
   rw [putAll, List.getD_eq_getElem?_getD, putAll_off xs _ _ x.toNat (fun y hy e => hd.1 (by
    have := hr y (List.mem_cons_of_mem _ hy)
    have : y = x := by omega
    exact this ▸ hy)), List.getElem?_set_self (by omega)]
   simp
  | succ i =>
   simp only [List.getElem?_cons_succ] at h
   rw [putAll, putAll_at xs (l.set x.toNat n) (n + 1) hd.2 (fun y hy => by rw [List.length_set]; exact hr y (List.mem_cons_of_mem _ hy)) i b h]
   omega
section
variable {p : Prog}
theorem pre_cons (hp : FineP p) {f : Nat} {a : Int} (ha : 0 ≤ a) (hn : a < p.nodes.length) (hf : p.nodes.length - a.toNat ≤ f) : ∃ x g, f = g + 1 ∧ p.nodes[a.toNat]? = some x ∧ pre p f a = a :: (x.kids.map (pre p g)).flatten := by
 cases f with
 | zero => omega
 | succ g =>
  obtain ⟨x, hx⟩ : ∃ x, p.nodes[a.toNat]? = some x := ⟨_, List.getElem?_eq_getElem (by omega)⟩
  exact ⟨x, g, rfl, hx, by rw [pre, hx]⟩
/-- the first walk numbers -/
theorem wAs_put {g : Int → List Int × Int → Option (List Int × Int)} {q : Int → List Int} : ∀ (ks : List Int) (l : List Int) (n : Int), (∀ k ∈ ks, ∀ (l : List Int) (n : Int), n + (q k).length ≤ 1000000000 → 0 ≤ n → g k (l, n) = some (putAll l n (q k), n + (q k).length)) → 0 ≤ n → n + ((ks.map q).flatten).length ≤ 1000000000 →
  wAs g ks (l, n) = some (putAll l n (ks.map q).flatten, n + ((ks.map q).flatten).length)
 | [], l, n, h, _, _ => by simp [wAs, putAll]
 | k :: ks, l, n, h, h0, hb => by
  simp only [List.map_cons, List.flatten_cons, List.length_append] at hb ⊢
  rw [wAs, h k (List.mem_cons_self ..) l n (by omega) h0]
  simp only
  rw [wAs_put ks _ _ (fun k hk => h k (List.mem_cons_of_mem _ hk)) (by omega) (by omega), putAll_append]
  congr 2; omega
theorem wA_put (hp : FineP p) : ∀ (f : Nat) (a : Int), 0 ≤ a → a < p.nodes.length → p.nodes.length - a.toNat ≤ f → ∀ (l : List Int) (n : Int), n + (pre p f a).length ≤ 1000000000 → 0 ≤ n → wA p f a (l, n) = some (putAll l n (pre p f a), n + (pre p f a).length)
 | 0, a, ha, hn, hf, _, _, _, _ => by omega
 | f + 1, a, ha, hn, hf, l, n, hb, h0 => by
  obtain ⟨x, hx⟩ : ∃ x, p.nodes[a.toNat]? = some x := ⟨_, List.getElem?_eq_getElem (by omega)⟩
  obtain ⟨_, _, hks⟩ := hp.node _ _ hx
  have e : pre p (f + 1) a = a :: (x.kids.map (pre p f)).flatten := by rw [pre, hx]
  rw [e] at hb ⊢
  simp only [List.length_cons] at hb ⊢
  rw [wA, if_pos (by omega), hx]
  simp only
  rw [wAs_put (q := pre p f) x.kids _ _ (fun k hk l n h1 h2 => by
   have := hks k hk
   exact wA_put hp f k (by omega) (by omega) (by omega) l n h1 h2) (by omega) (by omega), putAll]
  congr 2; omega
/-- the second walk appends aS many -/
theorem wB_len (mf mc : List (Int × Int)) (to : List Int) : ∀ (f : Nat) (a : Int), (wB p mf mc to f a).length = (pre p f a).length
 | 0, a => rfl
 | f + 1, a => by
  rw [wB, pre]
  cases hx : p.nodes[a.toNat]? with
  | some x =>
   simp only [List.length_cons, List.length_flatten, List.map_map]
   congr 2
   exact List.map_congr_left (fun k _ => wB_len mf mc to f k)
  | none => rfl
end
end Go.Hb
namespace Go.Hb
open Go.Proofs
section
variable {p : Prog} {mf mc : List (Int × Int)} {F C : List Int} {to : List Int}
/-- node by node, both roads make the same -/
def MOk (p : Prog) (mf mc : List (Int × Int)) (F C : List Int) : Prop := ∀ (i : Nat) (x : Node), p.nodes[i]? = some x → psizes x.pats < 1000000 ∧ mN F C x.op x.n = some (bN mf mc x.op x.n) ∧ mPats C x.pats = some (cPats mc x.pats)
theorem mKids_eq {g : Nat → Int → Option (List Node)} {h : Int → List Node} {q : Int → List Int} : ∀ (ks : List Int) (len : Nat),
  (∀ k ∈ ks, ∀ len : Nat, len + (q k).length ≤ 1000000 → (∀ (i : Nat) (b : Int), (q k)[i]? = some b → toAt to b = ((len + i : Nat) : Int)) → g len k = some (h k)) → (∀ k ∈ ks, (h k).length = (q k).length ∧ (q k)[0]? = some k) →
  len + ((ks.map q).flatten).length ≤ 1000000 → (∀ (i : Nat) (b : Int), ((ks.map q).flatten)[i]? = some b → toAt to b = ((len + i : Nat) : Int)) →
  mKids g len ks = some (ks.map (toAt to), (ks.map h).flatten)
 | [], len, _, _, _, _ => rfl
 | k :: ks, len, hg, hh, hb, ht => by
  simp only [List.map_cons, List.flatten_cons, List.length_append] at hb ht ⊢
  obtain ⟨h1, h2⟩ := hh k (List.mem_cons_self ..)
  have hlt : ∀ {i : Nat} {b : Int}, (q k)[i]? = some b → i < (q k).length := fun e => (List.getElem?_eq_some_iff.1 e).1
  rw [mKids, hg k (List.mem_cons_self ..) len (by omega) (fun i b e => ht i b (by rw [List.getElem?_append_left (hlt e)]; exact e))]
  simp only
  rw [mKids_eq ks (len + (h k).length) (fun k hk => hg k (List.mem_cons_of_mem _ hk)) (fun k hk => hh k (List.mem_cons_of_mem _ hk)) (by omega) (fun i b e => by
   rw [ht ((q k).length + i) b (by rw [List.getElem?_append_right (by omega), show (q k).length + i - (q k).length = i by omega]; exact e), h1]
   congr 1; omega)]
  simp only
  rw [ht 0 k (by rw [List.getElem?_append_left (hlt h2)]; exact h2)]
  rfl
theorem mNodes_eq (hp : FineP p) (hm : MOk p mf mc F C) : ∀ (k : Nat) (a : Int) (len : Nat), 0 ≤ a → a < p.nodes.length → p.nodes.length - a.toNat ≤ k → len + (pre p k a).length ≤ 1000000 → (∀ (i : Nat) (b : Int), (pre p k a)[i]? = some b → toAt to b = ((len + i : Nat) : Int)) →
  mNodes p F C k len a = some (wB p mf mc to k a)
 | 0, a, len, ha, hn, hf, _, _ => by omega
 | k + 1, a, len, ha, hn, hf, hb, ht => by
  obtain ⟨x, hx⟩ : ∃ x, p.nodes[a.toNat]? = some x := ⟨_, List.getElem?_eq_getElem (by omega)⟩
  obtain ⟨_, hk10, hks⟩ := hp.node _ _ hx
  obtain ⟨m1, m2, m3⟩ := hm _ _ hx
  have e : pre p (k + 1) a = a :: (x.kids.map (pre p k)).flatten := by rw [pre, hx]
  rw [e] at hb ht
  simp only [List.length_cons] at hb
  have hkk := mKids_eq (to := to) (g := mNodes p F C k) (h := wB p mf mc to k) (q := pre p k) x.kids (len + 1) (fun c hc len h1 h2 => by
    have := hks c hc
    exact mNodes_eq hp hm k c len (by omega) (by omega) (by omega) h1 h2) (fun c hc => by
    have := hks c hc
    obtain ⟨y, g, _, _, h3⟩ := pre_cons hp (f := k) (a := c) (by omega) (by omega) (by omega)
    exact ⟨wB_len mf mc to k c, by rw [h3]; rfl⟩) (by omega) (fun i b h => by
    rw [ht (i + 1) b (by simpa using h)]
    congr 1; omega)
  rw [mNodes, if_pos ⟨ha, by omega⟩, hx]
  simp only
  rw [if_pos ⟨by omega, m1⟩, m2]
  simp only
  rw [m3]
  simp only
  rw [hkk]
  simp only
  rw [wB, hx]
  rfl
/-- both roads, for a program whose walk repeats no node -/
theorem canon_agree (hp : FineP p) (hm : MOk p (sM p.funs.length) (sM p.cons.length) (numsL 0 p.funs.length) (numsL 0 p.cons.length)) {f : Nat} (hf : p.nodes.length ≤ f)
  (hd : ((p.funs.map (pre p f)).flatten).Nodup) (hlen : ((p.funs.map (pre p f)).flatten).length ≤ 1000000) (hin : ∀ x ∈ (p.funs.map (pre p f)).flatten, 0 ≤ x ∧ x < p.nodes.length) :
  ∃ to n, toOf p 0 f = some (to, n) ∧ orderOf p f = some ⟨nodesB p (sM p.funs.length) (sM p.cons.length) to f, p.funs.map (toAt to), p.main, p.cons⟩ ∧ (nodesB p (sM p.funs.length) (sM p.cons.length) to f).length ≤ 1000000 := by
 have hA : toOf p 0 f = some (putAll (List.replicate p.nodes.length 0) 0 (p.funs.map (pre p f)).flatten, 0 + (((p.funs.map (pre p f)).flatten).length : Int)) := by
  unfold toOf
  exact wAs_put (q := pre p f) p.funs _ _ (fun k hk l n h1 h2 => by
   have := hp.funs k hk
   exact wA_put hp f k (by omega) (by omega) (by omega) l n h1 h2) (by omega) (by omega)
 have ht := putAll_at (p.funs.map (pre p f)).flatten (List.replicate p.nodes.length 0) 0 hd (fun x hx => by rw [List.length_replicate]; exact hin x hx)
 refine ⟨_, _, hA, ?_, ?_⟩
 · unfold orderOf
   rw [mKids_eq (to := putAll (List.replicate p.nodes.length 0) 0 (p.funs.map (pre p f)).flatten) (h := wB p (sM p.funs.length) (sM p.cons.length) (putAll (List.replicate p.nodes.length 0) 0 (p.funs.map (pre p f)).flatten) f) (q := pre p f) p.funs 0 (fun k hk len h1 h2 => by
    have := hp.funs k hk
    exact mNodes_eq hp hm f k len (by omega) (by omega) (by omega) h1 h2) (fun k hk => by
    have := hp.funs k hk
    obtain ⟨y, g, _, _, h3⟩ := pre_cons hp (f := f) (a := k) (by omega) (by omega) (by omega)
    exact ⟨wB_len _ _ _ f k, by rw [h3]; rfl⟩) (by omega) (fun i b h => by rw [ht i b h]; simp)]
   rfl
 · unfold nodesB
   rw [List.length_flatten, List.map_map]
   have : List.map (List.length ∘ wB p (sM p.funs.length) (sM p.cons.length) (putAll (List.replicate p.nodes.length 0) 0 (p.funs.map (pre p f)).flatten) f) p.funs = List.map (List.length ∘ pre p f) p.funs := List.map_congr_left (fun k _ => wB_len _ _ _ f k)
   rw [this, ← List.map_map, ← List.length_flatten]
   exact hlen
end
end Go.Hb
namespace Go.Hb
open Go.Proofs
set_option maxHeartbeats 1000000
/-! ## the walk that looks for a place outside -/
/-! ## over the functions -/
end Go.Hb
namespace Go.Hb
open Go.Proofs
end Go.Hb
namespace Go.Hb
open Go.Proofs
end Go.Hb
namespace Go.Hb
open Go.Proofs
set_option maxHeartbeats 1000000
/-! ## the reference's sizes -/
/-! ## is each place within -/
/-! ## equal lists of numbers -/
end Go.Hb
namespace Go.Hb
open Go.Proofs
/-! ## what a formed program's marks say -/
theorem marks_in {lo n : Int} : ∀ {ks : List Int} {u v : List Bool}, marks lo n ks u = some v → ∀ k ∈ ks, lo ≤ k ∧ k ≤ n - 1
 | [], _, _, _, k, hk => by cases hk
 | a :: ks, u, v, h, k, hk => by
  simp only [marks] at h
  split at h
  · rename_i g
    rcases List.mem_cons.1 hk with rfl | hk
    · exact inB_iff.1 g.1
    · exact marks_in h k hk
  · cases h
/-- the first one of the list: it was not marked, and is now -/
theorem marks_cons {lo n k : Int} {ks : List Int} {u v : List Bool} (h : marks lo n (k :: ks) u = some v) : u[k.toNat]? = some false ∧ marks lo n ks (u.set k.toNat true) = some v := by
 simp only [marks] at h
 split at h
 · rename_i g; exact ⟨g.2, h⟩
 · cases h
theorem refNodes_cons {p : Prog} {i : Nat} {x : Node} {t : List Node} {u v : List Bool} (h : refNodes p i (x :: t) u = some v) : nodeOk p x = true ∧ ∃ w, marks ((i : Int) + 1) p.nodes.length x.kids u = some w ∧ refNodes p (i + 1) t w = some v := by
 simp only [refNodes] at h
 split at h
 · rename_i g
   split at h
   · rename_i w hw; exact ⟨g, w, hw, h⟩
   · cases h
 · cases h
theorem refNodes_all {p : Prog} : ∀ {t : List Node} {i : Nat} {u v : List Bool}, refNodes p i t u = some v → ∀ (j : Nat) (x : Node), t[j]? = some x → nodeOk p x = true ∧ ∀ k ∈ x.kids, ((i + j : Nat) : Int) < k ∧ k < p.nodes.length
 | [], i, u, v, h, j, x, hx => by simp at hx
 | y :: t, i, u, v, h, j, x, hx => by
  obtain ⟨g, w, hw, h2⟩ := refNodes_cons h
  cases j with
  | zero =>
   simp at hx; subst hx
   exact ⟨g, fun k hk => by have := marks_in hw k hk; omega⟩
  | succ j =>
   have := refNodes_all h2 j x (by simpa using hx)
   exact ⟨this.1, fun k hk => by have := this.2 k hk; omega⟩
/-! ## the reference's sizes stay once they are set -/
/-- what the sizes of a formed program are -/
structure Sprop (p : Prog) (S : List Int) : Prop where
 len : S.length = p.nodes.length
 root : ∀ f ∈ p.funs, S[f.toNat]? = some 1
 kid : ∀ (i : Nat) (x : Node) (d : Nat) (k : Int), p.nodes[i]? = some x → x.kids[d]? = some k → ∃ s, S[i]? = some s ∧ S[k.toNat]? = some (s + addsN x d)
end Go.Hb
namespace Go.Hb
open Go.Proofs
/-! ## the walk comes to every node, with its size -/
inductive Reach (p : Prog) : Nat → Nat → Prop where
 | refl (a : Nat) : Reach p a a
 | step {a i : Nat} {x : Node} {k : Int} : Reach p a i → p.nodes[i]? = some x → k ∈ x.kids → Reach p a k.toNat
theorem Reach.first {p : Prog} {a m : Nat} (h : Reach p a m) : m = a ∨ ∃ (x : Node) (k : Int), p.nodes[a]? = some x ∧ k ∈ x.kids ∧ Reach p k.toNat m := by
 induction h with
 | refl => exact .inl rfl
 | step h hx hk ih =>
  rename_i i x k
  rcases ih with rfl | ⟨y, q, h1, h2, h3⟩
  · exact .inr ⟨x, k, hx, hk, Reach.refl _⟩
  · exact .inr ⟨y, q, h1, h2, h3.step hx hk⟩
/-! ## and it finds what is outside -/
/-! ## Depths, Closed: the program's, the reference's -/
theorem check_of {p : Prog} (hs : smallProg p = true) : Pure PP 10 [Prog.av p] (.int .i64 (checkN (refFormed p))) := by
 have h2 := bCheck_pure p hs
 rw [formed_eq] at h2
 exact h2
end Go.Hb
namespace Go.Hb
open Go.Proofs
/-! ## a formed program: node by node -/
theorem formed_fine {p : Prog} (hp : smallProg p = true) (hf : refFormed p = true) : FineP p := by
 have hs := hp
 simp only [smallProg, Bool.and_eq_true, decide_eq_true_eq] at hs
 obtain ⟨⟨⟨⟨s1, s2⟩, s3⟩, _⟩, s5⟩ := hs
 simp only [refFormed, Bool.and_eq_true] at hf
 obtain ⟨_, hf⟩ := hf
 split at hf
 · rename_i u hu
   unfold allT at hf
   split at hf
   · rename_i v hv
     refine ⟨s1, s2, fun i x hx => ?_, fun f hf => ?_⟩
     · have := refNodes_all hv i x hx
       have h10 := List.all_eq_true.1 s5 x (List.mem_of_getElem? hx)
       simp only [smallNode, Bool.and_eq_true, decide_eq_true_eq] at h10
       exact ⟨fine_of this.1, h10.1.1, fun k hk => by have := this.2 k hk; omega⟩
     · have := marks_in hu f hf; omega
   · cases hf
 · cases hf
theorem numsL_at {n : Nat} {i : Int} (h0 : 0 ≤ i) (h1 : i < n) : (numsL 0 n)[i.toNat]? = some i := by
 rw [numsL_get 0 (by omega)]
 congr 1; omega
mutual
theorem mPat_c (cons : List Con) : ∀ (q : Pat), patOk cons q = true → mPat (numsL 0 cons.length) q = some (cPat (sM cons.length) q)
 | .mk f n s ps, h => by
  rw [patOk, Bool.and_eq_true] at h
  have hps := mPats_c cons ps h.2
  have hN : mPatN (numsL 0 cons.length) f n = some (if f = 6 then mAt (sM cons.length) n else n) := by
   unfold mPatN
   by_cases hf : f = 6
   · subst hf
     have hh := h.1
     simp only [patHead] at hh
     simp [inB] at hh
     obtain ⟨⟨⟨h0, h1⟩, _⟩, _⟩ := hh
     rw [if_pos rfl, if_pos rfl, if_pos h0, numsL_at h0 (by omega), sM_at h0 (by omega)]
   · rw [if_neg hf, if_neg hf]
  rw [mPat, hN]
  simp only
  rw [hps, cPat]
theorem mPats_c (cons : List Con) : ∀ (ps : List Pat), patsOk cons ps = true → mPats (numsL 0 cons.length) ps = some (cPats (sM cons.length) ps)
 | [], _ => rfl
 | q :: ps, h => by
  rw [patsOk, Bool.and_eq_true] at h
  rw [mPats, mPat_c cons q h.1]
  simp only
  rw [mPats_c cons ps h.2, cPats]
end
theorem patsOk_all {cons : List Con} : ∀ {ps : List Pat}, (∀ q ∈ ps, patOk cons q = true) → patsOk cons ps = true
 | [], _ => rfl
 | q :: ps, h => by
  rw [patsOk, h q (List.mem_cons_self ..), patsOk_all (fun x hx => h x (List.mem_cons_of_mem _ hx))]; rfl
theorem psizes_le {c : Nat} : ∀ {ps : List Pat}, (∀ q ∈ ps, psize q ≤ c) → psizes ps ≤ c * ps.length
 | [], _ => by simp [psizes]
 | q :: ps, h => by
  have h1 := h q (List.mem_cons_self ..)
  have h2 := psizes_le (c := c) (ps := ps) (fun x hx => h x (List.mem_cons_of_mem _ hx))
  simp only [psizes, List.length_cons]
  rw [Nat.mul_add, Nat.mul_one]; omega
theorem node_both {p : Prog} (hF : p.funs.length ≤ 320) {x : Node} (h : nodeOk p x = true) (h10 : x.pats.length ≤ 10) :
  (psizes x.pats < 1000000 ∧ mN (numsL 0 p.funs.length) (numsL 0 p.cons.length) x.op x.n = some (bN (sM p.funs.length) (sM p.cons.length) x.op x.n) ∧ mPats (numsL 0 p.cons.length) x.pats = some (cPats (sM p.cons.length) x.pats)) ∧ nOk (sM p.funs.length) x := by
 simp only [nodeOk, Bool.and_eq_true, nodeHead] at h
 obtain ⟨⟨⟨h1, _⟩, h2⟩, _⟩ := h
 have hq : ∀ q ∈ x.pats, psize q ≤ 12 ∧ patOk p.cons q = true := fun q hq => by
  have := List.all_eq_true.1 h2 q hq
  simpa [nodePat] using this
 have hps : psizes x.pats ≤ 12 * x.pats.length := psizes_le (fun q h => (hq q h).1)
 have hr4 : x.op = 4 → -(p.funs.length : Int) ≤ x.n ∧ x.n ≤ 29 := fun e => by
  rw [e] at h1
  simp [nodeHead1, inB] at h1
  omega
 have hr14 : x.op = 14 → 0 ≤ x.n ∧ x.n < p.cons.length := fun e => by
  rw [e] at h1
  simp [nodeHead1, inB] at h1
  omega
 refine ⟨⟨by omega, ?_, mPats_c p.cons x.pats (patsOk_all fun q h => (hq q h).2)⟩, by omega, fun e hn => ?_⟩
 · unfold mN bN
   by_cases h4 : x.op = 4
   · have hr := hr4 h4
     by_cases hn : x.n < 0
     · rw [if_pos ⟨h4, hn⟩, if_pos h4, if_neg (by omega), numsL_at (by omega) (by omega), sM_at (by omega) (by omega)]
       simp only
       rw [if_pos (by omega)]
     · rw [if_neg (fun h => hn h.2), if_neg (show ¬ x.op = 14 by omega), if_pos h4, if_pos (show 0 ≤ x.n by omega)]
   · rw [if_neg (fun h => h4 h.1), if_neg h4]
     by_cases h14 : x.op = 14
     · have hr := hr14 h14
       rw [if_pos h14, if_pos h14, if_pos hr.1, numsL_at hr.1 hr.2, sM_at hr.1 hr.2]
     · rw [if_neg h14, if_neg h14]
 · have hr := hr4 e
   rw [sM_at (by omega) (by omega)]
   omega
end Go.Hb
namespace Go.Hb
open Go.Proofs
/-! ## a formed program: the walk repeats no node -/
def kidsOf (p : Prog) (i : Int) : List Int := match p.nodes[i.toNat]? with
 | some x => x.kids
 | none => []
section
variable {p : Prog}
theorem flat_count {q : Int → List Int} (m : Int) : ∀ (ks : List Int), (∀ k ∈ ks, (q k).count m = [k].count m + (((q k).map (kidsOf p)).flatten).count m) →
  ((ks.map q).flatten).count m = ks.count m + ((((ks.map q).flatten).map (kidsOf p)).flatten).count m
 | [], _ => rfl
 | k :: ks, h => by
  have h1 := h k (List.mem_cons_self ..)
  have h2 := flat_count m ks (fun x hx => h x (List.mem_cons_of_mem _ hx))
  rw [List.map_cons, List.flatten_cons, List.count_append, List.map_append, List.flatten_append, List.count_append, h1, h2, show k :: ks = [k] ++ ks from rfl, List.count_append]
  omega
theorem pre_count (hp : FineP p) (m : Int) : ∀ (f : Nat) (a : Int), 0 ≤ a → a < p.nodes.length → p.nodes.length - a.toNat ≤ f → (pre p f a).count m = [a].count m + (((pre p f a).map (kidsOf p)).flatten).count m
 | 0, a, ha, hn, hf => by omega
 | f + 1, a, ha, hn, hf => by
  obtain ⟨x, hx⟩ : ∃ x, p.nodes[a.toNat]? = some x := ⟨_, List.getElem?_eq_getElem (by omega)⟩
  obtain ⟨_, _, hks⟩ := hp.node _ _ hx
  have e : pre p (f + 1) a = a :: (x.kids.map (pre p f)).flatten := by rw [pre, hx]
  have ek : kidsOf p a = x.kids := by unfold kidsOf; rw [hx]
  have h2 := flat_count (p := p) m x.kids (fun k hk => by
   have := hks k hk
   exact pre_count hp m f k (by omega) (by omega) (by omega))
  rw [e, List.map_cons, List.flatten_cons, List.count_append, ek, show a :: (x.kids.map (pre p f)).flatten = [a] ++ (x.kids.map (pre p f)).flatten from rfl, List.count_append, h2]
theorem pre_in (hp : FineP p) : ∀ (f : Nat) (a : Int), 0 ≤ a → a < p.nodes.length → ∀ y ∈ pre p f a, 0 ≤ y ∧ y < p.nodes.length
 | 0, a, _, _, y, hy => by cases hy
 | f + 1, a, ha, hn, y, hy => by
  obtain ⟨x, hx⟩ : ∃ x, p.nodes[a.toNat]? = some x := ⟨_, List.getElem?_eq_getElem (by omega)⟩
  obtain ⟨_, _, hks⟩ := hp.node _ _ hx
  have e : pre p (f + 1) a = a :: (x.kids.map (pre p f)).flatten := by rw [pre, hx]
  rw [e] at hy
  rcases List.mem_cons.1 hy with rfl | hy
  · exact ⟨ha, hn⟩
  · obtain ⟨l, hl, hy⟩ := List.mem_flatten.1 hy
    obtain ⟨k, hk, rfl⟩ := List.mem_map.1 hl
    have := hks k hk
    exact pre_in hp f k (by omega) (by omega) y hy
/-- is it marked -/
def tauM (u : List Bool) (m : Int) : Nat := if u[m.toNat]? = some true then 1 else 0
theorem marks_count {lo n : Int} (hlo : 0 ≤ lo) {m : Int} (hm : 0 ≤ m) : ∀ {ks : List Int} {u v : List Bool}, marks lo n ks u = some v → ks.count m + tauM u m = tauM v m
 | [], u, v, h => by cases h; simp
 | k :: ks, u, v, h => by
  have hk := marks_in h k (List.mem_cons_self ..)
  obtain ⟨h1, h2⟩ := marks_cons h
  have h3 := marks_count hlo hm h2
  rw [← h3, show k :: ks = [k] ++ ks from rfl, List.count_append]
  have hlt := (List.getElem?_eq_some_iff.1 h1).1
  by_cases e : k = m
  · subst e
    have a1 : tauM u k = 0 := by unfold tauM; rw [h1]; rfl
    have a2 : tauM (u.set k.toNat true) k = 1 := by unfold tauM; rw [List.getElem?_set_self hlt]; rfl
    rw [a1, a2]; simp; omega
  · have a1 : tauM (u.set k.toNat true) m = tauM u m := by unfold tauM; rw [List.getElem?_set_ne (by omega)]
    rw [a1, List.count_singleton, if_neg (by simpa using e)]; omega
theorem refNodes_count {m : Int} (hm : 0 ≤ m) : ∀ {t : List Node} {i : Nat} {u v : List Bool}, refNodes p i t u = some v → ((t.map Node.kids).flatten).count m + tauM u m = tauM v m
 | [], i, u, v, h => by simp only [refNodes, Option.some.injEq] at h; subst h; simp
 | x :: t, i, u, v, h => by
  obtain ⟨_, w, h1, h2⟩ := refNodes_cons h
  have h3 := marks_count (by omega) hm h1
  have h4 := refNodes_count hm h2
  rw [List.map_cons, List.flatten_cons, List.count_append]
  omega
theorem kids_uniq {m : Int} : ∀ {t : List Node}, ((t.map Node.kids).flatten).count m ≤ 1 → ∀ (i j : Nat) (x y : Node), t[i]? = some x → t[j]? = some y → m ∈ x.kids → m ∈ y.kids → i = j
 | [], _, i, j, x, y, hx, _, _, _ => by simp at hx
 | z :: t, h, i, j, x, y, hx, hy, mx, my => by
  rw [List.map_cons, List.flatten_cons, List.count_append] at h
  have inT : ∀ {i : Nat} {x : Node}, t[i]? = some x → m ∈ x.kids → 0 < ((t.map Node.kids).flatten).count m := fun {i x} hx mx =>
   List.count_pos_iff.2 (List.mem_flatten.2 ⟨x.kids, List.mem_map.2 ⟨x, List.mem_of_getElem? hx, rfl⟩, mx⟩)
  cases i with
  | zero =>
   simp only [List.getElem?_cons_zero, Option.some.injEq] at hx
   subst hx
   cases j with
   | zero => rfl
   | succ j =>
    simp only [List.getElem?_cons_succ] at hy
    have := inT hy my
    have := List.count_pos_iff.2 mx
    omega
  | succ i =>
   simp only [List.getElem?_cons_succ] at hx
   cases j with
   | zero =>
    simp only [List.getElem?_cons_zero, Option.some.injEq] at hy
    subst hy
    have := inT hx mx
    have := List.count_pos_iff.2 my
    omega
   | succ j =>
    simp only [List.getElem?_cons_succ] at hy
    rw [kids_uniq (by omega) i j x y hx hy mx my]
theorem kids_le {m : Int} : ∀ {t : List Node} {i : Nat} {x : Node}, t[i]? = some x → x.kids.count m ≤ ((t.map Node.kids).flatten).count m
 | [], i, x, hx => by simp at hx
 | z :: t, 0, x, hx => by
  simp only [List.getElem?_cons_zero, Option.some.injEq] at hx
  subst hx
  rw [List.map_cons, List.flatten_cons, List.count_append]; omega
 | z :: t, i+1, x, hx => by
  simp only [List.getElem?_cons_succ] at hx
  have := kids_le (m := m) hx
  rw [List.map_cons, List.flatten_cons, List.count_append]; omega
theorem flat_le {m i : Int} : ∀ (L : List Int), (∀ j ∈ L, m ∈ kidsOf p j → j = i) → ((L.map (kidsOf p)).flatten).count m ≤ L.count i * (kidsOf p i).count m
 | [], _ => by simp
 | j :: L, h => by
  have h1 := flat_le L (fun x hx => h x (List.mem_cons_of_mem _ hx))
  rw [List.map_cons, List.flatten_cons, List.count_append, show j :: L = [j] ++ L from rfl, List.count_append, Nat.add_mul]
  by_cases hm : m ∈ kidsOf p j
  · have := h j (List.mem_cons_self ..) hm
    subst this
    simp
    exact h1
  · rw [List.count_eq_zero.2 hm]
    exact Nat.le_trans (by simpa using h1) (Nat.le_add_left ..)
theorem once (hp : FineP p) (hK : ∀ m : Int, 0 ≤ m → p.funs.count m + ((p.nodes.map Node.kids).flatten).count m ≤ 1) {L : List Int} (hin : ∀ x ∈ L, 0 ≤ x ∧ x < p.nodes.length) (hL : ∀ m : Int, L.count m = p.funs.count m + ((L.map (kidsOf p)).flatten).count m) : ∀ (b m : Nat), m ≤ b → L.count (m : Int) ≤ 1 := by
 intro b
 induction b with
 | zero =>
  intro m hmb
  have hm : m = 0 := by omega
  subst hm
  have e := hL ((0 : Nat) : Int)
  have z : ((L.map (kidsOf p)).flatten).count ((0 : Nat) : Int) = 0 := by
   refine List.count_eq_zero.2 (fun h => ?_)
   obtain ⟨l, hl, hy⟩ := List.mem_flatten.1 h
   obtain ⟨j, hj, rfl⟩ := List.mem_map.1 hl
   unfold kidsOf at hy
   split at hy
   · rename_i x hx
     have := (hp.node _ _ hx).2.2 _ hy
     omega
   · cases hy
  have := hK ((0 : Nat) : Int) (by omega)
  omega
 | succ b ih =>
  intro m hmb
  have e := hL (m : Int)
  have hk := hK (m : Int) (by omega)
  by_cases hz : ((L.map (kidsOf p)).flatten).count (m : Int) = 0
  · omega
  · have hpos := List.count_pos_iff.1 (Nat.pos_of_ne_zero hz)
    obtain ⟨l, hl, hy⟩ := List.mem_flatten.1 hpos
    obtain ⟨i, hi, rfl⟩ := List.mem_map.1 hl
    have hir := hin i hi
    obtain ⟨x, hx⟩ : ∃ x, p.nodes[i.toNat]? = some x := ⟨_, List.getElem?_eq_getElem (by omega)⟩
    have ei : kidsOf p i = x.kids := by unfold kidsOf; rw [hx]
    rw [ei] at hy
    have him := (hp.node _ _ hx).2.2 _ hy
    have hci : L.count i ≤ 1 := by
     have := ih i.toNat (by omega)
     rwa [show ((i.toNat : Nat) : Int) = i by omega] at this
    have hle := flat_le (p := p) (m := (m : Int)) (i := i) L (fun j hj hmj => by
     have hjr := hin j hj
     obtain ⟨y, hy'⟩ : ∃ y, p.nodes[j.toNat]? = some y := ⟨_, List.getElem?_eq_getElem (by omega)⟩
     have ej : kidsOf p j = y.kids := by unfold kidsOf; rw [hy']
     rw [ej] at hmj
     have := kids_uniq (by omega) _ _ y x hy' hx hmj hy
     omega)
    rw [ei] at hle
    have hkl := kids_le (m := (m : Int)) hx
    have : L.count i * x.kids.count (m : Int) ≤ 1 * x.kids.count (m : Int) := Nat.mul_le_mul_right _ hci
    omega
theorem nodup_len : ∀ (n : Nat) (l : List Nat), l.Nodup → (∀ x ∈ l, x < n) → l.length ≤ n
 | 0, [], _, _ => by simp
 | 0, x :: l, _, h => by have := h x (List.mem_cons_self ..); omega
 | n+1, l, hd, h => by
  by_cases hm : n ∈ l
  · have h1 := nodup_len n (l.erase n) (hd.erase n) (fun x hx => by
     have := h x (List.mem_of_mem_erase hx)
     have hne : x ≠ n := fun e => by
      subst e
      exact hd.not_mem_erase hx
     omega)
    rw [List.length_erase_of_mem hm] at h1
    omega
  · have := nodup_len n l hd (fun x hx => by
     have := h x hx
     have hne : x ≠ n := fun e => hm (e ▸ hx)
     omega)
    omega
end
end Go.Hb
namespace Go.Hb
open Go.Proofs
/-! ## Canon: both roads -/
theorem nodup_of_count {L : List Int} (h : ∀ a, L.count a ≤ 1) : L.Nodup := List.nodup_iff_count.2 h
theorem formed_pre {p : Prog} (hs : smallProg p = true) (hf : refFormed p = true) : ((p.funs.map (pre p p.nodes.length)).flatten).Nodup ∧ ((p.funs.map (pre p p.nodes.length)).flatten).length ≤ 1000000 ∧ (∀ x ∈ (p.funs.map (pre p p.nodes.length)).flatten, 0 ≤ x ∧ x < p.nodes.length) ∧
  (∀ (i : Nat) (x : Node), p.nodes[i]? = some x → nodeOk p x = true) := by
 have hp := formed_fine hs hf
 simp only [refFormed, Bool.and_eq_true] at hf
 obtain ⟨_, hf⟩ := hf
 split at hf
 · rename_i u hu
   unfold allT at hf
   split at hf
   · rename_i v hv
     have hK : ∀ m : Int, 0 ≤ m → p.funs.count m + ((p.nodes.map Node.kids).flatten).count m ≤ 1 := fun m hm => by
      have h1 := marks_count (by omega) hm hu
      have h2 := refNodes_count hm hv
      have h3 : tauM v m ≤ 1 := by unfold tauM; split <;> omega
      omega
     have hin : ∀ x ∈ (p.funs.map (pre p p.nodes.length)).flatten, 0 ≤ x ∧ x < p.nodes.length := fun x hx => by
      obtain ⟨l, hl, hy⟩ := List.mem_flatten.1 hx
      obtain ⟨k, hk, rfl⟩ := List.mem_map.1 hl
      have := hp.funs k hk
      exact pre_in hp _ k this.1 this.2 x hy
     have hL : ∀ m : Int, ((p.funs.map (pre p p.nodes.length)).flatten).count m = p.funs.count m + ((((p.funs.map (pre p p.nodes.length)).flatten).map (kidsOf p)).flatten).count m := fun m => flat_count m p.funs (fun k hk => by
      have := hp.funs k hk
      exact pre_count hp m _ k this.1 this.2 (by omega))
     have hd : ((p.funs.map (pre p p.nodes.length)).flatten).Nodup := nodup_of_count (fun a => by
      by_cases ha : a ∈ (p.funs.map (pre p p.nodes.length)).flatten
      · have hr := hin a ha
        have := once hp hK hin hL a.toNat a.toNat (Nat.le_refl _)
        rwa [show ((a.toNat : Nat) : Int) = a by omega] at this
      · rw [List.count_eq_zero.2 ha]; omega)
     refine ⟨hd, ?_, hin, fun i x hx => (refNodes_all hv i x hx).1⟩
     have hd2 : (((p.funs.map (pre p p.nodes.length)).flatten).map Int.toNat).Nodup := by
      rw [List.nodup_iff_pairwise_ne] at hd ⊢
      refine List.pairwise_map.2 (hd.imp_of_mem (fun {a b} ha hb hne e => ?_))
      have := hin a ha
      have := hin b hb
      exact hne (by omega)
     have := nodup_len p.nodes.length _ hd2 (fun x hx => by
      obtain ⟨y, hy, rfl⟩ := List.mem_map.1 hx
      have := hin y hy
      omega)
     rw [List.length_map] at this
     have := hp.small
     omega
   · cases hf
 · cases hf
abbrev errProg : AV := .agg [.ilst 4 (List.map Node.av ([] : List Node)) true, .ilst 1 (List.map avI ([] : List Int)) true, .int .i64 0, .ilst 2 (List.map Con.av ([] : List Con)) true]
theorem canon_both {p : Prog} (hs : smallProg p = true) : (refFormed p = true ∧ ∃ to, (nodesB p (sM p.funs.length) (sM p.cons.length) to p.nodes.length).length ≤ 1000000 ∧ Pure PP 17 [Prog.av p] (.tup [Prog.av ⟨nodesB p (sM p.funs.length) (sM p.cons.length) to p.nodes.length, p.funs.map (toAt to), p.main, p.cons⟩, .int .i64 0]) ∧ Pure PP 18 [Prog.av p] (.tup [Prog.av ⟨nodesB p (sM p.funs.length) (sM p.cons.length) to p.nodes.length, p.funs.map (toAt to), p.main, p.cons⟩, .int .i64 0])) ∨
  (refFormed p = false ∧ Pure PP 17 [Prog.av p] (.tup [errProg, .int .i64 2]) ∧ Pure PP 18 [Prog.av p] (.tup [errProg, .int .i64 2])) := by
 have hss := hs
 simp only [smallProg, Bool.and_eq_true, decide_eq_true_eq] at hss
 obtain ⟨⟨⟨⟨s1, s2⟩, s3⟩, _⟩, s5⟩ := hss
 have h10 := check_of hs
 have h33 := rFormed_pure p hs
 cases hf : refFormed p with
 | true =>
  rw [hf] at h10 h33
  have hp := formed_fine hs hf
  obtain ⟨hd, hlen, hin, hnode⟩ := formed_pre hs hf
  have hbo : ∀ (i : Nat) (x : Node), p.nodes[i]? = some x → _ := fun i x hx => node_both s2 (hnode i x hx) (by
   have h10 := List.all_eq_true.1 s5 x (List.mem_of_getElem? hx)
   simp only [smallNode, Bool.and_eq_true, decide_eq_true_eq] at h10
   omega)
  obtain ⟨to, n, hA, hO, hB⟩ := canon_agree hp (fun i x hx => (hbo i x hx).1) (Nat.le_refl _) hd hlen hin
  refine .inl ⟨rfl, to, hB, bCanon_ok hp (fun i x hx => (hbo i x hx).2) p.nodes.length (Nat.le_refl _) to n (by omega) hB hA h10, ?_⟩
  exact rCanon_pure (b := true) (by omega) (by omega) h33 (fun _ => hO)
 | false =>
  rw [hf] at h10 h33
  exact .inr ⟨rfl, bCanon_err 2 (by omega) h10, rCanon_pure (p := p) (q := p) (k := 0) (b := false) (by omega) (by omega) h33 (fun h => by cases h)⟩
end Go.Hb
namespace Go.Hb
open Go.Proofs
noncomputable def rsI_c0 (a : (List Int)) (i5 : Int) : TS :=
 { fr := { fn := 37, nt := 26, sl := [(0, (iI a)), (1, (iI a)), (4, (bV false)), (5, (nI i5))], todo := [.code (cd Tryz.f37 [1, 1, 0, 1, 0, 0]), .inLoop (cd Tryz.f37 [1, 1, 0, 1, 0, 0]), .inBlock 0, .code (cd Tryz.f37 [1, 1, 1])] }, cs := [], hp := [], nb := 0 }
theorem rsI_E_1 (a : (List Int)) (h0 : ((a.length : Int) != (a.length : Int)) = false) :
  LeadsM PP 0 (start PP 37 [(iI a), (iI a)]).as (rsI_c0 a 0).as :=
 wW 0 [] [ql avI a, ql avI a, q h0] [rn 8, aL a, rn 1, aL a, rn 2, bf 10, rn 9] trivial
theorem rsI_0_1 (a : (List Int)) (i5 : Int) (y0 : Int) (h0 : decide (i5 < (a.length : Int)) = true) (h1 : 0 ≤ i5) (h2 : ((a)[i5.toNat]?) = some y0) (h3 : (y0 != y0) = false) (h4 : (IntKind.i64.wrap (i5 + (1 : Int))) = (i5 + (1 : Int))) :
  LeadsM PP 0 (rsI_c0 a i5).as (rsI_c0 a (i5 + (1 : Int))).as :=
 wW 0 [] [ql avI a, q h0, q h1, qg avI h2, q h1, qg avI h2, q h3, q (congrArg (AV.int .i64) h4)] [rn 5, aL a, rn 2, bt 14, rn 5, .reg [.d, .d, .ans (.idx (avI y0)), .d, .d, .d, .ans (.idx (avI y0)), .d, .d], bf 25, rn 6, sI 16 (i5 + (1 : Int)), rn 3] trivial
theorem rsI_0_2 (a : (List Int)) (i5 : Int) (h0 : decide (i5 < (a.length : Int)) = false) :
  Ends PP 0 (rsI_c0 a i5).as (.ret (bV true)) (hpOf [] 0) :=
 wE 0 [] [ql avI a, q h0] [rn 5, aL a, rn 2, bf 14, rn 7] trivial
noncomputable def rsP_c0 (q_form : Int) (q_n : Int) (q_text : Str) (q_parts : (List Pat)) (i5 : Int) : TS :=
 { fr := { fn := 96, nt := 53, sl := [(2, (.ptr 0 0)), (3, (.ptr 1 0)), (4, (bV false)), (5, (nI i5))], todo := [.code (cd Tryz.f96 [1, 1, 0, 1, 0, 0]), .inLoop (cd Tryz.f96 [1, 1, 0, 1, 0, 0]), .inBlock 0, .code (cd Tryz.f96 [1, 1, 1])] }, cs := [], hp := [(0, (.cells (putCells .leaf 0 [(nI q_form), (nI q_n), (avS q_text), (iP q_parts)]) 4 [] false), false), (1, (.cells (putCells .leaf 0 [(nI q_form), (nI q_n), (avS q_text), (iP q_parts)]) 4 [] false), false)], nb := 2 }
theorem rsP_E_4 (q_form : Int) (q_n : Int) (q_text : Str) (q_parts : (List Pat)) (h0 : (q_form != q_form) = false) (h1 : (q_n != q_n) = false) (h2 : (!(strEq q_text.length (bytesNat q_text) q_text.length (bytesNat q_text))) = false) (h3 : ((q_parts.length : Int) != (q_parts.length : Int)) = false) :
  LeadsM PP 0 (start PP 96 [(.agg [(nI q_form), (nI q_n), (avS q_text), (iP q_parts)]), (.agg [(nI q_form), (nI q_n), (avS q_text), (iP q_parts)])]).as (rsP_c0 q_form q_n q_text q_parts 0).as :=
 wW 2 [0, 1] [q h0, q h1, q h2, qlP q_parts, qlP q_parts, q h3] [rn 15, bf 11, rn 7, bf 18, rn 7, bf 25, rn 2, aL q_parts, rn 2, aL q_parts, rn 3, bf 33, rn 9] trivial
theorem rsP_0_1 (q_form : Int) (q_n : Int) (q_text : Str) (q_parts : (List Pat)) (i5 : Int) (y_form0 : Int) (y_n1 : Int) (y_text2 : Str) (y_parts3 : (List Pat)) (y4 : Bool) (h0 : decide (i5 < (q_parts.length : Int)) = true) (h1 : 0 ≤ i5) (h2 : ((q_parts)[i5.toNat]?) = some (Pat.mk y_form0 y_n1 y_text2 y_parts3)) (h3 : Pure PP 96 [(.agg [(nI y_form0), (nI y_n1), (avS y_text2), (iP y_parts3)]), (.agg [(nI y_form0), (nI y_n1), (avS y_text2), (iP y_parts3)])] (bV y4)) (h4 : (!y4) = false) (h5 : (IntKind.i64.wrap (i5 + (1 : Int))) = (i5 + (1 : Int))) :
  LeadsM PP 0 (rsP_c0 q_form q_n q_text q_parts i5).as (rsP_c0 q_form q_n q_text q_parts (i5 + (1 : Int))).as :=
 wW 2 [0, 1] [qlP q_parts, q h0, q h1, qgP h2, q h1, qgP h2, q h3, q h4, q (congrArg (AV.int .i64) h5)] [rn 6, aL q_parts, rn 2, bt 38, rn 5, .reg [.d, .d, .d, .ans (.idx (Pat.av (Pat.mk y_form0 y_n1 y_text2 y_parts3))), .d, .d, .d, .d, .ans (.idx (Pat.av (Pat.mk y_form0 y_n1 y_text2 y_parts3))), .d, .pure (bV y4), .d], bf 52, rn 6, sI 40 (i5 + (1 : Int)), rn 3] trivial
theorem rsP_0_2 (q_form : Int) (q_n : Int) (q_text : Str) (q_parts : (List Pat)) (i5 : Int) (h0 : decide (i5 < (q_parts.length : Int)) = false) :
  Ends PP 0 (rsP_c0 q_form q_n q_text q_parts i5).as (.ret (bV true)) (hpOf [] 0) :=
 wE 2 [] [qlP q_parts, q h0] [rn 6, aL q_parts, rn 2, bf 38, rn 7] trivial
noncomputable def rsN_c0 (x : Node) (i5 : Int) : TS :=
 { fr := { fn := 43, nt := 54, sl := [(2, (.ptr 0 0)), (3, (.ptr 1 0)), (4, (bV false)), (5, (nI i5))], todo := [.code (cd Tryz.f43 [1, 1, 0, 1, 0, 0]), .inLoop (cd Tryz.f43 [1, 1, 0, 1, 0, 0]), .inBlock 0, .code (cd Tryz.f43 [1, 1, 1])] }, cs := [], hp := [(0, (.cells (putCells .leaf 0 [(nI x.op), (nI x.n), (iI x.kids), (iP x.pats)]) 4 [] false), false), (1, (.cells (putCells .leaf 0 [(nI x.op), (nI x.n), (iI x.kids), (iP x.pats)]) 4 [] false), false)], nb := 2 }
theorem rsN_E_4 (x : Node) (y0 : Bool) (h0 : (x.op != x.op) = false) (h1 : (x.n != x.n) = false) (h2 : Pure PP 37 [(iI x.kids), (iI x.kids)] (bV y0)) (h3 : (!y0) = false) (h4 : ((x.pats.length : Int) != (x.pats.length : Int)) = false) :
  LeadsM PP 0 (start PP 43 [(Node.av x), (Node.av x)]).as (rsN_c0 x 0).as :=
 wW 2 [0, 1] [q h0, q h1, q h2, q h3, qlP x.pats, qlP x.pats, q h4] [rn 15, bf 11, rn 7, bf 18, rn 4, pB y0, rn 3, bf 26, rn 2, aL x.pats, rn 2, aL x.pats, rn 3, bf 34, rn 9] trivial
theorem rsN_0_1 (x : Node) (i5 : Int) (y_form0 : Int) (y_n1 : Int) (y_text2 : Str) (y_parts3 : (List Pat)) (y4 : Bool) (h0 : decide (i5 < (x.pats.length : Int)) = true) (h1 : 0 ≤ i5) (h2 : ((x.pats)[i5.toNat]?) = some (Pat.mk y_form0 y_n1 y_text2 y_parts3)) (h3 : Pure PP 96 [(.agg [(nI y_form0), (nI y_n1), (avS y_text2), (iP y_parts3)]), (.agg [(nI y_form0), (nI y_n1), (avS y_text2), (iP y_parts3)])] (bV y4)) (h4 : (!y4) = false) (h5 : (IntKind.i64.wrap (i5 + (1 : Int))) = (i5 + (1 : Int))) :
  LeadsM PP 0 (rsN_c0 x i5).as (rsN_c0 x (i5 + (1 : Int))).as :=
 wW 2 [0, 1] [qlP x.pats, q h0, q h1, qgP h2, q h1, qgP h2, q h3, q h4, q (congrArg (AV.int .i64) h5)] [rn 6, aL x.pats, rn 2, bt 39, rn 5, .reg [.d, .d, .d, .ans (.idx (Pat.av (Pat.mk y_form0 y_n1 y_text2 y_parts3))), .d, .d, .d, .d, .ans (.idx (Pat.av (Pat.mk y_form0 y_n1 y_text2 y_parts3))), .d, .pure (bV y4), .d], bf 53, rn 6, sI 41 (i5 + (1 : Int)), rn 3] trivial
theorem rsN_0_2 (x : Node) (i5 : Int) (h0 : decide (i5 < (x.pats.length : Int)) = false) :
  Ends PP 0 (rsN_c0 x i5).as (.ret (bV true)) (hpOf [] 0) :=
 wE 2 [] [qlP x.pats, q h0] [rn 6, aL x.pats, rn 2, bf 39, rn 7] trivial
noncomputable def rsS_c0 (p : Prog) (i5 : Int) : TS :=
 { fr := { fn := 19, nt := 75, sl := [(2, (.ptr 0 0)), (3, (.ptr 1 0)), (4, (bV false)), (5, (nI i5))], todo := [.code (cd Tryz.f19 [1, 1, 0, 1, 0, 0]), .inLoop (cd Tryz.f19 [1, 1, 0, 1, 0, 0]), .inBlock 0, .code (cd Tryz.f19 [1, 1, 1])] }, cs := [], hp := [(0, (.cells (putCells .leaf 0 [(iN p.nodes), (iI p.funs), (nI p.main), (iC p.cons)]) 4 [] false), false), (1, (.cells (putCells .leaf 0 [(iN p.nodes), (iI p.funs), (nI p.main), (iC p.cons)]) 4 [] false), false)], nb := 2 }
noncomputable def rsS_c1 (p : Prog) (i6 : Int) : TS :=
 { fr := { fn := 19, nt := 75, sl := [(2, (.ptr 0 0)), (3, (.ptr 1 0)), (4, (bV false)), (6, (nI i6))], todo := [.code (cd Tryz.f19 [1, 1, 1, 0, 1, 0, 0]), .inLoop (cd Tryz.f19 [1, 1, 1, 0, 1, 0, 0]), .inBlock 2, .code (cd Tryz.f19 [1, 1, 1, 1])] }, cs := [], hp := [(0, (.cells (putCells .leaf 0 [(iN p.nodes), (iI p.funs), (nI p.main), (iC p.cons)]) 4 [] false), false), (1, (.cells (putCells .leaf 0 [(iN p.nodes), (iI p.funs), (nI p.main), (iC p.cons)]) 4 [] false), false)], nb := 2 }
theorem rsS_E_4 (p : Prog) (y0 : Bool) (h0 : ((p.nodes.length : Int) != (p.nodes.length : Int)) = false) (h1 : Pure PP 37 [(iI p.funs), (iI p.funs)] (bV y0)) (h2 : (!y0) = false) (h3 : (p.main != p.main) = false) (h4 : ((p.cons.length : Int) != (p.cons.length : Int)) = false) :
  LeadsM PP 0 (start PP 19 [(Prog.av p), (Prog.av p)]).as (rsS_c0 p 0).as :=
 wW 2 [0, 1] [ql Node.av p.nodes, ql Node.av p.nodes, q h0, q h1, q h2, q h3, ql Con.av p.cons, ql Con.av p.cons, q h4] [rn 11, aL p.nodes, rn 2, aL p.nodes, rn 2, bf 14, rn 4, pB y0, rn 3, bf 22, rn 7, bf 29, rn 2, aL p.cons, rn 2, aL p.cons, rn 3, bf 37, rn 9] trivial
theorem rsS_0_1 (p : Prog) (i5 : Int) (y0 : Con) (h0 : decide (i5 < (p.cons.length : Int)) = true) (h1 : 0 ≤ i5) (h2 : ((p.cons)[i5.toNat]?) = some y0) (h3 : (!((strEq y0.name.length (bytesNat y0.name) y0.name.length (bytesNat y0.name)) && ((y0.args == y0.args) && true))) = false) (h4 : (IntKind.i64.wrap (i5 + (1 : Int))) = (i5 + (1 : Int))) :
  LeadsM PP 0 (rsS_c0 p i5).as (rsS_c0 p (i5 + (1 : Int))).as :=
 wW 2 [0, 1] [ql Con.av p.cons, q h0, q h1, qg Con.av h2, q h1, qg Con.av h2, q h3, q (congrArg (AV.int .i64) h4)] [rn 6, aL p.cons, rn 2, bt 42, rn 5, .reg [.d, .d, .d, .ans (.idx (Con.av y0)), .d, .d, .d, .d, .ans (.idx (Con.av y0)), .d, .d], bf 55, rn 6, sI 44 (i5 + (1 : Int)), rn 3] trivial
theorem rsS_0_2 (p : Prog) (i5 : Int) (h0 : decide (i5 < (p.cons.length : Int)) = false) :
  LeadsM PP 0 (rsS_c0 p i5).as (rsS_c1 p 0).as :=
 wW 2 [0, 1] [ql Con.av p.cons, q h0] [rn 6, aL p.cons, rn 2, bf 42, rn 9] trivial
theorem rsS_1_1 (p : Prog) (i6 : Int) (y0 : Node) (y1 : Bool) (h0 : decide (i6 < (p.nodes.length : Int)) = true) (h1 : 0 ≤ i6) (h2 : ((p.nodes)[i6.toNat]?) = some y0) (h3 : Pure PP 43 [(Node.av y0), (Node.av y0)] (bV y1)) (h4 : (!y1) = false) (h5 : (IntKind.i64.wrap (i6 + (1 : Int))) = (i6 + (1 : Int))) :
  LeadsM PP 0 (rsS_c1 p i6).as (rsS_c1 p (i6 + (1 : Int))).as :=
 wW 2 [0, 1] [ql Node.av p.nodes, q h0, q h1, qg Node.av h2, q h1, qg Node.av h2, q h3, q h4, q (congrArg (AV.int .i64) h5)] [rn 6, aL p.nodes, rn 2, bt 60, rn 5, .reg [.d, .d, .d, .ans (.idx (Node.av y0)), .d, .d, .d, .d, .ans (.idx (Node.av y0)), .d, .pure (bV y1), .d], bf 74, rn 6, sI 62 (i6 + (1 : Int)), rn 3] trivial
theorem rsS_1_2 (p : Prog) (i6 : Int) (h0 : decide (i6 < (p.nodes.length : Int)) = false) :
  Ends PP 0 (rsS_c1 p i6).as (.ret (bV true)) (hpOf [] 0) :=
 wE 2 [] [ql Node.av p.nodes, q h0] [rn 6, aL p.nodes, rn 2, bf 60, rn 7] trivial
end Go.Hb
namespace Go.Hb
open Go.Proofs
/-! ## ref.Same of a program and itself -/
theorem strEq_refl (s : Str) : strEq (List.length s) (bytesNat s) (List.length s) (bytesNat s) = true := by rw [strEq_eq]; simp
theorem rsI_loop (a : List Int) (ha : a.length < 1000000) : ∀ (t : List Int) (i : Nat), a.drop i = t → Ends PP 0 (rsI_c0 a (i : Int)).as (.ret (.bool true)) (hpOf [] 0)
 | [], i, h => by
  have := dropN h
  exact rsI_0_2 a i sd
 | y :: t, i, h => by
  obtain ⟨g1, g2, g3⟩ := dropC h
  have h1 := rsI_0_1 a i y sd sd sd (by simp) sd
  exact h1.ends (rsI_loop a ha t (i + 1) g2)
theorem rsI_pure (a : List Int) (ha : a.length < 1000000) : Pure PP 37 [.ilst 1 (List.map avI a) false, .ilst 1 (List.map avI a) false] (.bool true) :=
 pure_at (by kernel_rfl) rfl rfl ((rsI_E_1 a (by simp)).ends (rsI_loop a ha a 0 rfl))
theorem rsP_loop (f n : Int) (s : Str) (ps : List Pat) (hl : ps.length < 1000000) (ih : ∀ p ∈ ps, Pure PP 96 [Pat.av p, Pat.av p] (.bool true)) : ∀ (t : List Pat) (i : Nat), ps.drop i = t → Ends PP 0 (rsP_c0 f n s ps (i : Int)).as (.ret (.bool true)) (hpOf [] 0)
 | [], i, h => by
  have := dropN h
  exact rsP_0_2 f n s ps i sd
 | .mk f1 n1 s1 ps1 :: t, i, h => by
  obtain ⟨g1, g2, g3⟩ := dropC h
  have h1 := rsP_0_1 f n s ps i f1 n1 s1 ps1 true sd sd sd (ih (.mk f1 n1 s1 ps1) (List.mem_of_getElem? g1)) rfl sd
  exact h1.ends (rsP_loop f n s ps hl ih t (i + 1) g2)
mutual
theorem rsP_pure : ∀ (q : Pat), psize q < 1000000 → Pure PP 96 [Pat.av q, Pat.av q] (.bool true)
 | .mk f n s ps, h => by
  simp only [psize] at h
  have := psizes_len ps
  exact pure_at (by kernel_rfl) (by simp [AV.keylessL, pat_kl]) rfl ((rsP_E_4 f n s ps (by simp) (by simp) (by rw [strEq_refl]; rfl) (by simp)).ends (rsP_loop f n s ps (by omega) (rsP_all ps (by omega)) ps 0 rfl))
theorem rsP_all : ∀ (ps : List Pat), psizes ps < 1000000 → ∀ p ∈ ps, Pure PP 96 [Pat.av p, Pat.av p] (.bool true)
 | [], _, p, hp => by cases hp
 | q :: ps, h, p, hp => by
  simp only [psizes] at h
  rcases List.mem_cons.1 hp with e | hp
  · rw [e]; exact rsP_pure q (by omega)
  · exact rsP_all ps (by omega) p hp
end
theorem rsN_loop (x : Node) (hl : x.pats.length < 1000000) (ih : ∀ p ∈ x.pats, Pure PP 96 [Pat.av p, Pat.av p] (.bool true)) : ∀ (t : List Pat) (i : Nat), x.pats.drop i = t → Ends PP 0 (rsN_c0 x (i : Int)).as (.ret (.bool true)) (hpOf [] 0)
 | [], i, h => by
  have := dropN h
  exact rsN_0_2 x i sd
 | .mk f1 n1 s1 ps1 :: t, i, h => by
  obtain ⟨g1, g2, g3⟩ := dropC h
  have h1 := rsN_0_1 x i f1 n1 s1 ps1 true sd sd sd (ih (.mk f1 n1 s1 ps1) (List.mem_of_getElem? g1)) rfl sd
  exact h1.ends (rsN_loop x hl ih t (i + 1) g2)
/-- its lists are not long -/
def fitN (x : Node) : Prop := x.kids.length < 1000000 ∧ psizes x.pats < 1000000
structure FitP (q : Prog) : Prop where
 nodes : q.nodes.length ≤ 1000000
 funs : q.funs.length < 1000000
 cons : q.cons.length < 1000000
 node : ∀ x ∈ q.nodes, fitN x
theorem rsN_pure (x : Node) (h : fitN x) : Pure PP 43 [Node.av x, Node.av x] (.bool true) := by
 have := psizes_len x.pats
 have h1 := h.1
 have h2 := h.2
 exact pure_at (by kernel_rfl) (by simp [AV.keylessL, Node.av, AV.keyless]) rfl ((rsN_E_4 x true (by simp) (by simp) (rsI_pure x.kids h.1) rfl (by simp)).ends (rsN_loop x (by omega) (rsP_all x.pats h.2) x.pats 0 rfl))
theorem rsS_1 (p : Prog) (hp : FitP p) : ∀ (t : List Node) (i : Nat), p.nodes.drop i = t → Ends PP 0 (rsS_c1 p (i : Int)).as (.ret (.bool true)) (hpOf [] 0)
 | [], i, h => by
  have := dropN h
  exact rsS_1_2 p i sd
 | x :: t, i, h => by
  obtain ⟨g1, g2, g3⟩ := dropC h
  have hn := hp.nodes
  have h1 := rsS_1_1 p i x true sd sd sd (rsN_pure x (hp.node x (List.mem_of_getElem? g1))) rfl sd
  exact h1.ends (rsS_1 p hp t (i + 1) g2)
theorem rsS_0 (p : Prog) (hp : FitP p) : ∀ (t : List Con) (i : Nat), p.cons.drop i = t → Ends PP 0 (rsS_c0 p (i : Int)).as (.ret (.bool true)) (hpOf [] 0)
 | [], i, h => by
  have := dropN h
  exact (rsS_0_2 p i sd).ends (rsS_1 p hp p.nodes 0 rfl)
 | c :: t, i, h => by
  obtain ⟨g1, g2, g3⟩ := dropC h
  have hn := hp.cons
  have h1 := rsS_0_1 p i c sd sd sd (by rw [strEq_refl]; simp) sd
  exact h1.ends (rsS_0 p hp t (i + 1) g2)
theorem rSame_pure (p : Prog) (hp : FitP p) : Pure PP 19 [Prog.av p, Prog.av p] (.bool true) :=
 pure_at (by kernel_rfl) (by simp [AV.keylessL, Prog.av, AV.keyless]) rfl ((rsS_E_4 p true (by simp) (rsI_pure p.funs hp.funs) rfl (by simp) (by simp)).ends (rsS_0 p hp p.cons 0 rfl))
/-! ## Canon: one program and one error -/
theorem pure_weak {f : Nat} {args : List AV} {v v' : AV} (h : Pure PP f args v) (hv : ∀ (E : Emb) (cv : Value), VR E v cv → VR E v' cv) : Pure PP f args v' := fun hh => by
 obtain ⟨g, hg, he⟩ := h hh
 exact ⟨g, hg, ends_weak he hv⟩
theorem vr_errT {E : Emb} {e : Int} {cv : Value} (h : VR E (.tup [errProg, .int .i64 e]) cv) : VR E (.tup [Prog.av ⟨[], [], 0, []⟩, .int .i64 e]) cv := by
 simp only [VR] at h ⊢
 obtain ⟨us, h1, h2⟩ := h
 obtain ⟨u, us', rfl, h3, h4⟩ := h2.cons_inv
 simp only [errProg, VR] at h3
 obtain ⟨ws, rfl, h5⟩ := h3
 obtain ⟨a1, w1, rfl, c1, h5⟩ := h5.cons_inv
 obtain ⟨a2, w2, rfl, c2, h5⟩ := h5.cons_inv
 obtain ⟨a3, w3, rfl, c3, h5⟩ := h5.cons_inv
 obtain ⟨a4, w4, rfl, c4, h5⟩ := h5.cons_inv
 refine ⟨_, h1, VRs.cons ?_ h4⟩
 simp only [Prog.av, VR]
 exact ⟨_, rfl, VRs.cons (vr_ilst_weak c1) (VRs.cons (vr_ilst_weak c2) (VRs.cons c3 (VRs.cons (vr_ilst_weak c4) h5)))⟩
/-! ## what comes of Canon is not long -/
mutual
theorem cPat_size (mc : List (Int × Int)) : ∀ q : Pat, psize (cPat mc q) = psize q
 | .mk f n t ps => by rw [cPat, psize, psize, cPats_size mc ps]
theorem cPats_size (mc : List (Int × Int)) : ∀ ps : List Pat, psizes (cPats mc ps) = psizes ps
 | [] => rfl
 | q :: ps => by rw [cPats, psizes, psizes, cPat_size mc q, cPats_size mc ps]
end
theorem wB_mem {p : Prog} {mf mc : List (Int × Int)} {to : List Int} : ∀ (f : Nat) (a : Int), ∀ y ∈ wB p mf mc to f a, ∃ (i : Nat) (x : Node), p.nodes[i]? = some x ∧ y = bNode mf mc to x
 | 0, a, y, hy => by cases hy
 | f + 1, a, y, hy => by
  rw [wB] at hy
  cases hx : p.nodes[a.toNat]? with
  | none => rw [hx] at hy; cases hy
  | some x =>
   rw [hx] at hy
   rcases List.mem_cons.1 hy with e | hy
   · exact ⟨_, x, hx, e⟩
   · obtain ⟨l, hl, hy⟩ := List.mem_flatten.1 hy
     obtain ⟨k, _, rfl⟩ := List.mem_map.1 hl
     exact wB_mem f k y hy
theorem nodesB_fit {p : Prog} {mf mc : List (Int × Int)} {to : List Int} {f : Nat} (h : ∀ (i : Nat) (x : Node), p.nodes[i]? = some x → fitN x) : ∀ y ∈ nodesB p mf mc to f, fitN y := fun y hy => by
 obtain ⟨l, hl, hy⟩ := List.mem_flatten.1 hy
 obtain ⟨k, _, rfl⟩ := List.mem_map.1 hl
 obtain ⟨i, x, hx, rfl⟩ := wB_mem f k y hy
 have := h i x hx
 exact ⟨by simpa [bNode] using this.1, by simpa [bNode, cPats_size] using this.2⟩
end Go.Hb
namespace Go.Hb
open Go.Proofs
variable {P : Program}
noncomputable section
/-- one way of the outermost call, to the place where it hands its value back -/
def wayL (P : Program) (is : List Ins) (s : TS) : Option (AV × Nat × List Prop) :=
 match xexec P is s.as with
 | some (s1, ps) => match s1.cs, s1.fr.kind, s1.fr.mode, s1.fr.roundOf, s1.fr.defers with
  | [], .normal, .ret, none, [] => match P.funcs[s1.fr.fn]? with
   | some fd => match aresults P s1.h s1.fr.tm fd.results.toList with
    | some [v] => some (v, s1.fr.fn, ps)
    | _ => none
   | none => none
  | _, _, _, _, _ => none
 | none => none
theorem calls_of_way {f : Nat} {args : List AV} {is : List Ins} {b : Bool} {ps : List Prop} {cargs : List Value} (hb : hasBody P f = true) (hk : AV.keylessL args = true) (h0 : wayL P is (start P f args) = some (.bool b, f, ps)) (hps : AllP ps) (w : World) (hv : VRs (embOf w) args cargs) :
  Calls P f ⟨cargs⟩ w fun e w' => e = .returned (.bool b) ∧ RowKit.Grown w w' := by
 intro base
 unfold hasBody at hb
 split at hb
 · rename_i fn hf
   split at hb
   · rename_i c hc
     have hg : enterFrame P f args .normal = some ⟨f, putArgs .leaf 0 args, max fn.ntmps args.length, [.code c], [], .run, .normal, none⟩ := by simp [enterFrame, hf, hc]
     have fr' : FR (embOf w) _ (Frame.enter P f ⟨cargs⟩ .normal) := enterFrame_sound hg hv
     have f1 : FR (embOf w) (start P f args).as.fr (Frame.enter P f ⟨cargs⟩ .normal) := by
      have e1 : (start P f args).as.fr = ⟨f, mkT ((List.range args.length).zip args), max fn.ntmps args.length, [.code c], [], .run, .normal, none⟩ := by simp [start, hf, hc, TS.as, TF.fr]
      rw [e1]
      refine ⟨fr'.fn, ⟨fr'.tm.1, fun t a e => ?_⟩, fr'.todo, fr'.defers, fr'.mode, fr'.kind, fr'.round⟩
      have h1 := at_range (at_mkT e)
      have hlt := (List.getElem?_eq_some_iff.1 h1).1
      have h2 : (putArgs .leaf 0 args).at t = some a := by
       unfold putArgs; rw [at_put_leaf, if_pos hlt]; exact h1
      exact fr'.tm.2 t a h2
     have e2 : (start P f args).as.cs = [] := by unfold start; split; · split <;> rfl
                                                 · rfl
     have e3 : (start P f args).as.h = ⟨.leaf, 0⟩ := by unfold start; split; · split <;> rfl
                                                        · rfl
     unfold wayL at h0
     split at h0
     · rename_i s1 qs h1
       split at h0
       · rename_i hcs hkd hmo hro hde
         split at h0
         · rename_i fd hfd
           split at h0
           · rename_i v hrs
             simp only [Option.some.injEq, Prod.mk.injEq] at h0
             obtain ⟨rfl, hfn, rfl⟩ := h0
             have hl : LeadsM P 0 (start P f args).as s1 := xexec_sound h1 (fun p hpp => hps.mem p hpp)
             obtain ⟨E', g, ccs, w', s2, f2, fs2, r2, x⟩ := hl (by rw [e3]; exact Nat.le_refl _) (embOf w) _ [] w base f1 (by rw [e2]; rfl) (by rw [e3]; exact embOf_rel w)
             rw [hcs] at fs2
             have := fs2.nil_inv
             subst this
             obtain ⟨cv, g1, g2⟩ := run_results r2 f2.tm hrs
             simp only [tupled, VR] at g2
             subst g2
             have fm := f2.mode
             rw [hmo] at fm
             simp only [MR] at fm
             have fdd := f2.defers
             rw [hde] at fdd
             rw [e3] at x
             have hno : ∀ {b o}, ¬ (⟨.leaf, 0⟩ : Hp).look b = some o := fun {b o} e => by simp [Hp.look, T.at_leaf] at e
             refine ⟨.returned (.bool b), w', g, ⟨rfl, ⟨x.os, x.output, fun i hi => ?_⟩, x.froz, x.size⟩, s2, by rw [f2.fn, hfn], fm, fdd.nil_inv, by rw [f2.kind, hkd], fd, by rw [f2.fn]; exact hfd, g1⟩
             have := x.keep i hi (fun b o L e => absurd e hno)
             rw [this]
             cases w.heap[i]? with
             | none => rfl
             | some ob => cases ob <;> simp
           · cases h0
         · cases h0
       · cases h0
     · cases h0
   · cases hb
 · cases hb
end
end Go.Hb
namespace Go.Hb
open Go.Proofs
theorem lCanons_E_0 (p : Prog) (y0 : Bool) (y1 : Bool) (h0 : Pure PP 8 [(.agg [(.ilst 4 (List.map Node.av p.nodes) false), (.ilst 1 (List.map avI p.funs) false), (.int .i64 p.main), (.ilst 2 (List.map Con.av p.cons) false)])] (.bool y0)) (h1 : (!y0) = true) (h2 : Pure PP 9 [] (.bool y1)) :
  ∀ (w : World) (cargs : List Value), VRs (embOf w) [(.agg [(.ilst 4 (List.map Node.av p.nodes) false), (.ilst 1 (List.map avI p.funs) false), (.int .i64 p.main), (.ilst 2 (List.map Con.av p.cons) false)])] cargs → Calls PP 5 ⟨cargs⟩ w fun e w' => e = .returned (.bool y1) ∧ RowKit.Grown w w' :=
 fun w cargs hv => calls_of_way (ps := [Pure PP 8 [(.agg [(.ilst 4 (List.map Node.av p.nodes) false), (.ilst 1 (List.map avI p.funs) false), (.int .i64 p.main), (.ilst 2 (List.map Con.av p.cons) false)])] (.bool y0), (!y0) = true, Pure PP 9 [] (.bool y1)]) (is := [.run 9, .pure (.bool y0), .run 2, .b 9 true, .run 3, .pure (.bool y1), .run 3]) (by kernel_rfl) rfl (by kernel_rfl) ⟨h0, h1, h2⟩ w hv
theorem lCanons_E_1 (p : Prog) (y0 : Bool) (y1 : Prog) (y2 : Int) (y3 : Prog) (y4 : Int) (y5 : Bool) (y6 : Bool) (h0 : Pure PP 8 [(.agg [(.ilst 4 (List.map Node.av p.nodes) false), (.ilst 1 (List.map avI p.funs) false), (.int .i64 p.main), (.ilst 2 (List.map Con.av p.cons) false)])] (.bool y0)) (h1 : (!y0) = false) (h2 : Pure PP 17 [(.agg [(.ilst 4 (List.map Node.av p.nodes) false), (.ilst 1 (List.map avI p.funs) false), (.int .i64 p.main), (.ilst 2 (List.map Con.av p.cons) false)])] (.tup [(.agg [(.ilst 4 (List.map Node.av y1.nodes) false), (.ilst 1 (List.map avI y1.funs) false), (.int .i64 y1.main), (.ilst 2 (List.map Con.av y1.cons) false)]), (.int .i64 y2)])) (h3 : Pure PP 18 [(.agg [(.ilst 4 (List.map Node.av p.nodes) false), (.ilst 1 (List.map avI p.funs) false), (.int .i64 p.main), (.ilst 2 (List.map Con.av p.cons) false)])] (.tup [(.agg [(.ilst 4 (List.map Node.av y3.nodes) false), (.ilst 1 (List.map avI y3.funs) false), (.int .i64 y3.main), (.ilst 2 (List.map Con.av y3.cons) false)]), (.int .i64 y4)])) (h4 : (y2 == y4) = true) (h5 : Pure PP 19 [(.agg [(.ilst 4 (List.map Node.av y1.nodes) false), (.ilst 1 (List.map avI y1.funs) false), (.int .i64 y1.main), (.ilst 2 (List.map Con.av y1.cons) false)]), (.agg [(.ilst 4 (List.map Node.av y3.nodes) false), (.ilst 1 (List.map avI y3.funs) false), (.int .i64 y3.main), (.ilst 2 (List.map Con.av y3.cons) false)])] (.bool y5)) (h6 : y5 = true) (h7 : Pure PP 9 [] (.bool y6)) :
  ∀ (w : World) (cargs : List Value), VRs (embOf w) [(.agg [(.ilst 4 (List.map Node.av p.nodes) false), (.ilst 1 (List.map avI p.funs) false), (.int .i64 p.main), (.ilst 2 (List.map Con.av p.cons) false)])] cargs → Calls PP 5 ⟨cargs⟩ w fun e w' => e = .returned (.bool y6) ∧ RowKit.Grown w w' :=
 fun w cargs hv => calls_of_way (ps := [Pure PP 8 [(.agg [(.ilst 4 (List.map Node.av p.nodes) false), (.ilst 1 (List.map avI p.funs) false), (.int .i64 p.main), (.ilst 2 (List.map Con.av p.cons) false)])] (.bool y0), (!y0) = false, Pure PP 17 [(.agg [(.ilst 4 (List.map Node.av p.nodes) false), (.ilst 1 (List.map avI p.funs) false), (.int .i64 p.main), (.ilst 2 (List.map Con.av p.cons) false)])] (.tup [(.agg [(.ilst 4 (List.map Node.av y1.nodes) false), (.ilst 1 (List.map avI y1.funs) false), (.int .i64 y1.main), (.ilst 2 (List.map Con.av y1.cons) false)]), (.int .i64 y2)]), Pure PP 18 [(.agg [(.ilst 4 (List.map Node.av p.nodes) false), (.ilst 1 (List.map avI p.funs) false), (.int .i64 p.main), (.ilst 2 (List.map Con.av p.cons) false)])] (.tup [(.agg [(.ilst 4 (List.map Node.av y3.nodes) false), (.ilst 1 (List.map avI y3.funs) false), (.int .i64 y3.main), (.ilst 2 (List.map Con.av y3.cons) false)]), (.int .i64 y4)]), (y2 == y4) = true, Pure PP 19 [(.agg [(.ilst 4 (List.map Node.av y1.nodes) false), (.ilst 1 (List.map avI y1.funs) false), (.int .i64 y1.main), (.ilst 2 (List.map Con.av y1.cons) false)]), (.agg [(.ilst 4 (List.map Node.av y3.nodes) false), (.ilst 1 (List.map avI y3.funs) false), (.int .i64 y3.main), (.ilst 2 (List.map Con.av y3.cons) false)])] (.bool y5), y5 = true, Pure PP 9 [] (.bool y6)]) (is := [.run 9, .pure (.bool y0), .run 2, .b 9 false, .run 5, .pure (.tup [(.agg [(.ilst 4 (List.map Node.av y1.nodes) false), (.ilst 1 (List.map avI y1.funs) false), (.int .i64 y1.main), (.ilst 2 (List.map Con.av y1.cons) false)]), (.int .i64 y2)]), .run 10, .pure (.tup [(.agg [(.ilst 4 (List.map Node.av y3.nodes) false), (.ilst 1 (List.map avI y3.funs) false), (.int .i64 y3.main), (.ilst 2 (List.map Con.av y3.cons) false)]), (.int .i64 y4)]), .run 13, .b 24 true, .run 2, .pure (.bool y5), .run 2, .b 29 true, .pure (.bool y6), .run 4]) (by kernel_rfl) rfl (by kernel_rfl) ⟨h0, h1, h2, h3, h4, h5, h6, h7⟩ w hv
end Go.Hb
namespace Go.Hb
open Go.Proofs
theorem canon_fit {p : Prog} (hs : smallProg p = true) : ∃ (q : Prog) (e : Int), FitP q ∧ Pure PP 17 [Prog.av p] (.tup [Prog.av q, .int .i64 e]) ∧ Pure PP 18 [Prog.av p] (.tup [Prog.av q, .int .i64 e]) := by
 have hss := hs
 simp only [smallProg, Bool.and_eq_true, decide_eq_true_eq] at hss
 obtain ⟨⟨⟨⟨s1, s2⟩, s3⟩, _⟩, s5⟩ := hss
 rcases canon_both hs with ⟨hf, to, hb, h1, h2⟩ | ⟨hf, h1, h2⟩
 · obtain ⟨_, _, _, hnode⟩ := formed_pre hs hf
   have hfit : ∀ (i : Nat) (x : Node), p.nodes[i]? = some x → fitN x := fun i x hx => by
    have h10 := List.all_eq_true.1 s5 x (List.mem_of_getElem? hx)
    simp only [smallNode, Bool.and_eq_true, decide_eq_true_eq] at h10
    have := (node_both s2 (hnode i x hx) (by omega)).1.1
    exact ⟨by omega, this⟩
   exact ⟨_, _, ⟨hb, by simp; omega, by simp; omega, nodesB_fit hfit⟩, h1, h2⟩
 · exact ⟨⟨[], [], 0, []⟩, 2, ⟨by simp, by simp, by simp, fun x hx => by cases hx⟩, pure_weak h1 (fun E cv h => vr_errT h), pure_weak h2 (fun E cv h => vr_errT h)⟩
/-- the law: whatever the program, it answers true -/
theorem lCanons_calls (p : Prog) (hk : Pure PP 9 [] (.bool true)) (w : World) (cargs : List Value) (hv : VRs (embOf w) [Prog.av p] cargs) :
  Calls PP 5 ⟨cargs⟩ w fun e w' => e = .returned (.bool true) ∧ RowKit.Grown w w' := by
 have h0 := rSmallProg_pure p
 cases hs : smallProg p with
 | false =>
  rw [hs] at h0
  exact lCanons_E_0 p false true h0 (by rfl) hk w cargs hv
 | true =>
  rw [hs] at h0
  obtain ⟨q, e, hfit, h1, h2⟩ := canon_fit hs
  exact lCanons_E_1 p true q e q e true true h0 (by rfl) h1 h2 (beq_self_eq_true _) (rSame_pure q hfit) rfl hk w cargs hv
end Go.Hb
