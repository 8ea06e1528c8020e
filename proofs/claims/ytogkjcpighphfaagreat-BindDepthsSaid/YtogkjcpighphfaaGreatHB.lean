/-
  OWN WORK: what the abstract machine's heap says of a world, and that loads, stores, maps, slices and append keep it so.
-/
import Derived.Test.YtogkjcpighphfaaGreatHA
import Derived.Calls
import Derived.Laws.Sem
import Derived.Laws.NewBlocks
import Derived.Lib.Strings
set_option linter.unusedVariables false
set_option linter.unusedSimpArgs false
set_option linter.unusedSectionVars false
namespace Go.Hb

/-! ## tries -/
theorem beq_dec (a b : Nat) : Nat.beq a b = decide (a = b) := by
  by_cases h : a = b
  · subst h; simp
  · simp only [h, decide_false]
    cases hb : Nat.beq a b
    · rfl
    · exact absurd (Nat.eq_of_beq_eq_true hb) h
theorem ble_dec (a b : Nat) : Nat.ble a b = decide (a ≤ b) := by
  cases hb : Nat.ble a b
  · have : ¬ a ≤ b := fun h => by rw [Nat.ble_eq_true_of_le h] at hb; cases hb
    simp [this]
  · simp [Nat.le_of_ble_eq_true hb]
theorem blt_dec (a b : Nat) : Nat.blt a b = decide (a < b) := ble_dec _ _

theorem T.get_node {α : Type} (l r : T α) (v : Option α) (k : Nat) :
    (T.node l v r).get k = if k = 1 then v else if k % 2 = 0 then l.get (k / 2) else r.get (k / 2) := by
  show (bif Nat.beq k 1 then v else bif Nat.beq (k % 2) 0 then l.get (k / 2) else r.get (k / 2)) = _
  simp only [beq_dec, cond_eq_ite, decide_eq_true_eq]
theorem T.get_leaf {α : Type} (k : Nat) : (T.leaf : T α).get k = none := rfl
theorem T.setF_leaf {α : Type} (x : Option α) (f k : Nat) :
    T.setF x (f + 1) k .leaf = if k = 1 then .node .leaf x .leaf else if k % 2 = 0 then .node (T.setF x f (k / 2) .leaf) none .leaf else .node .leaf none (T.setF x f (k / 2) .leaf) := by
  show (bif Nat.beq k 1 then T.node .leaf x .leaf else bif Nat.beq (k % 2) 0 then T.node (T.setF x f (k / 2) .leaf) none .leaf else T.node .leaf none (T.setF x f (k / 2) .leaf)) = _
  simp only [beq_dec, cond_eq_ite, decide_eq_true_eq]
theorem T.setF_node {α : Type} (x : Option α) (f k : Nat) (l r : T α) (v : Option α) :
    T.setF x (f + 1) k (.node l v r) = if k = 1 then .node l x r else if k % 2 = 0 then .node (T.setF x f (k / 2) l) v r else .node l v (T.setF x f (k / 2) r) := by
  show (bif Nat.beq k 1 then T.node l x r else bif Nat.beq (k % 2) 0 then T.node (T.setF x f (k / 2) l) v r else T.node l v (T.setF x f (k / 2) r)) = _
  simp only [beq_dec, cond_eq_ite, decide_eq_true_eq]

theorem T.get_setF {α : Type} (x : Option α) : ∀ (f k : Nat) (t : T α) (j : Nat), 1 ≤ k → k < 2 ^ f → 1 ≤ j →
    (T.setF x f k t).get j = if j = k then x else t.get j := by
  intro f
  induction f with
  | zero => intro k t j h1 h2 _; simp at h2; omega
  | succ f ih =>
    intro k t j h1 h2 hj
    have h2' : k / 2 < 2 ^ f := by rw [Nat.pow_succ] at h2; omega
    have key : ∀ (l r : T α) (v : Option α), (if k = 1 then T.node l x r else if k % 2 = 0 then .node (T.setF x f (k / 2) l) v r else .node l v (T.setF x f (k / 2) r)).get j = if j = k then x else (T.node l v r).get j := by
      intro l r v
      by_cases hk : k = 1
      · simp only [hk, if_true, T.get_node]
        by_cases h : j = 1 <;> simp [h]
      · simp only [hk, if_false]
        by_cases hm : k % 2 = 0
        · simp only [hm, if_true, T.get_node]
          by_cases h : j = 1
          · have : ¬ j = k := by omega
            simp [h, show ¬ (1 = k) by omega]
          · simp only [h, if_false]
            by_cases hn : j % 2 = 0
            · simp only [hn, if_true]
              rw [ih _ _ _ (by omega) h2' (by omega)]
              by_cases e : j = k
              · simp [e]
              · simp [e, show ¬ (j / 2 = k / 2) by omega]
            · simp [hn, show ¬ (j = k) by omega]
        · simp only [hm, if_false, T.get_node]
          by_cases h : j = 1
          · simp [h, show ¬ (1 = k) by omega]
          · simp only [h, if_false]
            by_cases hn : j % 2 = 0
            · simp [hn, show ¬ (j = k) by omega]
            · simp only [hn, if_false]
              rw [ih _ _ _ (by omega) h2' (by omega)]
              by_cases e : j = k
              · simp [e]
              · simp [e, show ¬ (j / 2 = k / 2) by omega]
    cases t with
    | leaf =>
      rw [T.setF_leaf, key .leaf .leaf none]
      simp [T.get_node, T.get_leaf]
    | node l v r => rw [T.setF_node]; exact key l r v

theorem lt_two_pow (k : Nat) : k < 2 ^ (k + 1) := Nat.lt_of_lt_of_le Nat.lt_two_pow_self (Nat.pow_le_pow_right (by omega) (by omega))
theorem T.at_put {α : Type} (t : T α) (k : Nat) (x : α) (j : Nat) : (t.put k x).at j = if j = k then some x else t.at j := by
  unfold T.put T.at
  rw [T.get_setF _ _ _ _ _ (by simp) (by have := lt_two_pow (k + 1); simpa using this) (by simp)]
  simp
theorem T.at_del {α : Type} (t : T α) (k : Nat) (j : Nat) : (t.del k).at j = if j = k then none else t.at j := by
  unfold T.del T.at
  rw [T.get_setF _ _ _ _ _ (by simp) (by have := lt_two_pow (k + 1); simpa using this) (by simp)]
  simp
theorem T.at_leaf {α : Type} (j : Nat) : (T.leaf : T α).at j = none := rfl

theorem at_putCells (vs : List AV) : ∀ (t : T AV) (i j : Nat), (putCells t i vs).at j = if i ≤ j ∧ j < i + vs.length then vs[j - i]? else t.at j := by
  induction vs with
  | nil => intro t i j; simp [putCells, show ¬ (i ≤ j ∧ j < i) by omega]
  | cons v vs ih =>
    intro t i j
    rw [putCells, ih, T.at_put]
    by_cases h : j = i
    · subst h; simp [show ¬ (j + 1 ≤ j) by omega]
    · by_cases h2 : i + 1 ≤ j ∧ j < i + 1 + vs.length
      · have h3 : i ≤ j ∧ j < i + (v :: vs).length := by simp; omega
        simp only [Nat.succ_eq_add_one, h2, h3, and_self, if_true]
        rw [show j - i = (j - (i + 1)) + 1 by omega]; simp
      · have h3 : ¬ (i ≤ j ∧ j < i + (v :: vs).length) := by simp; omega
        rw [if_neg (by simpa using h2), if_neg h3, if_neg h]

theorem getCells_some {t : T AV} : ∀ {n i : Nat} {vs : List AV}, getCells t i n = some vs → vs.length = n ∧ ∀ j, j < n → t.at (i + j) = vs[j]? := by
  intro n
  induction n with
  | zero => intro i vs h; simp [getCells] at h; subst h; simp
  | succ n ih =>
    intro i vs h
    simp only [getCells] at h
    split at h
    · cases h
    · rename_i v hv
      split at h
      · cases h
      · rename_i us hus
        cases h
        obtain ⟨h1, h2⟩ := ih hus
        refine ⟨by simp [h1], fun j hj => ?_⟩
        cases j with
        | zero => simpa using hv
        | succ j => rw [show i + (j + 1) = Nat.succ i + j by omega, h2 j (by omega)]; simp

/-! ## bytes -/
theorem natBytes_length : ∀ (l n : Nat), (natBytes l n).length = l := by
  intro l; induction l with
  | zero => intro n; rfl
  | succ l ih => intro n; simp [natBytes, ih]
theorem natBytes_bytesNat : ∀ (l : List UInt8), natBytes l.length (bytesNat l) = l := by
  intro l; induction l with
  | nil => rfl
  | cons b bs ih =>
    have h1 : (b.toNat + 256 * bytesNat bs) % 256 = b.toNat := by have := b.toNat_lt; omega
    have h2 : (b.toNat + 256 * bytesNat bs) / 256 = bytesNat bs := by have := b.toNat_lt; omega
    simp only [List.length_cons, natBytes, bytesNat, h1, h2, ih]
    simp
theorem natBytes_get : ∀ (l n i : Nat), i < l → (natBytes l n)[i]? = some (UInt8.ofNat (n / 256 ^ i % 256)) := by
  intro l; induction l with
  | zero => intro n i h; omega
  | succ l ih =>
    intro n i h
    cases i with
    | zero => simp [natBytes]
    | succ i =>
      simp only [natBytes, List.getElem?_cons_succ]
      rw [ih _ _ (by omega), Nat.div_div_eq_div_mul, Nat.pow_succ, Nat.mul_comm 256]
theorem natBytes_drop : ∀ (k l n : Nat), (natBytes l n).drop k = natBytes (l - k) (n / 256 ^ k) := by
  intro k l n
  apply List.ext_getElem?
  intro i
  rw [List.getElem?_drop]
  by_cases h : k + i < l
  · rw [natBytes_get _ _ _ h, natBytes_get _ _ _ (by omega), Nat.div_div_eq_div_mul, Nat.pow_add]
  · rw [List.getElem?_eq_none (by rw [natBytes_length]; omega), List.getElem?_eq_none (by rw [natBytes_length]; omega)]
theorem natBytes_take : ∀ (k l n : Nat), k ≤ l → (natBytes l n).take k = natBytes k n := by
  intro k l n hk
  apply List.ext_getElem?
  intro i
  by_cases h : i < k
  · rw [List.getElem?_take_of_lt h, natBytes_get _ _ _ h, natBytes_get _ _ _ (by omega)]
  · rw [List.getElem?_eq_none (by rw [List.length_take, natBytes_length]; omega), List.getElem?_eq_none (by rw [natBytes_length]; omega)]
theorem natBytes_mod : ∀ (l n : Nat), natBytes l (n % 256 ^ l) = natBytes l n := by
  intro l; induction l with
  | zero => intro n; rfl
  | succ l ih =>
    intro n
    simp only [natBytes]
    have h1 : n % 256 ^ (l + 1) % 256 = n % 256 := Nat.mod_mod_of_dvd _ ⟨256 ^ l, by rw [Nat.pow_succ, Nat.mul_comm]⟩
    have h2 : n % 256 ^ (l + 1) / 256 = n / 256 % 256 ^ l := by
      rw [Nat.pow_succ, Nat.mul_comm, Nat.mod_mul_right_div_self]
    rw [h1, h2, ih]
theorem natBytes_inj : ∀ (l n m : Nat), natBytes l n = natBytes l m → n % 256 ^ l = m % 256 ^ l := by
  intro l; induction l with
  | zero => intro n m _; simp [Nat.mod_one]
  | succ l ih =>
    intro n m h
    simp only [natBytes, List.cons.injEq] at h
    have h1 : n % 256 = m % 256 := by
      have := congrArg UInt8.toNat h.1
      simpa using this
    have h2 := ih _ _ h.2
    rw [Nat.pow_succ, Nat.mul_comm, Nat.mod_mul, Nat.mod_mul, h1, h2]
theorem natBytes_append : ∀ (l n l' n' : Nat), natBytes l n ++ natBytes l' n' = natBytes (l + l') (n % 256 ^ l + 256 ^ l * n') := by
  intro l; induction l with
  | zero => intro n l' n'; simp [natBytes, Nat.mod_one]
  | succ l ih =>
    intro n l' n'
    rw [show l + 1 + l' = (l + l') + 1 by omega]
    simp only [natBytes, List.cons_append, ih]
    have e : n % 256 ^ (l + 1) = n % 256 + 256 * (n / 256 % 256 ^ l) := by rw [Nat.pow_succ, Nat.mul_comm, Nat.mod_mul]
    have e2 : 256 ^ (l + 1) * n' = 256 * (256 ^ l * n') := by rw [Nat.pow_succ, Nat.mul_comm (256 ^ l), Nat.mul_assoc]
    have h1 : (n % 256 ^ (l + 1) + 256 ^ (l + 1) * n') % 256 = n % 256 := by rw [e, e2]; omega
    have h2 : (n % 256 ^ (l + 1) + 256 ^ (l + 1) * n') / 256 = n / 256 % 256 ^ l + 256 ^ l * n' := by rw [e, e2]; omega
    rw [h1, h2]
def bstr (l n : Nat) : ByteArray := ⟨⟨natBytes l n⟩⟩
theorem bstr_size (l n : Nat) : (bstr l n).size = l := by simp [bstr, ByteArray.size, natBytes_length]
theorem strEq_iff (l n l' n' : Nat) : strEq l n l' n' = decide (natBytes l n = natBytes l' n') := by
  unfold strEq
  rw [beq_dec, beq_dec]
  by_cases h : l = l'
  · subst h
    simp only [decide_true, Bool.true_and]
    congr 1
    apply propext
    constructor
    · intro h
      rw [← natBytes_mod l n, ← natBytes_mod l n']
      exact congrArg _ h
    · exact natBytes_inj l n n'
  · have : natBytes l n ≠ natBytes l' n' := fun e => h (by rw [← natBytes_length l n, e, natBytes_length])
    simp [h, this]
end Go.Hb

namespace Go.Hb

structure Loc where
  blk : Nat
  sh : Nat
  sz : Nat
/-- where the machine's blocks lie, and which blocks nobody writes -/
structure Emb where
  loc : Nat → Option Loc
  imm : Nat → Option (Array Value)
instance : CoeFun Emb (fun _ => Nat → Option Loc) := ⟨Emb.loc⟩
/-- without blocks -/
def Emb.p (E : Emb) : Emb := ⟨fun _ => none, E.imm⟩
def Emb.le (E E' : Emb) : Prop := (∀ b L, E b = some L → E' b = some L) ∧ ∀ k C, E.imm k = some C → E'.imm k = some C
theorem Emb.le.refl (E : Emb) : E.le E := ⟨fun _ _ h => h, fun _ _ h => h⟩
theorem Emb.le.trans {A B C : Emb} (h : A.le B) (k : B.le C) : A.le C := ⟨fun b L e => k.1 b L (h.1 b L e), fun b L e => k.2 b L (h.2 b L e)⟩
theorem Emb.le.pp {A B : Emb} (h : A.le B) : A.p.le B.p := ⟨fun _ _ e => e, h.2⟩
theorem Emb.p_le (A : Emb) : A.p.le A := ⟨fun b L e => by simp [Emb.p] at e, fun _ _ e => e⟩
theorem Emb.pp (A : Emb) : A.p.p = A.p := rfl
def Emb.put (E : Emb) (b : Nat) (L : Loc) : Emb := ⟨fun x => if x = b then some L else E x, E.imm⟩
theorem Emb.le_put {E : Emb} {b : Nat} {L : Loc} (h : E b = none) : E.le (E.put b L) := ⟨fun x M e => by
  simp only [Emb.put]; split
  · rename_i hx; subst hx; rw [h] at e; cases e
  · exact e, fun _ _ e => e⟩
/-- the cells of values, one behind the other -/
def flat (vs : List Value) : List Value := vs.flatMap fun v => v.cells.toList
/-- a value of so many cells, each of them one -/
def okE (e : Nat) (u : Value) : Prop := u.cells.size = e ∧ ∀ c ∈ u.cells.toList, c.oneCell' = true
/-- a slice that nobody writes -/
def ImmS (imm : Nat → Option (Array Value)) (e : Nat) (ex : Bool) (v : Value) (vs : List Value) : Prop :=
  (∀ u ∈ vs, okE e u) ∧ ((vs = [] ∧ ∃ a cap, v = .slice a 0 cap ∧ (a = none → cap = 0) ∧ (ex = true → cap = 0)) ∨
    ∃ k a cap C, v = .slice (some ⟨k, a, none⟩) vs.length cap ∧ imm k = some C ∧ vs.length ≤ cap ∧ (ex = true → cap = vs.length) ∧ ∀ j, j < vs.length * e → C[a + j]? = (flat vs)[j]?)
theorem ImmS.mono {imm imm' : Nat → Option (Array Value)} (h : ∀ k C, imm k = some C → imm' k = some C) {e : Nat} {ex : Bool} {v : Value} {vs : List Value} (r : ImmS imm e ex v vs) : ImmS imm' e ex v vs := by
  refine ⟨r.1, ?_⟩
  rcases r.2 with g | ⟨k, a, cap, C, h1, h2, h3⟩
  · exact .inl g
  · exact .inr ⟨k, a, cap, C, h1, h _ _ h2, h3⟩
theorem Emb.put_same (E : Emb) (b : Nat) (L : Loc) : E.put b L b = some L := by simp [Emb.put]
theorem Emb.put_ne (E : Emb) {b x : Nat} (L : Loc) (h : x ≠ b) : E.put b L x = E x := by simp [Emb.put, h]

mutual
def VR : Emb → AV → Value → Prop
  | _, .bool b, v => v = .bool b
  | _, .int k n, v => v = .int k n
  | _, .str l n, v => v = .string (bstr l n)
  | E, .ptr b o, v => ∃ L, E b = some L ∧ v = .pointer (some ⟨L.blk, L.sh + o, none⟩)
  | _, .nilp, v => v = .pointer none
  | E, .slice b o l c e x, v => ∃ L off cap, E b = some L ∧ v = .slice (some ⟨L.blk, off, none⟩) l cap ∧ l ≤ c ∧ c ≤ cap ∧ (x = true → cap = c) ∧ (cap ≠ 0 → off = L.sh + o) ∧ off + cap * e ≤ L.sz
  | _, .nils, v => v = .slice none 0 0
  | E, .map r, v => ∃ L, E r = some L ∧ v = .map (some L.blk)
  | _, .nilm, v => v = .map none
  | E, .func f fs cs, v => ∃ a b, v = .func (.func f) ⟨a⟩ ⟨b⟩ ∧ VRs E fs a ∧ VRs E cs b
  | E, .yield l, v => ∃ L, E l = some L ∧ v = .func (.yield L.blk) #[] #[]
  | E, .meth n r, v => ∃ u, v = .func (.method n) #[u] #[] ∧ VR E r u
  | E, .via t f pr r, v => ∃ u, v = .func (.via t #[] f pr) #[u] #[] ∧ VR E r u
  | _, .nilf, v => v = .nilFunc
  | E, .iface t a, v => ∃ u, v = .iface t u ∧ VR E a u
  | _, .nili, v => v = .nilIface
  | E, .agg vs, v => ∃ us, v = .agg ⟨us⟩ ∧ VRs E vs us
  | E, .tup vs, v => ∃ us, v = .tuple ⟨us⟩ ∧ VRs E vs us
  | E, .ilst e xs ex, v => ∃ vs, VRs E.p xs vs ∧ ImmS E.imm e ex v vs
  | E, .iptr cs, v => ∃ us, VRs E.p cs us ∧ ∃ k a C, v = .pointer (some ⟨k, a, none⟩) ∧ E.imm k = some C ∧ ∀ j, j < us.length → C[a + j]? = us[j]?
  | E, .gl b e off len ex, v => (len = 0 ∧ ∃ a, v = .slice a 0 0) ∨ ∃ L a cap, E b = some L ∧ v = .slice (some ⟨L.blk, a, none⟩) len cap ∧ len ≤ cap ∧ (ex = true → cap = len) ∧ (cap ≠ 0 → a = L.sh + off * e ∧ a + cap * e ≤ L.sz)
  | E, .ep b e i o, v => ∃ L, E b = some L ∧ v = .pointer (some ⟨L.blk, L.sh + (i * e + o), none⟩)
  | _, .val u, v => v = u
def VRs : Emb → List AV → List Value → Prop
  | _, [], us => us = []
  | E, a :: as, us => ∃ u us', us = u :: us' ∧ VR E a u ∧ VRs E as us'
end

mutual
theorem VR.mono0 : ∀ {E E' : Emb}, E.le E' → ∀ (a : AV) (v : Value), VR E a v → VR E' a v
  | _, _, _, .bool _, _, r => by simpa [VR] using r
  | _, _, _, .int _ _, _, r => by simpa [VR] using r
  | _, _, _, .str _ _, _, r => by simpa [VR] using r
  | _, _, h, .ptr _ _, _, r => by
    simp only [VR] at r ⊢; obtain ⟨L, h1, h2⟩ := r; exact ⟨L, h.1 _ _ h1, h2⟩
  | _, _, _, .nilp, _, r => by simpa [VR] using r
  | _, _, h, .slice _ _ _ _ _ _, _, r => by
    simp only [VR] at r ⊢; obtain ⟨L, off, cap, h1, h2⟩ := r; exact ⟨L, off, cap, h.1 _ _ h1, h2⟩
  | _, _, _, .nils, _, r => by simpa [VR] using r
  | _, _, h, .map _, _, r => by
    simp only [VR] at r ⊢; obtain ⟨L, h1, h2⟩ := r; exact ⟨L, h.1 _ _ h1, h2⟩
  | _, _, _, .nilm, _, r => by simpa [VR] using r
  | _, _, h, .func _ fs cs, _, r => by
    simp only [VR] at r ⊢; obtain ⟨a, b, h1, h2, h3⟩ := r; exact ⟨a, b, h1, VRs.mono0 h fs a h2, VRs.mono0 h cs b h3⟩
  | _, _, h, .yield _, _, r => by
    simp only [VR] at r ⊢; obtain ⟨L, h1, h2⟩ := r; exact ⟨L, h.1 _ _ h1, h2⟩
  | _, _, h, .meth _ a, _, r => by
    simp only [VR] at r ⊢; obtain ⟨u, h1, h2⟩ := r; exact ⟨u, h1, VR.mono0 h a u h2⟩
  | _, _, h, .via _ _ _ a, _, r => by
    simp only [VR] at r ⊢; obtain ⟨u, h1, h2⟩ := r; exact ⟨u, h1, VR.mono0 h a u h2⟩
  | _, _, _, .nilf, _, r => by simpa [VR] using r
  | _, _, h, .iface _ a, _, r => by
    simp only [VR] at r ⊢; obtain ⟨u, h1, h2⟩ := r; exact ⟨u, h1, VR.mono0 h a u h2⟩
  | _, _, _, .nili, _, r => by simpa [VR] using r
  | _, _, h, .agg vs, _, r => by
    simp only [VR] at r ⊢; obtain ⟨u, h1, h2⟩ := r; exact ⟨u, h1, VRs.mono0 h vs u h2⟩
  | _, _, h, .tup vs, _, r => by
    simp only [VR] at r ⊢; obtain ⟨u, h1, h2⟩ := r; exact ⟨u, h1, VRs.mono0 h vs u h2⟩
  | _, _, h, .ilst _ xs _, _, r => by
    simp only [VR] at r ⊢; obtain ⟨vs, h1, h2⟩ := r; exact ⟨vs, VRs.mono0 h.pp xs vs h1, h2.mono h.2⟩
  | _, _, h, .iptr cs, _, r => by
    simp only [VR] at r ⊢; obtain ⟨us, h1, k, a, C, h2, h3, h4⟩ := r; exact ⟨us, VRs.mono0 h.pp cs us h1, k, a, C, h2, h.2 _ _ h3, h4⟩
  | _, _, h, .gl _ _ _ _ _, _, r => by
    simp only [VR] at r ⊢
    rcases r with g | ⟨L, a, cap, h1, h2⟩
    · exact .inl g
    · exact .inr ⟨L, a, cap, h.1 _ _ h1, h2⟩
  | _, _, h, .ep _ _ _ _, _, r => by
    simp only [VR] at r ⊢; obtain ⟨L, h1, h2⟩ := r; exact ⟨L, h.1 _ _ h1, h2⟩
  | _, _, _, .val _, _, r => by simpa [VR] using r
theorem VRs.mono0 : ∀ {E E' : Emb}, E.le E' → ∀ (as : List AV) (vs : List Value), VRs E as vs → VRs E' as vs
  | _, _, _, [], _, r => by simpa [VRs] using r
  | _, _, h, a :: as, _, r => by
    simp only [VRs] at r ⊢; obtain ⟨u, us, h1, h2, h3⟩ := r; exact ⟨u, us, h1, VR.mono0 h a u h2, VRs.mono0 h as us h3⟩
end

theorem VR.mono {E E' : Emb} (h : E.le E') (a : AV) (v : Value) (r : VR E a v) : VR E' a v := VR.mono0 h a v r
theorem VRs.mono {E E' : Emb} (h : E.le E') (as : List AV) (vs : List Value) (r : VRs E as vs) : VRs E' as vs := VRs.mono0 h as vs r

theorem VRs.nil (E : Emb) : VRs E [] [] := by simp [VRs]
theorem VRs.cons {E : Emb} {a : AV} {v : Value} {as : List AV} {vs : List Value} (h : VR E a v) (k : VRs E as vs) : VRs E (a :: as) (v :: vs) := by
  simp only [VRs]; exact ⟨v, vs, rfl, h, k⟩
theorem VRs.nil_inv {E : Emb} {vs : List Value} (h : VRs E [] vs) : vs = [] := by simpa [VRs] using h
theorem VRs.cons_inv {E : Emb} {a : AV} {as : List AV} {vs : List Value} (h : VRs E (a :: as) vs) : ∃ u us, vs = u :: us ∧ VR E a u ∧ VRs E as us := by
  simpa [VRs] using h
theorem VRs.length {E : Emb} : ∀ {as : List AV} {vs : List Value}, VRs E as vs → vs.length = as.length
  | [], _, h => by rw [h.nil_inv]; rfl
  | _ :: _, _, h => by obtain ⟨u, us, rfl, _, h2⟩ := h.cons_inv; simp [h2.length]
theorem VRs.get {E : Emb} : ∀ {as : List AV} {vs : List Value}, VRs E as vs → ∀ (i : Nat) (a : AV), as[i]? = some a → ∃ v, vs[i]? = some v ∧ VR E a v
  | [], _, _, i, a, e => by simp at e
  | x :: xs, _, h, i, a, e => by
    obtain ⟨u, us, rfl, h1, h2⟩ := h.cons_inv
    cases i with
    | zero => simp at e; subst e; exact ⟨u, rfl, h1⟩
    | succ i => simp at e; obtain ⟨v, hv, hr⟩ := h2.get i a e; exact ⟨v, by simpa using hv, hr⟩
theorem VRs.of_get {E : Emb} : ∀ {as : List AV} {vs : List Value}, vs.length = as.length → (∀ (i : Nat) (a : AV), as[i]? = some a → ∃ v, vs[i]? = some v ∧ VR E a v) → VRs E as vs
  | [], vs, h, _ => by cases vs with | nil => exact VRs.nil E | cons _ _ => simp at h
  | x :: xs, vs, h, k => by
    cases vs with
    | nil => simp at h
    | cons u us =>
      obtain ⟨v, hv, hr⟩ := k 0 x rfl
      simp at hv; subst hv
      exact VRs.cons hr (VRs.of_get (by simpa using h) fun i a e => by
        obtain ⟨v, hv, hr⟩ := k (i + 1) a (by simpa using e); exact ⟨v, by simpa using hv, hr⟩)
theorem VRs.append {E : Emb} : ∀ {as bs : List AV} {us vs : List Value}, VRs E as us → VRs E bs vs → VRs E (as ++ bs) (us ++ vs)
  | [], _, _, _, h, k => by rw [h.nil_inv]; exact k
  | _ :: _, _, _, _, h, k => by obtain ⟨u, us, rfl, h1, h2⟩ := h.cons_inv; exact VRs.cons h1 (h2.append k)
theorem VRs.take {E : Emb} {as : List AV} {vs : List Value} (h : VRs E as vs) (n : Nat) : VRs E (as.take n) (vs.take n) := by
  refine VRs.of_get (by simp [h.length]) fun i a e => ?_
  rw [List.getElem?_take] at e ⊢
  split at e
  · rename_i hi; simp only [hi, if_true]; exact h.get i a e
  · cases e
theorem VRs.drop {E : Emb} {as : List AV} {vs : List Value} (h : VRs E as vs) (n : Nat) : VRs E (as.drop n) (vs.drop n) := by
  refine VRs.of_get (by simp [h.length]) fun i a e => ?_
  rw [List.getElem?_drop] at e ⊢
  exact h.get _ a e

theorem VR.cells {E : Emb} {a : AV} {v : Value} (h : VR E a v) : VRs E a.cells v.cells.toList := by
  cases a <;> simp only [VR] at h <;> simp only [AV.cells]
  case agg vs => obtain ⟨us, rfl, h⟩ := h; exact h
  case val u =>
    subst h
    induction v.cells.toList with
    | nil => exact VRs.nil E
    | cons c cs ih => exact VRs.cons (by simp [VR]) ih
  case ilst e xs ex =>
    obtain ⟨vs, h1, h2⟩ := h
    have hv : v.cells.toList = [v] := by rcases h2.2 with ⟨_, _, _, rfl, _⟩ | ⟨_, _, _, _, rfl, _⟩ <;> rfl
    rw [hv]
    exact VRs.cons (by simp only [VR]; exact ⟨vs, h1, h2⟩) (VRs.nil E)
  case iptr cs =>
    obtain ⟨us, h1, k, a, C, rfl, h2⟩ := h
    exact VRs.cons (by simp only [VR]; exact ⟨us, h1, k, a, C, rfl, h2⟩) (VRs.nil E)
  case gl b e off len ex =>
    have hv : v.cells.toList = [v] := by rcases h with ⟨_, _, rfl⟩ | ⟨_, _, _, _, rfl, _⟩ <;> rfl
    rw [hv]
    exact VRs.cons (by simp only [VR]; exact h) (VRs.nil E)
  all_goals (first
    | (subst h; exact VRs.cons (by simp [VR]) (VRs.nil E))
    | (obtain ⟨L, h1, rfl⟩ := h; exact VRs.cons (by simp only [VR]; exact ⟨L, h1, rfl⟩) (VRs.nil E))
    | (obtain ⟨L, off, cap, h1, rfl, h2⟩ := h; exact VRs.cons (by simp only [VR]; exact ⟨L, off, cap, h1, rfl, h2⟩) (VRs.nil E))
    | (obtain ⟨a, b, rfl, h2, h3⟩ := h; exact VRs.cons (by simp only [VR]; exact ⟨a, b, rfl, h2, h3⟩) (VRs.nil E))
    | (obtain ⟨u, rfl, h2⟩ := h; exact VRs.cons (by simp only [VR]; exact ⟨u, rfl, h2⟩) (VRs.nil E)))
theorem VR.one {E : Emb} {a : AV} {v : Value} (h : VR E a v) (ha : a.one = true) : v.oneCell' = true := by
  cases a <;> simp only [VR] at h <;> simp only [AV.one, Bool.false_eq_true] at ha
  case ilst e xs ex => obtain ⟨vs, h1, h2⟩ := h; rcases h2.2 with ⟨_, _, _, rfl, _⟩ | ⟨_, _, _, _, rfl, _⟩ <;> rfl
  case iptr cs => obtain ⟨us, h1, k, a, C, rfl, h2⟩ := h; rfl
  case gl b e off len ex => rcases h with ⟨_, _, rfl⟩ | ⟨_, _, _, _, rfl, _⟩ <;> rfl
  all_goals (first
    | (subst h; rfl)
    | (obtain ⟨L, h1, rfl⟩ := h; rfl)
    | (obtain ⟨L, off, cap, h1, rfl, h2⟩ := h; rfl)
    | (obtain ⟨a, b, rfl, h2, h3⟩ := h; rfl)
    | (obtain ⟨u, rfl, h2⟩ := h; rfl))

/-! ## constants -/
theorem ofCell_VR {v : Value} {a : AV} (h : ofCell v = some a) (E : Emb) : VR E a v := by
  unfold ofCell at h
  split at h <;> cases h <;> simp only [VR]
  · rename_i s
    have := natBytes_bytesNat s.data.toList
    simp only [Array.length_toList] at this
    simp only [bstr, this]
  · exact ⟨[], [], rfl, VRs.nil E, VRs.nil E⟩
theorem ofCells_VRs : ∀ {vs : List Value} {as : List AV}, ofCells vs = some as → ∀ E, VRs E as vs
  | [], _, h, E => by simp [ofCells] at h; subst h; exact VRs.nil E
  | v :: vs, _, h, E => by
    simp only [ofCells] at h
    split at h
    · rename_i a as h1 h2; cases h; exact VRs.cons (ofCell_VR h1 E) (ofCells_VRs h2 E)
    · cases h
theorem ofVal_VR {v : Value} {a : AV} (h : ofVal v = some a) (E : Emb) : VR E a v := by
  unfold ofVal at h
  split at h
  · split at h
    · rename_i l hl; cases h; simp only [VR]; exact ⟨_, rfl, ofCells_VRs hl E⟩
    · cases h
  · cases h; simp only [AV.undef, VR]; exact ⟨[], rfl, VRs.nil E⟩
  · split at h
    · rename_i a ha; cases h; simp only [VR]; exact ⟨_, rfl, ofCell_VR ha E⟩
    · cases h
  · exact ofCell_VR h E

/-! ## objects, the heap -/
def TR (E : Emb) (tm : T AV) (nt : Nat) (tmps : Array Value) : Prop :=
  tmps.size = nt ∧ ∀ t a, tm.at t = some a → ∃ v, tmps[t]? = some v ∧ VR E a v
theorem TR.mono {E E' : Emb} (h : E.le E') {tm : T AV} {nt : Nat} {tmps : Array Value} (r : TR E tm nt tmps) : TR E' tm nt tmps :=
  ⟨r.1, fun t a e => by obtain ⟨v, h1, h2⟩ := r.2 t a e; exact ⟨v, h1, h2.mono h⟩⟩
def ERs (E : Emb) : List (AV × AV × Nat) → List MapEntry → Prop
  | [], us => us = []
  | a :: as, us => ∃ u us', us = u :: us' ∧ VR E a.1 u.key ∧ VR E a.2.1 u.val ∧ u.born = a.2.2 ∧ ERs E as us'
theorem ERs.mono {E E' : Emb} (h : E.le E') : ∀ {as : List (AV × AV × Nat)} {us : List MapEntry}, ERs E as us → ERs E' as us
  | [], _, r => by simpa [ERs] using r
  | _ :: _, _, r => by
    simp only [ERs] at r ⊢; obtain ⟨u, us', h1, h2, h3, h4, h5⟩ := r; exact ⟨u, us', h1, h2.mono h, h3.mono h, h4, ERs.mono h h5⟩

def OR (E : Emb) (H : Array Obj) (L : Loc) : AObj → Prop
  | .cells t n _ _ => ∃ C elem, H[L.blk]? = some (.cells C elem (0, 0)) ∧ C.size = L.sz ∧ ∀ i a, t.at i = some a → i < n ∧ ∃ v, C[L.sh + i]? = some v ∧ VR E a v
  | .map es clock => ∃ ES : Array MapEntry, H[L.blk]? = some (.map ES clock) ∧ ERs E es ES.toList
  | .siter l n pos => H[L.blk]? = some (.stringIter (bstr l n) pos) ∧ L.sh = 0
  | .loop st pe fn tm nt ps as bd df => ∃ tmps Ld, H[L.blk]? = some (.loop { state := st, pending := pe, fn, tmps, params := ⟨ps⟩, assign := as, body := bd, defers := Ld.blk }) ∧ E df = some Ld ∧ TR E tm nt tmps
  | .defd taken => H[L.blk]? = some (.deferred (if taken then none else some []))
  | .miter m since seen last => ∃ Lm, H[L.blk]? = some (.mapIter (some Lm.blk) since ⟨seen⟩ last) ∧ E m = some Lm ∧ L.sh = 0
  | .lst e xs => ∃ C elem vs, H[L.blk]? = some (.cells C elem (0, 0)) ∧ C.size = L.sz ∧ VRs E xs vs ∧ (∀ u ∈ vs, okE e u) ∧ ∀ j, j < vs.length * e → C[L.sh + j]? = (flat vs)[j]?
theorem OR.mono {E E' : Emb} (h : E.le E') {H : Array Obj} {L : Loc} {o : AObj} (r : OR E H L o) : OR E' H L o := by
  cases o with
  | cells t n older sup =>
    obtain ⟨C, elem, h1, h2, h3⟩ := r
    exact ⟨C, elem, h1, h2, fun i a e => by obtain ⟨g1, v, g2, g3⟩ := h3 i a e; exact ⟨g1, v, g2, g3.mono h⟩⟩
  | map es clock => obtain ⟨ES, h1, h2⟩ := r; exact ⟨ES, h1, h2.mono h⟩
  | siter l n pos => exact r
  | loop st pe fn tm nt ps as bd df => obtain ⟨tmps, Ld, h1, h2, h3⟩ := r; exact ⟨tmps, Ld, h1, h.1 _ _ h2, h3.mono h⟩
  | defd t => exact r
  | lst e xs => obtain ⟨C, elem, vs, h1, h2, h3, h4⟩ := r; exact ⟨C, elem, vs, h1, h2, h3.mono h, h4⟩
  | miter m s l n => obtain ⟨Lm, h1, h2, h3⟩ := r; exact ⟨Lm, h1, h.1 _ _ h2, h3⟩
theorem OR.there {E : Emb} {H : Array Obj} {L : Loc} {o : AObj} (r : OR E H L o) : ∃ ob, H[L.blk]? = some ob := by
  cases o with
  | cells t n older sup => obtain ⟨C, elem, h1, _⟩ := r; exact ⟨_, h1⟩
  | map es clock => obtain ⟨ES, h1, _⟩ := r; exact ⟨_, h1⟩
  | siter l n pos => exact ⟨_, r.1⟩
  | loop st pe fn tm nt ps as bd df => obtain ⟨_, _, h1, _⟩ := r; exact ⟨_, h1⟩
  | defd t => exact ⟨_, r⟩
  | lst e xs => obtain ⟨C, elem, vs, h1, _⟩ := r; exact ⟨_, h1⟩
  | miter m s l n => obtain ⟨Lm, h1, _⟩ := r; exact ⟨_, h1⟩
theorem OR.lt {E : Emb} {H : Array Obj} {L : Loc} {o : AObj} (r : OR E H L o) : L.blk < H.size := by
  obtain ⟨ob, h⟩ := r.there; exact (Array.getElem?_eq_some_iff.1 h).1
theorem OR.heap {E : Emb} {H H' : Array Obj} {L : Loc} {o : AObj} (r : OR E H L o) (h : H'[L.blk]? = H[L.blk]?) : OR E H' L o := by
  cases o <;> simp only [OR, h] at r ⊢ <;> exact r

def olderOf : AObj → List Nat
  | .cells _ _ k _ => k
  | _ => []
def supOf : AObj → Bool
  | .cells _ _ _ s => s
  | _ => false
def nOf : AObj → Nat
  | .cells _ n _ _ => n
  | _ => 0
def Kin (b b' : Nat) (o o' : AObj) (L L' : Loc) : Prop := (b' ∈ olderOf o ∧ supOf o' = true ∧ L'.sh + nOf o' ≤ L.sh + nOf o) ∨ (b ∈ olderOf o' ∧ supOf o = true ∧ L.sh + nOf o ≤ L'.sh + nOf o')

/-- a list that has no place yet -/
def unloc : AObj → Bool
  | .lst _ [] => true
  | _ => false
structure Rel (E : Emb) (h : Hp) (H : Array Obj) : Prop where
  obj0 : ∀ b o, h.look b = some o → (unloc o = true ∧ E b = none) ∨ ∃ L, E b = some L ∧ OR E H L o
  kin : ∀ b b' o o' L L', h.look b = some o → h.look b' = some o' → E b = some L → E b' = some L' → L.blk = L'.blk → b ≠ b' → Kin b b' o o' L L'
  fresh : ∀ b, h.nb ≤ b → E b = none
  imm : ∀ k C, E.imm k = some C → ∃ e f, H[k]? = some (.cells C e f)
  apart : ∀ b o L, h.look b = some o → E b = some L → E.imm L.blk = none
  keys : ∀ b o, h.look b = some o → b < h.nb
theorem Rel.obj {E : Emb} {h : Hp} {H : Array Obj} (r : Rel E h H) (b : Nat) (o : AObj) (hb : h.look b = some o) (hu : unloc o = false := by rfl) : ∃ L, E b = some L ∧ OR E H L o := by
  rcases r.obj0 b o hb with ⟨h1, _⟩ | g
  · rw [hu] at h1; cases h1
  · exact g
theorem Rel.objL {E : Emb} {h : Hp} {H : Array Obj} (r : Rel E h H) {b : Nat} {o : AObj} (hb : h.look b = some o) {L : Loc} (hE : E b = some L) : OR E H L o := by
  rcases r.obj0 b o hb with ⟨_, h1⟩ | ⟨L', h1, h2⟩
  · rw [hE] at h1; cases h1
  · rw [hE] at h1; cases h1; exact h2
theorem Rel.immLt {E : Emb} {h : Hp} {H : Array Obj} (r : Rel E h H) {k : Nat} {C : Array Value} (hk : E.imm k = some C) : k < H.size := by
  obtain ⟨e, f, h1⟩ := r.imm k C hk
  exact (Array.getElem?_eq_some_iff.1 h1).1

/-- none of its cells is frozen -/
def noFrz : Obj → Bool
  | .cells _ _ f => f == (0, 0)
  | _ => true
theorem frozen_noFrz {w : World} {a : Addr} {ob : Obj} (h : w.heap[a.block]? = some ob) (hz : noFrz ob = true) : w.frozen? a = false := by
  unfold World.frozen?
  rw [h]
  cases ob with
  | cells c e f =>
    simp only [noFrz, beq_iff_eq] at hz
    subst hz
    simp
  | _ => rfl
theorem frozen_push (w : World) {ob : Obj} (hz : noFrz ob = true) (a : Addr) : ({ w with heap := w.heap.push ob } : World).frozen? a = w.frozen? a := by
  by_cases ha : a.block = w.heap.size
  · rw [frozen_noFrz (w := { w with heap := w.heap.push ob }) (ob := ob) (by rw [ha]; simp) hz]
    unfold World.frozen?
    rw [Array.getElem?_eq_none (by omega)]
  · unfold World.frozen?
    simp only [Array.getElem?_push, ha, if_false]
theorem frozen_set {w : World} {i : Nat} {ob ob' : Obj} (hi : w.heap[i]? = some ob) (h1 : noFrz ob = true) (h2 : noFrz ob' = true) (a : Addr) : ({ w with heap := w.heap.setIfInBounds i ob' } : World).frozen? a = w.frozen? a := by
  by_cases ha : i = a.block
  · subst ha
    have := (Array.getElem?_eq_some_iff.1 hi).1
    rw [frozen_noFrz (w := { w with heap := w.heap.setIfInBounds a.block ob' }) (ob := ob') (by simp [this]) h2, frozen_noFrz hi h1]
  · unfold World.frozen?
    simp only [Array.getElem?_setIfInBounds_ne ha]
theorem OR.noFrz {E : Emb} {H : Array Obj} {L : Loc} {o : AObj} (r : OR E H L o) : ∃ ob, H[L.blk]? = some ob ∧ Hb.noFrz ob = true := by
  cases o with
  | cells t n older sup => obtain ⟨C, elem, h1, _⟩ := r; exact ⟨_, h1, rfl⟩
  | map es clock => obtain ⟨ES, h1, _⟩ := r; exact ⟨_, h1, rfl⟩
  | siter l n pos => exact ⟨_, r.1, rfl⟩
  | loop st pe fn tm nt ps as bd df => obtain ⟨_, _, h1, _⟩ := r; exact ⟨_, h1, rfl⟩
  | defd t => exact ⟨_, r, rfl⟩
  | lst e xs => obtain ⟨C, elem, vs, h1, _⟩ := r; exact ⟨_, h1, rfl⟩
  | miter m s l n => obtain ⟨Lm, h1, _⟩ := r; exact ⟨_, h1, rfl⟩

structure Ext (E : Emb) (h : Hp) (w : World) (E' : Emb) (h' : Hp) (w' : World) : Prop where
  le : E.le E'
  size : w.heap.size ≤ w'.heap.size
  keep : ∀ i, i < w.heap.size → (∀ b o L, h.look b = some o → E b = some L → L.blk ≠ i) → w'.heap[i]? = w.heap[i]?
  own : ∀ b' o' L', h'.look b' = some o' → E' b' = some L' → L'.blk < w.heap.size → ∃ b o L, h.look b = some o ∧ E b = some L ∧ L.blk = L'.blk
  nb : h.nb ≤ h'.nb
  os : w'.os = w.os
  tape : w'.tape = w.tape
  output : w'.output = w.output
  low : ∀ b, b < h.nb → E' b = E b
  froz : ∀ a, w'.frozen? a = w.frozen? a
  immo : ∀ k C, E'.imm k = some C → k < w.heap.size → E.imm k = some C ∨ ∃ b o L, h.look b = some o ∧ E b = some L ∧ L.blk = k
  keys : ∀ b o, h'.look b = some o → b < h.nb → ∃ o0, h.look b = some o0

theorem Ext.refl (E : Emb) (h : Hp) (w : World) : Ext E h w E h w :=
  ⟨Emb.le.refl E, Nat.le_refl _, fun _ _ _ => rfl, fun b o L h1 h2 _ => ⟨b, o, L, h1, h2, rfl⟩, Nat.le_refl _, rfl, rfl, rfl, fun _ _ => rfl, fun _ => rfl, fun _ _ e _ => .inl e, fun _ o e _ => ⟨o, e⟩⟩
theorem Ext.trans {E1 E2 E3 : Emb} {h1 h2 h3 : Hp} {w1 w2 w3 : World} (a : Ext E1 h1 w1 E2 h2 w2) (b : Ext E2 h2 w2 E3 h3 w3) : Ext E1 h1 w1 E3 h3 w3 where
  le := a.le.trans b.le
  size := Nat.le_trans a.size b.size
  keep := fun i hi hn => by
    rw [b.keep i (Nat.lt_of_lt_of_le hi a.size) fun x o L hx hE hb => by
      subst hb
      obtain ⟨b0, o0, L0, g1, g2, g3⟩ := a.own x o L hx hE hi
      exact hn b0 o0 L0 g1 g2 g3]
    exact a.keep i hi hn
  own := fun x o L hx hE hlt => by
    obtain ⟨b2, o2, L2, g1, g2, g3⟩ := b.own x o L hx hE (Nat.lt_of_lt_of_le hlt a.size)
    obtain ⟨b1, o1, L1, k1, k2, k3⟩ := a.own b2 o2 L2 g1 g2 (by rw [g3]; exact hlt)
    exact ⟨b1, o1, L1, k1, k2, k3.trans g3⟩
  nb := Nat.le_trans a.nb b.nb
  os := b.os.trans a.os
  tape := b.tape.trans a.tape
  output := b.output.trans a.output
  low := fun x hx => (b.low x (Nat.lt_of_lt_of_le hx a.nb)).trans (a.low x hx)
  froz := fun x => (b.froz x).trans (a.froz x)
  immo := fun k C e hk => by
    rcases b.immo k C e (Nat.lt_of_lt_of_le hk a.size) with g | ⟨x, o, L, g1, g2, g3⟩
    · exact a.immo k C g hk
    · subst g3; exact .inr (a.own x o L g1 g2 hk)
  keys := fun x o e hx => by
    obtain ⟨o1, e1⟩ := b.keys x o e (Nat.lt_of_lt_of_le hx a.nb)
    exact a.keys x o1 e1 hx

/-! ## look -/
theorem look_set (h : Hp) (b : Nat) (o : AObj) (x : Nat) : (h.set b o).look x = if x = b then some o else h.look x := T.at_put _ _ _ _
theorem look_del (h : Hp) (b : Nat) (x : Nat) : (h.del b).look x = if x = b then none else h.look x := T.at_del _ _ _
theorem look_new (h : Hp) (o : AObj) (x : Nat) : (h.new o).look x = if x = h.nb then some o else h.look x := T.at_put _ _ _ _
theorem nb_new (h : Hp) (o : AObj) : (h.new o).nb = h.nb + 1 := rfl
theorem nb_set (h : Hp) (b : Nat) (o : AObj) : (h.set b o).nb = h.nb := rfl
theorem nb_del (h : Hp) (b : Nat) : (h.del b).nb = h.nb := rfl
theorem look_delAll : ∀ (bs : List Nat) (h : Hp) (x : Nat), (h.delAll bs).look x = if x ∈ bs then none else h.look x
  | [], h, x => by simp [Hp.delAll]
  | b :: bs, h, x => by
    rw [Hp.delAll, look_delAll bs, look_del]
    by_cases h1 : x ∈ bs
    · simp [h1]
    · by_cases h2 : x = b <;> simp [h1, h2]
theorem nb_delAll : ∀ (bs : List Nat) (h : Hp), (h.delAll bs).nb = h.nb
  | [], _ => rfl
  | b :: bs, h => by rw [Hp.delAll, nb_delAll bs]; rfl

/-- what is forgotten is forgotten -/
theorem Rel.sub {E : Emb} {h h' : Hp} {H : Array Obj} (r : Rel E h H) (hs : ∀ b o, h'.look b = some o → h.look b = some o) (hn : h.nb ≤ h'.nb) : Rel E h' H where
  obj0 := fun b o e => r.obj0 b o (hs b o e)
  imm := r.imm
  apart := fun b o L e => r.apart b o L (hs _ _ e)
  keys := fun b o e => Nat.lt_of_lt_of_le (r.keys b o (hs _ _ e)) hn
  kin := fun b b' o o' L L' e e' => r.kin b b' o o' L L' (hs _ _ e) (hs _ _ e')
  fresh := fun b e => r.fresh b (Nat.le_trans hn e)

theorem Rel.lt {E : Emb} {h : Hp} {H : Array Obj} (r : Rel E h H) {b : Nat} {o : AObj} {L : Loc} (hb : h.look b = some o) (hE : E b = some L) : L.blk < H.size := by
  exact (r.objL hb hE).lt
theorem Rel.nb_gt {E : Emb} {h : Hp} {H : Array Obj} (r : Rel E h H) {b : Nat} {L : Loc} (hE : E b = some L) : b < h.nb := by
  rcases Nat.lt_or_ge b h.nb with g | g
  · exact g
  · rw [r.fresh b g] at hE; cases hE

/-- a new block -/
theorem Rel.new {E : Emb} {h : Hp} {w : World} (r : Rel E h w.heap) (o : AObj) (ob : Obj) (sz : Nat)
    (ho : ∀ (E' : Emb) (H' : Array Obj), E.le E' → E' h.nb = some ⟨w.heap.size, 0, sz⟩ → H'[w.heap.size]? = some ob → OR E' H' ⟨w.heap.size, 0, sz⟩ o)  (hz : noFrz ob = true := by rfl) :
    Rel (E.put h.nb ⟨w.heap.size, 0, sz⟩) (h.new o) (w.heap.push ob) ∧ Ext E h w (E.put h.nb ⟨w.heap.size, 0, sz⟩) (h.new o) { w with heap := w.heap.push ob } := by
  have hf : E h.nb = none := r.fresh _ (Nat.le_refl _)
  have hle : E.le (E.put h.nb ⟨w.heap.size, 0, sz⟩) := Emb.le_put hf
  have hold : ∀ {i}, i < w.heap.size → (w.heap.push ob)[i]? = w.heap[i]? := fun hi => by rw [Array.getElem?_push, if_neg (by omega)]
  refine ⟨⟨?_, ?_, ?_, ?_, ?_, fun b o' e => by
    rw [look_new] at e; rw [nb_new]; split at e
    · omega
    · have := r.keys b o' e; omega⟩, ⟨hle, by simp, fun i hi _ => hold hi, ?_, by simp [nb_new], rfl, rfl, rfl, fun x hx => Emb.put_ne _ _ (by omega), frozen_push w hz, fun _ _ e _ => .inl e, fun b o' e hb => by
    rw [look_new, if_neg (by omega)] at e; exact ⟨o', e⟩⟩⟩
  · intro b o' e
    rw [look_new] at e
    split at e
    · rename_i hb; cases e; subst hb
      exact .inr ⟨_, Emb.put_same _ _ _, ho _ _ hle (Emb.put_same _ _ _) (by rw [Array.getElem?_push]; simp)⟩
    · rename_i hb
      rcases r.obj0 b o' e with ⟨u1, u2⟩ | ⟨L, g1, g2⟩
      · exact .inl ⟨u1, by rw [Emb.put_ne _ _ hb]; exact u2⟩
      exact .inr ⟨L, by rw [Emb.put_ne _ _ hb]; exact g1, (g2.mono hle).heap (hold g2.lt)⟩
  · intro b b' o1 o2 L L' e e' k k' hbl hne
    rw [look_new] at e e'
    by_cases h1 : b = h.nb
    · subst h1
      rw [Emb.put_same] at k; cases k
      have hb' : b' ≠ h.nb := fun e => hne e.symm
      rw [if_neg hb'] at e'
      rw [Emb.put_ne _ _ hb'] at k'
      have := r.lt e' k'
      rw [← hbl] at this
      exact absurd this (Nat.lt_irrefl _)
    · rw [if_neg h1] at e
      rw [Emb.put_ne _ _ h1] at k
      by_cases h2 : b' = h.nb
      · subst h2
        rw [Emb.put_same] at k'; cases k'
        have := r.lt e k
        rw [hbl] at this
        exact absurd this (Nat.lt_irrefl _)
      · rw [if_neg h2] at e'
        rw [Emb.put_ne _ _ h2] at k'
        exact r.kin b b' o1 o2 L L' e e' k k' hbl hne
  · intro b e
    rw [nb_new] at e
    rw [Emb.put_ne _ _ (by omega)]
    exact r.fresh b (by omega)
  · intro k C e
    obtain ⟨e1, f1, g⟩ := r.imm k C e
    exact ⟨e1, f1, by rw [hold (Array.getElem?_eq_some_iff.1 g).1]; exact g⟩
  · intro b o' L e k
    show E.imm L.blk = none
    rw [look_new] at e
    by_cases hb : b = h.nb
    · subst hb; rw [Emb.put_same] at k; cases k
      cases hi : E.imm w.heap.size with
      | none => rfl
      | some C => exact absurd (r.immLt hi) (Nat.lt_irrefl _)
    · rw [if_neg hb] at e
      rw [Emb.put_ne _ _ hb] at k
      exact r.apart b o' L e k
  · intro b' o' L' e k hlt
    rw [look_new] at e
    by_cases hb : b' = h.nb
    · subst hb; rw [Emb.put_same] at k; cases k; exact absurd hlt (Nat.lt_irrefl _)
    · rw [if_neg hb] at e
      rw [Emb.put_ne _ _ hb] at k
      exact ⟨b', o', L', e, k, rfl⟩

/-- one object turned: it is no cells, so none is of its kin; the new one is none either -/
theorem Rel.setObj {E : Emb} {h : Hp} {w : World} (r : Rel E h w.heap) {b : Nat} {L : Loc} {o o' : AObj} (ob : Obj)
    (hb : h.look b = some o) (hE : E b = some L) (hn : olderOf o = []) (hs : supOf o = false)
    (ho : ∀ H' : Array Obj, H'[L.blk]? = some ob → OR E H' L o')  (hz : noFrz ob = true := by rfl) :
    Rel E (h.set b o') (w.heap.setIfInBounds L.blk ob) ∧ Ext E h w E (h.set b o') { w with heap := w.heap.setIfInBounds L.blk ob } := by
  have hlt := r.lt hb hE
  have apart : ∀ {x ox Lx}, h.look x = some ox → E x = some Lx → x ≠ b → Lx.blk ≠ L.blk := fun hx hEx hne hbl => by
    rcases r.kin _ _ _ _ _ _ hx hb hEx hE hbl hne with ⟨_, h2, _⟩ | ⟨h1, _⟩
    · rw [hs] at h2; cases h2
    · rw [hn] at h1; cases h1
  have hks : ∀ x ox, (h.set b o').look x = some ox → ∃ o0, h.look x = some o0 := fun x ox e => by
    rw [look_set] at e; split at e
    · rename_i hx; subst hx; exact ⟨o, hb⟩
    · exact ⟨ox, e⟩
  refine ⟨⟨?_, ?_, fun x e => r.fresh x e, ?_, ?_, fun x ox e => by obtain ⟨o0, e0⟩ := hks x ox e; exact r.keys x o0 e0⟩, ⟨Emb.le.refl E, by simp, ?_, ?_, Nat.le_refl _, rfl, rfl, rfl, fun _ _ => rfl, fun a => by obtain ⟨ob0, k1, k2⟩ := (r.objL hb hE).noFrz; exact frozen_set k1 k2 hz a, fun _ _ e _ => .inl e, fun x ox e _ => hks x ox e⟩⟩
  · intro x ox e
    rw [look_set] at e
    split at e
    · rename_i hx; cases e; subst hx
      exact .inr ⟨L, hE, ho _ (by simp [hlt])⟩
    · rename_i hx
      rcases r.obj0 x ox e with u | ⟨Lx, g1, g2⟩
      · exact .inl u
      exact .inr ⟨Lx, g1, g2.heap (by rw [Array.getElem?_setIfInBounds_ne (apart e g1 hx).symm])⟩
  · intro x y ox oy Lx Ly ex ey kx ky hbl hne
    rw [look_set] at ex ey
    by_cases h1 : x = b
    · subst h1
      have h2 : y ≠ x := fun e => hne e.symm
      rw [if_neg h2] at ey
      rw [hE] at kx; cases kx
      exact absurd hbl.symm (apart ey ky h2)
    · rw [if_neg h1] at ex
      by_cases h2 : y = b
      · subst h2
        rw [hE] at ky; cases ky
        exact absurd hbl (apart ex kx h1)
      · rw [if_neg h2] at ey
        exact r.kin x y ox oy Lx Ly ex ey kx ky hbl hne
  · intro k C e
    obtain ⟨e1, f1, g⟩ := r.imm k C e
    have hk : L.blk ≠ k := fun hh => by rw [hh.symm, r.apart b o L hb hE] at e; cases e
    exact ⟨e1, f1, by rw [Array.getElem?_setIfInBounds_ne hk]; exact g⟩
  · intro x ox Lx ex kx
    rw [look_set] at ex
    by_cases h1 : x = b
    · subst h1; exact r.apart x o Lx hb kx
    · rw [if_neg h1] at ex; exact r.apart x ox Lx ex kx
  · intro i hi hno
    rw [Array.getElem?_setIfInBounds_ne (hno b o L hb hE)]
  · intro x ox Lx ex kx _
    rw [look_set] at ex
    by_cases h1 : x = b
    · subst h1; rw [hE] at kx; cases kx; exact ⟨x, o, L, hb, hE, rfl⟩
    · rw [if_neg h1] at ex; exact ⟨x, ox, Lx, ex, kx, rfl⟩
theorem Rel.imm_put {E : Emb} {h : Hp} {H : Array Obj} (r : Rel E h H) {b : Nat} {o : AObj} {L : Loc} (hb : h.look b = some o) (hE : E b = some L) (ob : Obj) :
    ∀ k C, E.imm k = some C → ∃ e f, (H.setIfInBounds L.blk ob)[k]? = some (.cells C e f) := fun k C e => by
  obtain ⟨e1, f1, g⟩ := r.imm k C e
  have hk : L.blk ≠ k := fun hh => by rw [hh.symm, r.apart b o L hb hE] at e; cases e
  exact ⟨e1, f1, by rw [Array.getElem?_setIfInBounds_ne hk]; exact g⟩
end Go.Hb

namespace Go.Hb
variable {P : Program}

/-! ## cells, concretely -/
def over (C : Array Value) (k : Nat) : List Value → Array Value
  | [] => C
  | v :: vs => over (C.setIfInBounds k v) (k + 1) vs
theorem over_size : ∀ (vs : List Value) (C : Array Value) (k : Nat), (over C k vs).size = C.size
  | [], _, _ => rfl
  | v :: vs, C, k => by rw [over, over_size vs]; simp
theorem over_get : ∀ (vs : List Value) (C : Array Value) (k j : Nat), k + vs.length ≤ C.size → (over C k vs)[j]? = if k ≤ j ∧ j < k + vs.length then vs[j - k]? else C[j]?
  | [], C, k, j, _ => by simp [over, show ¬ (k ≤ j ∧ j < k) by omega]
  | v :: vs, C, k, j, h => by
    simp only [List.length_cons] at h ⊢
    rw [over, over_get vs _ _ _ (by simp; omega)]
    by_cases h1 : k + 1 ≤ j ∧ j < k + 1 + vs.length
    · have h2 : k ≤ j ∧ j < k + (vs.length + 1) := by omega
      rw [if_pos h1, if_pos h2, show j - k = (j - (k + 1)) + 1 by omega]; simp
    · rw [if_neg h1]
      by_cases h3 : j = k
      · subst h3
        have h2 : j ≤ j ∧ j < j + (vs.length + 1) := by omega
        have h4 : j < C.size := by omega
        rw [if_pos h2]; simp [h4]
      · have h2 : ¬ (k ≤ j ∧ j < k + (vs.length + 1)) := by omega
        rw [if_neg h2, Array.getElem?_setIfInBounds_ne (by omega)]

def putBlk (w : World) (b : Nat) (o : Obj) : World := { w with heap := w.heap.setIfInBounds b o }
theorem putBlk_same {w : World} {b : Nat} {o : Obj} (h : w.heap[b]? = some o) : putBlk w b o = w := by
  unfold putBlk
  have : w.heap.setIfInBounds b o = w.heap := by
    apply Array.ext_getElem?; intro i
    by_cases e : b = i
    · subst e
      have := (Array.getElem?_eq_some_iff.1 h).1
      simp [this]
      have h2 := (Array.getElem?_eq_some_iff.1 h).2
      exact h2.symm
    · rw [Array.getElem?_setIfInBounds_ne e]
  rw [this]
theorem cell_of {w : World} {b : Nat} {C : Array Value} {e : TypeId} {f : Nat × Nat} (h : w.heap[b]? = some (.cells C e f)) (k : Nat) : w.cell? ⟨b, k, none⟩ = C[k]? := by
  simp [World.cell?, h]
theorem frozen_of {w : World} {b : Nat} {C : Array Value} {e : TypeId} (h : w.heap[b]? = some (.cells C e (0, 0))) (k : Nat) : w.frozen? ⟨b, k, none⟩ = false := by
  simp [World.frozen?, h]
theorem setCell_of {w : World} {b : Nat} {C : Array Value} {e : TypeId} {f : Nat × Nat} (h : w.heap[b]? = some (.cells C e f)) (k : Nat) (v : Value) :
    w.setCell ⟨b, k, none⟩ v = putBlk w b (.cells (C.setIfInBounds k v) e f) := by
  unfold World.setCell putBlk
  refine congrArg (fun H => ({ w with heap := H } : World)) ?_
  apply Array.ext_getElem?; intro i
  rw [Array.getElem?_modify]
  by_cases hi : b = i
  · subst hi
    have h1 := (Array.getElem?_eq_some_iff.1 h).1
    have h2 := (Array.getElem?_eq_some_iff.1 h).2
    simp [h1, h2]
  · rw [if_neg hi, Array.getElem?_setIfInBounds_ne hi]
theorem putBlk_get {w : World} {b : Nat} {o o' : Obj} (h : w.heap[b]? = some o) : (putBlk w b o').heap[b]? = some o' := by
  have := (Array.getElem?_eq_some_iff.1 h).1
  simp [putBlk, this]
theorem putBlk_putBlk (w : World) (b : Nat) (o o' : Obj) : putBlk (putBlk w b o) b o' = putBlk w b o' := by
  simp only [putBlk]
  congr 1
  apply Array.ext_getElem?; intro i
  by_cases e : b = i
  · subst e
    by_cases h : b < w.heap.size <;> simp [h]
  · rw [Array.getElem?_setIfInBounds_ne e, Array.getElem?_setIfInBounds_ne e, Array.getElem?_setIfInBounds_ne e]

theorem add_none (b k n : Nat) : (⟨b, k, none⟩ : Addr).add n = ⟨b, k + n, none⟩ := by
  unfold Addr.add; split
  · rename_i h; subst h; rfl
  · rfl

theorem run_storeCells (vs : List Value) : ∀ {w : World} {b k i : Nat} {C : Array Value} {e : TypeId}, w.heap[b]? = some (.cells C e (0, 0)) → k + i + vs.length ≤ C.size →
    (∀ v ∈ vs, v.oneCell' = true) → (storeCells ⟨b, k, none⟩ vs i).run P w = .ok () (putBlk w b (.cells (over C (k + i) vs) e (0, 0))) := by
  induction vs with
  | nil => intro w b k i C e h _ _; simp [storeCells, over, putBlk_same h]
  | cons v vs ih =>
    intro w b k i C e h hl hv
    simp only [List.length_cons] at hl
    have hc : w.cell? ⟨b, k + i, none⟩ = some (C[k + i]'(by omega)) := by rw [cell_of h]; simp
    have hh := putBlk_get (o' := .cells (C.setIfInBounds (k + i) v) e (0, 0)) h
    have := ih (w := putBlk w b (.cells (C.setIfInBounds (k + i) v) e (0, 0))) (b := b) (k := k) (i := i + 1) hh (by simp; omega) (fun x hx => hv x (List.mem_cons_of_mem _ hx))
    rw [putBlk_putBlk] at this
    simp only [storeCells, Sem.run_bind, add_none, run_store P w _ v .plain (hv v (List.mem_cons_self ..)), hc, frozen_of h, setCell_of h]
    simpa [over, Nat.add_assoc] using this

theorem run_loadCellsFrom (n : Nat) : ∀ {w : World} {b k i : Nat} {C : Array Value} {e : TypeId} {f : Nat × Nat} (acc us : List Value), w.heap[b]? = some (.cells C e f) → us.length = n →
    (∀ j, j < n → C[k + i + j]? = us[j]?) → (loadCellsFrom ⟨b, k, none⟩ i n ⟨acc⟩).run P w = .ok ⟨acc ++ us⟩ w := by
  induction n with
  | zero => intro w b k i C e f acc us _ hl _; have : us = [] := List.length_eq_zero_iff.1 hl; subst this; simp [loadCellsFrom]
  | succ n ih =>
    intro w b k i C e f acc us h hl hj
    cases us with
    | nil => simp at hl
    | cons u us =>
      have h0 := hj 0 (by omega)
      simp at h0
      have := ih (w := w) (b := b) (k := k) (i := i + 1) (C := C) (e := e) (f := f) (acc ++ [u]) us h (by simpa using hl) (fun j hjn => by
        have := hj (j + 1) (by omega)
        rw [show k + (i + 1) + j = k + i + (j + 1) by omega, this]; simp)
      simp only [loadCellsFrom, Sem.run_bind, add_none, run_load, cell_of h, h0]
      simpa using this
theorem run_loadCells {n : Nat} {w : World} {b k : Nat} {C : Array Value} {e : TypeId} {f : Nat × Nat} (us : List Value) (h : w.heap[b]? = some (.cells C e f)) (hl : us.length = n)
    (hj : ∀ j, j < n → C[k + j]? = us[j]?) : (loadCells ⟨b, k, none⟩ n).run P w = .ok ⟨us⟩ w := by
  have := run_loadCellsFrom (P := P) n (w := w) (b := b) (k := k) (i := 0) [] us h hl (by simpa using hj)
  simpa [loadCells] using this

/-! ## the heap's own loads and stores -/
theorem load1_some {E : Emb} {h : Hp} {w : World} (r : Rel E h w.heap) {b off : Nat} {a : AV} (hl : h.load1 b off = some a) {L : Loc} (hE : E b = some L) :
    ∃ v, w.cell? ⟨L.blk, L.sh + off, none⟩ = some v ∧ VR E a v := by
  unfold Hp.load1 at hl
  split at hl
  · rename_i t n k s hk
    obtain ⟨L', g1, C, e, g2, g3, g4⟩ := r.obj _ _ hk
    rw [hE] at g1; cases g1
    obtain ⟨_, v, k1, k2⟩ := g4 _ _ hl
    exact ⟨v, by rw [cell_of g2]; exact k1, k2⟩
  · cases hl
theorem loadN_some' {E : Emb} {h : Hp} {w : World} (r : Rel E h w.heap) {b off n : Nat} {as : List AV} (hl : h.loadN b off n = some as) {L : Loc} (hE : E b = some L) :
    ∃ us, (∀ P (w1 : World), w1.heap = w.heap → (loadCells ⟨L.blk, L.sh + off, none⟩ n).run P w1 = .ok ⟨us⟩ w1) ∧ VRs E as us ∧ us.length = n := by
  unfold Hp.loadN at hl
  split at hl
  · rename_i t m k s hk
    obtain ⟨L', g1, C, e, g2, g3, g4⟩ := r.obj _ _ hk
    rw [hE] at g1; cases g1
    obtain ⟨hlen, hget⟩ := getCells_some hl
    have hc : ∀ j, j < n → ∃ v, C[L.sh + off + j]? = some v ∧ ∀ a, as[j]? = some a → VR E a v := fun j hj => by
      have e1 := hget j hj
      have e2 : as[j]? = some (as[j]'(by omega)) := by simp
      rw [e2] at e1
      obtain ⟨_, v, k1, k2⟩ := g4 _ _ e1
      exact ⟨v, by rw [Nat.add_assoc]; exact k1, fun a ha => by rw [e2] at ha; cases ha; exact k2⟩
    have hsz : L.sh + off + n ≤ C.size ∨ n = 0 := by
      by_cases h0 : n = 0
      · exact .inr h0
      · obtain ⟨v, k1, _⟩ := hc (n - 1) (by omega)
        have := (Array.getElem?_eq_some_iff.1 k1).1
        exact .inl (by omega)
    refine ⟨(C.extract (L.sh + off) (L.sh + off + n)).toList, fun P w1 hw1 => run_loadCells _ (by rw [hw1]; exact g2) (by simp; omega) (fun j hj => ?_), VRs.of_get (by simp; omega) (fun i a ha => ?_), by simp; omega⟩
    · rw [Array.getElem?_toList, Array.getElem?_extract]
      rw [if_pos (by rcases hsz with h | h <;> omega)]
    · have hi : i < n := by have := (List.getElem?_eq_some_iff.1 ha).1; omega
      obtain ⟨v, k1, k2⟩ := hc i hi
      refine ⟨v, ?_, k2 a ha⟩
      rw [Array.getElem?_toList, Array.getElem?_extract, if_pos (by rcases hsz with h | h <;> omega)]
      exact k1
  · cases hl

theorem loadN_some {E : Emb} {h : Hp} {w : World} (r : Rel E h w.heap) {b off n : Nat} {as : List AV} (hl : h.loadN b off n = some as) {L : Loc} (hE : E b = some L) :
    ∃ us, (∀ P, (loadCells ⟨L.blk, L.sh + off, none⟩ n).run P w = .ok ⟨us⟩ w) ∧ VRs E as us ∧ us.length = n := by
  obtain ⟨us, h1, h2⟩ := loadN_some' r hl hE
  exact ⟨us, fun P => h1 P w rfl, h2⟩

theorem VRs.ones {E : Emb} {as : List AV} {vs : List Value} (h : VRs E as vs) (ho : allOne as = true) : ∀ v ∈ vs, v.oneCell' = true := by
  induction as generalizing vs with
  | nil => rw [h.nil_inv]; intro v hv; cases hv
  | cons a as ih =>
    obtain ⟨u, us, rfl, h1, h2⟩ := h.cons_inv
    simp only [allOne, Bool.and_eq_true] at ho
    intro v hv
    cases hv with
    | head => exact h1.one ho.1
    | tail _ hv => exact ih h2 ho.2 v hv

/-- cells are written over a block of cells: the newest of its kin -/
theorem Rel.write {E : Emb} {h : Hp} {w : World} (r : Rel E h w.heap) {b off : Nat} {t : T AV} {n : Nat} {older : List Nat} (hb : h.look b = some (.cells t n older false)) {L : Loc} (hE : E b = some L)
    {as : List AV} {vs : List Value} (hv : VRs E as vs) (ho : allOne as = true) (n' : Nat) (hn : n ≤ n') (hn2 : as ≠ [] → off + as.length ≤ n') (hfit : L.sh + off + as.length ≤ L.sz) :
    ∃ w', (∀ P, (storeCells ⟨L.blk, L.sh + off, none⟩ vs).run P w = .ok () w') ∧ Rel E ((h.delAll older).set b (.cells (putCells t off as) n' [] false)) w'.heap ∧
      Ext E h w E ((h.delAll older).set b (.cells (putCells t off as) n' [] false)) w' := by
  obtain ⟨L', g1, C, e, g2, g3, g4⟩ := r.obj _ _ hb
  rw [hE] at g1; cases g1
  have hvl := hv.length
  have hlt := (Array.getElem?_eq_some_iff.1 g2).1
  have apart : ∀ {x ox Lx}, h.look x = some ox → E x = some Lx → x ≠ b → x ∉ older → Lx.blk ≠ L.blk := fun hx hEx hne hno hbl => by
    rcases r.kin _ _ _ _ _ _ hx hb hEx hE hbl hne with ⟨_, h2, _⟩ | ⟨h1, _⟩
    · cases h2
    · exact hno h1
  have hks : ∀ x ox, ((h.delAll older).set b (.cells (putCells t off as) n' [] false)).look x = some ox → ∃ o0, h.look x = some o0 := fun x ox e => by
    rw [look_set] at e; split at e
    · rename_i hx; subst hx; exact ⟨_, hb⟩
    · rw [look_delAll] at e; split at e
      · cases e
      · exact ⟨ox, e⟩
  refine ⟨putBlk w L.blk (.cells (over C (L.sh + off) vs) e (0, 0)), fun P => ?_, ⟨?_, ?_, fun x hx => r.fresh x (by simpa [nb_set, nb_delAll] using hx), r.imm_put hb hE _, ?_, fun x ox e => by obtain ⟨o0, e0⟩ := hks x ox e; have := r.keys x o0 e0; simpa [nb_set, nb_delAll] using this⟩, ⟨Emb.le.refl E, by simp [putBlk], ?_, ?_, by simp [nb_set, nb_delAll], rfl, rfl, rfl, fun _ _ => rfl, frozen_set g2 rfl rfl, fun _ _ e _ => .inl e, fun x ox e _ => hks x ox e⟩⟩
  · have := run_storeCells (P := P) vs (w := w) (b := L.blk) (k := L.sh + off) (i := 0) g2 (by omega) (hv.ones ho)
    simpa using this
  · intro x ox ex
    rw [look_set] at ex
    split at ex
    · rename_i hx; cases ex; subst hx
      refine .inr ⟨L, hE, over C (L.sh + off) vs, e, putBlk_get g2, by rw [over_size]; exact g3, fun i a ha => ?_⟩
      rw [at_putCells] at ha
      by_cases hi : off ≤ i ∧ i < off + as.length
      · rw [if_pos hi] at ha
        obtain ⟨v, k1, k2⟩ := hv.get _ _ ha
        refine ⟨by have := hn2 (by intro e; subst e; simp at hi; omega); omega, v, ?_, k2⟩
        rw [over_get _ _ _ _ (by omega), if_pos (by omega), show L.sh + i - (L.sh + off) = i - off by omega]
        exact k1
      · rw [if_neg hi] at ha
        obtain ⟨k0, v, k1, k2⟩ := g4 _ _ ha
        refine ⟨by omega, v, ?_, k2⟩
        rw [over_get _ _ _ _ (by omega), if_neg (by omega)]
        exact k1
    · rename_i hx
      rw [look_delAll] at ex
      split at ex
      · cases ex
      · rename_i hno
        rcases r.obj0 x ox ex with u | ⟨Lx, k1, k2⟩
        · exact .inl u
        exact .inr ⟨Lx, k1, k2.heap (by simp only [putBlk]; rw [Array.getElem?_setIfInBounds_ne (apart ex k1 hx hno).symm])⟩
  · intro x y ox oy Lx Ly ex ey kx ky hbl hne
    rw [look_set] at ex ey
    by_cases h1 : x = b
    · subst h1
      have h2 : y ≠ x := fun e => hne e.symm
      rw [if_neg h2, look_delAll] at ey
      split at ey
      · cases ey
      · rename_i hno
        rw [hE] at kx; cases kx
        exact absurd hbl.symm (apart ey ky h2 hno)
    · rw [if_neg h1, look_delAll] at ex
      split at ex
      · cases ex
      · rename_i hnox
        by_cases h2 : y = b
        · subst h2
          rw [hE] at ky; cases ky
          exact absurd hbl (apart ex kx h1 hnox)
        · rw [if_neg h2, look_delAll] at ey
          split at ey
          · cases ey
          · exact r.kin x y ox oy Lx Ly ex ey kx ky hbl hne
  · intro x ox Lx ex kx
    rw [look_set] at ex
    by_cases h1 : x = b
    · subst h1; exact r.apart x _ Lx hb kx
    · rw [if_neg h1, look_delAll] at ex
      split at ex
      · cases ex
      · exact r.apart x ox Lx ex kx
  · intro i hi hno
    simp only [putBlk]
    rw [Array.getElem?_setIfInBounds_ne (hno b _ L hb hE)]
  · intro x ox Lx ex kx _
    rw [look_set] at ex
    by_cases h1 : x = b
    · subst h1; rw [hE] at kx; cases kx; exact ⟨x, _, L, hb, hE, rfl⟩
    · rw [if_neg h1, look_delAll] at ex
      split at ex
      · cases ex
      · exact ⟨x, ox, Lx, ex, kx, rfl⟩

theorem storeN_some {E : Emb} {h h' : Hp} {w : World} (r : Rel E h w.heap) {b off : Nat} {as : List AV} {vs : List Value} (hs : h.storeN b off as = some h') (hv : VRs E as vs) {L : Loc} (hE : E b = some L) :
    ∃ w', (∀ P, (storeCells ⟨L.blk, L.sh + off, none⟩ vs).run P w = .ok () w') ∧ Rel E h' w'.heap ∧ Ext E h w E h' w' := by
  unfold Hp.storeN at hs
  split at hs
  · rename_i t n older hk
    split at hs
    · cases hs
    · rename_i old hold
      cases ho : allOne as with
      | false => rw [ho] at hs; cases hs
      | true =>
        rw [ho] at hs
        simp only [cond] at hs
        cases hs
        obtain ⟨L', g1, C, e, g2, g3, g4⟩ := r.obj _ _ hk
        rw [hE] at g1; cases g1
        obtain ⟨hlen, hget⟩ := getCells_some hold
        have hend : as ≠ [] → off + as.length ≤ n ∧ L.sh + off + as.length ≤ L.sz := fun hne => by
          have hpos : 0 < as.length := List.length_pos_iff.2 hne
          have e1 := hget (as.length - 1) (by omega)
          have e2 : old[as.length - 1]? = some (old[as.length - 1]'(by omega)) := by simp
          rw [e2] at e1
          obtain ⟨k0, v, k1, _⟩ := g4 _ _ e1
          have := (Array.getElem?_eq_some_iff.1 k1).1
          omega
        by_cases hne : as = []
        · subst hne
          rw [hv.nil_inv]
          -- nothing is written: forget the older ones
          have hx : L.sh ≤ L.sz ∨ True := .inr trivial
          have hks : ∀ x ox, ((h.delAll older).set b (.cells (putCells t off []) n [] false)).look x = some ox → ∃ o0, h.look x = some o0 := fun x ox e => by
            rw [look_set] at e; split at e
            · rename_i hx; subst hx; exact ⟨_, hk⟩
            · rw [look_delAll] at e; split at e
              · cases e
              · exact ⟨ox, e⟩
          refine ⟨w, fun P => rfl, ⟨?_, ?_, fun x hx => r.fresh x (by simpa [nb_set, nb_delAll] using hx), r.imm, ?_, fun x ox e => by obtain ⟨o0, e0⟩ := hks x ox e; have := r.keys x o0 e0; simpa [nb_set, nb_delAll] using this⟩, ⟨Emb.le.refl E, Nat.le_refl _, fun _ _ _ => rfl, ?_, by simp [nb_set, nb_delAll], rfl, rfl, rfl, fun _ _ => rfl, fun _ => rfl, fun _ _ e _ => .inl e, fun x ox e _ => hks x ox e⟩⟩
          · intro x ox ex
            rw [look_set] at ex
            split at ex
            · rename_i hx; cases ex; subst hx; exact .inr ⟨L, hE, C, e, g2, g3, g4⟩
            · rw [look_delAll] at ex
              split at ex
              · cases ex
              · exact r.obj0 x ox ex
          · intro x y ox oy Lx Ly ex ey kx ky hbl hne
            rw [look_set] at ex ey
            by_cases h1 : x = b
            · subst h1
              have h2 : y ≠ x := fun e => hne e.symm
              rw [if_neg h2, look_delAll] at ey
              split at ey
              · cases ey
              · rename_i hno
                rcases r.kin _ _ _ _ _ _ hk ey kx ky hbl hne with ⟨k1, _⟩ | ⟨_, k2, _⟩
                · exact absurd k1 hno
                · cases k2
            · rw [if_neg h1, look_delAll] at ex
              split at ex
              · cases ex
              · rename_i hnox
                by_cases h2 : y = b
                · subst h2
                  rcases r.kin _ _ _ _ _ _ ex hk kx ky hbl hne with ⟨_, k2, _⟩ | ⟨k1, _⟩
                  · cases k2
                  · exact absurd k1 hnox
                · rw [if_neg h2, look_delAll] at ey
                  split at ey
                  · cases ey
                  · exact r.kin x y ox oy Lx Ly ex ey kx ky hbl hne
          · intro x ox Lx ex kx
            rw [look_set] at ex
            by_cases h1 : x = b
            · subst h1; exact r.apart x _ Lx hk kx
            · rw [if_neg h1, look_delAll] at ex
              split at ex
              · cases ex
              · exact r.apart x ox Lx ex kx
          · intro x ox Lx ex kx _
            rw [look_set] at ex
            by_cases h1 : x = b
            · subst h1; exact ⟨x, _, Lx, hk, kx, rfl⟩
            · rw [if_neg h1, look_delAll] at ex
              split at ex
              · cases ex
              · exact ⟨x, ox, Lx, ex, kx, rfl⟩
        · have := hend hne
          exact r.write hk hE hv ho n (Nat.le_refl _) (fun _ => this.1) this.2
  · cases hs
end Go.Hb

namespace Go.Hb
variable {P : Program}

def DR (E : Emb) : ADef → Deferred → Prop
  | .fn f args, d => ∃ cap a, d = { target := .fn (.func f) ⟨cap⟩, args := ⟨a⟩ } ∧ VRs E args (a ++ cap)
  | .col r, d => ∃ L, E r = some L ∧ d = { target := .collected L.blk, args := #[] }
theorem DR.mono {E E' : Emb} (h : E.le E') {a : ADef} {d : Deferred} (r : DR E a d) : DR E' a d := by
  cases a with
  | fn f args => obtain ⟨cap, a, h1, h2⟩ := r; exact ⟨cap, a, h1, h2.mono h⟩
  | col r' => obtain ⟨L, h1, h2⟩ := r; exact ⟨L, h.1 _ _ h1, h2⟩

def Out (P : Program) (E : Emb) (h : Hp) (w : World) (r : Result Next) : AOut → Prop
  | .val v h' => ∃ E' w' cv, (r = .ok (.value cv) w' ∨ (r = .ok .skip w' ∧ cv = Go.undef)) ∧ VR E' v cv ∧ Rel E' h' w'.heap ∧ Ext E h w E' h' w'
  | .call (.enter f args) => ∃ cargs, r = .ok (.enter f ⟨cargs⟩) w ∧ VRs E args cargs
  | .call (.round l args) => ∃ cargs L, E l = some L ∧ VRs E args cargs ∧ r = (Instr.yield L.blk ⟨cargs⟩).run P w
  | .defer d => ∃ cd, r = .ok (.defer cd) w ∧ DR E d cd
  | .panic v => ∃ cv, r = .halt (.panic cv) w ∧ VR E v cv
  | .recover => r = .ok .recover w

section
variable {E : Emb} {h h' : Hp} {w w' : World} {v : AV} {cv : Value}

theorem out_pure (r : Rel E h w.heap) {s : Sem Value} (hs : s.run P w = .ok cv w) (hv : VR E v cv) :
    Out P E h w ((do pure (Next.value (← s)) : Sem Next).run P w) (.val v h) :=
  ⟨E, w, cv, .inl (by simp [hs]), hv, r, Ext.refl E h w⟩
theorem out_val {E' : Emb} {s : Sem Value} (hs : s.run P w = .ok cv w') (hv : VR E' v cv) (r : Rel E' h' w'.heap) (x : Ext E h w E' h' w') :
    Out P E h w ((do pure (Next.value (← s)) : Sem Next).run P w) (.val v h') :=
  ⟨E', w', cv, .inl (by simp [hs]), hv, r, x⟩
theorem VR_undef (E : Emb) : VR E .undef Go.undef := by simp only [AV.undef, VR]; exact ⟨[], rfl, VRs.nil E⟩
theorem out_skip {E' : Emb} {s : Sem Unit} (hs : s.run P w = .ok () w') (r : Rel E' h' w'.heap) (x : Ext E h w E' h' w') :
    Out P E h w ((do s; pure Next.skip : Sem Next).run P w) (.val .undef h') :=
  ⟨E', w', Go.undef, .inr ⟨by simp [hs], rfl⟩, VR_undef E', r, x⟩

theorem run_und {t : TypeId} {d : TypeDesc} (hu : P.underlying t = some d) : (underlying t).run P w = .ok d w := by
  simp [underlying, hu]
theorem run_tinfo {t : TypeId} {i : TypeInfo} (hi : P.info? t = some i) : (typeInfo t).run P w = .ok i w := by
  simp [typeInfo, hi]
theorem run_size {t : TypeId} {n : Nat} (hn : sizeOfT P t = some n) : (sizeOf t).run P w = .ok n w := by
  unfold sizeOfT at hn
  cases hi : P.info? t with
  | none => rw [hi] at hn; cases hn
  | some i => rw [hi] at hn; cases hn; simp [sizeOf, run_tinfo hi]
theorem run_zero {t : TypeId} {a : AV} (hz : zeroOf P t = some a) : ∃ z, (∀ w, (zeroValue t).run P w = .ok z w) ∧ ∀ E, VR E a z := by
  unfold zeroOf at hz
  cases hi : P.info? t with
  | none => rw [hi] at hz; cases hz
  | some i =>
    rw [hi] at hz
    simp only at hz
    cases hz' : i.zero with
    | none => rw [hz'] at hz; cases hz
    | some z => rw [hz'] at hz; exact ⟨z, fun w => by simp [zeroValue, run_tinfo hi, hz'], fun E => ofVal_VR hz E⟩
theorem run_agg {t : TypeId} {d : TypeDesc} (hu : P.underlying t = some d) : (isAgg t).run P w = .ok (isAggD d) w := by
  cases d <;> simp [isAgg, run_und hu, isAggD]

/-! ### reading operands -/
variable {tm : T AV} {ρ : Operand → Value}
def Reads (E : Emb) (tm : T AV) (ρ : Operand → Value) (S : Operand → Prop) : Prop := ∀ x, S x → ∀ a, aeval tm x = some a → VR E a (ρ x)
theorem Reads.sub {S S' : Operand → Prop} (hρ : Reads E tm ρ S) (h : ∀ x, S' x → S x) : Reads E tm ρ S' := fun x hx a ha => hρ x (h x hx) a ha
theorem Reads.list {S : Operand → Prop} (hρ : Reads E tm ρ S) : ∀ {xs : List Operand} {as : List AV}, (∀ x ∈ xs, S x) → aevals tm xs = some as → VRs E as (xs.map ρ)
  | [], _, _, e => by simp [aevals] at e; subst e; exact VRs.nil E
  | x :: xs, _, hx, e => by
    simp only [aevals] at e
    split at e
    · rename_i v vs h1 h2; cases e; exact VRs.cons (hρ _ (hx _ (List.mem_cons_self ..)) _ h1) (hρ.list (fun y hy => hx y (List.mem_cons_of_mem _ hy)) h2)
    · cases e
theorem Reads.parts {S : Operand → Prop} (hρ : Reads E tm ρ S) : ∀ {xs : List (Nat × Operand)} {as : List (Nat × AV)}, (∀ p ∈ xs, S p.2) → aparts tm xs = some as →
    as.map (·.1) = xs.map (·.1) ∧ VRs E (as.map (·.2)) (xs.map fun p => ρ p.2)
  | [], _, _, e => by simp [aparts] at e; subst e; exact ⟨rfl, VRs.nil E⟩
  | (i, x) :: xs, _, hx, e => by
    simp only [aparts] at e
    split at e
    · rename_i v vs h1 h2
      cases e
      obtain ⟨g1, g2⟩ := hρ.parts (fun y hy => hx y (List.mem_cons_of_mem _ hy)) h2
      exact ⟨by simp [g1], VRs.cons (hρ _ (hx (i, x) (List.mem_cons_self ..)) _ h1) g2⟩
    · cases e
/-- it leaves the world alone -/
def OutQ (P : Program) (E : Emb) (h : Hp) (w : World) (r : Result Next) : AOut → Prop
  | .val v h' => h' = h ∧ ∃ cv, r = .ok (.value cv) w ∧ VR E v cv
  | _ => False
theorem both_pure {Q : Prop} (r : Rel E h w.heap) {s : Sem Value} (hs : s.run P w = .ok cv w) (hv : VR E v cv) :
    Out P E h w ((do pure (Next.value (← s)) : Sem Next).run P w) (.val v h) ∧ (Q → OutQ P E h w ((do pure (Next.value (← s)) : Sem Next).run P w) (.val v h)) :=
  ⟨out_pure r hs hv, fun _ => ⟨rfl, cv, by simp [hs], hv⟩⟩
theorem nq {A B Q : Prop} (hq : ¬ Q) (hA : A) : A ∧ (Q → B) := ⟨hA, fun h => absurd h hq⟩

/-! ### load, store -/
theorem aload_sound (r : Rel E h w.heap) {t : TypeId} {b off : Nat} {a : AV} (hl : aload P h t b off = some a) {L : Loc} (hE : E b = some L) :
    ∃ cv, (loadVar t ⟨L.blk, L.sh + off, none⟩).run P w = .ok cv w ∧ VR E a cv := by
  unfold aload at hl
  split at hl
  · cases hl
  · rename_i d hd
    cases hg : isAggD d with
    | true =>
      rw [hg] at hl
      simp only [cond] at hl
      split at hl
      · cases hl
      · rename_i n hn
        split at hl
        · rename_i vs hvs
          cases hl
          obtain ⟨us, h1, h2, _⟩ := loadN_some r hvs hE
          exact ⟨.agg ⟨us⟩, by simp [loadVar, run_agg hd, hg, run_size hn, h1 P], by simp only [VR]; exact ⟨us, rfl, h2⟩⟩
        · cases hl
    | false =>
      rw [hg] at hl
      simp only [cond] at hl
      obtain ⟨v, h1, h2⟩ := load1_some r hl hE
      exact ⟨v, by simp [loadVar, run_agg hd, hg, h1], h2⟩
theorem astore_sound (r : Rel E h w.heap) {t : TypeId} {b off : Nat} {a : AV} (hs : astore P h t b off a = some h') {L : Loc} (hE : E b = some L) (hv : VR E a cv) :
    ∃ w', (storeVar t ⟨L.blk, L.sh + off, none⟩ cv).run P w = .ok () w' ∧ Rel E h' w'.heap ∧ Ext E h w E h' w' := by
  unfold astore at hs
  split at hs
  · cases hs
  · rename_i n hn
    cases hc : Nat.beq a.cells.length n with
    | false => rw [hc] at hs; cases hs
    | true =>
      rw [hc] at hs
      simp only [cond] at hs
      have hlen := Nat.eq_of_beq_eq_true hc
      obtain ⟨w', h1, h2, h3⟩ := storeN_some r hs hv.cells hE
      have hcl : cv.cells.size = n := by rw [← hlen, ← hv.cells.length]; simp
      exact ⟨w', by simp [storeVar, run_size hn, hcl, h1 P], h2, h3⟩

/-! ### a new block of cells -/
theorem OR_cells_of {E' : Emb} {H' : Array Obj} {b : Nat} {as : List AV} {vs : List Value} {C : Array Value} {e : TypeId} (hC : ∃ rest, C.toList = vs ++ rest) (hv : VRs E' as vs) (hH : H'[b]? = some (.cells C e (0, 0))) (t : T AV) (ht : ∀ i, t.at i = if i < as.length then as[i]? else none) (n : Nat) (hn : as.length ≤ n) (k : List Nat) (s : Bool) :
    OR E' H' ⟨b, 0, C.size⟩ (.cells t n k s) := by
  refine ⟨C, e, hH, rfl, fun i a ha => ?_⟩
  rw [ht] at ha
  split at ha
  · rename_i hi
    obtain ⟨v, h1, h2⟩ := hv.get _ _ ha
    obtain ⟨rest, hr⟩ := hC
    refine ⟨by omega, v, ?_, h2⟩
    simp only [Nat.zero_add]
    rw [← Array.getElem?_toList, hr, List.getElem?_append_left (by rw [hv.length]; exact hi)]
    exact h1
  · cases ha
theorem at_put_leaf (as : List AV) (i : Nat) : (putCells .leaf 0 as).at i = if i < as.length then as[i]? else none := by
  rw [at_putCells, T.at_leaf]
  by_cases h : i < as.length
  · rw [if_pos (by omega), if_pos h]; simp
  · rw [if_neg (by omega), if_neg h]
/-- a new row of cells, of which the first are known -/
theorem newCells_sound (r : Rel E h w.heap) {as : List AV} {vs : List Value} (hv : VRs E as vs) (e : TypeId) (rest : List Value) :
    Rel (E.put h.nb ⟨w.heap.size, 0, (vs ++ rest).length⟩) (h.newCells as) (w.heap.push (.cells ⟨vs ++ rest⟩ e)) ∧
      Ext E h w (E.put h.nb ⟨w.heap.size, 0, (vs ++ rest).length⟩) (h.newCells as) { w with heap := w.heap.push (.cells ⟨vs ++ rest⟩ e) } :=
  r.new _ (.cells ⟨vs ++ rest⟩ e) _ (fun _ _ hle _ hH => OR_cells_of (C := ⟨vs ++ rest⟩) ⟨rest, rfl⟩ (hv.mono hle) hH _ (at_put_leaf as) _ (Nat.le_refl _) _ _)
theorem newCells_sound0 (r : Rel E h w.heap) {as : List AV} {vs : List Value} (hv : VRs E as vs) (e : TypeId) :
    Rel (E.put h.nb ⟨w.heap.size, 0, vs.length⟩) (h.newCells as) (w.heap.push (.cells ⟨vs⟩ e)) ∧
      Ext E h w (E.put h.nb ⟨w.heap.size, 0, vs.length⟩) (h.newCells as) { w with heap := w.heap.push (.cells ⟨vs⟩ e) } := by
  have := newCells_sound r hv e []
  simpa using this
theorem VR_newptr (w : World) (h : Hp) (n : Nat) : VR (E.put h.nb ⟨w.heap.size, 0, n⟩) (.ptr h.nb 0) (.pointer (some ⟨w.heap.size, 0, none⟩)) := by
  simp only [VR]; exact ⟨_, Emb.put_same _ _ _, rfl⟩
theorem VR_newslice (w : World) (h : Hp) (n l c e cap : Nat) (x : Bool) (h1 : l ≤ c) (h2 : c ≤ cap) (h3 : x = true → cap = c) (h4 : cap * e ≤ n) :
    VR (E.put h.nb ⟨w.heap.size, 0, n⟩) (.slice h.nb 0 l c e x) (.slice (some ⟨w.heap.size, 0, none⟩) l cap) := by
  simp only [VR]; exact ⟨_, 0, cap, Emb.put_same _ _ _, rfl, h1, h2, h3, fun _ => rfl, by simpa using h4⟩

/-! ### numbers -/
theorem asInt_run (k : IntKind) (n : Int) : (asInt (.int k n)).run P w = .ok n w := by simp [asInt, asIntOf]
theorem aintOp_sound {op : BinOp} {k : IntKind} {a b : Int} {v : AV} (hv : aintOp op k a b = some v) (t : TypeId) (hs : op ≠ .shl) (hr : op ≠ .shr) :
    ∃ cv, (binOp op t (.int k a) (.int k b)).run P w = .ok cv w ∧ VR E v cv := by
  unfold aintOp at hv
  cases op <;> simp only at hv <;> first
    | (cases hv; refine ⟨_, by simp [binOp, Op.intArith, Op.intCmp, Op.intBits]; rfl, by simp [VR, wrapK]⟩)
    | (split at hv
       · cases hv
       · rename_i hb; cases hv; refine ⟨_, by simp [binOp, Op.intDiv, hb]; rfl, by simp [VR, wrapK]⟩)
    | (exact absurd rfl hs) | (exact absurd rfl hr) | (cases hv)
end
end Go.Hb

namespace Go.Hb
variable {P : Program} {E : Emb} {h h' : Hp} {w w' : World}

theorem bstr_toList (l n : Nat) : (bstr l n).toList = natBytes l n := by rw [ByteArray.toList_eq]; rfl
theorem bstr_ext {a b : ByteArray} (h : a.data.toList = b.data.toList) : a = b := by
  cases a; cases b; simp at h; simp [h]
theorem bstr_append (l n l' n' : Nat) : bstr l n ++ bstr l' n' = bstr (l + l') (n % 256 ^ l + 256 ^ l * n') := by
  apply bstr_ext
  simp [bstr, natBytes_append]
theorem bstr_extract (l n a b : Nat) (h1 : a ≤ b) (h2 : b ≤ l) : (bstr l n).extract a b = bstr (b - a) (n / 256 ^ a) := by
  rw [Lib.extract_eq]
  apply bstr_ext
  simp only [bstr]
  rw [natBytes_drop, natBytes_take _ _ _ (by omega)]

theorem astrOp_sound {op : BinOp} {l n l' n' : Nat} {v : AV} (hv : astrOp op l n l' n' = some v) (t : TypeId) :
    ∃ cv, (binOp op t (.string (bstr l n)) (.string (bstr l' n'))).run P w = .ok cv w ∧ VR E v cv := by
  unfold astrOp at hv
  cases op <;> simp only at hv <;> try (cases hv; done)
  · cases hb : Nat.ble (l + l') 1000000000 with
    | false => rw [hb] at hv; cases hv
    | true =>
      rw [hb] at hv; simp only [cond] at hv; cases hv
      have hle := Nat.le_of_ble_eq_true hb
      refine ⟨.string (bstr l n ++ bstr l' n'), ?_, by rw [bstr_append]; simp only [VR]; rfl⟩
      have : ¬ (((bstr l n).size + (bstr l' n').size : Nat) : Int) > IntKind.i64.max := by
        rw [bstr_size, bstr_size]; simp [IntKind.max, IntKind.signed, IntKind.bits]; omega
      simp only [binOp, Op.stringOp, this, if_false]; rfl
  · cases hv
    refine ⟨_, by simp only [binOp, Op.stringOp, bstr_toList]; rfl, ?_⟩
    simp only [VR, strEq_iff]; congr 1; simp [Bool.beq_eq_decide_eq]
  · cases hv
    refine ⟨_, by simp only [binOp, Op.stringOp, bstr_toList]; rfl, ?_⟩
    simp only [VR, strEq_iff]; congr 1; simp [Bool.beq_eq_decide_eq]
  · cases hv
    refine ⟨_, by simp only [binOp, Op.stringOp, bstr_toList]; rfl, ?_⟩
    simp only [VR]
  · cases hv
    refine ⟨_, by simp only [binOp, Op.stringOp, bstr_toList]; rfl, ?_⟩
    simp only [VR]

theorem aeq_soundN (d : Nat) {t : TypeId} {x y : AV} {cx cy : Value} {b : Bool} (he : aeq P t x y = some b) (hx : VR E x cx) (hy : VR E y cy) :
    (Op.equalIn (d + 1) t cx cy).run P w = .ok b w := by
  unfold aeq at he
  split at he <;> cases he <;> simp only [VR] at hx hy <;> rename_i hu
  · subst hx hy; simp [Op.equalIn, run_und hu]
  · subst hx hy; simp [Op.equalIn, run_und hu]
  · obtain ⟨L, _, rfl⟩ := hy; subst hx; simp [Op.equalIn, run_und hu]
  · obtain ⟨L, _, rfl⟩ := hx; subst hy; simp [Op.equalIn, run_und hu]
  · obtain ⟨u, rfl, _⟩ := hy; subst hx; simp [Op.equalIn, run_und hu]
  · obtain ⟨u, rfl, _⟩ := hx; subst hy; simp [Op.equalIn, run_und hu]
  · subst hx hy; simp [Op.equalIn, run_und hu]
  · obtain ⟨a, b, rfl, _⟩ := hy; subst hx; simp [Op.equalIn, run_und hu]
  · obtain ⟨a, b, rfl, _⟩ := hx; subst hy; simp [Op.equalIn, run_und hu]
  · subst hx hy; simp [Op.equalIn, run_und hu]
  · obtain ⟨L, off, cap, _, rfl, _⟩ := hy; subst hx; simp [Op.equalIn, run_und hu]
  · obtain ⟨L, off, cap, _, rfl, _⟩ := hx; subst hy; simp [Op.equalIn, run_und hu]

theorem aeq_sound {t : TypeId} {x y : AV} {cx cy : Value} {b : Bool} (he : aeq P t x y = some b) (hx : VR E x cx) (hy : VR E y cy) :
    (Op.equal t cx cy).run P w = .ok b w := aeq_soundN 9999 he hx hy
theorem equal_nil (d : Nat) {t : TypeId} {ms : Array (String × TypeId)} (hu : P.underlying t = some (.interface ms)) : (Op.equalIn (d + 1) t .nilIface .nilIface).run P w = .ok true w := by
  simp [Op.equalIn, run_und hu]

theorem aeq_shape {t : TypeId} {x y : AV} {cx cy : Value} {b : Bool} (he : aeq P t x y = some b) (hx : VR E x cx) (hy : VR E y cy) (X Y : Operand) (op : BinOp) :
    (eqGuard op t X Y cx cy).run P w = .ok () w ∧ (op = .eql → binOp op t cx cy = (do pure (.bool (← Op.equal t cx cy)))) ∧ (op = .neq → binOp op t cx cy = (do pure (.bool (!(← Op.equal t cx cy))))) := by
  unfold aeq at he
  split at he <;> cases he <;> simp only [VR] at hx hy <;> rename_i hu
  all_goals (first
    | (subst hx hy; refine ⟨?_, fun h => by subst h; simp [binOp], fun h => by subst h; simp [binOp]⟩; cases op <;> simp [eqGuard])
    | (obtain ⟨L, _, rfl⟩ := hy; subst hx; refine ⟨?_, fun h => by subst h; simp [binOp], fun h => by subst h; simp [binOp]⟩; cases op <;> simp [eqGuard])
    | (obtain ⟨L, _, rfl⟩ := hx; subst hy; refine ⟨?_, fun h => by subst h; simp [binOp], fun h => by subst h; simp [binOp]⟩; cases op <;> simp [eqGuard])
    | (obtain ⟨u, rfl, _⟩ := hy; subst hx; refine ⟨?_, fun h => by subst h; simp [binOp], fun h => by subst h; simp [binOp]⟩; cases op <;> simp [eqGuard])
    | (obtain ⟨u, rfl, _⟩ := hx; subst hy; refine ⟨?_, fun h => by subst h; simp [binOp], fun h => by subst h; simp [binOp]⟩; cases op <;> simp [eqGuard])
    | (obtain ⟨a, b, rfl, _⟩ := hy; subst hx; refine ⟨?_, fun h => by subst h; simp [binOp], fun h => by subst h; simp [binOp]⟩; cases op <;> simp [eqGuard])
    | (obtain ⟨a, b, rfl, _⟩ := hx; subst hy; refine ⟨?_, fun h => by subst h; simp [binOp], fun h => by subst h; simp [binOp]⟩; cases op <;> simp [eqGuard])
    | (obtain ⟨L, off, cap, _, rfl, _⟩ := hy; subst hx; refine ⟨?_, fun h => by subst h; simp [binOp], fun h => by subst h; simp [binOp]⟩; cases op <;> simp [eqGuard])
    | (obtain ⟨L, off, cap, _, rfl, _⟩ := hx; subst hy; refine ⟨?_, fun h => by subst h; simp [binOp], fun h => by subst h; simp [binOp]⟩; cases op <;> simp [eqGuard]))

theorem eqGuard_int (op : BinOp) (t : TypeId) (X Y : Operand) (k k' : IntKind) (a b : Int) : (eqGuard op t X Y (.int k a) (.int k' b)).run P w = .ok () w := by
  cases op <;> simp [eqGuard]
theorem eqGuard_str (op : BinOp) (t : TypeId) (X Y : Operand) (a b : ByteArray) : (eqGuard op t X Y (.string a) (.string b)).run P w = .ok () w := by
  cases op <;> simp [eqGuard]
theorem abin_sound {op : BinOp} {t : TypeId} {x y : AV} {cx cy : Value} {v : AV} (X Y : Operand) (hv : abin P op t x y (isLit X) (isLit Y) = some v) (hx : VR E x cx) (hy : VR E y cy) :
    ∃ cv, (do eqGuard op t X Y cx cy; binOp op t cx cy : Sem Value).run P w = .ok cv w ∧ VR E v cv := by
  unfold abin at hv
  split at hv
  · rename_i k a k' b
    simp only [VR] at hx hy; subst hx hy
    split at hv
    · split at hv
      · cases hv
      · rename_i hb; cases hv
        exact ⟨_, by simp [eqGuard_int, binOp, Op.shift, hb]; rfl, by simp [VR]⟩
    · split at hv
      · cases hv
      · rename_i hb; cases hv
        exact ⟨_, by simp [eqGuard_int, binOp, Op.shift, hb]; rfl, by simp [VR]⟩
    · rename_i h1 h2
      split at hv
      · rename_i hk; subst hk
        obtain ⟨cv, g1, g2⟩ := aintOp_sound (P := P) (w := w) (E := E) hv t h1 h2
        exact ⟨cv, by simp [eqGuard_int, g1], g2⟩
      · cases hv
  · rename_i l n l' n'
    simp only [VR] at hx hy; subst hx hy
    obtain ⟨cv, g1, g2⟩ := astrOp_sound (P := P) (w := w) (E := E) hv t
    exact ⟨cv, by simp [eqGuard_str, g1], g2⟩
  · simp only [VR] at hx hy; subst hx hy
    cases hl : (isLit X || isLit Y) with
    | false => rw [hl] at hv; cases hv
    | true =>
      rw [hl] at hv; simp only [cond] at hv
      have hg : (eqGuard op t X Y .nilIface .nilIface).run P w = .ok () w := by
        cases op <;> first | (simp [eqGuard]; done) | (cases X <;> cases Y <;> first | (simp [eqGuard]; done) | (simp [isLit] at hl))
      split at hv
      · rename_i hu; cases hv
        refine ⟨.bool true, ?_, by simp [VR]⟩
        have : (Op.equal t .nilIface .nilIface).run P w = .ok true w := equal_nil 9999 hu
        simp [hg, binOp, this]
      · rename_i hu; cases hv
        refine ⟨.bool false, ?_, by simp [VR]⟩
        have : (Op.equal t .nilIface .nilIface).run P w = .ok true w := equal_nil 9999 hu
        simp [hg, binOp, this]
      · cases hv
  · split at hv
    · rename_i b hb
      cases hv
      obtain ⟨g1, g2, _⟩ := aeq_shape (w := w) hb hx hy X Y .eql
      exact ⟨.bool b, by simp [g1, g2, aeq_sound hb hx hy], by simp [VR]⟩
    · rename_i b hb
      cases hv
      obtain ⟨g1, _, g2⟩ := aeq_shape (w := w) hb hx hy X Y .neq
      exact ⟨.bool (!b), by simp [g1, g2, aeq_sound hb hx hy], by simp [VR]⟩
    · cases hv

theorem aun_sound {op : UnOp} {x v : AV} {cx : Value} (hv : aun op x = some v) (hx : VR E x cx) : ∃ cv, (Op.unary op cx).run P w = .ok cv w ∧ VR E v cv := by
  unfold aun at hv
  split at hv <;> cases hv <;> simp only [VR] at hx <;> subst hx
  · exact ⟨_, by simp [Op.unary, Op.intArith]; rfl, by simp [VR, wrapK]⟩
  · exact ⟨_, by simp [Op.unary]; rfl, by simp [VR]⟩

/-! ### conversions -/
theorem bytesGo_sound : ∀ {vs : List AV} {n : Nat} {us : List Value}, bytesGo vs = some n → VRs E vs us →
    us = (natBytes vs.length n).map fun b => .int .u8 (b.toNat : Int)
  | [], n, us, h, hv => by simp [hv.nil_inv, natBytes]
  | a :: vs, n, us, h, hv => by
    obtain ⟨u, us', rfl, h1, h2⟩ := hv.cons_inv
    unfold bytesGo at h
    split at h
    · rename_i hx; cases hx
    · rename_i m ws hx
      cases hx
      split at h
      · rename_i hm
        split at h
        · rename_i k hk
          cases h
          simp only [VR] at h1; subst h1
          have e1 : (m.toNat + 256 * k) % 256 = m.toNat := by omega
          have e2 : (m.toNat + 256 * k) / 256 = k := by omega
          simp only [List.length_cons, natBytes, List.map_cons, e1, e2]
          rw [bytesGo_sound hk h2]
          congr 1
          simp; omega
        · cases h
      · cases h
    · cases h
theorem run_bytesLoop (bs : List UInt8) (f : Value → ByteArray → Sem (ForInStep ByteArray)) (hf : ∀ (b : UInt8) s, f (.int .u8 (b.toNat : Int)) s = pure (ForInStep.yield (s.push b))) :
    ∀ (s : ByteArray), (forIn (m := Sem) (bs.map fun b => Value.int .u8 (b.toNat : Int)) s f).run P w = .ok ⟨⟨s.data.toList ++ bs⟩⟩ w := by
  induction bs with
  | nil => intro s; simp
  | cons b bs ih =>
    intro s
    simp only [List.map_cons, List.forIn_cons, Sem.run_bind, hf, Sem.run_pure, Result.andThen_ok]
    have := ih (s.push b)
    simp at this ⊢
    exact this
theorem run_bytesToString {a : Addr} {len cap : Nat} {bs : List UInt8} (h : (loadCells a len).run P w = .ok ⟨bs.map fun b => Value.int .u8 (b.toNat : Int)⟩ w) :
    (Conv.bytesToString (.slice (some a) len cap)).run P w = .ok (.string ⟨⟨bs⟩⟩) w := by
  simp only [Conv.bytesToString, Sem.run_bind, h, Result.andThen_ok]
  rw [show (⟨List.map (fun b : UInt8 => Value.int IntKind.u8 (b.toNat : Int)) bs⟩ : Array Value) = (List.map (fun b : UInt8 => Value.int IntKind.u8 (b.toNat : Int)) bs).toArray from rfl, List.forIn_toArray,
    run_bytesLoop bs _ (fun b s => by simp)]
  rfl

theorem encode_small (n : Int) (h : 0 ≤ n ∧ n < 128) : Utf8.encode n = bstr 1 n.toNat := by
  have hv : Utf8.valid n = true := by simp [Utf8.valid]; omega
  have hc : n.toNat < 0x80 := by omega
  apply bstr_ext
  simp only [Utf8.encode, hv, if_true, hc, bstr, natBytes]
  rw [show n.toNat % 256 = n.toNat by omega]

theorem aconvert_sound (r : Rel E h w.heap) {s d : TypeId} {x v : AV} {cx : Value} (hv : aconvert P h s d x = some v) (hx : VR E x cx) :
    ∃ cv, (convert s d cx).run P w = .ok cv w ∧ VR E v cv := by
  unfold aconvert at hv
  split at hv
  · rename_i hs hd; cases hv
    simp only [VR] at hx; subst hx
    exact ⟨_, by simp [convert, run_und hs, run_und hd, Conv.intToInt]; rfl, by simp [VR, wrapK]⟩
  · rename_i hs hd
    split at hv
    · rename_i hn
      cases hv
      simp only [VR] at hx; subst hx
      exact ⟨_, by simp [convert, run_und hs, run_und hd, Conv.intToString]; rfl, by simp [VR, encode_small _ hn]⟩
    · cases hv
  · rename_i hs hd; cases hv
    simp only [VR] at hx; subst hx
    exact ⟨_, by simp [convert, run_und hs, run_und hd]; rfl, by simp [VR]⟩
  · rename_i e b off len cap esz x hs hd
    split at hv
    · rename_i vs he hl
      simp only [VR] at hx
      obtain ⟨L, off', cap', hE, rfl, h1, h2, h3, h4, h5⟩ := hx
      obtain ⟨us, g1, g2, g3⟩ := loadN_some r hl hE
      unfold bytesStr at hv
      split at hv
      · rename_i n hn
        cases hv
        have hus := bytesGo_sound hn g2
        have hlen : vs.length = len := by rw [← g2.length, g3]
        refine ⟨.string (bstr vs.length n), ?_, by simp [VR]⟩
        by_cases h0 : cap' = 0
        · -- an empty slice of no room: nothing is read
          have hl0 : len = 0 := by omega
          subst hl0
          have : (loadCells ⟨L.blk, off', none⟩ 0).run P w = .ok ⟨(natBytes vs.length n).map fun b => Value.int .u8 (b.toNat : Int)⟩ w := by
            rw [hlen]; simp [loadCells, loadCellsFrom, natBytes]
          simp only [convert, Sem.run_bind, run_und hs, run_und hd, Result.andThen_ok, run_und he]
          exact run_bytesToString this
        · have := h4 h0
          subst this
          simp only [convert, Sem.run_bind, run_und hs, run_und hd, Result.andThen_ok, run_und he]
          exact run_bytesToString (by rw [g1 P, hus])
      · cases hv
    · cases hv
  · cases hv

/-! ### slices -/
def OVR (E : Emb) : Option AV → Option Value → Prop
  | none, none => True
  | some a, some c => VR E a c
  | _, _ => False
def NVR : Option Nat → Option Value → Prop
  | none, none => True
  | some n, some c => ∃ k, c = .int k (n : Int)
  | _, _ => False
theorem bound_ok {x : Option AV} {cx : Option Value} {m : Option Nat} (h : asBound x = some m) (hx : OVR E x cx) : NVR m cx := by
  unfold asBound at h
  split at h
  · cases h; cases cx <;> simp_all [OVR, NVR]
  · split at h
    · rename_i hn
      cases h
      cases cx with
      | none => exact hx
      | some c => simp only [OVR, VR] at hx; exact ⟨_, by rw [hx]; congr 1; omega⟩
    · cases h
  · cases h
theorem run_bound (k : IntKind) (i : Nat) (y : Nat) (code : BoundsCode) (h1 : i ≤ y) : (Instr.sliceBound (.int k (i : Int)) y code).run P w = .ok i w := by
  have : (0 : Int) ≤ i ∧ (i : Int) ≤ y := by omega
  simp [Instr.sliceBound, asIntOf, this]
end Go.Hb

namespace Go.Hb
variable {P : Program} {E : Emb} {h h' : Hp} {w w' : World}

/-! ### slices -/
theorem run_bounds {isS : Bool} {len cap : Nat} {lo hi mx : Option Nat} {clo chi cmx : Option Value} (h1 : NVR lo clo) (h2 : NVR hi chi) (h3 : NVR mx cmx) (hm : mx.isSome = true → hi.isSome = true)
    (a : lo.getD 0 ≤ hi.getD len) (b : hi.getD len ≤ mx.getD cap) (c : mx.getD cap ≤ cap) :
    (Instr.sliceBounds isS len cap clo chi cmx).run P w = .ok (lo.getD 0, hi.getD len, mx.getD cap) w := by
  cases lo <;> cases hi <;> cases mx <;> cases clo <;> cases chi <;> cases cmx <;> simp only [NVR] at h1 h2 h3 <;> simp only [Option.isSome, Option.getD] at hm a b c ⊢
  case some.some.some.some.some.some l h m _ _ _ =>
    obtain ⟨k1, rfl⟩ := h1; obtain ⟨k2, rfl⟩ := h2; obtain ⟨k3, rfl⟩ := h3
    simp [Instr.sliceBounds, run_bound _ _ _ _ c, run_bound _ _ _ _ b, run_bound _ _ _ _ a]
  case none.some.some.none.some.some =>
    obtain ⟨k2, rfl⟩ := h2; obtain ⟨k3, rfl⟩ := h3
    simp [Instr.sliceBounds, run_bound _ _ _ _ c, run_bound _ _ _ _ b]
  case some.some.none.some.some.none =>
    obtain ⟨k1, rfl⟩ := h1; obtain ⟨k2, rfl⟩ := h2
    simp [Instr.sliceBounds, run_bound _ _ _ _ b, run_bound _ _ _ _ a]
  case none.some.none.none.some.none =>
    obtain ⟨k2, rfl⟩ := h2
    simp [Instr.sliceBounds, run_bound _ _ _ _ b]
  case some.none.none.some.none.none =>
    obtain ⟨k1, rfl⟩ := h1
    simp [Instr.sliceBounds, run_bound _ _ _ _ a]
  case none.none.none.none.none.none => simp [Instr.sliceBounds]
  all_goals (simp at hm)

theorem aslice_sound {t : TypeId} {x v : AV} {cx : Value} {lo hi mx : Option Nat} {clo chi cmx : Option Value} (hv : aslice P t x lo hi mx = some v) (hx : VR E x cx)
    (h1 : NVR lo clo) (h2 : NVR hi chi) (h3 : NVR mx cmx) : ∃ cv, (Instr.sliceAt t cx clo chi cmx).run P w = .ok cv w ∧ VR E v cv := by
  unfold aslice at hv
  split at hv
  · rename_i len n hu
    split at hv
    · cases hv
    · simp only at hv
      cases hb : (Nat.ble (lo.getD 0) (hi.getD len) && Nat.ble (hi.getD len) len) with
      | false => rw [hb] at hv; cases hv
      | true =>
        rw [hb] at hv; simp only [cond] at hv; cases hv
        simp only [ble_dec, Bool.and_eq_true, decide_eq_true_eq] at hb
        simp only [VR] at hx; subst hx
        cases cmx with
        | some c => exact h3.elim
        | none =>
          refine ⟨.string ((bstr len n).extract (lo.getD 0) (hi.getD len)), ?_, by simp only [VR]; rw [bstr_extract _ _ _ _ hb.1 hb.2]; rfl⟩
          have := run_bounds (P := P) (w := w) (isS := false) (len := len) (cap := len) h1 h2 (show NVR none none from trivial) (by simp) hb.1 (by simpa using hb.2) (Nat.le_refl _)
          simp [Instr.sliceAt, Instr.slice, run_und hu, bstr_size, this]
  · rename_i e b off len cap esz exact hu
    simp only at hv
    split at hv
    · cases hv
    · rename_i sz hsz
      cases hb : (Nat.beq sz esz && Nat.ble (lo.getD 0) (hi.getD len) && Nat.ble (hi.getD len) cap) with
      | false => rw [hb] at hv; cases hv
      | true =>
        rw [hb] at hv; simp only [cond] at hv
        simp only [ble_dec, beq_dec, Bool.and_eq_true, decide_eq_true_eq] at hb
        obtain ⟨⟨rfl, hb1⟩, hb2⟩ := hb
        simp only [VR] at hx
        obtain ⟨L, off', cap', hE, rfl, g1, g2, g3, g4, g5⟩ := hx
        cases mx with
        | some m => cases hi with
         | none => cases hv
         | some hh =>
          simp only at hv
          cases hb : (Nat.ble (Option.getD (some hh) len) m && Nat.ble m cap) with
          | false => rw [hb] at hv; cases hv
          | true =>
            rw [hb] at hv; simp only [cond] at hv; cases hv
            simp only [ble_dec, Bool.and_eq_true, decide_eq_true_eq, Option.getD_some] at hb hb1 hb2
            have := run_bounds (P := P) (w := w) (isS := true) (len := len) (cap := cap') h1 h2 h3 (by simp) (by simpa using hb1) (by simpa using hb.1) (by simp; omega)
            refine ⟨.slice (if m = lo.getD 0 then some ⟨L.blk, off', none⟩ else some ⟨L.blk, off' + lo.getD 0 * sz, none⟩) (hh - lo.getD 0) (m - lo.getD 0), ?_, ?_⟩
            · simp [Instr.sliceAt, Instr.slice, run_und hu, this, run_size hsz, add_none]
            · simp only [VR]
              by_cases e1 : m = lo.getD 0
              · rw [if_pos e1]
                have hcm : lo.getD 0 * sz ≤ cap' * sz := Nat.mul_le_mul_right _ (by omega)
                exact ⟨L, off', m - lo.getD 0, hE, rfl, by simp; omega, by omega, fun _ => rfl, fun h0 => by omega, by rw [show m - lo.getD 0 = 0 by omega]; omega⟩
              · rw [if_neg e1]
                have h0 : cap' ≠ 0 := by have : lo.getD 0 ≤ hh := hb1; omega
                have hcm : m * sz ≤ cap' * sz := Nat.mul_le_mul_right _ (by omega)
                have e2 : off' + lo.getD 0 * sz + (m - lo.getD 0) * sz = off' + m * sz := by
                  rw [Nat.add_assoc, ← Nat.add_mul, show lo.getD 0 + (m - lo.getD 0) = m by have : lo.getD 0 ≤ hh := hb1; omega]
                exact ⟨L, _, m - lo.getD 0, hE, rfl, by simp; omega, by omega, fun _ => rfl, fun _ => by rw [g4 h0]; omega, by rw [e2]; omega⟩
        | none =>
          simp only at hv
          cases hv
          cases cmx with
          | some c => exact h3.elim
          | none =>
            have := run_bounds (P := P) (w := w) (isS := true) (len := len) (cap := cap') h1 h2 (show NVR none none from trivial) (by simp) hb1 (by simp; omega) (Nat.le_refl _)
            refine ⟨.slice (if cap' = lo.getD 0 then some ⟨L.blk, off', none⟩ else some ⟨L.blk, off' + lo.getD 0 * sz, none⟩) (hi.getD len - lo.getD 0) (cap' - lo.getD 0), ?_, ?_⟩
            · simp [Instr.sliceAt, Instr.slice, run_und hu, this, run_size hsz, add_none]
            · simp only [VR]
              by_cases e1 : cap' = lo.getD 0
              · rw [if_pos e1]
                exact ⟨L, off', cap' - lo.getD 0, hE, rfl, by omega, by omega, fun hx => by rw [g3 hx], fun h0 => by omega, by rw [show cap' - lo.getD 0 = 0 by omega]; omega⟩
              · rw [if_neg e1]
                have h0 : cap' ≠ 0 := by omega
                have e2 : off' + lo.getD 0 * sz + (cap' - lo.getD 0) * sz = off' + cap' * sz := by
                  rw [Nat.add_assoc, ← Nat.add_mul, show lo.getD 0 + (cap' - lo.getD 0) = cap' by omega]
                exact ⟨L, _, cap' - lo.getD 0, hE, rfl, by omega, by omega, fun hx => by rw [g3 hx], fun _ => by rw [g4 h0]; omega, by rw [e2]; omega⟩
  · rename_i e hu
    have key : ∀ {sz}, sizeOfT P e = some sz → (mx.isSome = true → hi.isSome = true) → (bif Nat.beq (lo.getD 0) 0 && Nat.beq (hi.getD 0) 0 && Nat.beq (mx.getD 0) 0 then some AV.nils else none) = some v →
        ∃ cv, (Instr.sliceAt t cx clo chi cmx).run P w = .ok cv w ∧ VR E v cv := by
      intro sz hsz hmh hv
      cases hb : (Nat.beq (lo.getD 0) 0 && Nat.beq (hi.getD 0) 0 && Nat.beq (mx.getD 0) 0) with
      | false => rw [hb] at hv; cases hv
      | true =>
        rw [hb] at hv; simp only [cond] at hv; cases hv
        simp only [beq_dec, Bool.and_eq_true, decide_eq_true_eq] at hb
        simp only [VR] at hx; subst hx
        have := run_bounds (P := P) (w := w) (isS := true) (len := 0) (cap := 0) h1 h2 h3 hmh (by omega) (by omega) (by omega)
        refine ⟨.slice none 0 0, ?_, by simp [VR]⟩
        simp [Instr.sliceAt, Instr.slice, run_und hu, this, run_size hsz, hb]
    cases hsz : sizeOfT P e with
    | none => rw [hsz] at hv; cases mx <;> cases hi <;> cases hv
    | some sz =>
      rw [hsz] at hv
      cases mx with
      | none => exact key hsz (fun h => by cases h) hv
      | some m => cases hi with
        | none => cases hv
        | some hh => exact key hsz (fun _ => rfl) hv
  · cases hv

/-! ### literals -/
theorem foldl_over (off : Nat) : ∀ (l : List Value) (k : Nat) (cs : Array Value), (l.zipIdx k).foldl (fun cs (p : Value × Nat) => cs.setIfInBounds (off + p.2) p.1) cs = over cs (off + k) l
  | [], _, _ => rfl
  | v :: l, k, cs => by
    simp only [List.zipIdx_cons, List.foldl_cons, over]
    rw [foldl_over off l (k + 1), Nat.add_assoc]
theorem fill_sound {place : Nat → Option (Nat × Nat)} : ∀ {ps : List (Nat × AV)} {qs : List (Nat × Value)} {acs cs : List AV} {ccs : Array Value}, fillCells place acs ps = some cs →
    ps.map (·.1) = qs.map (·.1) → VRs E (ps.map (·.2)) (qs.map (·.2)) → VRs E acs ccs.toList → ∃ out, Instr.fill place ccs qs = some out ∧ VRs E cs out.toList
  | [], qs, acs, cs, ccs, hf, hk, _, ha => by
    simp [fillCells] at hf; subst hf
    have : qs = [] := by cases qs with | nil => rfl | cons _ _ => simp at hk
    subst this
    exact ⟨ccs, rfl, ha⟩
  | (i, a) :: ps, qs, acs, cs, ccs, hf, hk, hv, ha => by
    cases qs with
    | nil => simp at hk
    | cons q qs =>
      obtain ⟨j, u⟩ := q
      simp only [List.map_cons, List.cons.injEq] at hk
      obtain ⟨rfl, hk⟩ := hk
      obtain ⟨u', us, he, h1, h2⟩ := hv.cons_inv
      simp only [List.map_cons, List.cons.injEq] at he
      obtain ⟨rfl, rfl⟩ := he
      simp only [fillCells] at hf
      split at hf
      · cases hf
      · rename_i off size hp
        cases hb : (Nat.beq a.cells.length size && Nat.ble (off + size) acs.length) with
        | false => rw [hb] at hf; cases hf
        | true =>
          rw [hb] at hf; simp only [cond] at hf
          simp only [ble_dec, beq_dec, Bool.and_eq_true, decide_eq_true_eq] at hb
          have hcl : u.cells.size = size := by rw [← hb.1, ← h1.cells.length]; simp
          have hcs : ccs.size = acs.length := by rw [← ha.length]; simp
          have hnew : VRs E (acs.take off ++ a.cells ++ acs.drop (off + size)) (over ccs off u.cells.toList).toList := by
            refine VRs.of_get (by simp [over_size]; omega) fun k x hx => ?_
            rw [Array.getElem?_toList, over_get _ _ _ _ (by simp; omega)]
            simp only [Array.length_toList, hcl]
            by_cases k1 : k < off
            · rw [List.append_assoc, List.getElem?_append_left (by simp; omega), List.getElem?_take_of_lt k1] at hx
              rw [if_neg (by omega)]
              obtain ⟨v, e1, e2⟩ := ha.get k x hx
              exact ⟨v, by simpa using e1, e2⟩
            · by_cases k2 : k < off + size
              · rw [List.getElem?_append_left (by simp; omega), List.getElem?_append_right (by simp; omega)] at hx
                simp only [List.length_take] at hx
                rw [show min off acs.length = off by omega] at hx
                rw [if_pos (by omega)]
                exact h1.cells.get _ x hx
              · rw [List.getElem?_append_right (by simp; omega), List.getElem?_drop] at hx
                simp only [List.length_append, List.length_take] at hx
                rw [show off + size + (k - (min off acs.length + a.cells.length)) = k by omega] at hx
                rw [if_neg (by omega)]
                obtain ⟨v, e1, e2⟩ := ha.get k x hx
                exact ⟨v, by simpa using e1, e2⟩
          obtain ⟨out, o1, o2⟩ := fill_sound hf hk h2 hnew
          refine ⟨out, ?_, o2⟩
          have : u.cells.zipIdx.foldl (fun cs (p : Value × Nat) => cs.setIfInBounds (off + p.2) p.1) ccs = over ccs off u.cells.toList := by
            rw [← Array.foldl_toList, Array.toList_zipIdx, foldl_over]; rfl
          simp only [Instr.fill, hp]
          rw [if_neg (by simp; omega)]
          rw [← o1]
          exact congrArg (fun z => Instr.fill place z qs) this
theorem run_mapM_fields (l : List Field) (hl : ∀ f ∈ l, ∃ n, sizeOfT P f.type = some n) :
    ((l.mapM fun f => do pure (f.offset, ← sizeOf f.type) : Sem (List (Nat × Nat)))).run P w = .ok (l.map fun f => (f.offset, (sizeOfT P f.type).getD 0)) w := by
  induction l with
  | nil => simp
  | cons f l ih =>
    obtain ⟨n, hn⟩ := hl f (List.mem_cons_self ..)
    have := ih (fun g hg => hl g (List.mem_cons_of_mem _ hg))
    simp only [List.mapM_cons, Sem.run_bind, run_size hn, Result.andThen_ok, Sem.run_pure, List.map_cons, hn, Option.getD] at this ⊢
    rw [this]
    rfl
theorem abuild_sound {t : TypeId} {ps : List (Nat × AV)} {qs : Array (Nat × Value)} {v : AV} (hv : abuild P t ps = some v) (hk : ps.map (·.1) = qs.toList.map (·.1)) (hp : VRs E (ps.map (·.2)) (qs.toList.map (·.2))) :
    ∃ cv, (Instr.build t qs).run P w = .ok cv w ∧ VR E v cv := by
  unfold abuild at hv
  split at hv
  · rename_i z fs hz hu
    obtain ⟨cz, z1, z2⟩ := run_zero hz
    split at hv
    · rename_i cs hcs
      cases hb : (fs.all fun f => (sizeOfT P f.type).isSome) with
      | false => rw [hb] at hv; cases hv
      | true =>
        rw [hb] at hv; simp only [cond] at hv; cases hv
        have hall : ∀ f ∈ fs.toList, ∃ n, sizeOfT P f.type = some n := fun f hf => by
          rw [Array.all_eq_true] at hb
          obtain ⟨i, hi, rfl⟩ := List.getElem_of_mem hf
          have := hb i (by simpa using hi)
          exact Option.isSome_iff_exists.1 (by simpa using this)
        have hm : (fs.mapM fun f => do pure (f.offset, ← sizeOf f.type) : Sem (Array (Nat × Nat))).run P w = .ok (fs.map fun (f : Field) => (f.offset, (sizeOfT P f.type).getD 0)) w := by
          rw [Array.mapM_eq_mapM_toList]
          simp only [Sem.run_map, run_mapM_fields (w := w) fs.toList hall, Result.andThen_ok]
          refine congrArg (fun z => Result.ok z w) ?_
          apply Array.ext'
          simp
        obtain ⟨out, o1, o2⟩ := fill_sound hcs hk hp (z2 E).cells
        refine ⟨.agg out, ?_, by simp only [VR]; exact ⟨_, rfl, o2⟩⟩
        have hpl : (fun (i : Nat) => (fs.map fun (f : Field) => (f.offset, (sizeOfT P f.type).getD 0))[i]?) = (fun (i : Nat) => match (fs[i]? : Option Field) with
            | some f => match sizeOfT P f.type with
              | some s => some (f.offset, s)
              | none => none
            | none => none) := by
          funext i
          rw [Array.getElem?_map]
          cases hf : fs[i]? with
          | none => rfl
          | some f =>
            have hmem : f ∈ fs.toList := by
              have := Array.getElem?_eq_some_iff.1 hf
              obtain ⟨hi, rfl⟩ := this
              simp
            obtain ⟨n, hn⟩ := hall f hmem
            simp [hn]
        simp only [Instr.build, Sem.run_bind, z1, Result.andThen_ok, run_und hu, hm]
        have o1' : Instr.fill (fun (i : Nat) => (fs.map fun (f : Field) => (f.offset, (sizeOfT P f.type).getD 0))[i]?) cz.cells qs.toList = some out := by
          rw [hpl]; exact o1
        rw [o1']
        rfl
    · cases hv
  · rename_i z e n hz hu
    obtain ⟨cz, z1, z2⟩ := run_zero hz
    split at hv
    · cases hv
    · rename_i s hs
      split at hv
      · rename_i cs hcs
        cases hv
        obtain ⟨out, o1, o2⟩ := fill_sound hcs hk hp (z2 E).cells
        refine ⟨.agg out, ?_, by simp only [VR]; exact ⟨_, rfl, o2⟩⟩
        simp only [Instr.build, Sem.run_bind, z1, Result.andThen_ok, run_und hu, run_size hs, o1]
        rfl
      · cases hv
  · cases hv
end Go.Hb

namespace Go.Hb
variable {P : Program} {E : Emb} {h h' : Hp} {w w' : World}

/-! ### rows of zeros -/
theorem repl_length (cs : List AV) : ∀ n, (repl cs n).length = n * cs.length
  | 0 => by simp [repl]
  | n+1 => by rw [repl, List.length_append, repl_length cs n, Nat.succ_mul]; omega
theorem repl_get (cs : List AV) (h0 : 0 < cs.length) : ∀ n i, i < n * cs.length → (repl cs n)[i]? = cs[i % cs.length]?
  | 0, i, h => by simp at h
  | n+1, i, h => by
    rw [repl]
    by_cases h1 : i < cs.length
    · rw [List.getElem?_append_left h1, Nat.mod_eq_of_lt h1]
    · rw [List.getElem?_append_right (by omega), repl_get cs h0 n _ (by rw [Nat.succ_mul] at h; omega)]
      rw [← Nat.mod_eq_sub_mod (by omega)]
theorem zeros_VRs {zc : List AV} {z : Array Value} (hz : VRs E zc z.toList) (n : Nat) (h0 : 0 < z.size) :
    VRs E (repl zc n) ((Array.range (n * z.size)).map (fun i => z[i % z.size]!)).toList := by
  have hl := hz.length
  simp only [Array.length_toList] at hl
  refine VRs.of_get (by simp [repl_length, hl]) fun i a ha => ?_
  have hi : i < n * zc.length := by have := (List.getElem?_eq_some_iff.1 ha).1; rwa [repl_length] at this
  rw [repl_get _ (by omega) _ _ hi] at ha
  obtain ⟨v, h1, h2⟩ := hz.get _ a ha
  refine ⟨v, ?_, h2⟩
  rw [Array.getElem?_toList, Array.getElem?_map, Array.getElem?_range]
  rw [← hl] at hi h1
  simp only [hi, if_true, Option.map_some]
  simp only [Array.getElem?_toList] at h1
  rw [Array.getElem!_eq_getD, Array.getD_eq_getD_getElem?, h1]; rfl

theorem abuildSlice_sound (r : Rel E h w.heap) {t : TypeId} {len s : Nat} {ps : List (Nat × AV)} {qs : Array (Nat × Value)} {cs : List AV} (hv : abuildSlice P t len ps = some (cs, s)) (hk : ps.map (·.1) = qs.toList.map (·.1)) (hp : VRs E (ps.map (·.2)) (qs.toList.map (·.2))) :
    ∃ (out : List Value) (e : TypeId), VRs E cs out ∧ len * s ≤ out.length ∧ ∀ w, (Instr.buildSlice t len qs).run P w = .ok (.slice (some ⟨w.heap.size, 0, none⟩) len len) { w with heap := w.heap.push (.cells ⟨out⟩ e) } := by
  unfold abuildSlice at hv
  split at hv
  · rename_i e hu
    split at hv
    · rename_i s' z hs hz
      cases hb : (Nat.ble (len * s') 1000 && !(Nat.beq s' 0) && Nat.beq z.cells.length s') with
      | false => rw [hb] at hv; cases hv
      | true =>
        rw [hb] at hv; simp only [cond] at hv
        simp only [ble_dec, beq_dec, Bool.and_eq_true, decide_eq_true_eq, Bool.not_eq_true', decide_eq_false_iff_not] at hb
        split at hv
        · rename_i cs' hcs
          cases hv
          obtain ⟨cz, z1, z2⟩ := run_zero hz
          have hzl := (z2 E).cells.length
          simp only [Array.length_toList] at hzl
          have hzs : cz.cells.size = s := by omega
          have zr := zeros_VRs (z2 E).cells len (by omega)
          rw [hzs] at zr
          obtain ⟨out, o1, o2⟩ := fill_sound hcs hk hp zr
          have hol : out.toList.length = len * s := by
            have e1 := o2.length
            have e2 : ∀ {ps : List (Nat × AV)} {place : Nat → Option (Nat × Nat)} {a b : List AV}, fillCells place a ps = some b → b.length = a.length := by
              intro ps
              induction ps with
              | nil => intro place a b hh; simp [fillCells] at hh; rw [hh]
              | cons p ps ih =>
                intro place a b hh
                simp only [fillCells] at hh
                split at hh
                · cases hh
                · rename_i off size _
                  cases hc : (Nat.beq p.2.cells.length size && Nat.ble (off + size) a.length) with
                  | false => rw [hc] at hh; cases hh
                  | true =>
                    rw [hc] at hh; simp only [cond] at hh
                    simp only [ble_dec, beq_dec, Bool.and_eq_true, decide_eq_true_eq] at hc
                    rw [ih hh]; simp; omega
            rw [e1, e2 hcs, repl_length]; rw [hb.2]
          refine ⟨out.toList, e, o2, by omega, fun w => ?_⟩
          have hbig : ¬ len * s > 2 ^ 24 := by omega
          by_cases h0 : len * s = 0
          · have hl0 : len = 0 := by
              rcases Nat.mul_eq_zero.1 h0 with h | h
              · exact h
              · omega
            subst hl0
            have hr0 : Array.range 0 = #[] := rfl
            simp only [Nat.zero_mul, hr0, List.map_toArray, List.map_nil] at o1
            simp [Instr.buildSlice, run_und hu, run_size hs, hr0, o1, newRow]
          · simp only [Instr.buildSlice, Sem.run_bind, run_und hu, Result.andThen_ok, run_size hs, hbig, if_false, Sem.run_pure, h0, z1]
            simp only [hzs]
            simp [o1, newRow]
        · cases hv
    · cases hv
  · cases hv

/-! ### maps -/
theorem run_getMap {r : Nat} {ES : Array MapEntry} {c : Nat} (hr : w.heap[r]? = some (.map ES c)) : (getObj r).run P w = .ok (.map ES c) w := by
  simp [getObj, Sem.run, hr]
theorem run_setObj {r : Nat} {ob ob' : Obj} (hr : w.heap[r]? = some ob) (hc : ∀ c e f, ob ≠ .cells c e f) : (setObj r ob').run P w = .ok () (putBlk w r ob') := by
  cases ob <;> simp [setObj, Sem.run, hr, putBlk] <;> exact absurd rfl (hc _ _ _)

theorem ba_beq (a b : ByteArray) : (a == b) = decide (a = b) := by
  cases a with | mk x => cases b with | mk y =>
  show ByteArray.beq _ _ = _
  simp [ByteArray.beq, Bool.beq_eq_decide_eq]
theorem plainKey_shape {d : TypeDesc} {k : AV} {ck : Value} (h : plainKey d k = true) (hk : VR E k ck) :
    (∃ i kk n, d = .int i ∧ k = .int kk n ∧ ck = .int kk n) ∨ (∃ l n, d = .string ∧ k = .str l n ∧ ck = .string (bstr l n)) ∨ (∃ b, d = .bool ∧ k = .bool b ∧ ck = .bool b) := by
  unfold plainKey at h
  split at h
  · simp only [VR] at hk; exact .inl ⟨_, _, _, rfl, rfl, hk⟩
  · simp only [VR] at hk; exact .inr (.inl ⟨_, _, rfl, rfl, hk⟩)
  · simp only [VR] at hk; exact .inr (.inr ⟨_, rfl, rfl, hk⟩)
  · cases h
theorem run_checkKey {t : TypeId} {d : TypeDesc} {k : AV} {ck : Value} (e : Bool) (n : Nat) (hu : P.underlying t = some d) (hp : plainKey d k = true) (hk : VR E k ck) :
    (Instr.checkKey e (n + 1) t ck).run P w = .ok () w := by
  rcases plainKey_shape hp hk with ⟨i, kk, m, rfl, rfl, rfl⟩ | ⟨l, m, rfl, rfl, rfl⟩ | ⟨b, rfl, rfl, rfl⟩ <;> simp [Instr.checkKey, run_und hu]
theorem sameNow_of {d : TypeDesc} {k k' : AV} {ck ck' : Value} {b : Bool} (hp : plainKey d k = true) (hk : VR E k ck) (hk' : VR E k' ck') (hc : cellEq k k' = some b) :
    Instr.sameNow d ck ck' = some b ∧ (b = true → ck' = ck) := by
  rcases plainKey_shape hp hk with ⟨i, kk, m, rfl, rfl, rfl⟩ | ⟨l, m, rfl, rfl, rfl⟩ | ⟨b, rfl, rfl, rfl⟩
  · cases k' <;> simp only [cellEq] at hc <;> try (cases hc; done)
    split at hc
    · rename_i hkk; cases hc
      simp only [VR] at hk'
      subst hkk hk'
      exact ⟨by simp [Instr.sameNow], fun e => by have := beq_iff_eq.1 e; rw [this]⟩
    · cases hc
  · cases k' <;> simp only [cellEq] at hc <;> try (cases hc; done)
    cases hc
    simp only [VR] at hk'
    subst hk'
    refine ⟨?_, fun e => ?_⟩
    · simp only [Instr.sameNow, strEq_iff, ba_beq]
      congr 2
      apply propext
      constructor
      · intro e; have := congrArg (fun s : ByteArray => s.data.toList) e; exact this
      · intro e; exact bstr_ext e
    · rw [strEq_iff] at e
      have := of_decide_eq_true e
      simp only [bstr, this]
  · cases k' <;> simp only [cellEq] at hc <;> try (cases hc; done)
    cases hc
    simp only [VR] at hk'
    subst hk'
    exact ⟨by simp [Instr.sameNow], fun e => by have := beq_iff_eq.1 e; rw [this]⟩
theorem findNow_of {d : TypeDesc} {k : AV} {ck : Value} (hp : plainKey d k = true) (hk : VR E k ck) : ∀ {es : List (AV × AV × Nat)} {ES : List MapEntry} {i : Nat} {r : Option (Nat × AV)}, ERs E es ES → findK k es i = some r →
    match r with
    | none => Instr.findNow d ck ES i = some none
    | some (j, v) => ∃ e ae, i ≤ j ∧ es[j - i]? = some ae ∧ ES[j - i]? = some e ∧ Instr.findNow d ck ES i = some (some (j, e.val)) ∧ VR E v e.val ∧ ae.2.1 = v ∧ e.key = ck
  | [], ES, i, r, he, hf => by
    simp [ERs] at he; simp [findK] at hf; subst he hf; rfl
  | a :: es, ES, i, r, he, hf => by
    simp only [ERs] at he
    obtain ⟨u, us, rfl, h1, h2, h3, h4⟩ := he
    simp only [findK] at hf
    split at hf
    · rename_i hc
      cases hf
      obtain ⟨g1, g2⟩ := sameNow_of hp hk h1 hc
      exact ⟨u, a, Nat.le_refl _, by simp, by simp, by simp [Instr.findNow, g1], h2, rfl, g2 rfl⟩
    · rename_i hc
      obtain ⟨g1, _⟩ := sameNow_of hp hk h1 hc
      have := findNow_of hp hk h4 hf
      cases r with
      | none => simp only at this ⊢; simp [Instr.findNow, g1, this]
      | some jv =>
        obtain ⟨j, v⟩ := jv
        simp only at this ⊢
        obtain ⟨e, ae, k1, k2, k3, k4, k5, k6, k7⟩ := this
        refine ⟨e, ae, by omega, ?_, ?_, by simp [Instr.findNow, g1, k4], k5, k6, k7⟩
        · rw [show j - i = (j - Nat.succ i) + 1 by omega]; simpa using k2
        · rw [show j - i = (j - Nat.succ i) + 1 by omega]; simpa using k3
    · cases hf
theorem ERs.length {es : List (AV × AV × Nat)} {ES : List MapEntry} (he : ERs E es ES) : ES.length = es.length := by
  induction es generalizing ES with
  | nil => simp [ERs] at he; subst he; rfl
  | cons a es ih => simp only [ERs] at he; obtain ⟨u, us, rfl, _, _, _, h4⟩ := he; simp [ih h4]
theorem ERs.snoc {es : List (AV × AV × Nat)} {ES : List MapEntry} (he : ERs E es ES) {k v : AV} {ck cv : Value} {b : Nat} (hk : VR E k ck) (hv : VR E v cv) : ERs E (es ++ [(k, v, b)]) (ES ++ [{ key := ck, val := cv, born := b }]) := by
  induction es generalizing ES with
  | nil => simp [ERs] at he; subst he; simp only [List.nil_append, ERs]; exact ⟨_, [], rfl, hk, hv, rfl, rfl⟩
  | cons a es ih => simp only [ERs] at he; obtain ⟨u, us, rfl, h1, h2, h3, h4⟩ := he; simp only [List.cons_append, ERs]; exact ⟨u, _, rfl, h1, h2, h3, ih h4⟩
theorem ERs.setE {es : List (AV × AV × Nat)} {ES : List MapEntry} (he : ERs E es ES) {k v : AV} {ck cv : Value} (hk : VR E k ck) (hv : VR E v cv) (i : Nat) (f : MapEntry → MapEntry) (hf : ∀ e, ES[i]? = some e → f e = { e with key := ck, val := cv }) :
    ERs E (Hb.setE k v es i) (ES.modify i f) := by
  induction es generalizing ES i with
  | nil => simp [ERs] at he; subst he; simp [Hb.setE, ERs]
  | cons a es ih =>
    simp only [ERs] at he
    obtain ⟨u, us, rfl, h1, h2, h3, h4⟩ := he
    cases i with
    | zero =>
      have := hf u rfl
      simp only [Hb.setE, List.modify_zero_cons, ERs, this]
      exact ⟨_, us, rfl, hk, hv, h3, h4⟩
    | succ i =>
      simp only [Hb.setE, List.modify_succ_cons, ERs]
      exact ⟨u, _, rfl, h1, h2, h3, ih h4 i (fun e he => hf e (by simpa using he))⟩
theorem bornAt_of {es : List (AV × AV × Nat)} {ES : List MapEntry} (he : ERs E es ES) (i : Nat) (e : MapEntry) (hi : ES[i]? = some e) : e.born = bornAt es i := by
  induction es generalizing ES i with
  | nil => simp [ERs] at he; subst he; simp at hi
  | cons a es ih =>
    simp only [ERs] at he
    obtain ⟨u, us, rfl, h1, h2, h3, h4⟩ := he
    cases i with
    | zero => simp at hi; subst hi; exact h3
    | succ i => exact ih h4 i (by simpa using hi)
theorem sameBits_plain {d : TypeDesc} {k : AV} {ck : Value} (hp : plainKey d k = true) (hk : VR E k ck) (n : Nat) : Instr.sameBits n ck ck = true := by
  rcases plainKey_shape hp hk with ⟨i, kk, m, rfl, rfl, rfl⟩ | ⟨l, m, rfl, rfl, rfl⟩ | ⟨b, rfl, rfl, rfl⟩ <;> cases n <;> simp [Instr.sameBits, ba_beq]
end Go.Hb

namespace Go.Hb
variable {P : Program} {E : Emb} {h h' : Hp} {w w' : World}

theorem toList_get {α : Type} {a : Array α} {i : Nat} {x : α} (h : a.toList[i]? = some x) : a[i]? = some x := by simpa using h

theorem alookup_sound (r : Rel E h w.heap) {t : TypeId} {x k v : AV} {cx ck : Value} {ok : Bool} (hv : alookup P h t x k ok = some v) (hx : VR E x cx) (hk : VR E k ck) :
    ∃ cv, (Instr.lookup t cx ck ok).run P w = .ok cv w ∧ VR E v cv := by
  unfold alookup at hv
  split at hv
  · rename_i kt et hu
    split at hv
    · rename_i kd z hkd hz
      cases hp : plainKey kd k with
      | false => rw [hp] at hv; cases hv
      | true =>
        rw [hp] at hv; simp only [cond] at hv
        obtain ⟨cz, z1, z2⟩ := run_zero hz
        have hck : ∀ e, (Instr.checkKey e 10000 kt ck).run P w = .ok () w := fun e => run_checkKey e 9999 hkd hp hk
        split at hv
        · cases hv
          simp only [VR] at hx; subst hx
          refine ⟨if ok then .tuple #[cz, .bool false] else cz, ?_, ?_⟩
          · simp [Instr.lookup, run_und hu, hck, Instr.findKey, run_und hkd, Instr.findNow, z1]
          · cases ok
            · exact z2 E
            · simp only [VR, if_true]; exact ⟨_, rfl, VRs.cons (z2 E) (VRs.cons (by simp [VR]) (VRs.nil E))⟩
        · rename_i m
          simp only [VR] at hx
          obtain ⟨L, hE, rfl⟩ := hx
          split at hv
          · rename_i es clock hm
            obtain ⟨L', g1, ES, g2, g3⟩ := r.obj _ _ hm
            rw [hE] at g1; cases g1
            split at hv
            · rename_i i u hf
              cases hv
              have hfn := findNow_of hp hk g3 hf
              simp only at hfn
              obtain ⟨e, ae, _, _, _, k4, k5, _⟩ := hfn
              refine ⟨if ok then .tuple #[e.val, .bool true] else e.val, ?_, ?_⟩
              · simp [Instr.lookup, run_und hu, run_getMap g2, hck, Instr.findKey, run_und hkd, k4]
              · cases ok
                · exact k5
                · simp only [VR, if_true]; exact ⟨_, rfl, VRs.cons k5 (VRs.cons (by simp [VR]) (VRs.nil E))⟩
            · rename_i hf
              cases hv
              have hfn := findNow_of hp hk g3 hf
              simp only at hfn
              refine ⟨if ok then .tuple #[cz, .bool false] else cz, ?_, ?_⟩
              · simp [Instr.lookup, run_und hu, run_getMap g2, hck, Instr.findKey, run_und hkd, hfn, z1]
              · cases ok
                · exact z2 E
                · simp only [VR, if_true]; exact ⟨_, rfl, VRs.cons (z2 E) (VRs.cons (by simp [VR]) (VRs.nil E))⟩
            · cases hv
          · cases hv
        · cases hv
    · cases hv
  · cases hv

theorem setMap {m : Nat} {L : Loc} {es es' : List (AV × AV × Nat)} {clock clock' : Nat} {ES ES' : Array MapEntry} (r : Rel E h w.heap) (hm : h.look m = some (.map es clock)) (hE : E m = some L)
    (g2 : w.heap[L.blk]? = some (.map ES clock)) (he : ERs E es' ES'.toList) :
    (∀ P, (setObj L.blk (.map ES' clock')).run P w = .ok () (putBlk w L.blk (.map ES' clock'))) ∧ Rel E (h.set m (.map es' clock')) (putBlk w L.blk (.map ES' clock')).heap ∧
      Ext E h w E (h.set m (.map es' clock')) (putBlk w L.blk (.map ES' clock')) := by
  have := r.setObj (o' := .map es' clock') (.map ES' clock') hm hE rfl rfl (fun H' hH => ⟨ES', hH, he⟩)
  exact ⟨fun P => run_setObj g2 (fun _ _ _ e => by cases e), this.1, this.2⟩

theorem modify_toList {α : Type} (a : Array α) (i : Nat) (f : α → α) : (a.modify i f).toList = a.toList.modify i f := by simp

theorem amapUpdate_sound (r : Rel E h w.heap) {t : TypeId} {x k v : AV} {cx ck cv : Value} (hu' : amapUpdate P h t x k v = some h') (hx : VR E x cx) (hk : VR E k ck) (hv : VR E v cv) :
    ∃ w', (Instr.mapUpdate t cx ck cv).run P w = .ok () w' ∧ Rel E h' w'.heap ∧ Ext E h w E h' w' := by
  unfold amapUpdate at hu'
  split at hu'
  · rename_i kt et m hu
    split at hu'
    · rename_i kd es clock hkd hm
      cases hp : plainKey kd k with
      | false => rw [hp] at hu'; cases hu'
      | true =>
        rw [hp] at hu'; simp only [cond] at hu'
        simp only [VR] at hx
        obtain ⟨L, hE, rfl⟩ := hx
        obtain ⟨L', g1, ES, g2, g3⟩ := r.obj _ _ hm
        rw [hE] at g1; cases g1
        have hck : ∀ e, (Instr.checkKey e 10000 kt ck).run P w = .ok () w := fun e => run_checkKey e 9999 hkd hp hk
        split at hu'
        · rename_i i u hf
          cases hu'
          have hfn := findNow_of hp hk g3 hf
          simp only [Nat.sub_zero] at hfn
          obtain ⟨e, ae, _, _, k3, k4, k5, _, k7⟩ := hfn
          have k3' := toList_get k3
          obtain ⟨s1, s2, s3⟩ := setMap (clock' := clock) (ES' := ES.modify i fun e => { e with key := ck, val := cv }) r hm hE g2 (by rw [modify_toList]; exact g3.setE hk hv i _ (fun _ _ => rfl))
          refine ⟨_, ?_, s2, s3⟩
          simp [Instr.mapUpdate, run_und hu, run_getMap g2, hck, Instr.findKey, run_und hkd, k4, Instr.keyThatStays, k3', k7, sameBits_plain hp hk, s1 P]
        · rename_i hf
          cases hu'
          have hfn := findNow_of hp hk g3 hf
          simp only at hfn
          obtain ⟨s1, s2, s3⟩ := setMap (clock' := clock + 1) (ES' := ES.push { key := ck, val := cv, born := clock }) r hm hE g2 (by rw [Array.toList_push]; exact g3.snoc hk hv)
          refine ⟨_, ?_, s2, s3⟩
          simp [Instr.mapUpdate, run_und hu, run_getMap g2, hck, Instr.findKey, run_und hkd, hfn, s1 P]
        · cases hu'
    · cases hu'
  · cases hu'

theorem amapEntry_sound (r : Rel E h w.heap) {t : TypeId} {x k v : AV} {cx ck : Value} (hu' : amapEntry P h t x k = some (v, h')) (hx : VR E x cx) (hk : VR E k ck) :
    ∃ cv w', (Instr.mapEntry t cx ck).run P w = .ok cv w' ∧ VR E v cv ∧ Rel E h' w'.heap ∧ Ext E h w E h' w' := by
  unfold amapEntry at hu'
  split at hu'
  · rename_i kt et m hu
    split at hu'
    · rename_i kd es clock z hkd hm hz
      cases hp : plainKey kd k with
      | false => rw [hp] at hu'; cases hu'
      | true =>
        rw [hp] at hu'; simp only [cond] at hu'
        simp only [VR] at hx
        obtain ⟨L, hE, rfl⟩ := hx
        obtain ⟨L', g1, ES, g2, g3⟩ := r.obj _ _ hm
        rw [hE] at g1; cases g1
        obtain ⟨cz, z1, z2⟩ := run_zero hz
        have hck : ∀ e, (Instr.checkKey e 10000 kt ck).run P w = .ok () w := fun e => run_checkKey e 9999 hkd hp hk
        split at hu'
        · rename_i i u hf
          cases hu'
          have hfn := findNow_of hp hk g3 hf
          simp only [Nat.sub_zero] at hfn
          obtain ⟨e, ae, _, _, k3, k4, k5, _, k7⟩ := hfn
          have k3' := toList_get k3
          obtain ⟨s1, s2, s3⟩ := setMap (clock' := clock) (ES' := ES.modify i fun e => { e with key := ck }) r hm hE g2 (by
            rw [modify_toList]
            exact g3.setE hk k5 i _ (fun e' he' => by rw [k3] at he'; cases he'; rfl))
          refine ⟨.tuple #[e.val, .int .i64 (bornAt es i)], _, ?_, by simp only [VR]; exact ⟨_, rfl, VRs.cons k5 (VRs.cons (by simp [VR]) (VRs.nil E))⟩, s2, s3⟩
          simp [Instr.mapEntry, run_und hu, run_getMap g2, hck, Instr.findKey, run_und hkd, k4, Instr.keyThatStays, k3', k7, sameBits_plain hp hk, s1 P, goInt, bornAt_of g3 i e k3]
        · rename_i hf
          cases hu'
          have hfn := findNow_of hp hk g3 hf
          simp only at hfn
          obtain ⟨s1, s2, s3⟩ := setMap (clock' := clock + 1) (ES' := ES.push { key := ck, val := cz, born := clock }) r hm hE g2 (by rw [Array.toList_push]; exact g3.snoc hk (z2 E))
          refine ⟨.tuple #[cz, .int .i64 clock], _, ?_, by simp only [VR]; exact ⟨_, rfl, VRs.cons (z2 E) (VRs.cons (by simp [VR]) (VRs.nil E))⟩, s2, s3⟩
          simp [Instr.mapEntry, run_und hu, run_getMap g2, hck, Instr.findKey, run_und hkd, hfn, s1 P, z1, goInt]
        · cases hu'
    · cases hu'
  · cases hu'

theorem setBorn_of {v : AV} {cv : Value} (hv : VR E v cv) {b : Nat} : ∀ {es es' : List (AV × AV × Nat)} {ES : List MapEntry}, ERs E es ES → setBorn v b es = some es' →
    ∃ i, ES.findIdx? (fun e => (e.born : Int) == (b : Int)) = some i ∧ ERs E es' (ES.modify i fun e => { e with val := cv })
  | [], es', ES, he, hs => by simp [setBorn] at hs
  | a :: es, es', ES, he, hs => by
    simp only [ERs] at he
    obtain ⟨u, us, rfl, h1, h2, h3, h4⟩ := he
    simp only [setBorn, beq_dec] at hs
    by_cases hb : a.2.2 = b
    · simp only [hb, decide_true, cond] at hs
      cases hs
      refine ⟨0, by simp [List.findIdx?_cons, h3, hb], ?_⟩
      simp only [List.modify_zero_cons, ERs]
      exact ⟨_, us, rfl, h1, hv, by simp [h3, hb], h4⟩
    · simp only [hb, decide_false, cond] at hs
      split at hs
      · rename_i r hr
        cases hs
        obtain ⟨i, e1, e2⟩ := setBorn_of hv h4 hr
        refine ⟨i + 1, ?_, ?_⟩
        · have : ((u.born : Int) == (b : Int)) = false := by rw [h3]; simp; omega
          simp [List.findIdx?_cons, this, e1]
        · simp only [List.modify_succ_cons, ERs]
          exact ⟨u, _, rfl, h1, h2, h3, e2⟩
      · cases hs

theorem aentryStore_sound (r : Rel E h w.heap) (t : TypeId) {x s v : AV} {cx cs cv : Value} (hu' : aentryStore h x s v = some h') (hx : VR E x cx) (hs : VR E s cs) (hv : VR E v cv) :
    ∃ w', (Instr.entryStore t cx cs cv).run P w = .ok () w' ∧ Rel E h' w'.heap ∧ Ext E h w E h' w' := by
  unfold aentryStore at hu'
  split at hu'
  · rename_i m k n
    split at hu'
    · rename_i hn
      split at hu'
      · rename_i es clock hm
        split at hu'
        · rename_i es' hes
          cases hu'
          simp only [VR] at hx hs
          subst hs
          obtain ⟨L, hE, rfl⟩ := hx
          obtain ⟨L', g1, ES, g2, g3⟩ := r.obj _ _ hm
          rw [hE] at g1; cases g1
          obtain ⟨i, e1, e2⟩ := setBorn_of hv g3 hes
          have hnn : ((n.toNat : Nat) : Int) = n := by omega
          rw [hnn] at e1
          obtain ⟨s1, s2, s3⟩ := setMap (clock' := clock) (ES' := ES.modify i fun e => { e with val := cv }) r hm hE g2 (by rw [modify_toList]; exact e2)
          refine ⟨_, ?_, s2, s3⟩
          have e1' : ES.findIdx? (fun e => (e.born : Int) == n) = some i := by cases ES; simpa using e1
          simp [Instr.entryStore, run_getMap g2, asInt, asIntOf, e1', s1 P]
        · cases hu'
      · cases hu'
    · cases hu'
  · cases hu'
end Go.Hb

namespace Go.Hb
variable {P : Program} {E : Emb} {h h' : Hp} {w w' : World}

/-- what is added, concretely: three forms -/
inductive Adds (P : Program) (w : World) (at1 : TypeId) (e : TypeId) (sz : Nat) : Value → List Value → Nat → Prop
  | slice (a : Addr) (n c : Nat) (us : List Value) (d : TypeDesc) (hd : P.underlying at1 = some d) (hi : ∀ k, d ≠ .int k) (hl : ∀ w1 : World, w1.heap = w.heap → (loadCells a (n * sz)).run P w1 = .ok ⟨us⟩ w1) :
      Adds P w at1 e sz (.slice (some a) n c) us n
  | nil (d : TypeDesc) (hd : P.underlying at1 = some d) (hi : ∀ k, d ≠ .int k) : Adds P w at1 e sz (.slice none 0 0) [] 0
  | zeros (l : Int) (n : Nat) (z : Value) (k : IntKind) (inf : TypeInfo) (us : List Value) (hd : P.underlying at1 = some (.int k)) (hl : l = (n : Int)) (hn : n < 100000) (hi : P.info? e = some inf) (hb : inf.bytes ≤ 1000)
      (hz : ∀ w, (zeroValue e).run P w = .ok z w) (hus : us = (Builtin.zeroCells z.cells n).toList) (hs : z.cells.size = sz) (h1 : 1 ≤ sz) : Adds P w at1 e sz (.int .i64 l) us n

theorem wrap_small {n : Nat} (h : n < 100000) : IntKind.i64.wrap (n : Int) = n := by
  simp [IntKind.wrap, IntKind.bits, IntKind.signed]; omega
set_option maxRecDepth 100000 in
theorem run_append_room {argTypes : Array TypeId} {ty st at1 e : TypeId} {sz len cap n : Nat} {base : Option Addr} {cx : Value} {us : List Value} (hA : Adds P w at1 e sz cx us n)
    (h0 : argTypes[0]? = some st) (h1 : argTypes[1]? = some at1) (hu : P.underlying st = some (.slice e)) (hs : sizeOfT P e = some sz) (hcap : len + n ≤ cap)
    (hst : match base with | some a => (storeCells (a.add (len * sz)) us).run P w = .ok () w' | none => w' = w) :
    (Builtin.append_ argTypes ty #[.slice base len cap, cx]).run P w = .ok (.slice base (len + n) cap) w' := by
  have e0 : (#[Value.slice base len cap, cx] : Array Value)[0]? = some (.slice base len cap) := rfl
  have e1 : (#[Value.slice base len cap, cx] : Array Value)[1]? = some cx := rfl
  unfold Builtin.append_
  cases hA with
  | slice a n c us d hd hi hl =>
    have := hl w rfl
    simp only [h0, h1, e0, e1, Sem.run_bind, run_und hu, run_size hs, run_und hd, Result.andThen_ok, Sem.run_pure, Bool.false_eq_true, if_false, if_true, Builtin.lenOf, Builtin.firstCells, hcap, Bool.not_false, this]
    cases base with
    | none => simp only at hst; subst hst; simp only [Sem.run_pure]
    | some a => simp only at hst; simp only [Sem.run_bind, hst, Result.andThen_ok, Sem.run_pure]
  | nil d hd hi =>
    simp only [h0, h1, e0, e1, Sem.run_bind, run_und hu, run_size hs, run_und hd, Result.andThen_ok, Sem.run_pure, Bool.false_eq_true, if_false, if_true, Builtin.lenOf, Builtin.firstCells, hcap, Bool.not_false]
    cases base with
    | none => simp only at hst; subst hst; simp only [Sem.run_pure]
    | some a => simp only at hst; simp only [Sem.run_bind, hst, Result.andThen_ok, Sem.run_pure]
  | zeros l n z k inf us hd hl hn hi hb hz hus hs' h1' =>
    subst hl
    have hw := wrap_small hn
    have hneg : ¬ ((n : Int) < 0) := by omega
    have hbig : ¬ ((n : Int) * (inf.bytes : Int) > 2 ^ 48) := by
      have h3 : n * inf.bytes ≤ 100000 * 1000 := Nat.mul_le_mul (by omega) hb
      rw [← Int.natCast_mul]
      generalize n * inf.bytes = q at h3
      omega
    simp only [h0, h1, e0, e1, Sem.run_bind, run_und hu, run_size hs, run_und hd, Result.andThen_ok, Sem.run_pure]
    simp only [if_true, Sem.run_bind, asInt_run, Result.andThen_ok]
    simp only [hw, hneg, if_false]
    simp only [Sem.run_bind, run_tinfo hi, Result.andThen_ok]
    rw [if_neg hbig]
    simp only [Sem.run_bind, Sem.run_pure, Result.andThen_ok, Int.toNat_natCast]
    rw [if_pos hcap]
    simp only [Bool.not_true, Bool.false_eq_true, if_false, Sem.run_bind]
    have hnew : (if n * sz = 0 then pure #[] else do let __do_lift ← zeroValue e; pure (Builtin.zeroCells __do_lift.cells n) : Sem (Array Value)).run P w = .ok ⟨us⟩ w := by
      by_cases h0 : n * sz = 0
      · have hn0 : n = 0 := by
          rcases Nat.mul_eq_zero.1 h0 with h | h
          · exact h
          · omega
        subst hn0
        have : us = [] := by rw [hus]; simp [Builtin.zeroCells]
        subst this
        simp
      · simp only [h0, if_false, Sem.run_bind, hz, Result.andThen_ok, Sem.run_pure, hus]
    simp only [hnew, Result.andThen_ok]
    cases base with
    | none => simp only at hst; subst hst; simp only [Sem.run_pure]
    | some a => simp only at hst; simp only [Sem.run_bind, hst, Result.andThen_ok, Sem.run_pure]

theorem growBy_le (n : Nat) : ∀ (r c : Nat), c ≤ n → Builtin.growBy n r c ≤ 2 * n + 1000
  | 0, c, h => by simp [Builtin.growBy]; omega
  | r+1, c, h => by
    simp only [Builtin.growBy]
    split
    · omega
    · by_cases h2 : c + (c + 768) / 4 ≤ n
      · exact growBy_le n r _ h2
      · cases r with
        | zero => simp [Builtin.growBy]; omega
        | succ r => simp only [Builtin.growBy]; rw [if_pos (by omega)]; omega
theorem nextcap_le {need cap : Nat} (h : cap < need) : Builtin.nextslicecap need cap ≤ 2 * need + 1000 := by
  unfold Builtin.nextslicecap
  split
  · omega
  · split
    · omega
    · exact growBy_le need 4 cap (by omega)

set_option maxRecDepth 100000 in
set_option maxHeartbeats 1000000 in
theorem run_append_grow {argTypes : Array TypeId} {ty st at1 e : TypeId} {sz len cap n : Nat} {base : Option Addr} {cx : Value} {us os : List Value} (hA : Adds P w at1 e sz cx us n) {z : AV} (hz : zeroOf P e = some z)
    {inf : TypeInfo} (hinf : P.info? e = some inf) (hb1 : 1 ≤ inf.bytes) (hb2 : inf.bytes ≤ 1000)
    (h0 : argTypes[0]? = some st) (h1 : argTypes[1]? = some at1) (hu : P.underlying st = some (.slice e)) (hs : sizeOfT P e = some sz) (hcap : ¬ len + n ≤ cap) (hsm : len + n ≤ 3000000)
    (hold : ∀ w1 : World, w1.heap = w.heap → (Builtin.firstCells sz len (.slice base len cap)).run P w1 = .ok ⟨os⟩ w1) :
    ∃ newCap rest d, len + n ≤ newCap ∧ rest.length = (newCap - (len + n)) * z.cells.length ∧
      (Builtin.append_ argTypes ty #[.slice base len cap, cx]).run P w = .ok (.slice (some ⟨w.heap.size, 0, none⟩) (len + n) newCap) { w with drawn := d, heap := w.heap.push (.cells ⟨os ++ us ++ rest⟩ e) } := by
  have e0 : (#[Value.slice base len cap, cx] : Array Value)[0]? = some (.slice base len cap) := rfl
  have e1 : (#[Value.slice base len cap, cx] : Array Value)[1]? = some cx := rfl
  obtain ⟨cz, z1, z2⟩ := run_zero hz
  have hzl : cz.cells.size = z.cells.length := by have := (z2 ⟨fun _ => none, fun _ => none⟩).cells.length; simpa using this
  have hng : Builtin.nextslicecap (len + n) cap * inf.bytes ≤ 2 ^ 48 := by
    have e1 := nextcap_le (need := len + n) (cap := cap) (by omega)
    have e2 : Builtin.nextslicecap (len + n) cap * inf.bytes ≤ 6001000 * 1000 := Nat.mul_le_mul (by omega) hb2
    omega
  have hngt : ¬ Builtin.nextslicecap (len + n) cap * inf.bytes > 2 ^ 48 := by omega
  have hb0 : ¬ inf.bytes = 0 := by omega
  have hmx : ¬ (((len + n : Nat) : Int) > IntKind.i64.max) := by simp [IntKind.max, IntKind.signed, IntKind.bits]; omega
  have hq : (Question.appendCap (len + n) cap e).forced = false := rfl
  obtain ⟨d, hd⟩ : ∃ d, d = w.drawn + 1 := ⟨_, rfl⟩
  obtain ⟨nc, hnc⟩ : ∃ nc, nc = (Question.appendCap (len + n) cap e).cut (w.tape w.drawn (.appendCap (len + n) cap e)) := ⟨_, rfl⟩
  have hle : len + n ≤ nc := by rw [hnc]; simp only [Question.cut]; omega
  have hch : (choose (.appendCap (len + n) cap e)).run P w = .ok nc { w with drawn := d } := by
    simp only [run_choose, hq, hnc, hd]; rfl
  have arr : ∀ (us : List Value) (X : Array Value), (⟨os⟩ ++ ⟨us⟩ ++ X : Array Value) = ⟨os ++ us ++ X.toList⟩ := fun us X => by apply Array.ext'; simp
  have hold' := hold { w with drawn := d } rfl
  refine ⟨nc, (Builtin.zeroCells cz.cells (nc - (len + n))).toList, d, hle, by simp [Builtin.zeroCells, hzl], ?_⟩
  unfold Builtin.append_
  cases hA with
  | slice a n c us t hd' hi hl =>
    have hnew : (Builtin.firstCells sz n (Value.slice (some a) n c)).run P { w with drawn := d } = .ok ⟨us⟩ { w with drawn := d } := by simpa [Builtin.firstCells] using hl { w with drawn := d } rfl
    simp only [h0, h1, e0, e1, Sem.run_bind, run_und hu, run_size hs, run_und hd', Result.andThen_ok, Sem.run_pure, Bool.false_eq_true, if_false, Builtin.lenOf]
    rw [if_neg hcap]
    simp only [Sem.run_bind, run_tinfo hinf, Result.andThen_ok]
    rw [if_neg (fun h => by rcases h.2 with h | h <;> first | exact hb0 h | cases h)]
    simp only [Sem.run_bind, run_tinfo hinf, Result.andThen_ok]
    rw [if_neg hngt]
    simp only [Sem.run_bind, hch, Result.andThen_ok, run_tinfo hinf, run_askRoom, hold', Bool.not_false, if_true, hnew, z1, newRow, run_newObj, Sem.run_pure, arr]
  | nil t hd' hi =>
    simp only [h0, h1, e0, e1, Sem.run_bind, run_und hu, run_size hs, run_und hd', Result.andThen_ok, Sem.run_pure, Bool.false_eq_true, if_false, Builtin.lenOf]
    rw [if_neg hcap]
    simp only [Sem.run_bind, run_tinfo hinf, Result.andThen_ok]
    rw [if_neg (fun h => by rcases h.2 with h | h <;> first | exact hb0 h | cases h)]
    simp only [Sem.run_bind, run_tinfo hinf, Result.andThen_ok]
    rw [if_neg hngt]
    have hnew : (Builtin.firstCells sz 0 (Value.slice none 0 0)).run P { w with drawn := d } = .ok ⟨[]⟩ { w with drawn := d } := by simp [Builtin.firstCells]
    simp only [Sem.run_bind, hch, Result.andThen_ok, run_tinfo hinf, run_askRoom, hold', Bool.not_false, if_true, hnew, z1, newRow, run_newObj, Sem.run_pure, arr]
  | zeros l n z' k inf' us hd' hl hn hi hb hz' hus hs' h1' =>
    subst hl
    rw [hinf] at hi; cases hi
    have hw := wrap_small hn
    have hneg : ¬ ((n : Int) < 0) := by omega
    have hbig : ¬ ((n : Int) * (inf.bytes : Int) > 2 ^ 48) := by
      have h3 : n * inf.bytes ≤ 100000 * 1000 := Nat.mul_le_mul (by omega) hb
      rw [← Int.natCast_mul]
      generalize n * inf.bytes = q at h3
      omega
    have hnew : ∀ w, (if n * sz = 0 then pure #[] else do let __do_lift ← zeroValue e; pure (Builtin.zeroCells __do_lift.cells n) : Sem (Array Value)).run P w = .ok ⟨us⟩ w := fun w => by
      by_cases h0 : n * sz = 0
      · have hn0 : n = 0 := by
          rcases Nat.mul_eq_zero.1 h0 with h | h
          · exact h
          · omega
        subst hn0
        have : us = [] := by rw [hus]; simp [Builtin.zeroCells]
        subst this
        simp
      · simp only [h0, if_false, Sem.run_bind, hz', Result.andThen_ok, Sem.run_pure, hus]
    simp only [h0, h1, e0, e1, Sem.run_bind, run_und hu, run_size hs, run_und hd', Result.andThen_ok, Sem.run_pure]
    simp only [if_true, Sem.run_bind, asInt_run, Result.andThen_ok]
    simp only [hw, hneg, if_false]
    simp only [Sem.run_bind, run_tinfo hinf, Result.andThen_ok]
    rw [if_neg hbig]
    simp only [Sem.run_bind, Sem.run_pure, Result.andThen_ok, Int.toNat_natCast]
    rw [if_neg hcap]
    simp only [Sem.run_bind, run_tinfo hinf, Result.andThen_ok]
    rw [if_neg (fun h => hmx h.1)]
    simp only [Sem.run_bind, run_tinfo hinf, Result.andThen_ok]
    rw [if_neg hngt]
    simp only [Sem.run_bind, hch, Result.andThen_ok, run_tinfo hinf, run_askRoom, hold', Bool.not_true, Bool.false_eq_true, if_false, hnew, z1, newRow, run_newObj, Sem.run_pure, arr]
end Go.Hb

namespace Go.Hb
variable {P : Program} {E : Emb} {h h' : Hp} {w w' : World}

theorem added_sound (r : Rel E h w.heap) {argTypes : Array TypeId} {e : TypeId} {sz n : Nat} {x : AV} {cx : Value} {vs : List AV} (ha : added P h argTypes e sz x = some (vs, n)) (hx : VR E x cx)
    {inf : TypeInfo} (hinf : P.info? e = some inf) (hb : inf.bytes ≤ 1000) (h1 : 1 ≤ sz) :
    ∃ at1 us, argTypes[1]? = some at1 ∧ Adds P w at1 e sz cx us n ∧ VRs E vs us ∧ us.length = n * sz := by
  unfold added at ha
  split at ha
  · cases ha
  · rename_i xt hxt
    split at ha
    · rename_i k l hu
      split at ha
      · rename_i hl
        split at ha
        · rename_i z hz
          cases hc : (Nat.beq z.cells.length sz && !(Nat.beq sz 0)) with
          | false => rw [hc] at ha; cases ha
          | true =>
            rw [hc] at ha; simp only [cond] at ha; cases ha
            simp only [beq_dec, Bool.and_eq_true, decide_eq_true_eq] at hc
            obtain ⟨cz, z1, z2⟩ := run_zero hz
            have hzl := (z2 E).cells.length
            simp only [Array.length_toList] at hzl
            simp only [VR] at hx; subst hx
            have hzs : cz.cells.size = sz := by omega
            refine ⟨xt, _, hxt, .zeros l l.toNat cz k inf _ hu (by omega) (by omega) hinf hb z1 rfl hzs h1, zeros_VRs (z2 E).cells _ (by omega), by simp [Builtin.zeroCells, hzs]⟩
        · cases ha
      · cases ha
    · cases ha
    · rename_i d hni hu
      cases ha
      simp only [VR] at hx; subst hx
      exact ⟨xt, [], hxt, .nil d hu (fun k e => by subst e; exact hni k rfl), VRs.nil E, by simp⟩
    · rename_i d b off len cap esz ex hni hu
      cases hc : Nat.beq esz sz with
      | false => rw [hc] at ha; cases ha
      | true =>
        rw [hc] at ha; simp only [cond] at ha
        have := Nat.eq_of_beq_eq_true hc
        subst this
        split at ha
        · rename_i us hus
          cases ha
          simp only [VR] at hx
          obtain ⟨L, off', cap', hE, rfl, g1, g2, g3, g4, g5⟩ := hx
          by_cases h0 : cap' = 0
          · have hn0 : n = 0 := by omega
            subst hn0
            have hvs : vs = [] := by
              unfold Hp.loadN at hus
              split at hus
              · simp [getCells] at hus; exact hus
              · cases hus
            subst hvs
            exact ⟨xt, [], hxt, .slice _ _ _ _ d hu (fun k e => by subst e; exact hni k rfl) (fun w1 _ => by simp [loadCells, loadCellsFrom]), VRs.nil E, by simp⟩
          · obtain ⟨us, k1, k2, k3⟩ := loadN_some' r hus hE
            have := g4 h0
            subst this
            exact ⟨xt, us, hxt, .slice _ _ _ _ d hu (fun k e => by subst e; exact hni k rfl) (fun w1 hw => k1 P w1 hw), k2, k3⟩
        · cases ha
    · cases ha

/-- a block of cells is read on in another one: the same memory, some way in -/
theorem Rel.inplace (r : Rel E h w.heap) {b off m k : Nat} {t T' : T AV} {older : List Nat} (hb : h.look b = some (.cells t k older false)) {L : Loc} (hE : E b = some L)
    {vs : List AV} {us : List Value} (hv : VRs E vs us) (ho : allOne vs = true) (hk : k ≤ off + m) (hfit : L.sh + off + m + vs.length ≤ L.sz)
    (hT : ∀ i a, T'.at i = some a → i < m + vs.length ∧ (if i < m then t.at (off + i) = some a else vs[i - m]? = some a)) (e : Nat) (he : e = L.sh + off + m) :
    ∃ w', (∀ P, (storeCells ⟨L.blk, e, none⟩ us).run P w = .ok () w') ∧
      Rel (E.put h.nb ⟨L.blk, L.sh + off, L.sz⟩) ((h.set b (.cells t k older true)).new (.cells T' (m + vs.length) (b :: older) false)) w'.heap ∧
      Ext E h w (E.put h.nb ⟨L.blk, L.sh + off, L.sz⟩) ((h.set b (.cells t k older true)).new (.cells T' (m + vs.length) (b :: older) false)) w' := by
  subst he
  obtain ⟨L', g1, C, e, g2, g3, g4⟩ := r.obj _ _ hb
  rw [hE] at g1; cases g1
  have hf : E h.nb = none := r.fresh _ (Nat.le_refl _)
  have hbn : b ≠ h.nb := fun e => by rw [e, hf] at hE; cases hE
  have hle : E.le (E.put h.nb ⟨L.blk, L.sh + off, L.sz⟩) := Emb.le_put hf
  have hul := hv.length
  -- what lies in the block's memory, of whoever's
  have kins : ∀ {x ox Lx}, h.look x = some ox → E x = some Lx → x ≠ b → Lx.blk = L.blk → x ∈ older ∧ supOf ox = true ∧ Lx.sh + nOf ox ≤ L.sh + k := fun hx hEx hne hbl => by
    rcases r.kin _ _ _ _ _ _ hb hx hE hEx hbl.symm (fun e => hne e.symm) with h2 | ⟨_, h2, _⟩
    · exact h2
    · cases h2
  -- a block of the same memory is not touched
  have still : ∀ {ox : AObj} {Lx : Loc}, supOf ox = true → Lx.sh + nOf ox ≤ L.sh + k → Lx.blk = L.blk → OR E w.heap Lx ox → OR (E.put h.nb ⟨L.blk, L.sh + off, L.sz⟩) (putBlk w L.blk (.cells (over C (L.sh + off + m) us) e (0, 0))).heap Lx ox := by
    intro ox Lx hsup hn hbl ho
    cases ox with
    | cells tx nx kx sx =>
      obtain ⟨C', e', k2, k3, k4⟩ := ho
      rw [hbl, g2] at k2; cases k2
      refine ⟨_, e, by rw [hbl]; exact putBlk_get g2, by rw [over_size]; exact k3, fun i a ha => ?_⟩
      obtain ⟨q0, v, q1, q2⟩ := k4 i a ha
      refine ⟨q0, v, ?_, q2.mono hle⟩
      simp only [nOf] at hn
      rw [over_get _ _ _ _ (by omega), if_neg (by omega)]
      exact q1
    | map es c => obtain ⟨ES, k2, _⟩ := ho; rw [hbl, g2] at k2; cases k2
    | siter l n p => obtain ⟨k2, _⟩ := ho; rw [hbl, g2] at k2; cases k2
    | loop st pe fn tm nt ps as bd df => obtain ⟨_, _, k2, _⟩ := ho; rw [hbl, g2] at k2; cases k2
    | defd tk => simp only [OR] at ho; rw [hbl, g2] at ho; cases ho
    | lst ee xs => cases hsup
    | miter m s l n => obtain ⟨_, k2, _⟩ := ho; rw [hbl, g2] at k2; cases k2
  have hks : ∀ x ox, ((h.set b (.cells t k older true)).new (.cells T' (m + vs.length) (b :: older) false)).look x = some ox → x = h.nb ∨ ∃ o0, h.look x = some o0 := fun x ox e => by
    rw [look_new, nb_set] at e; split at e
    · rename_i hx; exact .inl hx
    · rw [look_set] at e; split at e
      · rename_i hx; subst hx; exact .inr ⟨_, hb⟩
      · exact .inr ⟨ox, e⟩
  refine ⟨putBlk w L.blk (.cells (over C (L.sh + off + m) us) e (0, 0)), fun P => ?_, ⟨?_, ?_, ?_, r.imm_put hb hE _, ?_, fun x ox e => by
    rw [nb_new, nb_set]; rcases hks x ox e with rfl | ⟨o0, e0⟩
    · omega
    · have := r.keys x o0 e0; omega⟩, ⟨hle, by simp [putBlk], ?_, ?_, by simp [nb_new, nb_set], rfl, rfl, rfl, fun x hx => Emb.put_ne _ _ (by omega), frozen_set g2 rfl rfl, fun _ _ e _ => .inl e, fun x ox e hx => (hks x ox e).resolve_left (by omega)⟩⟩
  · have := run_storeCells (P := P) us (w := w) (b := L.blk) (k := L.sh + off + m) (i := 0) g2 (by omega) (hv.ones ho)
    simpa using this
  · intro x ox ex
    rw [look_new, nb_set] at ex
    split at ex
    · rename_i hx; cases ex; subst hx
      refine .inr ⟨_, Emb.put_same _ _ _, over C (L.sh + off + m) us, e, putBlk_get g2, by rw [over_size]; exact g3, fun i a ha => ?_⟩
      obtain ⟨q0, q1⟩ := hT i a ha
      refine ⟨q0, ?_⟩
      by_cases hi : i < m
      · rw [if_pos hi] at q1
        obtain ⟨_, v, p1, p2⟩ := g4 _ _ q1
        refine ⟨v, ?_, p2.mono hle⟩
        rw [over_get _ _ _ _ (by omega), if_neg (by simp only; omega)]
        rw [← p1]; congr 1; simp only; omega
      · rw [if_neg hi] at q1
        obtain ⟨v, p1, p2⟩ := hv.get _ _ q1
        refine ⟨v, ?_, p2.mono hle⟩
        rw [over_get _ _ _ _ (by omega), if_pos (by simp only; omega)]
        rw [← p1]; congr 1; simp only; omega
    · rename_i hx
      rw [look_set] at ex
      split at ex
      · rename_i hxb; cases ex; subst hxb
        refine .inr ⟨L, by rw [Emb.put_ne _ _ hx]; exact hE, ?_⟩
        exact still (ox := .cells t k older true) rfl (by simp [nOf]) rfl ⟨C, e, g2, g3, g4⟩
      · rename_i hxb
        rcases r.obj0 x ox ex with ⟨u1, u2⟩ | ⟨Lx, k1, k2⟩
        · exact .inl ⟨u1, by rw [Emb.put_ne _ _ hx]; exact u2⟩
        refine .inr ⟨Lx, by rw [Emb.put_ne _ _ hx]; exact k1, ?_⟩
        by_cases hbl : Lx.blk = L.blk
        · exact still (kins ex k1 hxb hbl).2.1 (kins ex k1 hxb hbl).2.2 hbl k2
        · exact (k2.mono hle).heap (by simp only [putBlk]; rw [Array.getElem?_setIfInBounds_ne (fun e => hbl e.symm)])
  · intro x y ox oy Lx Ly ex ey kx ky hbl hne
    rw [look_new, nb_set] at ex ey
    -- one of them the new one
    have newOne : ∀ {y oy Ly}, y ≠ h.nb → (h.set b (.cells t k older true)).look y = some oy → E y = some Ly → Ly.blk = L.blk → y ∈ b :: older ∧ supOf oy = true ∧ Ly.sh + nOf oy ≤ L.sh + off + (m + vs.length) := by
      intro y oy Ly hy ey ky hbl
      rw [look_set] at ey
      split at ey
      · rename_i hyb; cases ey; subst hyb
        rw [hE] at ky; cases ky
        exact ⟨List.mem_cons_self .., rfl, by simp [nOf]; omega⟩
      · rename_i hyb
        obtain ⟨q1, q2, q3⟩ := kins ey ky hyb hbl
        exact ⟨List.mem_cons_of_mem _ q1, q2, by omega⟩
    by_cases h1 : x = h.nb
    · subst h1
      have hy : y ≠ h.nb := fun e => hne e.symm
      rw [if_pos rfl] at ex; cases ex
      rw [if_neg hy] at ey
      rw [Emb.put_same] at kx; cases kx
      rw [Emb.put_ne _ _ hy] at ky
      exact .inl (newOne hy ey ky hbl.symm)
    · rw [if_neg h1] at ex
      rw [Emb.put_ne _ _ h1] at kx
      by_cases h2 : y = h.nb
      · subst h2
        rw [if_pos rfl] at ey; cases ey
        rw [Emb.put_same] at ky; cases ky
        exact .inr (newOne h1 ex kx hbl)
      · rw [if_neg h2] at ey
        rw [Emb.put_ne _ _ h2] at ky
        rw [look_set] at ex ey
        by_cases h3 : x = b
        · subst h3
          have hy : y ≠ x := fun e => hne e.symm
          rw [if_pos rfl] at ex; cases ex
          rw [if_neg hy] at ey
          rw [hE] at kx; cases kx
          exact .inl (kins ey ky hy hbl.symm)
        · rw [if_neg h3] at ex
          by_cases h4 : y = b
          · subst h4
            rw [if_pos rfl] at ey; cases ey
            rw [hE] at ky; cases ky
            exact .inr (kins ex kx h3 hbl)
          · rw [if_neg h4] at ey
            exact r.kin x y ox oy Lx Ly ex ey kx ky hbl hne
  · intro x hx
    rw [nb_new, nb_set] at hx
    rw [Emb.put_ne _ _ (by omega)]
    exact r.fresh x (by omega)
  · intro x ox Lx ex kx
    show E.imm Lx.blk = none
    rw [look_new, nb_set] at ex
    by_cases h1 : x = h.nb
    · subst h1; rw [Emb.put_same] at kx; cases kx; exact r.apart b _ L hb hE
    · rw [if_neg h1, look_set] at ex
      rw [Emb.put_ne _ _ h1] at kx
      by_cases h2 : x = b
      · subst h2; exact r.apart x _ Lx hb kx
      · rw [if_neg h2] at ex; exact r.apart x ox Lx ex kx
  · intro i hi hno
    simp only [putBlk]
    rw [Array.getElem?_setIfInBounds_ne (hno b _ L hb hE)]
  · intro x ox Lx ex kx hlt
    rw [look_new, nb_set] at ex
    by_cases h1 : x = h.nb
    · subst h1; rw [Emb.put_same] at kx; cases kx; exact ⟨b, _, L, hb, hE, rfl⟩
    · rw [if_neg h1, look_set] at ex
      rw [Emb.put_ne _ _ h1] at kx
      by_cases h2 : x = b
      · subst h2; rw [hE] at kx; cases kx; exact ⟨x, _, L, hb, hE, rfl⟩
      · rw [if_neg h2] at ex; exact ⟨x, ox, Lx, ex, kx, rfl⟩
end Go.Hb

namespace Go.Hb
variable {P : Program} {E : Emb} {h h' : Hp} {w w' : World}

theorem Ext.drawn {E' : Emb} (x : Ext E h w E' h' w') (d : Nat) : Ext E h w E' h' { w' with drawn := d } :=
  ⟨x.le, x.size, x.keep, x.own, x.nb, x.os, x.tape, x.output, x.low, x.froz, x.immo, x.keys⟩

theorem firstCells_slice {sz len cap : Nat} {a : Addr} {os : List Value} (h : ∀ w1 : World, w1.heap = w.heap → (loadCells a (len * sz)).run P w1 = .ok ⟨os⟩ w1) :
    ∀ w1 : World, w1.heap = w.heap → (Builtin.firstCells sz len (.slice (some a) len cap)).run P w1 = .ok ⟨os⟩ w1 := fun w1 hw => by
  simp only [Builtin.firstCells]; exact h w1 hw

theorem old_cells (r : Rel E h w.heap) {b off m : Nat} {old : List AV} (hl : h.loadN b off m = some old) {L : Loc} (hE : E b = some L) {off' cap' : Nat} (h4 : cap' ≠ 0 → off' = L.sh + off) (h0 : cap' = 0 → m = 0) :
    ∃ os, (∀ w1 : World, w1.heap = w.heap → (loadCells ⟨L.blk, off', none⟩ m).run P w1 = .ok ⟨os⟩ w1) ∧ VRs E old os ∧ os.length = m := by
  by_cases hc : cap' = 0
  · have hm := h0 hc
    subst hm
    have : old = [] := by
      unfold Hp.loadN at hl
      split at hl
      · simp [getCells] at hl; exact hl
      · cases hl
    subst this
    exact ⟨[], fun w1 _ => by simp [loadCells, loadCellsFrom], VRs.nil E, rfl⟩
  · have := h4 hc
    subst this
    obtain ⟨os, k1, k2, k3⟩ := loadN_some' r hl hE
    exact ⟨os, fun w1 hw => k1 P w1 hw, k2, k3⟩

theorem loadN_get {b off m : Nat} {old : List AV} (hl : h.loadN b off m = some old) {t : T AV} {n : Nat} {k : List Nat} {s : Bool} (hb : h.look b = some (.cells t n k s)) : old.length = m ∧ ∀ j, j < m → t.at (off + j) = old[j]? := by
  unfold Hp.loadN at hl
  rw [hb] at hl
  exact getCells_some hl

theorem Rel.supersede (r : Rel E h w.heap) {b k : Nat} {t : T AV} {older : List Nat} (hb : h.look b = some (.cells t k older false)) :
    Rel E (h.set b (.cells t k older true)) w.heap ∧ Ext E h w E (h.set b (.cells t k older true)) w := by
  have un : ∀ {x ox}, (h.set b (.cells t k older true)).look x = some ox → ∃ o0, h.look x = some o0 ∧ (∀ E H L, OR E H L o0 → OR E H L ox) ∧ olderOf ox = olderOf o0 ∧ nOf ox = nOf o0 ∧ (supOf o0 = true → supOf ox = true) ∧ unloc o0 = unloc ox := by
    intro x ox e
    rw [look_set] at e
    split at e
    · rename_i hx; cases e; subst hx; exact ⟨_, hb, fun _ _ _ h => h, rfl, rfl, fun _ => rfl, rfl⟩
    · exact ⟨ox, e, fun _ _ _ h => h, rfl, rfl, fun h => h, rfl⟩
  refine ⟨⟨?_, ?_, fun x hx => r.fresh x hx, r.imm, ?_, fun x ox e => by obtain ⟨o0, h0, _⟩ := un e; exact r.keys x o0 h0⟩, ⟨Emb.le.refl E, Nat.le_refl _, fun _ _ _ => rfl, ?_, Nat.le_refl _, rfl, rfl, rfl, fun _ _ => rfl, fun _ => rfl, fun _ _ e _ => .inl e, fun x ox e _ => by obtain ⟨o0, h0, _⟩ := un e; exact ⟨o0, h0⟩⟩⟩
  · intro x ox e
    obtain ⟨o0, h0, h1, _, _, _, h5⟩ := un e
    rcases r.obj0 x o0 h0 with ⟨u1, u2⟩ | ⟨L, k1, k2⟩
    · exact .inl ⟨by rw [← h5]; exact u1, u2⟩
    exact .inr ⟨L, k1, h1 _ _ _ k2⟩
  · intro x y ox oy Lx Ly ex ey kx ky hbl hne
    obtain ⟨o1, a1, _, a2, a3, a4, _⟩ := un ex
    obtain ⟨o2, b1, _, b2, b3, b4, _⟩ := un ey
    rcases r.kin x y o1 o2 Lx Ly a1 b1 kx ky hbl hne with ⟨q1, q2, q3⟩ | ⟨q1, q2, q3⟩
    · exact .inl ⟨by rw [a2]; exact q1, b4 q2, by rw [a3, b3]; exact q3⟩
    · exact .inr ⟨by rw [b2]; exact q1, a4 q2, by rw [a3, b3]; exact q3⟩
  · intro x ox Lx ex kx
    obtain ⟨o1, a1, _⟩ := un ex
    exact r.apart x o1 Lx a1 kx
  · intro x ox Lx ex kx _
    obtain ⟨o1, a1, _⟩ := un ex
    exact ⟨x, o1, Lx, a1, kx, rfl⟩

set_option maxHeartbeats 1000000 in
theorem aappend_sound (r : Rel E h w.heap) {argTypes : Array TypeId} {ty : TypeId} {s x v : AV} {cs cx : Value} (ha : aappend P h argTypes s x = some (v, h')) (hs : VR E s cs) (hx : VR E x cx) :
    ∃ cv w' E', (Builtin.append_ argTypes ty #[cs, cx]).run P w = .ok cv w' ∧ VR E' v cv ∧ Rel E' h' w'.heap ∧ Ext E h w E' h' w' := by
  unfold aappend at ha
  split at ha
  · cases ha
  · rename_i st hst
    split at ha
    · rename_i e hu
      split at ha
      · rename_i sz inf z hsz hinf hz
        split at ha
        · cases ha
        · rename_i vs n hadd
          cases hc : (Nat.beq z.cells.length sz && Nat.ble sz 40 && Nat.ble inf.bytes 1000 && Nat.ble 1 inf.bytes && Nat.ble 1 sz && allOne vs && Nat.ble n 1000000) with
          | false => rw [hc] at ha; cases ha
          | true =>
            rw [hc] at ha; simp only [cond] at ha
            simp only [ble_dec, beq_dec, Bool.and_eq_true, decide_eq_true_eq] at hc
            obtain ⟨⟨⟨⟨⟨⟨hzl, hs40⟩, hb2⟩, hb1⟩, hs1⟩, hone⟩, hn6⟩ := hc
            obtain ⟨at1, us, hat1, hA, hvs, hul⟩ := added_sound (P := P) (w := w) r hadd hx hinf hb2 hs1
            split at ha
            · -- the nil slice
              simp only [VR] at hs; subst hs
              cases h0 : Nat.beq n 0 with
              | true =>
                rw [h0] at ha; simp only [cond] at ha; cases ha
                have := Nat.eq_of_beq_eq_true h0
                subst this
                have hus : us = [] := List.length_eq_zero_iff.1 (by omega)
                subst hus
                refine ⟨.slice none 0 0, w, E, ?_, by simp [VR], r, Ext.refl _ _ _⟩
                exact run_append_room (base := none) (len := 0) (cap := 0) (w' := w) hA hst hat1 hu hsz (by omega) rfl
              | false =>
                rw [h0] at ha; simp only [cond] at ha; cases ha
                have hn0 : n ≠ 0 := fun e => by subst e; cases h0
                obtain ⟨nc, rest, d, k1, k2, k3⟩ := run_append_grow (ty := ty) (base := none) (len := 0) (cap := 0) (os := []) hA hz hinf hb1 hb2 hst hat1 hu hsz (by omega) (by omega) (fun w1 _ => by simp [Builtin.firstCells])
                simp only [Nat.zero_add, List.nil_append] at k1 k2 k3
                obtain ⟨q1, q2⟩ := newCells_sound r hvs e rest
                refine ⟨_, _, _, k3, VR_newslice w h _ n n sz nc false (Nat.le_refl _) k1 (fun e => by cases e) ?_, q1, q2.drawn d⟩
                rw [List.length_append, k2, hul, hzl, ← Nat.add_mul]
                exact Nat.mul_le_mul_right _ (by omega)
            · rename_i b off len cap esz exact
              cases hc : (Nat.beq esz sz && Nat.ble len 1000000 && Nat.ble cap 1000000) with
              | false => rw [hc] at ha; cases ha
              | true =>
                rw [hc] at ha; simp only [cond] at ha
                simp only [ble_dec, beq_dec, Bool.and_eq_true, decide_eq_true_eq] at hc
                obtain ⟨⟨rfl, hlen6⟩, hcap6⟩ := hc
                simp only [VR] at hs
                obtain ⟨L, off', cap', hE, rfl, g1, g2, g3, g4, g5⟩ := hs
                cases hr : Nat.ble (len + n) cap with
                | true =>
                  rw [hr] at ha; simp only [cond] at ha
                  have hroom := Nat.le_of_ble_eq_true hr
                  cases h0 : Nat.beq n 0 with
                  | true =>
                    rw [h0] at ha; simp only at ha; cases ha
                    have := Nat.eq_of_beq_eq_true h0
                    subst this
                    have hus : us = [] := List.length_eq_zero_iff.1 (by omega)
                    subst hus
                    refine ⟨.slice (some ⟨L.blk, off', none⟩) len cap', w, E, ?_, ?_, r, Ext.refl _ _ _⟩
                    · exact run_append_room (base := some ⟨L.blk, off', none⟩) (len := len) (cap := cap') (w' := w) hA hst hat1 hu hsz (by omega) rfl
                    · simp only [VR]; exact ⟨L, off', cap', hE, rfl, g1, g2, g3, g4, g5⟩
                  | false =>
                    rw [h0] at ha; simp only at ha
                    have hn0 : n ≠ 0 := fun e => by subst e; cases h0
                    split at ha
                    · rename_i h2 hst2
                      cases ha
                      unfold storeRoom at hst2
                      split at hst2
                      · rename_i t k older hb
                        cases hst2
                        have hoff := g4 (by omega)
                        subst hoff
                        have hvl := hvs.length
                        have hm : (len + n) * esz ≤ cap' * esz := Nat.mul_le_mul_right _ (by omega)
                        rw [Nat.add_mul] at hm
                        obtain ⟨w2, q1, q2, q3⟩ := r.write (off := off + len * esz) hb hE hvs hone (max k (off + len * esz + vs.length)) (Nat.le_max_left _ _) (fun _ => Nat.le_max_right _ _) (by omega)
                        refine ⟨.slice (some ⟨L.blk, L.sh + off, none⟩) (len + n) cap', w2, E, ?_, ?_, q2, q3⟩
                        · refine run_append_room (base := some ⟨L.blk, L.sh + off, none⟩) (len := len) (cap := cap') (w' := w2) hA hst hat1 hu hsz (by omega) ?_
                          simp only [add_none]
                          rw [Nat.add_assoc]; exact q1 P
                        · simp only [VR]; exact ⟨L, L.sh + off, cap', hE, rfl, by omega, g2, g3, fun _ => rfl, g5⟩
                      · cases hst2
                    · cases ha
                | false =>
                  rw [hr] at ha; simp only [cond] at ha
                  have hnroom : ¬ len + n ≤ cap := fun e => by rw [Nat.ble_eq_true_of_le e] at hr; cases hr
                  have hn0 : n ≠ 0 := fun e => by subst e; omega
                  split at ha
                  · cases ha
                  · rename_i old hold
                    have hc0 : cap' = 0 → len * esz = 0 := fun e => by rw [show len = 0 by omega, Nat.zero_mul]
                    obtain ⟨os, o1, o2, o3⟩ := old_cells (P := P) r hold hE g4 hc0
                    -- a new row
                    have grown : ∀ (T' : T AV) (N : Nat) (kin : List Nat) (h1 : Hp), h1.nb = h.nb → Rel E h1 w.heap → Ext E h w E h1 w → ¬ len + n ≤ cap' →
                        (∀ i a, T'.at i = some a → i < N ∧ (old ++ vs)[i]? = some a) →
                        ∃ cv w' E', (Builtin.append_ argTypes ty #[.slice (some ⟨L.blk, off', none⟩) len cap', cx]).run P w = .ok cv w' ∧ VR E' (.slice h.nb 0 (len + n) (len + n) esz false) cv ∧ Rel E' (h1.new (.cells T' N kin false)) w'.heap ∧ Ext E h w E' (h1.new (.cells T' N kin false)) w' := by
                      intro T' N kin h1 hnb r1 x1 hno hT
                      obtain ⟨nc, rest, d, k1, k2, k3⟩ := run_append_grow (ty := ty) (base := some ⟨L.blk, off', none⟩) (len := len) (cap := cap') (os := os) hA hz hinf hb1 hb2 hst hat1 hu hsz hno (by omega) (firstCells_slice o1)
                      obtain ⟨q1, q2⟩ := r1.new (.cells T' N kin false) (.cells ⟨os ++ us ++ rest⟩ e) (os ++ us ++ rest).length (fun E' H' hle _ hH => ⟨⟨os ++ us ++ rest⟩, e, hH, rfl, fun i a hia => by
                        obtain ⟨p1, p2⟩ := hT i a hia
                        obtain ⟨v, p3, p4⟩ := (o2.append hvs).get i a p2
                        refine ⟨p1, v, ?_, p4.mono hle⟩
                        have hlt := (List.getElem?_eq_some_iff.1 p3).1
                        simp only [Nat.zero_add]
                        rw [show (⟨os ++ us ++ rest⟩ : Array Value) = (os ++ us ++ rest).toArray from rfl, List.getElem?_toArray, List.getElem?_append_left hlt]
                        exact p3⟩)
                      rw [hnb] at q1 q2
                      refine ⟨_, _, _, k3, ?_, q1, x1.trans (q2.drawn d)⟩
                      refine VR_newslice w h _ (len + n) (len + n) esz nc false (Nat.le_refl _) k1 (fun e => by cases e) ?_
                      rw [List.length_append, List.length_append, k2, hul, hzl, o3, ← Nat.add_mul, ← Nat.add_mul]
                      exact Nat.mul_le_mul_right _ (by omega)
                    cases exact with
                    | true =>
                      simp only at ha; cases ha
                      have hce := g3 rfl
                      exact grown _ _ _ h rfl r (Ext.refl _ _ _) (by omega) (fun i a hia => by
                        rw [at_put_leaf] at hia
                        split at hia
                        · rename_i hi; exact ⟨hi, hia⟩
                        · cases hia)
                    | false =>
                      simp only at ha
                      split at ha
                      · rename_i t k older hb
                        cases hk : Nat.ble k (off + len * esz) with
                        | false => rw [hk] at ha; cases ha
                        | true =>
                          rw [hk] at ha; simp only at ha; cases ha
                          have hk' := Nat.le_of_ble_eq_true hk
                          obtain ⟨ol, og⟩ := loadN_get hold hb
                          have hvl := hvs.length
                          obtain ⟨Lb, e1, C, ee, e2, e3, e4⟩ := r.obj _ _ hb
                          rw [hE] at e1; cases e1
                          -- what the new row of cells is known to hold
                          have hT : ∀ i a, (bif Nat.beq off 0 then putCells t (len * esz) vs else putCells .leaf 0 (old ++ vs)).at i = some a → i < len * esz + vs.length ∧ (if i < len * esz then t.at (off + i) = some a else vs[i - len * esz]? = some a) := by
                            intro i a hia
                            rw [beq_dec] at hia
                            by_cases h0 : off = 0
                            · subst h0
                              simp only [decide_true, cond] at hia
                              rw [at_putCells] at hia
                              split at hia
                              · rename_i hi; exact ⟨hi.2, by rw [if_neg (by omega)]; exact hia⟩
                              · rename_i hi
                                have := (e4 i a hia).1
                                exact ⟨by omega, by rw [if_pos (by omega)]; simpa using hia⟩
                            · simp only [h0, decide_false, cond] at hia
                              rw [at_put_leaf] at hia
                              split at hia
                              · rename_i hi
                                rw [List.length_append, ol] at hi
                                refine ⟨hi, ?_⟩
                                split
                                · rename_i hi2
                                  rw [List.getElem?_append_left (by omega)] at hia
                                  rw [og i hi2]; exact hia
                                · rename_i hi2
                                  rw [List.getElem?_append_right (by omega), ol] at hia
                                  exact hia
                              · cases hia
                          have hT2 : ∀ i a, (bif Nat.beq off 0 then putCells t (len * esz) vs else putCells .leaf 0 (old ++ vs)).at i = some a → i < old.length + vs.length ∧ (old ++ vs)[i]? = some a := by
                            intro i a hia
                            obtain ⟨p1, p2⟩ := hT i a hia
                            refine ⟨by omega, ?_⟩
                            split at p2
                            · rename_i hi2
                              rw [List.getElem?_append_left (by omega), ← og i hi2]; exact p2
                            · rename_i hi2
                              rw [List.getElem?_append_right (by omega), ol]; exact p2
                          by_cases hroom : len + n ≤ cap'
                          · have hoff := g4 (by omega)
                            subst hoff
                            have hm : (len + n) * esz ≤ cap' * esz := Nat.mul_le_mul_right _ (by omega)
                            rw [Nat.add_mul] at hm
                            obtain ⟨w2, q1, q2, q3⟩ := r.inplace (off := off) (m := len * esz) hb hE hvs hone hk' (by omega) hT (L.sh + off + len * esz) rfl
                            refine ⟨.slice (some ⟨L.blk, L.sh + off, none⟩) (len + n) cap', w2, E.put h.nb ⟨L.blk, L.sh + off, L.sz⟩, ?_, ?_, ?_, ?_⟩
                            · refine run_append_room (base := some ⟨L.blk, L.sh + off, none⟩) (len := len) (cap := cap') (w' := w2) hA hst hat1 hu hsz hroom ?_
                              simp only [add_none]
                              exact q1 P
                            · simp only [VR]
                              exact ⟨_, L.sh + off, cap', Emb.put_same _ _ _, rfl, Nat.le_refl _, hroom, (fun e => by cases e), fun _ => rfl, g5⟩
                            · rw [ol]; exact q2
                            · rw [ol]; exact q3
                          · obtain ⟨r1, x1⟩ := r.supersede hb
                            exact grown _ _ _ _ rfl r1 x1 hroom hT2
                      · cases ha
            · cases ha
      · cases ha
    · cases ha
end Go.Hb

