/-
  OWN WORK: parts of the program's text by their place; values of plain data; programs of the layer; ways through the text.
-/
import Derived.Test.YtogkjcpighphfaaGreatHE
import Derived.Test.YtogkjcpighphfaaGreatProg
set_option linter.unusedVariables false
set_option linter.unusedSimpArgs false
set_option linter.unusedSectionVars false
namespace Go.Hb
open Go.Proofs
noncomputable section
/-! ## parts of the text -/
def Code.part : Code → List Nat → Code
  | c, [] => c
  | .seq a b, n :: p => bif Nat.beq n 0 then Code.part a p else Code.part b p
  | .cond _ a b, n :: p => bif Nat.beq n 0 then Code.part a p else Code.part b p
  | .block _ c, _ :: p => Code.part c p
  | .loop c, _ :: p => Code.part c p
  | .scope c, _ :: p => Code.part c p
  | .rangeFunc _ _ a b, n :: p => bif Nat.beq n 0 then Code.part a p else Code.part b p
  | c, _ => c
def cd (f : Func) (p : List Nat) : Code := match f.body with
  | some c => Code.part c p
  | none => .skip
def od (f : Func) (p : List Nat) : Array Oper := match cd f p with
  | .region _ ops _ => ops
  | _ => #[]
def opsAt (f : Func) (p : List Nat) (k : Nat) : AItem := .ops (od f p) k (List.drop k (od f p).toList)
/-! ## values of plain data -/
abbrev Str := List UInt8
def avI (n : Int) : AV := .int .i64 n
def avU8 (n : Int) : AV := .int .u8 n
def avI32 (n : Int) : AV := .int .i32 n
def avB (b : Bool) : AV := .bool b
def avS (s : Str) : AV := .str (List.length s) (bytesNat s)
def avL {α : Type} (e : Nat) (f : α → AV) (l : List α) : AV := .ilst e (List.map f l) false
def strOf (l : List Nat) : Str := l.map UInt8.ofNat
theorem map_get {α : Type} {f : α → AV} {l : List α} {i : Nat} {y : α} (h : l[i]? = some y) : (List.map f l)[i]? = some (f y) := by rw [List.getElem?_map, h]; rfl
theorem map_get0 {α : Type} {f : α → AV} {l : List α} {i : Nat} {y : α} (h : l[i]? = some y) : (List.map f l)[0 + i]? = some (f y) := by rw [Nat.zero_add]; exact map_get h
theorem app_p1 {α : Type} (f : α → AV) (l : List α) : 0 + List.length l ≤ List.length (List.map f l) := by simp
theorem app_p3 {α : Type} (f : α → AV) (l m : List α) : List.take (List.length l) (List.drop 0 (List.map f l)) ++ List.map f m = List.map f (l ++ m) := by
  rw [List.drop_zero, List.take_of_length_le (by simp), List.map_append]
theorem app_p4 {α : Type} (f : α → AV) (l m : List α) : List.length l + List.length (List.map f m) = List.length (l ++ m) := by simp
theorem set_map0 {α : Type} (f : α → AV) (l : List α) (i : Nat) (y : α) : (List.map f l).set (0 + i) (f y) = List.map f (List.set l i y) := by rw [Nat.zero_add, List.map_set]
theorem rep_map {α : Type} (f : α → AV) (n : Nat) (y : α) : List.replicate n (f y) = List.map f (List.replicate n y) := by rw [List.map_replicate]
theorem gl_len {b e o n m : Nat} {x : Bool} (h : n = m) : AV.gl b e o n x = .gl b e o m x := by rw [h]
theorem frz_whole {α : Type} (f : α → AV) (l : List α) {b e : Nat} {x : Bool} : AV.frzOk b e (List.map f l) (List.map f l) (.gl b e 0 (List.length l) x) := by
  simp only [AV.frzOk]
  intro _
  exact ⟨trivial, by simp, by rw [List.drop_zero, List.take_of_length_le (by simp)]⟩
end
end Go.Hb

namespace Go.Hb
open Go.Proofs
noncomputable section
/-! ## programs of the layer 5 -/
inductive Pat where
  | mk (form n : Int) (text : Str) (parts : List Pat)
mutual
def Pat.av : Pat → AV
  | .mk f n t ps => .agg [.int .i64 f, .int .i64 n, avS t, .ilst 4 (Pats.av ps) false]
def Pats.av : List Pat → List AV
  | [] => []
  | p :: ps => Pat.av p :: Pats.av ps
end
theorem pats_map : ∀ l, Pats.av l = List.map Pat.av l
  | [] => rfl
  | p :: ps => by rw [Pats.av, pats_map ps]; rfl
mutual
theorem pat_kl : ∀ p, AV.keyless (Pat.av p) = true
  | .mk f n t ps => by simp only [Pat.av, AV.keyless, AV.keylessL, pats_klx ps, avS, Bool.and_true]
theorem pats_klx : ∀ (l : List Pat), AV.keylessL (Pats.av l) = true
  | [] => rfl
  | p :: ps => by simp only [Pats.av, AV.keylessL, pat_kl p, pats_klx ps, Bool.and_true]
end
structure Con where
  name : Str
  args : Int
def Con.av (c : Con) : AV := .agg [avS c.name, .int .i64 c.args]
structure Node where
  op : Int
  n : Int
  kids : List Int
  pats : List Pat
def Node.av (x : Node) : AV := .agg [.int .i64 x.op, .int .i64 x.n, .ilst 1 (List.map avI x.kids) false, .ilst 4 (Pats.av x.pats) false]
structure Prog where
  nodes : List Node
  funs : List Int
  main : Int
  cons : List Con
def Prog.av (p : Prog) : AV := .agg [.ilst 4 (List.map Node.av p.nodes) false, .ilst 1 (List.map avI p.funs) false, .int .i64 p.main, .ilst 2 (List.map Con.av p.cons) false]
end
end Go.Hb

namespace Go.Hb
open Go.Proofs
/-! ## strings -/
theorem byte_at : ∀ {s : Str} {k : Nat} {y : UInt8}, s[k]? = some y → bytesNat s / 256 ^ k % 256 = y.toNat
  | c :: s, 0, y, h => by
    simp only [List.getElem?_cons_zero, Option.some.injEq] at h
    subst h
    have := c.toNat_lt
    simp only [bytesNat, Nat.pow_zero, Nat.div_one]; omega
  | c :: s, k+1, y, h => by
    rw [List.getElem?_cons_succ] at h
    have := byte_at h
    rw [← this]
    have hc := c.toNat_lt
    simp only [bytesNat]
    rw [Nat.pow_succ', ← Nat.div_div_eq_div_mul]
    congr 2
    omega
theorem str_lt {s : Str} {k : Int} {y : UInt8} (h0 : 0 ≤ k) (h : s[k.toNat]? = some y) : k < ((List.length s : Nat) : Int) := by
  have := (List.getElem?_eq_some_iff.1 h).1; omega
theorem str_at {s : Str} {k : Int} {y : UInt8} (h : s[k.toNat]? = some y) : AV.int .u8 ((Nat.mod (Nat.div (bytesNat s) (Nat.pow 256 k.toNat)) 256 : Nat) : Int) = .int .u8 ((y.toNat : Nat) : Int) := by
  show AV.int .u8 ((bytesNat s / 256 ^ k.toNat % 256 : Nat) : Int) = _
  rw [byte_at h]
theorem bytes_drop : ∀ (s : Str) (k : Nat), bytesNat s / 256 ^ k = bytesNat (s.drop k)
  | s, 0 => by simp
  | [], k+1 => by simp [bytesNat]
  | c :: s, k+1 => by
    rw [List.drop_succ_cons, ← bytes_drop s k, Nat.pow_succ', ← Nat.div_div_eq_div_mul]
    congr 1
    have := c.toNat_lt
    simp only [bytesNat]; omega
theorem bound_int {k : IntKind} {i : Int} (h : 0 ≤ i) : asBound (some (.int k i)) = some (some i.toNat) := by
  show (if 0 ≤ i then some (some i.toNat) else none) = _
  rw [if_pos h]
theorem bound_none : asBound none = some none := rfl
variable {P : Program}
def SlOk (P : Program) (t : TypeId) (X : AV) (lo hi : Option AV) (V : AV) : Prop :=
  ∃ l u m, asBound lo = some l ∧ asBound hi = some u ∧ asBound none = some m ∧ (aslice P t X l u m = some V ∨ (aslice P t X l u m = none ∧ vslice P t X l u m = some V))
/-- s[k:] -/
theorem sl_str_from {t : TypeId} (hu : P.underlying t = some .string) {s : Str} {kk : IntKind} {k : Int} (h0 : 0 ≤ k) (h1 : k.toNat ≤ s.length) :
    SlOk P t (avS s) (some (.int kk k)) none (avS (s.drop k.toNat)) := by
  refine ⟨_, _, _, bound_int h0, bound_none, bound_none, .inl ?_⟩
  unfold aslice avS
  rw [hu]
  simp only [Option.getD_some, Option.getD_none]
  have e1 : Nat.ble k.toNat s.length = true := Nat.ble_eq ▸ h1
  have e2 : Nat.ble s.length s.length = true := Nat.ble_eq ▸ Nat.le_refl _
  have e3 : Nat.div (bytesNat s) (Nat.pow 256 k.toNat) = bytesNat (s.drop k.toNat) := bytes_drop s k.toNat
  rw [e1, e2, e3]
  simp
/-- l[:k] -/
theorem sl_il_toF {α : Type} {f : α → AV} {F : List α → List AV} (hF : ∀ l, F l = List.map f l) {t : TypeId} {e : Nat} (hu : isSl P t e = true) {xs : List α} {kk : IntKind} {k : Int} (h0 : 0 ≤ k) (h1 : k.toNat ≤ xs.length) :
    SlOk P t (.ilst e (F xs) false) none (some (.int kk k)) (.ilst e (F (xs.take k.toNat)) false) := by
  rw [hF, hF]
  refine ⟨_, _, _, bound_none, bound_int h0, bound_none, .inr ⟨?_, ?_⟩⟩
  · unfold aslice; split <;> simp_all
  · unfold vslice
    simp only [hu, cond, Option.getD_some, Option.getD_none, List.length_map]
    rw [if_pos ⟨Nat.zero_le _, h1⟩]
    simp [List.map_take]
theorem sl_il_to {α : Type} {f : α → AV} {t : TypeId} {e : Nat} (hu : isSl P t e = true) {xs : List α} {kk : IntKind} {k : Int} (h0 : 0 ≤ k) (h1 : k.toNat ≤ xs.length) :
    SlOk P t (.ilst e (List.map f xs) false) none (some (.int kk k)) (.ilst e (List.map f (xs.take k.toNat)) false) := sl_il_toF (fun _ => rfl) hu h0 h1
theorem len_i {α : Type} (f : α → AV) (l : List α) : ((List.length (List.map f l) : Nat) : Int) = ((List.length l : Nat) : Int) := by rw [List.length_map]
section
variable {α : Type} {f : α → AV} {F : List α → List AV} (hF : ∀ l, F l = List.map f l)
include hF
theorem map_getF {l : List α} {i : Nat} {y : α} (h : l[i]? = some y) : (F l)[i]? = some (f y) := by rw [hF]; exact map_get h
theorem len_iF (l : List α) : ((List.length (F l) : Nat) : Int) = ((List.length l : Nat) : Int) := by rw [hF, List.length_map]
end
/-! equality of strings -/
theorem bytes_lt : ∀ (s : Str), bytesNat s < 256 ^ s.length
  | [] => by simp [bytesNat]
  | c :: s => by
    have := bytes_lt s
    have := c.toNat_lt
    simp only [bytesNat, List.length_cons, Nat.pow_succ]; omega
theorem bytes_inj {s t : Str} (hl : s.length = t.length) (hn : bytesNat s = bytesNat t) : s = t := by
  rw [← natBytes_bytesNat s, ← natBytes_bytesNat t, hl, hn]
theorem strEq_eq (s t : Str) : strEq (List.length s) (bytesNat s) (List.length t) (bytesNat t) = decide (s = t) := by
  unfold strEq
  have e1 : Nat.mod (bytesNat s) (Nat.pow 256 s.length) = bytesNat s := Nat.mod_eq_of_lt (bytes_lt s)
  by_cases hl : s.length = t.length
  · rw [← hl, e1]
    have e2 : Nat.mod (bytesNat t) (Nat.pow 256 s.length) = bytesNat t := by rw [hl]; exact Nat.mod_eq_of_lt (bytes_lt t)
    rw [e2, show Nat.beq s.length s.length = true from Nat.beq_refl _]
    by_cases hn : bytesNat s = bytesNat t
    · have := bytes_inj hl hn; subst this; simp
    · have : s ≠ t := fun e => hn (by rw [e])
      rw [show Nat.beq (bytesNat s) (bytesNat t) = false from Bool.eq_false_iff.2 (fun h => hn (Nat.eq_of_beq_eq_true h)), decide_eq_false this]; rfl
  · have : s ≠ t := fun e => hl (by rw [e])
    simp [this, hl]
theorem strEq_nil (s : Str) : strEq (List.length s) (bytesNat s) 0 0 = decide (s = []) := strEq_eq s []
/-! ## maps of strings and numbers -/
def mEnts {α β : Type} (f : α → AV) (g : β → AV) : Nat → List (α × β) → List (AV × AV × Nat)
  | _, [] => []
  | n, e :: l => (f e.1, g e.2, n) :: mEnts f g (n+1) l
def mIns {α β : Type} [DecidableEq α] (k : α) (v : β) : List (α × β) → List (α × β)
  | [] => [(k, v)]
  | e :: l => if k = e.1 then (k, v) :: l else e :: mIns k v l
def mGet {α β : Type} [DecidableEq α] (k : α) : List (α × β) → Option β
  | [] => none
  | e :: l => if k = e.1 then some e.2 else mGet k l
/-- keys that compare as they are -/
def KeyF {α : Type} [DecidableEq α] (f : α → AV) : Prop := ∀ a b, cellEq (f a) (f b) = some (decide (a = b))
theorem key_avS : KeyF avS := fun a b => by
  simp only [cellEq, avS, strEq_eq]
theorem findK_none {α β : Type} [DecidableEq α] {f : α → AV} {g : β → AV} (hf : KeyF f) (k : α) : ∀ (l : List (α × β)) (n i : Nat), mGet k l = none → findK (f k) (mEnts f g n l) i = some none
  | [], n, i, _ => rfl
  | e :: l, n, i, h => by
    unfold mGet at h
    split at h
    · cases h
    · rename_i hk
      simp only [mEnts, findK, hf k e.1, decide_eq_false hk]
      exact findK_none hf k l (n+1) _ h
theorem mput_new {α β : Type} [DecidableEq α] (f : α → AV) (g : β → AV) (k : α) (v : β) : ∀ (l : List (α × β)) (n : Nat), mGet k l = none → mEnts f g n l ++ [(f k, g v, n + l.length)] = mEnts f g n (mIns k v l) ∧ (mIns k v l).length = l.length + 1
  | [], n, _ => by simp [mEnts, mIns]
  | e :: l, n, h => by
    unfold mGet at h
    split at h
    · cases h
    · rename_i hk
      obtain ⟨a, b⟩ := mput_new f g k v l (n+1) h
      simp only [mEnts, mIns, if_neg hk, List.cons_append, List.length_cons, b]
      refine ⟨?_, trivial⟩
      rw [← a, show n + 1 + l.length = n + (l.length + 1) by omega]
theorem mput_old {α β : Type} [DecidableEq α] {f : α → AV} {g : β → AV} (hf : KeyF f) (k : α) (v w : β) : ∀ (l : List (α × β)) (n i : Nat), mGet k l = some w → ∃ j, findK (f k) (mEnts f g n l) i = some (some (i + j, g w)) ∧ setE (f k) (g v) (mEnts f g n l) j = mEnts f g n (mIns k v l) ∧ (mIns k v l).length = l.length
  | [], _, _, h => by cases h
  | e :: l, n, i, h => by
    unfold mGet at h
    split at h
    · rename_i hk
      cases h
      refine ⟨0, ?_, ?_, ?_⟩
      · simp only [mEnts, findK, hf k e.1, decide_eq_true hk, Nat.add_zero]
      · simp only [mEnts, setE, mIns, if_pos hk]
      · simp only [mIns, if_pos hk, List.length_cons]
    · rename_i hk
      obtain ⟨j, a, b, c⟩ := mput_old hf k v w l (n+1) (i+1) h
      refine ⟨j + 1, ?_, ?_, ?_⟩
      · simp only [mEnts, findK, hf k e.1, decide_eq_false hk]
        rw [show i + (j + 1) = i + 1 + j by omega]; exact a
      · simp only [mEnts, setE, mIns, if_neg hk, b]
      · simp only [mIns, if_neg hk, List.length_cons, c]
/-- the machine's update is the list's -/
theorem map_put {α β : Type} [DecidableEq α] {f : α → AV} {g : β → AV} (hf : KeyF f) (k : α) (v : β) (l : List (α × β)) : mapPut (mEnts f g 0 l) (List.length l) (f k) (g v) = some (mEnts f g 0 (mIns k v l), List.length (mIns k v l)) := by
  unfold mapPut
  cases h : mGet k l with
  | none =>
    rw [findK_none hf k l 0 0 h]
    obtain ⟨a, b⟩ := mput_new f g k v l 0 h
    simp only [Nat.zero_add] at a
    simp only [a, b]
  | some w =>
    obtain ⟨j, a, b, c⟩ := mput_old hf k v w l 0 0 h
    rw [a]
    simp only [Nat.zero_add, b, c]
theorem map_len {α β : Type} (f : α → AV) (g : β → AV) : ∀ (l : List (α × β)) (n : Nat), (mEnts f g n l).length = l.length
  | [], _ => rfl
  | e :: l, n => by simp only [mEnts, List.length_cons, map_len f g l (n+1)]
/-- .. and its look-up -/
def mIdx {α β : Type} [DecidableEq α] (k : α) : List (α × β) → Nat
  | [] => 0
  | e :: l => if k = e.1 then 0 else mIdx k l + 1
end Go.Hb
namespace Go.Hb
theorem keyless_ents {α β : Type} {f : α → AV} {g : β → AV} (hf : ∀ a, AV.keyless (f a) = true) (hg : ∀ a, AV.keyless (g a) = true) : ∀ (l : List (α × β)) (n : Nat), ∀ e ∈ mEnts f g n l, AV.keyless e.1 = true ∧ AV.keyless e.2.1 = true
  | [], _, e, h => by simp [mEnts] at h
  | x :: l, n, e, h => by
    rcases List.mem_cons.1 h with rfl | h
    · exact ⟨hf _, hg _⟩
    · exact keyless_ents hf hg l (n+1) e h
theorem len_ents {α β : Type} (f : α → AV) (g : β → AV) (l : List (α × β)) : AV.int .i64 ((List.length (mEnts f g 0 l) : Nat) : Int) = .int .i64 ((List.length l : Nat) : Int) := by rw [map_len]
theorem kl_map {α β : Type} {f : α → AV} {g : β → AV} (hf : ∀ a, AV.keyless (f a) = true) (hg : ∀ a, AV.keyless (g a) = true) (n : Nat) (l : List (α × β)) (c : Nat) : (AObj.map (mEnts f g n l) c).kl := by
  intro e he
  exact keyless_ents hf hg l n e he
/-- what a proof proves -/
def ty {p : Prop} (_ : p) : Prop := p
noncomputable abbrev PP : Program := Go.Proofs.Tryz.prog
theorem wW {P : Program} {m : Nat} {s t : TS} (n1 : Nat) (ks : List Nat) (ps : List Prop) (is : List Ins) (h0 : way P m is s t ks = some (n1, t.want (tau m t.nb n1 ks), ps)) (hok : okNames m t ks = true) (hkl : klAll t.hp) (hp : AllP ps) : LeadsM P m s.as t.as := way_sound h0 hok hkl hp
theorem wE {P : Program} {m : Nat} {s : TS} {hp : List (Nat × AObj × Bool)} {nb : Nat} {v : AV} (n1 : Nat) (ps : List Prop) (is : List Ins) (h0 : wayE P m is s hp nb [] = some (n1, AV.ren (tau m nb n1 []) v, wantH (tau m nb n1 []) hp, ps)) (hok : okNames m ⟨⟨0, 0, [], [], [], .run, .normal, none⟩, [], hp, nb⟩ [] = true) (hkl : klAll hp) (hps : AllP ps) : Ends P m s.as (.ret v) (hpOf hp nb) := wayE_sound h0 hok hkl hps
end Go.Hb

