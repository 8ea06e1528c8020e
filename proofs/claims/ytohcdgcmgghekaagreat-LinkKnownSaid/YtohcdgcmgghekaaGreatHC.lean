/-
  OWN WORK: one operation of the abstract machine holds on the real one; the machine's steps; the orders of a region.
-/
import Derived.Test.YtohcdgcmgghekaaGreatHB
import Derived.Defers
import Derived.Orders
set_option linter.unusedVariables false
set_option linter.unusedSimpArgs false
set_option linter.unusedSectionVars false
namespace Go.Hb
variable {P : Program} {E : Emb} {h h' : Hp} {w w' : World} {tm : T AV} {ρ : Operand → Value}

theorem ev1_some {x : Operand} {k : AV → Option AOut} {o : AOut} (h : ev1 tm x k = some o) : ∃ a, aeval tm x = some a ∧ k a = some o := by
  unfold ev1 at h; split at h
  · rename_i v hv; exact ⟨v, hv, h⟩
  · cases h
theorem ev2_some {x y : Operand} {k : AV → AV → Option AOut} {o : AOut} (h : ev2 tm x y k = some o) : ∃ a b, aeval tm x = some a ∧ aeval tm y = some b ∧ k a b = some o := by
  unfold ev2 at h; split at h
  · rename_i v hv
    split at h
    · rename_i u hu; exact ⟨v, u, hv, hu, h⟩
    · cases h
  · cases h
theorem val_some {v : Option AV} {o : AOut} (h0 : val v h = some o) : ∃ a, v = some a ∧ o = .val a h := by
  unfold val at h0; split at h0
  · cases h0; exact ⟨_, rfl, rfl⟩
  · cases h0
theorem skipH_some {v : Option Hp} {o : AOut} (h0 : skipH v = some o) : ∃ h', v = some h' ∧ o = .val .undef h' := by
  unfold skipH at h0; split at h0
  · cases h0; exact ⟨_, rfl, rfl⟩
  · cases h0
theorem valH_some {v : Option (AV × Hp)} {o : AOut} (h0 : valH v = some o) : ∃ a h', v = some (a, h') ∧ o = .val a h' := by
  unfold valH at h0; split at h0
  · cases h0; exact ⟨_, _, rfl, rfl⟩
  · cases h0

/-! ### calls -/
theorem callFunc_run {f : Nat} {args : Array Value} (hc : callable P f = true) : (callFunc f args).run P w = .ok (.enter f args) w := by
  unfold callable at hc
  split at hc
  · rename_i fn hf
    simp only [Bool.and_eq_true, Bool.not_eq_true'] at hc
    have hn : fn.body.isNone = false := by cases hb : fn.body <;> simp_all
    simp only [callFunc, Sem.run_bind, run_program, Result.andThen_ok, hf, hc.2, Bool.false_eq_true, if_false, hn, Sem.run_pure]
  · cases hc
theorem method_run {t : TypeId} {name : String} {f : Nat} {v : Value} (hm : methodOf P t name = some f) (k : Nat) : (method (k + 1) t v name).run P w = .ok (f, v) w := by
  unfold methodOf at hm
  split at hm
  · cases hm
  · rename_i i hi
    split at hm
    · cases hm
    · rename_i m hfind
      split at hm
      · rename_i hp hf hu; cases hm
        simp [method, run_tinfo hi, hfind, hp, follow, hf, receiverAt, run_und hu, Place.get]
      · cases hm
      · rename_i d hno hp hf hu; cases hm
        have : ∀ e, d ≠ .pointer e := fun e h => by subst h; exact hno e rfl
        simp only [method, Sem.run_bind, run_tinfo hi, Result.andThen_ok, hfind, hp, follow, Sem.run_pure, hf, receiverAt, run_und hu]
        cases d <;> first | exact absurd rfl (this _) | simp [Place.get]
      · cases hm
theorem nilAhead_run {t : TypeId} {name : String} {f : Nat} {v : Value} (hm : methodOf P t name = some f) (k : Nat) : (nilAhead (k + 1) t v name).run P w = .ok (some false) w := by
  unfold methodOf at hm
  split at hm
  · cases hm
  · rename_i i hi
    split at hm
    · cases hm
    · rename_i m hfind
      split at hm
      · rename_i hp hf hu; cases hm
        simp [nilAhead, run_tinfo hi, hfind, hp, followBlind, hf]
      · cases hm
      · rename_i d hno hp hf hu; cases hm
        have : ∀ e, d ≠ .pointer e := fun e h => by subst h; exact hno e rfl
        simp only [nilAhead, Sem.run_bind, run_tinfo hi, Result.andThen_ok, hfind, hp, followBlind, Sem.run_pure, hf, run_und hu]
        cases d <;> first | exact absurd rfl (this _) | simp
      · cases hm
theorem fuel_succ (P : Program) : ∃ k, P.types.size + Made.depth = k + 1 := by
  have : 0 < Made.depth := by decide
  exact ⟨P.types.size + (Made.depth - 1), by omega⟩
theorem callMethod_run {t : TypeId} {name : String} {f : Nat} {v : Value} {args : Array Value} (hm : methodOf P t name = some f) (hc : callable P f = true) :
    (callMethod (.iface t v) name args).run P w = .ok (.enter f (#[v] ++ args)) w := by
  obtain ⟨k, hk⟩ := fuel_succ P
  simp only [callMethod, Sem.run_bind, run_program, Result.andThen_ok, hk, method_run hm, callFunc_run hc]

theorem aenter_some {f : Nat} {args : List AV} {o : AOut} (h : aenter P f args = some o) : callable P f = true ∧ o = .call (.enter f args) := by
  unfold aenter at h
  cases hc : callable P f with
  | false => rw [hc] at h; cases h
  | true => rw [hc] at h; simp only [cond] at h; cases h; exact ⟨rfl, rfl⟩
theorem ainvoke_sound {rv : AV} {crv : Value} {name : String} {args : List AV} {cargs : List Value} {o : AOut} (h0 : ainvoke P rv name args = some o) (hr : VR E rv crv) (ha : VRs E args cargs) :
    ∃ f as cas, o = .call (.enter f as) ∧ VRs E as cas ∧ (callMethod crv name ⟨cargs⟩).run P w = .ok (.enter f ⟨cas⟩) w := by
  unfold ainvoke at h0
  split at h0
  · rename_i t v
    split at h0
    · rename_i f hm
      obtain ⟨hc, rfl⟩ := aenter_some h0
      simp only [VR] at hr
      obtain ⟨u, rfl, hu⟩ := hr
      refine ⟨f, _, u :: cargs, rfl, VRs.cons hu ha, ?_⟩
      rw [callMethod_run hm hc]
      simp
    · cases h0
  · cases h0
/-- a call of a function value -/
theorem acallV_sound (r : Rel E h w.heap) {fv : AV} {cfv : Value} {args : List AV} {cargs : List Value} {o : AOut} (h0 : acallV P fv args = some o) (hf : VR E fv cfv) (ha : VRs E args cargs) :
    ∃ d, (Deferred.ofValue cfv ⟨cargs⟩).run P w = .ok d w ∧ Out P E h w ((invoke d.target d.args).run P w) o := by
  unfold acallV at h0
  split at h0
  · rename_i f first cap
    obtain ⟨hc, rfl⟩ := aenter_some h0
    simp only [VR] at hf
    obtain ⟨a, b, rfl, h1, h2⟩ := hf
    refine ⟨{ target := .fn (.func f) ⟨b⟩, args := ⟨a⟩ ++ ⟨cargs⟩ }, by simp [Deferred.ofValue], ?_⟩
    refine ⟨a ++ cargs ++ b, ?_, (h1.append ha).append h2⟩
    simp only [invoke, callFunc_run hc]
    congr 2
    apply Array.ext'
    simp
  · rename_i l
    cases h0
    simp only [VR] at hf
    obtain ⟨L, hL, rfl⟩ := hf
    refine ⟨{ target := .fn (.yield L.blk) #[], args := #[] ++ ⟨cargs⟩ }, by simp [Deferred.ofValue], ?_⟩
    refine ⟨cargs, L, hL, ha, ?_⟩
    simp only [invoke]
    congr 2
    apply Array.ext'
    simp
  · rename_i name recv
    simp only [VR] at hf
    obtain ⟨u, rfl, hu⟩ := hf
    obtain ⟨f, as, cas, rfl, k1, k2⟩ := ainvoke_sound (w := w) h0 hu ha
    refine ⟨{ target := .fn (.method name) #[], args := #[u] ++ ⟨cargs⟩ }, by simp [Deferred.ofValue], ?_⟩
    refine ⟨cas, ?_, k1⟩
    have e0 : (#[u] ++ ⟨cargs⟩ : Array Value)[0]? = some u := by simp
    have e1 : (#[u] ++ ⟨cargs⟩ : Array Value).extract 1 (#[u] ++ ⟨cargs⟩ : Array Value).size = ⟨cargs⟩ := by
      apply Array.ext'; simp
    simp only [invoke, e0, e1, k2]
  · rename_i t f pr recv
    have key : ∀ {o}, aenter P f (recv :: args) = some o → (∀ u : Value, (receiverVia t u #[] pr).run P w = .ok u w) →
        ∃ d, (Deferred.ofValue cfv ⟨cargs⟩).run P w = .ok d w ∧ Out P E h w ((invoke d.target d.args).run P w) o := by
      intro o h0 hrv
      obtain ⟨hc, rfl⟩ := aenter_some h0
      simp only [VR] at hf
      obtain ⟨u, rfl, hu⟩ := hf
      refine ⟨{ target := .fn (.via t #[] f pr) #[], args := #[u] ++ ⟨cargs⟩ }, by simp [Deferred.ofValue], ?_⟩
      refine ⟨u :: cargs, ?_, VRs.cons hu ha⟩
      have e0 : (#[u] ++ ⟨cargs⟩ : Array Value)[0]? = some u := by simp
      have e1 : (#[u] ++ ⟨cargs⟩ : Array Value).extract 1 (#[u] ++ ⟨cargs⟩ : Array Value).size = ⟨cargs⟩ := by
        apply Array.ext'; simp
      simp only [invoke, e0, e1, Sem.run_bind, hrv u, Result.andThen_ok, callFunc_run hc]
      refine congrArg (fun z => Result.ok (Next.enter f z) w) ?_
      apply Array.ext'
      simp
    split at h0
    · rename_i e hu
      exact key h0 (fun u => by simp [receiverVia, follow, receiverAt, run_und hu, Place.get])
    · cases h0
    · rename_i d hno hu
      exact key h0 (fun u => by
        have : ∀ e, d ≠ .pointer e := fun e h => by subst h; exact hno e rfl
        simp only [receiverVia, Array.toList_empty, follow, Sem.run_bind, Sem.run_pure, Result.andThen_ok, receiverAt, run_und hu]
        cases d <;> first | exact absurd rfl (this _) | simp [Place.get])
    · cases h0
  · cases h0
end Go.Hb

namespace Go.Hb
variable {P : Program} {E : Emb} {h h' : Hp} {w w' : World} {tm : T AV} {ρ : Operand → Value}

theorem afield_sound {s : TypeId} {i o : Nat} (ha : afield P s i = some o) (b k : Nat) : (Instr.fieldAt s (.pointer (some ⟨b, k, none⟩)) i).run P w = .ok (.pointer (some ⟨b, k + o, none⟩)) w := by
  unfold afield at ha
  split at ha
  · rename_i fs hu
    split at ha
    · rename_i f hf
      split at ha
      · rename_i n hn
        cases ha
        simp [Instr.fieldAt, run_und hu, hf, Instr.sureAddr, fieldPlace, run_size hn, add_none]
      · cases ha
    · cases ha
  · cases ha

theorem bounds_some {i : AV} {ci : Value} {len k : Nat} (hb : aboundsAt i len = some k) (hi : VR E i ci) : ∃ kk, ci = .int kk (k : Int) ∧ k < len := by
  unfold aboundsAt at hb
  split at hb
  · split at hb
    · rename_i hn; cases hb
      simp only [VR] at hi
      exact ⟨_, by rw [hi]; congr 1; omega, by omega⟩
    · cases hb
  · cases hb

theorem part_sound {t : TypeId} {d : TypeDesc} {s off : Nat} {as : List AV} {cs : Array Value} {v : AV} (hu : P.underlying t = some d) (hs : sizeOfT P t = some s) (hv : VRs E as cs.toList)
    (hp : (bif isAggD d then some (AV.agg ((as.drop off).take s)) else as[off]?) = some v) : ∃ cv, (part t cs off).run P w = .ok cv w ∧ VR E v cv := by
  cases hd : isAggD d with
  | true =>
    rw [hd] at hp; simp only [cond] at hp; cases hp
    refine ⟨.agg (cs.extract off (off + s)), by simp [part, run_agg hu, hd, run_size hs], ?_⟩
    simp only [VR]
    refine ⟨(cs.extract off (off + s)).toList, rfl, ?_⟩
    have := (hv.drop off).take s
    have e : (cs.extract off (off + s)).toList = (cs.toList.drop off).take s := by simp
    rw [e]; exact this
  | false =>
    rw [hd] at hp; simp only [cond] at hp
    obtain ⟨cv, h1, h2⟩ := hv.get _ _ hp
    have h1' : cs[off]? = some cv := by simpa using h1
    exact ⟨cv, by simp [part, run_agg hu, hd, h1'], h2⟩

theorem atypeAssert_sound {xt asserted : TypeId} {ok : Bool} {a v : AV} {ca : Value} (h0 : atypeAssert P asserted ok a = some v) (ha : VR E a ca) :
    ∃ cv, (Instr.typeAssert ca xt asserted ok).run P w = .ok cv w ∧ VR E v cv := by
  unfold atypeAssert at h0
  split at h0
  · cases h0
  · cases h0
  · rename_i d hni hu
    have hd : ∀ ms, d ≠ .interface ms := fun ms e => hni ms (by rw [e])
    split at h0
    · cases ok with
      | false => cases h0
      | true =>
        simp only [cond] at h0
        split at h0
        · rename_i z hz
          cases h0
          obtain ⟨cz, z1, z2⟩ := run_zero hz
          simp only [VR] at ha; subst ha
          refine ⟨.tuple #[cz, .bool false], ?_, by simp only [VR]; exact ⟨_, rfl, VRs.cons (z2 E) (VRs.cons (by simp [VR]) (VRs.nil E))⟩⟩
          cases d <;> first | exact absurd rfl (hd _) | simp [Instr.typeAssert, run_und hu, z1]
        · cases h0
    · rename_i t u
      simp only [VR] at ha
      obtain ⟨cu, rfl, hcu⟩ := ha
      rw [beq_dec] at h0
      by_cases ht : t = asserted
      · simp only [ht, decide_true, cond] at h0
        cases ok with
        | true =>
          cases h0
          refine ⟨.tuple #[cu, .bool true], ?_, by simp only [VR]; exact ⟨_, rfl, VRs.cons hcu (VRs.cons (by simp [VR]) (VRs.nil E))⟩⟩
          cases d <;> first | exact absurd rfl (hd _) | simp [Instr.typeAssert, run_und hu, ht]
        | false =>
          cases h0
          refine ⟨cu, ?_, hcu⟩
          cases d <;> first | exact absurd rfl (hd _) | simp [Instr.typeAssert, run_und hu, ht]
      · simp only [ht, decide_false, cond] at h0
        cases ok with
        | false => cases h0
        | true =>
          simp only at h0
          split at h0
          · rename_i z hz
            cases h0
            obtain ⟨cz, z1, z2⟩ := run_zero hz
            refine ⟨.tuple #[cz, .bool false], ?_, by simp only [VR]; exact ⟨_, rfl, VRs.cons (z2 E) (VRs.cons (by simp [VR]) (VRs.nil E))⟩⟩
            cases d <;> first | exact absurd rfl (hd _) | simp [Instr.typeAssert, run_und hu, ht, z1]
          · cases h0
    · cases h0

theorem alen_sound (r : Rel E h w.heap) {argTypes : Array TypeId} {ty t : TypeId} {x v : AV} {cx : Value} (h0 : argTypes[0]? = some t) (hv : alen P h t x = some v) (hx : VR E x cx) :
    ∃ cv, (Builtin.len_ argTypes ty #[cx]).run P w = .ok cv w ∧ VR E v cv := by
  unfold alen at hv
  split at hv
  · rename_i hu; cases hv; simp only [VR] at hx; subst hx
    exact ⟨_, by simp [Builtin.len_, h0, run_und hu, bstr_size]; rfl, by simp [VR, goInt]⟩
  · rename_i hu; cases hv
    exact ⟨_, by simp [Builtin.len_, h0, run_und hu]; rfl, by simp [VR, goInt]⟩
  · rename_i hu; cases hv; simp only [VR] at hx
    obtain ⟨L, off, cap, _, rfl, _⟩ := hx
    exact ⟨_, by simp [Builtin.len_, h0, run_und hu]; rfl, by simp [VR, goInt]⟩
  · rename_i hu; cases hv; simp only [VR] at hx; subst hx
    exact ⟨_, by simp [Builtin.len_, h0, run_und hu]; rfl, by simp [VR, goInt]⟩
  · rename_i hu; cases hv; simp only [VR] at hx; subst hx
    exact ⟨_, by simp [Builtin.len_, h0, run_und hu]; rfl, by simp [VR, goInt]⟩
  · rename_i hu
    split at hv
    · rename_i m es c hm
      cases hv
      simp only [VR] at hx
      obtain ⟨L, hE, rfl⟩ := hx
      obtain ⟨L', g1, ES, g2, g3⟩ := r.obj _ _ hm
      rw [hE] at g1; cases g1
      have := g3.length
      refine ⟨.int .i64 ES.size, by simp [Builtin.len_, h0, run_und hu, run_getMap g2, goInt], ?_⟩
      simp only [VR, Array.length_toList] at this ⊢
      rw [this]
    · cases hv
  · cases hv
theorem acap_sound {argTypes : Array TypeId} {ty t : TypeId} {x v : AV} {cx : Value} (h0 : argTypes[0]? = some t) (hv : acap P t x = some v) (hx : VR E x cx) :
    ∃ cv, (Builtin.cap_ argTypes ty #[cx]).run P w = .ok cv w ∧ VR E v cv := by
  unfold acap at hv
  split at hv
  · rename_i hu; cases hv; simp only [VR] at hx
    obtain ⟨L, off, cap, _, rfl, _, _, h3, _⟩ := hx
    exact ⟨_, by simp [Builtin.cap_, h0, run_und hu]; rfl, by simp [VR, goInt, h3]⟩
  · rename_i hu; cases hv; simp only [VR] at hx; subst hx
    exact ⟨_, by simp [Builtin.cap_, h0, run_und hu]; rfl, by simp [VR, goInt]⟩
  · cases hv

theorem abuiltin_sound (r : Rel E h w.heap) {b : Builtin} {argTypes : Array TypeId} {ty : TypeId} {consts : Array Bool} {args : List AV} {cargs : List Value} {o : AOut} (h0 : abuiltin P h b argTypes args = some o) (ha : VRs E args cargs) :
    Out P E h w ((builtin b argTypes ty consts ⟨cargs⟩).run P w) o ∧ ((b = .len ∨ b = .cap ∨ b = .max ∨ b = .min) → OutQ P E h w ((builtin b argTypes ty consts ⟨cargs⟩).run P w) o) := by
  unfold abuiltin at h0
  split at h0
  · rename_i x
    obtain ⟨cx, us, rfl, hx, hn⟩ := ha.cons_inv
    rw [hn.nil_inv]
    split at h0
    · rename_i t ht
      split at h0
      · rename_i v hv; cases h0
        obtain ⟨cv, k1, k2⟩ := alen_sound (ty := ty) r ht hv hx
        exact both_pure r k1 k2
      · cases h0
    · cases h0
  · rename_i x
    obtain ⟨cx, us, rfl, hx, hn⟩ := ha.cons_inv
    rw [hn.nil_inv]
    split at h0
    · rename_i t ht
      split at h0
      · rename_i v hv; cases h0
        obtain ⟨cv, k1, k2⟩ := acap_sound (ty := ty) (w := w) ht hv hx
        exact both_pure r k1 k2
      · cases h0
    · cases h0
  · rename_i s x
    obtain ⟨cs, us, rfl, hs, hn⟩ := ha.cons_inv
    obtain ⟨cx, us', rfl, hx, hn'⟩ := hn.cons_inv
    rw [hn'.nil_inv]
    split at h0
    · rename_i v h' hv; cases h0
      obtain ⟨cv, w', E', k1, k2, k3, k4⟩ := aappend_sound (ty := ty) r hv hs hx
      exact nq (by simp) (out_val k1 k2 k3 k4)
    · cases h0
  · rename_i k a k' b
    cases h0
    obtain ⟨cs, us, rfl, hs, hn⟩ := ha.cons_inv
    obtain ⟨cx, us', rfl, hx, hn'⟩ := hn.cons_inv
    rw [hn'.nil_inv]
    simp only [VR] at hs hx; subst hs hx
    exact both_pure r (cv := .int k (if b > a then b else a)) (by simp [Builtin.max_, Builtin.max2]) (by simp [VR])
  · rename_i k a k' b
    cases h0
    obtain ⟨cs, us, rfl, hs, hn⟩ := ha.cons_inv
    obtain ⟨cx, us', rfl, hx, hn'⟩ := hn.cons_inv
    rw [hn'.nil_inv]
    simp only [VR] at hs hx; subst hs hx
    exact both_pure r (cv := .int k (if b < a then b else a)) (by simp [Builtin.min_, Builtin.min2]) (by simp [VR])
  · rename_i t v
    cases h0
    obtain ⟨cs, us, rfl, hs, hn⟩ := ha.cons_inv
    rw [hn.nil_inv]
    simp only [VR] at hs
    obtain ⟨u, rfl, hu⟩ := hs
    exact nq (by simp) ⟨.iface t u, by simp [builtin, Instr.panic], by simp only [VR]; exact ⟨u, rfl, hu⟩⟩
  · cases h0
    rw [ha.nil_inv]
    exact nq (by simp) (by simp [Out, builtin])
  · cases h0
end Go.Hb

namespace Go.Hb
variable {P : Program} {E : Emb} {h h' : Hp} {w w' : World} {tm : T AV} {ρ : Operand → Value}

theorem evalO_sound {S : Operand → Prop} (hρ : Reads E tm ρ S) {x : Option Operand} {a : Option AV} (hx : ∀ y, x = some y → S y) (h0 : aevalO tm x = some a) : OVR E a (x.map ρ) := by
  unfold aevalO at h0
  split at h0
  · cases h0; trivial
  · split at h0
    · rename_i v hv; cases h0; exact hρ _ (hx _ rfl) _ hv
    · cases h0
/-- the operations that only look -/
def lookB : Builtin → Prop
  | .len | .cap | .max | .min => True
  | _ => False
theorem acall_sound (r : Rel E h w.heap) {c : Call} (hρ : Reads E tm ρ (· ∈ c.operands)) {ty : TypeId} {o : AOut} (h0 : acall P h tm c = some o) :
    Out P E h w ((do let d ← resolve ρ c ty; invoke d.target d.args : Sem Next).run P w) o ∧ ((∃ b, c.callee = .builtin b ∧ (b = .len ∨ b = .cap ∨ b = .max ∨ b = .min)) → OutQ P E h w ((do let d ← resolve ρ c ty; invoke d.target d.args : Sem Next).run P w) o) := by
  unfold acall at h0
  split at h0
  · cases h0
  · rename_i args hargs
    have ha := hρ.list (fun x hx => by simp only [Call.operands, Array.mem_append]; exact .inr (by simpa using hx)) hargs
    have hm : c.args.map ρ = ⟨c.args.toList.map ρ⟩ := by apply Array.ext'; simp
    split at h0
    · rename_i f hf
      split at h0
      · rename_i fv hfv
        refine nq (fun ⟨b, hb, _⟩ => by rw [hf] at hb; cases hb) ?_
        obtain ⟨d, k1, k2⟩ := acallV_sound r h0 (hρ _ (by simp [Call.operands, hf]) _ hfv) ha
        simp only [resolve, hf, hm, Sem.run_bind, k1, Result.andThen_ok]
        exact k2
      · cases h0
    · rename_i rc name hf
      split at h0
      · rename_i rv hrv
        refine nq (fun ⟨b, hb, _⟩ => by rw [hf] at hb; cases hb) ?_
        obtain ⟨f, as, cas, rfl, k1, k2⟩ := ainvoke_sound (w := w) h0 (hρ _ (by simp [Call.operands, hf]) _ hrv) ha
        refine ⟨cas, ?_, k1⟩
        have e0 : (#[ρ rc] ++ ⟨c.args.toList.map ρ⟩ : Array Value)[0]? = some (ρ rc) := by simp
        have e1 : (#[ρ rc] ++ ⟨c.args.toList.map ρ⟩ : Array Value).extract 1 (#[ρ rc] ++ ⟨c.args.toList.map ρ⟩ : Array Value).size = ⟨c.args.toList.map ρ⟩ := by
          apply Array.ext'; simp [List.take_of_length_le]
        simp only [resolve, hf, hm, Sem.run_bind, Sem.run_pure, Result.andThen_ok, invoke, e0, e1, k2]
      · cases h0
    · rename_i b hf
      simp only [resolve, hf, hm, Sem.run_bind, Sem.run_pure, Result.andThen_ok, invoke]
      have := abuiltin_sound (ty := ty) (consts := c.args.map fun | .const _ => true | _ => false) r h0 ha
      exact ⟨this.1, fun ⟨b', hb, hq⟩ => this.2 (by cases hb; exact hq)⟩

theorem run_getSiter {r : Nat} {s : ByteArray} {p : Nat} (hr : w.heap[r]? = some (.stringIter s p)) : (getObj r).run P w = .ok (.stringIter s p) w := by
  simp [getObj, Sem.run, hr]
theorem decode_small {l n pos c : Nat} (h0 : adec l n pos = some c) : Utf8.decode (bstr l n) pos = (c, 1) ∧ pos < l := by
  unfold adec at h0
  rw [blt_dec] at h0
  by_cases hp : pos < l
  · simp only [hp, decide_true, cond] at h0
    rw [blt_dec] at h0
    by_cases hc : Nat.mod (Nat.div n (Nat.pow 256 pos)) 256 < 128
    · simp only [hc, decide_true] at h0
      cases h0
      refine ⟨?_, hp⟩
      have hc' : n / 256 ^ pos % 256 < 128 := hc
      have hg : ((bstr l n).get! pos).toNat = n / 256 ^ pos % 256 := by
        have := natBytes_get l n pos hp
        simp only [bstr, ByteArray.get!]
        have h2 : (⟨natBytes l n⟩ : Array UInt8)[pos]! = UInt8.ofNat (n / 256 ^ pos % 256) := by
          rw [Array.getElem!_eq_getD, Array.getD_eq_getD_getElem?, show (⟨natBytes l n⟩ : Array UInt8) = (natBytes l n).toArray from rfl, List.getElem?_toArray, this]; rfl
        rw [h2]; simp
      show Utf8.decode (bstr l n) pos = (n / 256 ^ pos % 256, 1)
      have hlt : n / 256 ^ pos % 256 < 0x80 := hc'
      simp only [Utf8.decode, Nat.add_zero, hg, hlt, if_true]
    · simp only [hc, decide_false] at h0; cases h0
  · simp only [hp, decide_false, cond] at h0; cases h0

set_option maxHeartbeats 4000000 in
theorem aop_soundQ (r : Rel E h w.heap) {o : Oper} (hρ : Reads E tm ρ (· ∈ o.op.operands)) {out : AOut} (h0 : aop P h tm o = some out) :
    Out P E h w ((execOp ρ o).run P w) out ∧ (kdOf o.op = .pure ∨ kdOf o.op = .read → OutQ P E h w ((execOp ρ o).run P w) out) := by
  unfold aop at h0
  unfold execOp
  split at h0
  all_goals (rename_i hop; try (simp only [hop]; rw [hop] at hρ))
  · -- move
    obtain ⟨a, ha, rfl⟩ := val_some h0
    have hh := hρ _ (by simp [Op.operands]) _ ha
    exact ⟨⟨E, w, _, .inl rfl, hh, r, Ext.refl _ _ _⟩, fun _ => ⟨rfl, _, rfl, hh⟩⟩
  · obtain ⟨a, ha, rfl⟩ := val_some h0
    have hh := hρ _ (by simp [Op.operands]) _ ha
    exact ⟨⟨E, w, _, .inl rfl, hh, r, Ext.refl _ _ _⟩, fun _ => ⟨rfl, _, rfl, hh⟩⟩
  · -- pick
    split at h0
    · rename_i hc
      obtain ⟨a, ha, rfl⟩ := val_some h0
      have := hρ _ (by simp [Op.operands]) _ hc
      simp only [VR] at this
      have hh := hρ _ (by simp [Op.operands]) _ ha
      exact ⟨⟨E, w, _, .inl (by simp [this, asBool]), hh, r, Ext.refl _ _ _⟩, fun _ => ⟨rfl, _, by simp [this, asBool], hh⟩⟩
    · rename_i hc
      obtain ⟨a, ha, rfl⟩ := val_some h0
      have := hρ _ (by simp [Op.operands]) _ hc
      simp only [VR] at this
      have hh := hρ _ (by simp [Op.operands]) _ ha
      exact ⟨⟨E, w, _, .inl (by simp [this, asBool]), hh, r, Ext.refl _ _ _⟩, fun _ => ⟨rfl, _, by simp [this, asBool], hh⟩⟩
    · cases h0
  · -- alloc
    rename_i e
    split at h0
    · rename_i z hz
      cases h0
      obtain ⟨cz, z1, z2⟩ := run_zero hz
      obtain ⟨q1, q2⟩ := newCells_sound0 r (z2 E).cells e
      refine nq (by simp [kdOf]) ?_
      exact out_val (s := Instr.alloc e true (.tuple #[])) (cv := .pointer (some ⟨w.heap.size, 0, none⟩)) (by simp [Instr.alloc, z1, newVar, newRow]) (VR_newptr w h _) q1 q2
    · cases h0
  · -- box
    rename_i e x
    obtain ⟨a, ha, h0⟩ := ev1_some h0
    cases h0
    obtain ⟨q1, q2⟩ := newCells_sound0 r (hρ _ (by simp [Op.operands]) _ ha).cells e
    refine nq (by simp [kdOf]) ?_
    exact out_val (s := Instr.box e (ρ x)) (cv := .pointer (some ⟨w.heap.size, 0, none⟩)) (by simp [Instr.box, newVar, newRow]) (VR_newptr w h _) q1 q2
  · -- build
    rename_i t ps
    split at h0
    · rename_i l hl
      obtain ⟨a, ha, rfl⟩ := val_some h0
      obtain ⟨g1, g2⟩ := hρ.parts (fun p hp => by simp only [Op.operands, List.mem_toArray, List.mem_map]; exact ⟨p, hp, rfl⟩) hl
      obtain ⟨cv, k1, k2⟩ := abuild_sound (w := w) (qs := ps.map fun (i, x) => (i, ρ x)) ha (by rw [g1]; simp) (by simpa [Function.comp_def] using g2)
      exact both_pure r k1 k2
    · cases h0
  · -- buildSlice
    rename_i t n ps
    split at h0
    · rename_i l hl
      split at h0
      · rename_i cs s hcs
        cases h0
        obtain ⟨g1, g2⟩ := hρ.parts (fun p hp => by simp only [Op.operands, List.mem_toArray, List.mem_map]; exact ⟨p, hp, rfl⟩) hl
        obtain ⟨out, e, k1, k2, k3⟩ := abuildSlice_sound r (qs := ps.map fun (i, x) => (i, ρ x)) hcs (by rw [g1]; simp) (by simpa [Function.comp_def] using g2)
        obtain ⟨q1, q2⟩ := newCells_sound0 r k1 e
        refine nq (by simp [kdOf]) ?_
        exact out_val (k3 w) (VR_newslice w h _ n n s n true (Nat.le_refl _) (Nat.le_refl _) (fun _ => rfl) k2) q1 q2
      · cases h0
    · cases h0
  · -- load
    rename_i t a
    obtain ⟨p, hp, h0⟩ := ev1_some h0
    split at h0
    · rename_i b off
      obtain ⟨v, hv, rfl⟩ := val_some h0
      have := hρ _ (by simp [Op.operands]) _ hp
      simp only [VR] at this
      obtain ⟨L, hE, hL⟩ := this
      obtain ⟨cv, k1, k2⟩ := aload_sound r hv hE
      exact both_pure r (by simp [Instr.loadAt, hL, Instr.sureAddr, k1]) k2
    · cases h0
  · -- store
    rename_i t a x
    obtain ⟨p, v, hp, hx, h0⟩ := ev2_some h0
    split at h0
    · rename_i b off
      obtain ⟨h', hv, rfl⟩ := skipH_some h0
      have := hρ _ (by simp [Op.operands]) _ hp
      simp only [VR] at this
      obtain ⟨L, hE, hL⟩ := this
      obtain ⟨w', k1, k2, k3⟩ := astore_sound r hv hE (hρ _ (by simp [Op.operands]) _ hx)
      refine nq (by simp [kdOf]) ?_
      exact out_skip (by simp [Instr.storeAt, hL, Instr.sureAddr, k1]) k2 k3
    · cases h0
  · -- nilCheck
    rename_i x
    obtain ⟨a, ha, h0⟩ := ev1_some h0
    have hv := hρ _ (by simp [Op.operands]) _ ha
    split at h0
    · cases h0
    · cases h0
    · cases h0
    · rename_i name t v
      split at h0
      · rename_i f hm
        cases h0
        simp only [VR] at hv
        obtain ⟨u, hu, c, rfl, hc⟩ := hv
        obtain ⟨k, hk⟩ := fuel_succ P
        have hh : VR E (.meth name (.iface t v)) (.func (.method name) #[.iface t c] #[]) := by simp only [VR]; exact ⟨_, rfl, c, rfl, hc⟩
        exact ⟨⟨E, w, .func (.method name) #[.iface t c] #[], .inl (by simp [hu, hk, nilAhead_run hm]), hh, r, Ext.refl _ _ _⟩, fun _ => ⟨rfl, _, by simp [hu, hk, nilAhead_run hm], hh⟩⟩
      · cases h0
    · cases h0
    · rename_i v h1 h2 h3 h4 h5
      cases h0
      have hr : ∀ A B, (A = Result.ok (Next.value (ρ x)) w → B) → A = Result.ok (Next.value (ρ x)) w → B := fun _ _ f h => f h
      refine hr _ _ (fun e => ⟨⟨E, w, ρ x, .inl e, hv, r, Ext.refl _ _ _⟩, fun _ => ⟨rfl, _, e, hv⟩⟩) ?_
      cases a <;> simp only [VR] at hv
      case nilp => exact absurd rfl h1
      case nili => exact absurd rfl h2
      case nilf => exact absurd rfl h3
      case meth n rc => exact absurd rfl (h5 n rc)
      all_goals (first
        | (rw [hv]; rfl)
        | (obtain ⟨L, _, hL⟩ := hv; rw [hL]; rfl)
        | (obtain ⟨L, off, cap, _, hL, _⟩ := hv; rw [hL]; rfl)
        | (obtain ⟨a, b, hL, _⟩ := hv; rw [hL]; rfl)
        | (obtain ⟨u, hL, _⟩ := hv; rw [hL]; rfl))
  · -- binOp
    rename_i op t x y yt
    obtain ⟨a, b, ha, hb, h0⟩ := ev2_some h0
    obtain ⟨v, hv, rfl⟩ := val_some h0
    obtain ⟨cv, k1, k2⟩ := abin_sound (w := w) x y hv (hρ _ (by simp [Op.operands]) _ ha) (hρ _ (by simp [Op.operands]) _ hb)
    exact both_pure r k1 k2
  · -- unOp
    obtain ⟨a, ha, h0⟩ := ev1_some h0
    obtain ⟨v, hv, rfl⟩ := val_some h0
    obtain ⟨cv, k1, k2⟩ := aun_sound (P := P) (w := w) hv (hρ _ (by simp [Op.operands]) _ ha)
    exact both_pure r k1 k2
  · -- convert
    obtain ⟨a, ha, h0⟩ := ev1_some h0
    obtain ⟨v, hv, rfl⟩ := val_some h0
    obtain ⟨cv, k1, k2⟩ := aconvert_sound r hv (hρ _ (by simp [Op.operands]) _ ha)
    exact both_pure r k1 k2
  · -- makeInterface
    rename_i t x
    obtain ⟨a, ha, h0⟩ := ev1_some h0
    split at h0
    · cases h0
    · rename_i d hni hu
      cases h0
      have hd : ∀ ms, d ≠ .interface ms := fun ms e => hni ms (by rw [e])
      refine both_pure r (cv := .iface t (ρ x)) ?_ (by simp only [VR]; exact ⟨_, rfl, hρ _ (by simp [Op.operands]) _ ha⟩)
      cases d <;> first | exact absurd rfl (hd _) | simp [Instr.makeInterface, run_und hu]
    · cases h0
  · -- makeFunc
    rename_i f first cap
    split at h0
    · rename_i fs cs hf hc
      cases h0
      refine both_pure r (cv := .func (.func f) (first.map ρ) (cap.map ρ)) (by simp [Instr.makeFunc]) ?_
      simp only [VR]
      exact ⟨first.toList.map ρ, cap.toList.map ρ, by congr 1 <;> (apply Array.ext'; simp), hρ.list (fun x hx => by simp only [Op.operands, Array.mem_append]; exact .inl (by simpa using hx)) hf, hρ.list (fun x hx => by simp only [Op.operands, Array.mem_append]; exact .inr (by simpa using hx)) hc⟩
    · cases h0
  · rename_i name first cap
    split at h0
    · rename_i rc hf
      cases hc : cap.isEmpty with
      | false => rw [hc] at h0; cases h0
      | true =>
        rw [hc] at h0; simp only [cond] at h0; cases h0
        obtain ⟨u, us, hu1, hu2, hu3⟩ := (hρ.list (fun x hx => by simp only [Op.operands, Array.mem_append]; exact .inl (by simpa using hx)) hf).cons_inv
        rw [hu3.nil_inv] at hu1
        have e1 : first.map ρ = #[u] := by apply Array.ext'; simpa using hu1
        have e2 : cap.map ρ = #[] := by have := Array.isEmpty_iff.1 hc; subst this; simp
        exact both_pure r (cv := .func (.method name) #[u] #[]) (by simp [Instr.makeFunc, e1, e2]) (by simp only [VR]; exact ⟨u, rfl, hu2⟩)
    · cases h0
  · rename_i t path f pr first cap
    split at h0
    · rename_i rc hp hf
      cases hc : cap.isEmpty with
      | false => rw [hc] at h0; cases h0
      | true =>
        rw [hc] at h0; simp only [cond] at h0; cases h0
        obtain ⟨u, us, hu1, hu2, hu3⟩ := (hρ.list (fun x hx => by simp only [Op.operands, Array.mem_append]; exact .inl (by simpa using hx)) hf).cons_inv
        rw [hu3.nil_inv] at hu1
        have e1 : first.map ρ = #[u] := by apply Array.ext'; simpa using hu1
        have e2 : cap.map ρ = #[] := by have := Array.isEmpty_iff.1 hc; subst this; simp
        have e3 : path = #[] := by apply Array.ext'; simpa using hp
        exact both_pure r (cv := .func (.via t #[] f pr) #[u] #[]) (by simp [Instr.makeFunc, e1, e2, e3]) (by simp only [VR]; exact ⟨u, rfl, hu2⟩)
    · cases h0
  · -- makeMap
    cases h0
    obtain ⟨q1, q2⟩ := r.new (.map [] 0) (.map #[] 0) 0 (fun _ _ _ _ hH => ⟨#[], hH, by simp [ERs]⟩)
    refine nq (by simp [kdOf]) ?_
    refine out_val (s := Instr.makeMap _ (Option.map ρ none)) (cv := .map (some w.heap.size)) (by simp [Instr.makeMap]) ?_ q1 q2
    simp only [VR]; exact ⟨_, Emb.put_same _ _ _, rfl⟩
  · -- makeSlice
    rename_i t l c
    obtain ⟨a, b, ha, hb, h0⟩ := ev2_some h0
    split at h0
    · rename_i k1 n k2 m
      split at h0
      · rename_i e hu
        split at h0
        · rename_i s z inf hs hz hinf
          split at h0
          · rename_i hnm
            cases hc : (Nat.ble s 40 && Nat.ble 1 s && Nat.beq z.cells.length s && Nat.ble inf.bytes 1000) with
            | false => rw [hc] at h0; cases h0
            | true =>
              rw [hc] at h0; simp only [cond] at h0; cases h0
              simp only [ble_dec, beq_dec, Bool.and_eq_true, decide_eq_true_eq] at hc
              obtain ⟨⟨⟨hs40, hs1⟩, hzl⟩, hby⟩ := hc
              have e1 := hρ _ (by simp [Op.operands]) _ ha
              have e2 := hρ _ (by simp [Op.operands]) _ hb
              simp only [VR] at e1 e2
              obtain ⟨cz, z1, z2⟩ := run_zero hz
              have hzs : cz.cells.size = s := by have := (z2 E).cells.length; simp only [Array.length_toList] at this; omega
              obtain ⟨nn, rfl⟩ := Int.eq_ofNat_of_zero_le hnm.1
              obtain ⟨mm, rfl⟩ := Int.eq_ofNat_of_zero_le (show 0 ≤ m by omega)
              have hl1 : IntKind.i64.wrap (nn : Int) = nn := wrap_small (by omega)
              have hl2 : IntKind.i64.wrap (mm : Int) = mm := wrap_small (by omega)
              have zr := zeros_VRs (z2 E).cells mm (by omega)
              rw [hzs] at zr
              obtain ⟨q1, q2⟩ := newCells_sound0 r zr e
              simp only [Int.toNat_natCast]
              have hbig : ¬ ((inf.bytes : Int) * (mm : Int) > 2 ^ 48) := by
                have h3 : inf.bytes * mm ≤ 1000 * 100000 := Nat.mul_le_mul hby (by omega)
                rw [← Int.natCast_mul]
                generalize inf.bytes * mm = q at h3
                omega
              have hcond : ¬ ((((mm : Int) < 0 || decide ((inf.bytes : Int) * (mm : Int) > 2 ^ 48)) = true ∨ (nn : Int) < 0) ∨ (nn : Int) > (mm : Int)) := by
                simp only [hbig, decide_false, Bool.or_false, decide_eq_true_eq]; omega
              refine nq (by simp [kdOf]) ?_
              refine out_val (cv := .slice (some ⟨w.heap.size, 0, none⟩) nn mm) ?_ (VR_newslice w h _ nn mm s mm true (by omega) (Nat.le_refl _) (fun _ => rfl) (by simp)) q1 q2
              have hne1 : ¬ ((mm : Int) < 0) := by omega
              have hne2 : ¬ ((nn : Int) < 0) := by omega
              have hne3 : ¬ ((nn : Int) > (mm : Int)) := by omega
              simp only [Instr.makeSlice, Sem.run_bind, run_und hu, Result.andThen_ok, e1, e2, asInt_run, run_tinfo hinf, hl1, hl2]
              rw [if_neg (by simp only [Bool.or_eq_true, decide_eq_true_eq, gt_iff_lt]; omega)]
              simp only [Sem.run_bind, run_askRoom, Result.andThen_ok, run_size hs, Int.toNat_natCast]
              have fin : ∀ z' : Array Value, z' = cz.cells ∨ mm * s = 0 → (⟨((Array.range (mm * s)).map (fun i => cz.cells[i % s]!)).toList⟩ : Array Value) = (Array.range (mm * s)).map (fun x => z'[x % z'.size]!) := by
                intro z' hz'
                rcases hz' with rfl | h0
                · rw [hzs]
                · have e0 : Array.range 0 = #[] := rfl
                  rw [h0, e0]; simp
              by_cases h0 : mm * s = 0
              · rw [if_pos h0, fin #[] (.inr h0)]
                simp [newRow]
              · rw [if_neg h0, fin cz.cells (.inl rfl)]
                simp [newRow, z1]
          · cases h0
        · cases h0
      · cases h0
    · cases h0
  · -- slice
    rename_i t x lo hi mx
    obtain ⟨a, ha, h0⟩ := ev1_some h0
    split at h0
    · rename_i l1 l2 l3 e1 e2 e3
      split at h0
      · rename_i b1 b2 b3 d1 d2 d3
        obtain ⟨v, hv, rfl⟩ := val_some h0
        obtain ⟨cv, k1, k2⟩ := aslice_sound (w := w) hv (hρ _ (by simp [Op.operands]) _ ha) (bound_ok d1 (evalO_sound hρ (fun y hy => by subst hy; simp [Op.operands]) e1)) (bound_ok d2 (evalO_sound hρ (fun y hy => by subst hy; simp [Op.operands]) e2)) (bound_ok d3 (evalO_sound hρ (fun y hy => by subst hy; simp [Op.operands]) e3))
        exact both_pure r k1 k2
      · cases h0
    · cases h0
  · -- fieldAddr
    rename_i t x f
    obtain ⟨a, ha, h0⟩ := ev1_some h0
    split at h0
    · rename_i b off
      split at h0
      · rename_i o' ho
        cases h0
        have := hρ _ (by simp [Op.operands]) _ ha
        simp only [VR] at this
        obtain ⟨L, hE, hL⟩ := this
        exact both_pure r (cv := .pointer (some ⟨L.blk, L.sh + off + o', none⟩)) (by rw [hL]; exact afield_sound ho _ _) (by simp only [VR]; exact ⟨L, hE, by rw [Nat.add_assoc]⟩)
      · cases h0
    · cases h0
  · -- field
    rename_i t x f
    obtain ⟨a, ha, h0⟩ := ev1_some h0
    split at h0
    · rename_i cs
      have hv := hρ _ (by simp [Op.operands]) _ ha
      simp only [VR] at hv
      obtain ⟨us, hL, hus⟩ := hv
      split at h0
      · rename_i fs hu
        split at h0
        · rename_i fd hfd
          split at h0
          · rename_i d s hd hs
            have hp : ∃ v, (bif isAggD d then some (AV.agg ((cs.drop fd.offset).take s)) else cs[fd.offset]?) = some v ∧ out = .val v h := by
              cases hg : isAggD d with
              | true => rw [hg] at h0; simp only [cond] at h0; cases h0; exact ⟨_, rfl, rfl⟩
              | false => rw [hg] at h0; simp only [cond] at h0; obtain ⟨v, hv, rfl⟩ := val_some h0; exact ⟨v, hv, rfl⟩
            obtain ⟨v, hv, rfl⟩ := hp
            obtain ⟨cv, k1, k2⟩ := part_sound (w := w) (cs := ⟨us⟩) hd hs hus hv
            exact both_pure r (by simp [Instr.field, run_und hu, hfd, hL, asAgg, k1]) k2
          · cases h0
        · cases h0
      · cases h0
    · cases h0
  · -- indexAddr
    rename_i t x ix
    obtain ⟨a, b, ha, hb, h0⟩ := ev2_some h0
    split at h0
    · rename_i e b' off len cap esz ex hu
      split at h0
      · rename_i k s hk hs
        cases hc : Nat.beq s esz with
        | false => rw [hc] at h0; cases h0
        | true =>
          rw [hc] at h0; simp only [cond] at h0; cases h0
          have := Nat.eq_of_beq_eq_true hc
          subst this
          obtain ⟨kk, hci, hlt⟩ := bounds_some hk (hρ _ (by simp [Op.operands]) _ hb)
          have hv := hρ _ (by simp [Op.operands]) _ ha
          simp only [VR] at hv
          obtain ⟨L, off', cap', hE, hL, g1, g2, g3, g4, g5⟩ := hv
          have hoff := g4 (by omega)
          subst hoff
          refine both_pure r (cv := .pointer (some ⟨L.blk, L.sh + off + k * s, none⟩)) ?_ (by simp only [VR]; exact ⟨L, hE, by rw [Nat.add_assoc]⟩)
          simp [Instr.indexAt, hci, asIntOf, hL, run_und hu, Nat.not_le.2 hlt, run_size hs, add_none]
      · cases h0
    · rename_i len e b' off hu
      split at h0
      · rename_i k s hk hs
        cases h0
        obtain ⟨kk, hci, hlt⟩ := bounds_some hk (hρ _ (by simp [Op.operands]) _ hb)
        have hv := hρ _ (by simp [Op.operands]) _ ha
        simp only [VR] at hv
        obtain ⟨L, hE, hL⟩ := hv
        refine both_pure r (cv := .pointer (some ⟨L.blk, L.sh + off + k * s, none⟩)) ?_ (by simp only [VR]; exact ⟨L, hE, by rw [Nat.add_assoc]⟩)
        simp [Instr.indexAt, hci, asIntOf, hL, run_und hu, Nat.not_le.2 hlt, run_size hs, add_none, Instr.sureAddr]
      · cases h0
    · cases h0
  · -- index
    rename_i t x ix
    obtain ⟨a, b, ha, hb, h0⟩ := ev2_some h0
    split at h0
    · rename_i l n hu
      split at h0
      · rename_i k hk
        cases h0
        obtain ⟨kk, hci, hlt⟩ := bounds_some hk (hρ _ (by simp [Op.operands]) _ hb)
        have hv := hρ _ (by simp [Op.operands]) _ ha
        simp only [VR] at hv
        refine both_pure r (cv := .int .u8 ((n / 256 ^ k % 256 : Nat) : Int)) ?_ (by simp only [VR]; rfl)
        have hg : (bstr l n)[k]? = some (UInt8.ofNat (n / 256 ^ k % 256)) := by
          have h1 := natBytes_get l n k hlt
          have h2 : k < (bstr l n).size := by rw [bstr_size]; exact hlt
          rw [getElem?_pos (bstr l n) k h2]
          congr 1
          have h3 := (List.getElem?_eq_some_iff.1 h1)
          obtain ⟨h4, h5⟩ := h3
          rw [← h5]; rfl
        simp [Instr.index, hci, asIntOf, hv, run_und hu, hg]
      · cases h0
    · rename_i len e cs hu
      have hv := hρ _ (by simp [Op.operands]) _ ha
      simp only [VR] at hv
      obtain ⟨us, hL, hus⟩ := hv
      split at h0
      · rename_i k d s hk hd hs
        obtain ⟨kk, hci, hlt⟩ := bounds_some hk (hρ _ (by simp [Op.operands]) _ hb)
        have hp : ∃ v, (bif isAggD d then some (AV.agg ((cs.drop (k * s)).take s)) else cs[k * s]?) = some v ∧ out = .val v h := by
          cases hg : isAggD d with
          | true => rw [hg] at h0; simp only [cond] at h0; cases h0; exact ⟨_, rfl, rfl⟩
          | false => rw [hg] at h0; simp only [cond] at h0; obtain ⟨v, hv, rfl⟩ := val_some h0; exact ⟨v, hv, rfl⟩
        obtain ⟨v, hv, rfl⟩ := hp
        obtain ⟨cv, k1, k2⟩ := part_sound (w := w) (cs := ⟨us⟩) hd hs hus hv
        exact both_pure r (by simp [Instr.index, hci, asIntOf, hL, run_und hu, Nat.not_le.2 hlt, run_size hs, k1]) k2
      · cases h0
    · cases h0
  · -- lookup
    obtain ⟨a, b, ha, hb, h0⟩ := ev2_some h0
    obtain ⟨v, hv, rfl⟩ := val_some h0
    obtain ⟨cv, k1, k2⟩ := alookup_sound r hv (hρ _ (by simp [Op.operands]) _ ha) (hρ _ (by simp [Op.operands]) _ hb)
    exact both_pure r k1 k2
  · -- mapUpdate
    rename_i t m k x
    obtain ⟨a, b, ha, hb, h0⟩ := ev2_some h0
    obtain ⟨c, hc, h0⟩ := ev1_some h0
    obtain ⟨h', hv, rfl⟩ := skipH_some h0
    obtain ⟨w', k1, k2, k3⟩ := amapUpdate_sound r hv (hρ _ (by simp [Op.operands]) _ ha) (hρ _ (by simp [Op.operands]) _ hb) (hρ _ (by simp [Op.operands]) _ hc)
    refine nq (by simp [kdOf]) ?_
    exact out_skip k1 k2 k3
  · rename_i t m k x
    obtain ⟨a, b, ha, hb, h0⟩ := ev2_some h0
    obtain ⟨c, hc, h0⟩ := ev1_some h0
    obtain ⟨h', hv, rfl⟩ := skipH_some h0
    obtain ⟨w', k1, k2, k3⟩ := amapUpdate_sound r hv (hρ _ (by simp [Op.operands]) _ ha) (hρ _ (by simp [Op.operands]) _ hb) (hρ _ (by simp [Op.operands]) _ hc)
    refine nq (by simp [kdOf]) ?_
    exact out_skip k1 k2 k3
  · -- mapEntry
    obtain ⟨a, b, ha, hb, h0⟩ := ev2_some h0
    obtain ⟨v, h', hv, rfl⟩ := valH_some h0
    obtain ⟨cv, w', k1, k2, k3, k4⟩ := amapEntry_sound r hv (hρ _ (by simp [Op.operands]) _ ha) (hρ _ (by simp [Op.operands]) _ hb)
    refine nq (by simp [kdOf]) ?_
    exact out_val k1 k2 k3 k4
  · -- entryStore
    rename_i t m s x
    obtain ⟨a, b, ha, hb, h0⟩ := ev2_some h0
    obtain ⟨c, hc, h0⟩ := ev1_some h0
    obtain ⟨h', hv, rfl⟩ := skipH_some h0
    obtain ⟨w', k1, k2, k3⟩ := aentryStore_sound r t hv (hρ _ (by simp [Op.operands]) _ ha) (hρ _ (by simp [Op.operands]) _ hb) (hρ _ (by simp [Op.operands]) _ hc)
    refine nq (by simp [kdOf]) ?_
    exact out_skip k1 k2 k3
  · -- range
    rename_i t x
    obtain ⟨a, ha, h0⟩ := ev1_some h0
    split at h0
    · rename_i l n hu
      cases h0
      have hv := hρ _ (by simp [Op.operands]) _ ha
      simp only [VR] at hv
      obtain ⟨q1, q2⟩ := r.new (.siter l n 0) (.stringIter (bstr l n) 0) 0 (fun _ _ _ _ hH => ⟨hH, rfl⟩)
      refine nq (by simp [kdOf]) ?_
      refine out_val (cv := .pointer (some ⟨w.heap.size, 0, none⟩)) (by simp [Instr.range, run_und hu, hv]) ?_ q1 q2
      exact VR_newptr w h 0
    · cases h0
  · -- next
    rename_i it
    obtain ⟨a, ha, h0⟩ := ev1_some h0
    split at h0
    · rename_i rr
      have hv := hρ _ (by simp [Op.operands]) _ ha
      simp only [VR] at hv
      obtain ⟨L, hE, hL⟩ := hv
      split at h0
      · rename_i l n pos hm
        obtain ⟨L', g1, g2, g3⟩ := r.obj _ _ hm
        rw [hE] at g1; cases g1
        have hz : L.sh + 0 = 0 := by omega
        rw [hz] at hL
        cases hp : Nat.blt pos l with
        | true =>
          rw [hp] at h0; simp only [cond] at h0
          split at h0
          · rename_i c hc
            cases h0
            obtain ⟨d1, d2⟩ := decode_small hc
            have q := r.setObj (o' := .siter l n (Nat.succ pos)) (.stringIter (bstr l n) (pos + 1)) hm hE rfl rfl (fun H' hH => ⟨hH, g3⟩)
            refine nq (by simp [kdOf]) ?_
            refine out_val (cv := .tuple #[.bool true, .int .i64 pos, .int .i32 c]) (w' := putBlk w L.blk (.stringIter (bstr l n) (pos + 1))) ?_ ?_ q.1 q.2
            · have hs : pos < (bstr l n).size := by rw [bstr_size]; exact d2
              have := run_setObj (P := P) (ob' := .stringIter (bstr l n) (pos + 1)) g2 (fun _ _ _ e => by cases e)
              simp [Instr.next, hL, run_getSiter g2, hs, d1, this, goInt]
            · simp only [VR]
              exact ⟨_, rfl, VRs.cons (by simp [VR]) (VRs.cons (by simp [VR]) (VRs.cons (by simp [VR]) (VRs.nil E)))⟩
          · cases h0
        | false =>
          rw [hp] at h0; simp only [cond] at h0; cases h0
          have hs : ¬ pos < (bstr l n).size := by rw [bstr_size]; intro e; rw [blt_dec] at hp; simp [e] at hp
          refine both_pure r (cv := .tuple #[.bool false]) ?_ (by simp only [VR]; exact ⟨_, rfl, VRs.cons (by simp [VR]) (VRs.nil E)⟩)
          simp [Instr.next, hL, run_getSiter g2, hs]
      · cases h0
    · cases h0
  · -- typeAssert
    obtain ⟨a, ha, h0⟩ := ev1_some h0
    obtain ⟨v, hv, rfl⟩ := val_some h0
    obtain ⟨cv, k1, k2⟩ := atypeAssert_sound (w := w) hv (hρ _ (by simp [Op.operands]) _ ha)
    exact both_pure r k1 k2
  · -- extract
    rename_i x i
    obtain ⟨a, ha, h0⟩ := ev1_some h0
    split at h0
    · rename_i vs
      obtain ⟨v, hv, rfl⟩ := val_some h0
      have hx := hρ _ (by simp [Op.operands]) _ ha
      simp only [VR] at hx
      obtain ⟨us, hL, hus⟩ := hx
      obtain ⟨cv, k1, k2⟩ := hus.get _ _ hv
      have k1' : (⟨us⟩ : Array Value)[i]? = some cv := by rw [show (⟨us⟩ : Array Value) = us.toArray from rfl, List.getElem?_toArray]; exact k1
      exact both_pure r (by simp only [hL, Instr.extract, k1', Sem.run_pure]) k2
    · cases h0
  · -- call
    obtain ⟨g1, g2⟩ := acall_sound (ty := o.type) r hρ h0
    refine ⟨g1, fun hk => g2 ?_⟩
    revert hk
    rename_i c
    simp only [kdOf]
    split <;> rename_i hcc <;> simp [hcc]
  · -- defer
    rename_i c
    split at h0
    · rename_i args f hargs hf
      split at h0
      · rename_i g first cap hg
        cases hc : callable P g with
        | false => rw [hc] at h0; cases h0
        | true =>
          rw [hc] at h0; simp only [cond] at h0; cases h0
          have hv := hρ _ (by simp [Op.operands, Call.operands, hf]) _ hg
          simp only [VR] at hv
          obtain ⟨a, b, hL, h1, h2⟩ := hv
          have hm : c.args.map ρ = ⟨c.args.toList.map ρ⟩ := by apply Array.ext'; simp
          refine nq (by simp [kdOf]) ?_
          refine ⟨{ target := .fn (.func g) ⟨b⟩, args := ⟨a⟩ ++ ⟨c.args.toList.map ρ⟩ }, by simp [resolve, hf, hL, hm, Deferred.ofValue], ⟨b, a ++ c.args.toList.map ρ, ?_, (h1.append (hρ.list (fun x hx => by simp only [Op.operands, Call.operands, Array.mem_append]; exact .inr (by simpa using hx)) hargs)).append h2⟩⟩
          congr 1
          apply Array.ext'; simp
      · cases h0
    · cases h0
  · -- panic
    obtain ⟨a, ha, h0⟩ := ev1_some h0
    split at h0
    · rename_i t v
      cases h0
      have hv := hρ _ (by simp [Op.operands]) _ ha
      refine nq (by simp [kdOf]) ?_
      refine ⟨_, ?_, hv⟩
      simp only [VR] at hv
      obtain ⟨u, hL, hu⟩ := hv
      simp [hL, Instr.panic]
    · cases h0
  · cases h0
theorem aop_sound (r : Rel E h w.heap) {o : Oper} (hρ : Reads E tm ρ (· ∈ o.op.operands)) {out : AOut} (h0 : aop P h tm o = some out) : Out P E h w ((execOp ρ o).run P w) out := (aop_soundQ r hρ h0).1
end Go.Hb

namespace Go.Hb
variable {P : Program} {E : Emb} {h h' : Hp} {w w' : World}

/-! ## the machine's steps, for a frame of whatever make -/
section
variable {fn : FuncId} {tmps : Array Value} {ds : List Deferred} {kd : CallKind} {ro : Option Nat} {ops : Array Oper} {i : Nat} {rest : List Nat} {k : List Item} {cs : List Frame} {o : Oper}

/-- a running frame -/
abbrev rf (fn : FuncId) (tmps : Array Value) (todo : List Item) (ds : List Deferred) (kd : CallKind) (ro : Option Nat) : Frame := { fn, tmps, todo, defers := ds, mode := .run, kind := kd, roundOf := ro }

theorem stepG_opG (ho : ops[i]? = some o) (hw : Region.wanted o (yielded ops tmps) = true) (hd : ro = none ∨ ∀ c, o.op ≠ .defer c) :
    stepG P true { frame := rf fn tmps (.inRegion ops (i :: rest) :: k) ds kd ro, callers := cs, status := .running, dying := none } w =
      stepG.apply P true (rf fn tmps (.inRegion ops (i :: rest) :: k) ds kd ro) cs none (execOp (rf fn tmps (.inRegion ops (i :: rest) :: k) ds kd ro).eval o) w := by
  simp only [stepG, stepG.exec, stepG.oper, Frame.oper?, ho, Option.map_some, Option.getD_some, hw, if_true]
  rcases hd with rfl | hd
  · rfl
  · cases ro with
    | none => rfl
    | some l =>
      cases hop : o.op <;> first | rfl | exact absurd hop (hd _)

theorem step_value (ho : ops[i]? = some o) (hw : Region.wanted o (yielded ops tmps) = true) (hd : ro = none ∨ ∀ c, o.op ≠ .defer c) {v : Value}
    (hr : (execOp (rf fn tmps (.inRegion ops (i :: rest) :: k) ds kd ro).eval o).run P w = .ok (.value v) w') :
    step P (lone (rf fn tmps (.inRegion ops (i :: rest) :: k) ds kd ro) cs w) = .next (lone ((rf fn tmps (.inRegion ops (i :: rest) :: k) ds kd ro).finish v) cs w') :=
  step_lone_go (by rw [stepG_opG ho hw hd]; simp [stepG.apply, hr])
theorem step_skipG (ho : ops[i]? = some o) (hw : Region.wanted o (yielded ops tmps) = true) (hd : ro = none ∨ ∀ c, o.op ≠ .defer c)
    (hr : (execOp (rf fn tmps (.inRegion ops (i :: rest) :: k) ds kd ro).eval o).run P w = .ok .skip w') :
    step P (lone (rf fn tmps (.inRegion ops (i :: rest) :: k) ds kd ro) cs w) = .next (lone ((rf fn tmps (.inRegion ops (i :: rest) :: k) ds kd ro).finish Go.undef) cs w') :=
  step_lone_go (by rw [stepG_opG ho hw hd]; simp [stepG.apply, hr])
theorem step_enter (ho : ops[i]? = some o) (hw : Region.wanted o (yielded ops tmps) = true) (hd : ro = none ∨ ∀ c, o.op ≠ .defer c) {f : FuncId} {args : Array Value}
    (hr : (execOp (rf fn tmps (.inRegion ops (i :: rest) :: k) ds kd ro).eval o).run P w = .ok (.enter f args) w') :
    step P (lone (rf fn tmps (.inRegion ops (i :: rest) :: k) ds kd ro) cs w) = .next (lone (Frame.enter P f args .normal) (rf fn tmps (.inRegion ops (i :: rest) :: k) ds kd ro :: cs) w') :=
  step_lone_go (by rw [stepG_opG ho hw hd]; simp [stepG.apply, hr])
theorem step_round (ho : ops[i]? = some o) (hw : Region.wanted o (yielded ops tmps) = true) (hd : ro = none ∨ ∀ c, o.op ≠ .defer c) {l : Nat} {f : FuncId} {t : Array Value} {as bd : Code}
    (hr : (execOp (rf fn tmps (.inRegion ops (i :: rest) :: k) ds kd ro).eval o).run P w = .ok (.round l f t as bd) w') :
    step P (lone (rf fn tmps (.inRegion ops (i :: rest) :: k) ds kd ro) cs w) = .next (lone (Frame.round l f t as bd .normal) (rf fn tmps (.inRegion ops (i :: rest) :: k) ds kd ro :: cs) w') :=
  step_lone_go (by rw [stepG_opG ho hw hd]; simp [stepG.apply, hr])
theorem step_deferG (ho : ops[i]? = some o) (hw : Region.wanted o (yielded ops tmps) = true) {d : Deferred}
    (hr : (execOp (rf fn tmps (.inRegion ops (i :: rest) :: k) ds kd none).eval o).run P w = .ok (.defer d) w') :
    step P (lone (rf fn tmps (.inRegion ops (i :: rest) :: k) ds kd none) cs w) = .next (lone ((rf fn tmps (.inRegion ops (i :: rest) :: k) (d :: ds) kd none).finish Go.undef) cs w') :=
  step_lone_go (by rw [stepG_opG ho hw (.inl rfl)]; simp [stepG.apply, hr])
theorem step_panicG (ho : ops[i]? = some o) (hw : Region.wanted o (yielded ops tmps) = true) (hd : ro = none ∨ ∀ c, o.op ≠ .defer c) {v : Value}
    (hr : (execOp (rf fn tmps (.inRegion ops (i :: rest) :: k) ds kd ro).eval o).run P w = .halt (.panic v) w') :
    step P (lone (rf fn tmps (.inRegion ops (i :: rest) :: k) ds kd ro) cs w) = .next (lone ((rf fn tmps (.inRegion ops (i :: rest) :: k) ds kd ro).raise [{ v, recovered := false }]) cs w') :=
  step_lone_go (by rw [stepG_opG ho hw hd]; simp [stepG.apply, hr])
theorem step_recoverG (ho : ops[i]? = some o) (hw : Region.wanted o (yielded ops tmps) = true) {c : Frame}
    (hr : (execOp (rf fn tmps (.inRegion ops (i :: rest) :: k) ds .deferred none).eval o).run P w = .ok .recover w') :
    step P (lone (rf fn tmps (.inRegion ops (i :: rest) :: k) ds .deferred none) (c :: cs) w) =
      (match c.mode with
        | .panicking ({ v, recovered := false, goexit := false } :: older) => .next (lone ((rf fn tmps (.inRegion ops (i :: rest) :: k) ds .deferred none).finish v) ({ c with mode := .panicking ({ v, recovered := true } :: older) } :: cs) w')
        | _ => .next (lone ((rf fn tmps (.inRegion ops (i :: rest) :: k) ds .deferred none).finish .nilIface) (c :: cs) w')) := by
  split
  · rename_i v older hc
    exact step_lone_go (by rw [stepG_opG ho hw (.inl rfl)]; simp [stepG.apply, hr, tryRecover, hc])
  · rename_i hno
    refine step_lone_go ?_
    rw [stepG_opG ho hw (.inl rfl)]
    simp only [stepG.apply, Sem.runT_eq, if_true, hr]
    have : tryRecover (rf fn tmps (.inRegion ops (i :: rest) :: k) ds .deferred none) (c :: cs) = none := by
      simp only [tryRecover]
    simp [this]
theorem step_unwanted (ho : ops[i]? = some o) (hw : Region.wanted o (yielded ops tmps) = false) :
    step P (lone (rf fn tmps (.inRegion ops (i :: rest) :: k) ds kd ro) cs w) = .next (lone ((rf fn tmps (.inRegion ops (i :: rest) :: k) ds kd ro).finish Go.undef) cs w) :=
  step_lone_go (by
    have h1 : ((ops[i]?).map (Region.wanted · (yielded ops tmps))).getD false = false := by rw [ho]; simpa using hw
    simp [stepG, stepG.exec, h1])
theorem finish_region (v : Value) : (rf fn tmps (.inRegion ops (i :: rest) :: k) ds kd ro).finish v =
    rf fn (match (ops[i]?).bind (·.dst) with | some d => tmps.setIfInBounds d v | none => tmps) (.inRegion ops rest :: k) ds kd ro := rfl

/-! ### plain steps -/
theorem st_region_end : step P (lone (rf fn tmps (.inRegion ops [] :: k) ds kd ro) cs w) = .next (lone (rf fn tmps k ds kd ro) cs w) := step_lone_go (by simp [stepG, stepG.exec])
theorem st_skip : step P (lone (rf fn tmps (.code .skip :: k) ds kd ro) cs w) = .next (lone (rf fn tmps k ds kd ro) cs w) := step_lone_go (by simp [stepG, stepG.exec])
theorem st_label (l : Nat) : step P (lone (rf fn tmps (.code (.label l) :: k) ds kd ro) cs w) = .next (lone (rf fn tmps k ds kd ro) cs w) := step_lone_go (by simp [stepG, stepG.exec])
theorem st_inBlock (l : Nat) : step P (lone (rf fn tmps (.inBlock l :: k) ds kd ro) cs w) = .next (lone (rf fn tmps k ds kd ro) cs w) := step_lone_go (by simp [stepG, stepG.exec])
theorem st_inScope (c : Code) : step P (lone (rf fn tmps (.inScope c :: k) ds kd ro) cs w) = .next (lone (rf fn tmps k ds kd ro) cs w) := step_lone_go (by simp [stepG, stepG.exec])
theorem st_seq (a b : Code) : step P (lone (rf fn tmps (.code (.seq a b) :: k) ds kd ro) cs w) = .next (lone (rf fn tmps (.code a :: .code b :: k) ds kd ro) cs w) := step_lone_go (by simp [stepG, stepG.exec])
theorem st_block (id : Nat) (c : Code) : step P (lone (rf fn tmps (.code (.block id c) :: k) ds kd ro) cs w) = .next (lone (rf fn tmps (.code c :: .inBlock id :: k) ds kd ro) cs w) := step_lone_go (by simp [stepG, stepG.exec])
theorem st_loop (c : Code) : step P (lone (rf fn tmps (.code (.loop c) :: k) ds kd ro) cs w) = .next (lone (rf fn tmps (.code c :: .inLoop c :: k) ds kd ro) cs w) := step_lone_go (by simp [stepG, stepG.exec])
theorem st_inLoop (c : Code) : step P (lone (rf fn tmps (.inLoop c :: k) ds kd ro) cs w) = .next (lone (rf fn tmps (.code c :: .inLoop c :: k) ds kd ro) cs w) := step_lone_go (by simp [stepG, stepG.exec])
theorem st_scope (c : Code) : step P (lone (rf fn tmps (.code (.scope c) :: k) ds kd ro) cs w) = .next (lone (rf fn tmps (.code c :: .inScope c :: k) ds kd ro) cs w) := step_lone_go (by simp [stepG, stepG.exec])
theorem st_cond (c : Operand) (x y : Code) (t : Bool) (h : (rf fn tmps (.code (.cond c x y) :: k) ds kd ro).eval c = .bool t) : step P (lone (rf fn tmps (.code (.cond c x y) :: k) ds kd ro) cs w) = .next (lone (rf fn tmps (.code (if t then x else y) :: k) ds kd ro) cs w) :=
  step_lone_go (by simp [stepG, stepG.exec, h])
theorem st_region (id : Nat) : step P (lone (rf fn tmps (.code (.region id ops false) :: k) ds kd ro) cs w) = .next (lone (rf fn tmps (.inRegion ops (List.range ops.size) :: k) ds kd ro) cs w) := step_lone_go (by simp [stepG, stepG.exec])
theorem st_draw (id : Nat) : step P (lone (rf fn tmps (.code (.region id ops true) :: k) ds kd ro) cs w) =
    .next (lone (rf fn tmps (.inRegion ops (Region.schedule (P.follows .mixedOrders) ops (w.tape w.drawn (.order fn id))) :: k) ds kd ro) cs { w with drawn := w.drawn + 1 }) :=
  step_lone_go (by simp [stepG, stepG.exec, choose, Sem.run, Question.forced, Question.cut])
theorem st_exit (id : Nat) {k' : List Item} (h : exitTo id k = some k') : step P (lone (rf fn tmps (.code (.exit id) :: k) ds kd ro) cs w) = .next (lone (rf fn tmps k' ds kd ro) cs w) := step_lone_go (by simp [stepG, stepG.exec, h])
theorem st_goto (l : Nat) {k' : List Item} (h : gotoIn l k = some k') : step P (lone (rf fn tmps (.code (.goto l) :: k) ds kd ro) cs w) = .next (lone (rf fn tmps k' ds kd ro) cs w) := step_lone_go (by simp [stepG, stepG.exec, h])
theorem st_end : step P (lone (rf fn tmps [] ds kd none) cs w) = .next (lone { rf fn tmps [] ds kd none with mode := .returning } cs w) := step_lone_go (by simp [stepG, stepG.exec])
theorem st_ret : step P (lone (rf fn tmps (.code .ret :: k) ds kd none) cs w) = .next (lone { rf fn tmps (.code .ret :: k) ds kd none with mode := .returning } cs w) := step_lone_go (by simp [stepG, stepG.exec])
theorem st_beginRound {l : Nat} (h : (Instr.beginRound l).run P w = .ok () w') : step P (lone (rf fn tmps (.beginRound :: k) ds kd (some l)) cs w) = .next (lone (rf fn tmps k ds kd (some l)) cs w') :=
  step_lone_go (by simp [stepG, stepG.exec, stepG.apply, h, Frame.finish])
theorem st_endRF {l : Nat} {jump : Option Code} (h : (Instr.endLoop l).run P w = .ok jump w') : step P (lone (rf fn tmps (.endRangeFunc l :: k) ds kd ro) cs w) = .next (lone (rf fn tmps ((jump.map Item.code).toList ++ k) ds kd ro) cs w') :=
  step_lone_go (by simp [stepG, stepG.exec, h])
/-- the value of a frame that is left goes to its caller -/
def handed (fr c : Frame) (v : Value) : Frame :=
  match fr.kind with
  | .normal => c.finish v
  | _ => { c with mode := settle c.mode }
theorem doReturn_normal {fr c : Frame} {v : Value} (hk : fr.kind = .normal ∨ fr.kind = .deferred) :
    (doReturn P true fr (c :: cs) none v w).bare = .go { frame := handed fr c v, callers := cs, status := .running, dying := none } w := by
  rcases hk with hk | hk
  · simp [doReturn, hk, handed]
  · simp only [doReturn, hk, handed, settle]
    split <;> (try split) <;> simp_all
theorem st_round_leave {jump : Option Code} {l : Nat} {todo : List Item} {c : Frame} {v : Value} (hk : kd = .normal ∨ kd = .deferred)
    (ht : (todo = [] ∧ jump = none) ∨ (∃ k, todo = .code .ret :: k ∧ jump = some .ret) ∨ (∃ id k, todo = .code (.exit id) :: k ∧ jump = some (.exit id) ∧ exitTo id k = none) ∨ (∃ t k, todo = .code (.goto t) :: k ∧ jump = some (.goto t) ∧ gotoIn t k = none))
    (h : (Instr.endRound l jump).run P w = .ok v w') :
    step P (lone (rf fn tmps todo ds kd (some l)) (c :: cs) w) = .next (lone (handed (rf fn tmps todo ds kd (some l)) c v) cs w') := by
  refine step_lone_go ?_
  rcases ht with ⟨rfl, rfl⟩ | ⟨k, rfl, rfl⟩ | ⟨id, k, rfl, rfl, hx⟩ | ⟨t, k, rfl, rfl, hx⟩
  · simp only [stepG, stepG.exec, Sem.runT_eq, h, GStep.bare_after]; exact doReturn_normal hk
  · simp only [stepG, stepG.exec, Sem.runT_eq, h, GStep.bare_after]; exact doReturn_normal hk
  · simp only [stepG, stepG.exec, hx, Option.elim, Sem.runT_eq, h, GStep.bare_after]; exact doReturn_normal hk
  · simp only [stepG, stepG.exec, hx, Option.elim, Sem.runT_eq, h, GStep.bare_after]; exact doReturn_normal hk

/-! ### leaving -/
theorem st_leave {fr c : Frame} {v : Value} {fd : Func} (hm : fr.mode = .returning) (hd : fr.defers = []) (hf : P.funcs[fr.fn]? = some fd) (hr : (results fd fr.tmps).run P w = .ok v w) (hk : fr.kind = .normal ∨ fr.kind = .deferred) :
    step P (lone fr (c :: cs) w) = .next (lone (handed fr c v) cs w) :=
  step_lone_go (by
    simp only [stepG, unwind, hm, hd, hf, Sem.runT_eq, hr, GStep.bare_after]
    exact doReturn_normal hk)
theorem st_leave_panic {fr c : Frame} {chain : List PanicEntry} {fd : Func} (hm : fr.mode = .panicking chain) (hd : fr.defers = []) (hf : P.funcs[fr.fn]? = some fd) :
    step P (lone fr (c :: cs) w) = .next (lone (c.raise chain) cs w) :=
  step_lone_go (by simp [stepG, unwind, hm, hd, Frame.catches, hf])
theorem st_deferred {fr : Frame} {f : FuncId} {cap args : Array Value} {ds : List Deferred} (hm : fr.mode ≠ .run) (hd : fr.defers = { target := .fn (.func f) cap, args } :: ds) (hc : callable P f = true) :
    step P (lone fr cs w) = .next (lone (Frame.enter P f (args ++ cap) .deferred) ({ fr with defers := ds } :: cs) w) :=
  step_defer (P := P) hm hd rfl (by simp [invoke, callFunc_run hc])
theorem st_collected {fr : Frame} {b : Nat} {ds cl : List Deferred} (hm : fr.mode ≠ .run) (hd : fr.defers = { target := .collected b, args := #[] } :: ds) (hr : (Instr.takeDeferred b).run P w = .ok cl w') :
    step P (lone fr cs w) = .next (lone { fr with defers := cl ++ ds } cs w') :=
  step_lone_go (by
    cases h : fr.mode with
    | run => exact absurd h hm
    | returning => simp [stepG, unwind, h, hd, hr]
    | panicking c => simp [stepG, unwind, h, hd, hr])
/-- entering a range over a function -/
theorem st_rangeFunc {g : Operand} {ps : Array Tmp} {assign body : Code} {l : Nat} {mark : List Deferred} {w₁ w₁' w₂ : World} {d : Deferred} {nx : Next} {G : Frame}
    (he : (Instr.enterLoop fn tmps ps assign body ro).run P w = .ok (l, mark) w₁)
    (hres : (resolve (rf fn tmps (.inRangeFunc l :: k) (mark ++ ds) kd ro).eval { callee := .value g, args := #[.const (.func (.yield l) #[] #[])], argTypes := #[] } 0).run P w₁ = .ok d w₁')
    (hinv : (invoke d.target d.args).run P w₁' = .ok nx w₂)
    (hG : (∃ f args, nx = .enter f args ∧ G = Frame.enter P f args .normal) ∨ (∃ l f t as bd, nx = .round l f t as bd ∧ G = Frame.round l f t as bd .normal)) :
    step P (lone (rf fn tmps (.code (.rangeFunc g ps assign body) :: k) ds kd ro) cs w) = .next (lone G (rf fn tmps (.inRangeFunc l :: k) (mark ++ ds) kd ro :: cs) w₂) := by
  refine step_lone_go ?_
  rcases hG with ⟨f, args, rfl, rfl⟩ | ⟨l', f, t, as, bd, rfl, rfl⟩
  · simp [stepG, stepG.exec, he, stepG.apply, hres, hinv]
  · simp [stepG, stepG.exec, he, stepG.apply, hres, hinv]
end
end Go.Hb

namespace Go.Hb
variable {P : Program} {E : Emb} {h h' : Hp} {w w' : World}

/-! ## temporaries -/
theorem TR.put {tm : T AV} {nt : Nat} {tmps : Array Value} (r : TR E tm nt tmps) {d : Nat} (hd : d < nt) {a : AV} {v : Value} (hv : VR E a v) : TR E (tm.put d a) nt (tmps.setIfInBounds d v) := by
  refine ⟨by simp [r.1], fun t b hb => ?_⟩
  rw [T.at_put] at hb
  by_cases ht : t = d
  · subst ht
    rw [if_pos rfl] at hb; cases hb
    exact ⟨v, by simp [r.1, hd], hv⟩
  · rw [if_neg ht] at hb
    rw [Array.getElem?_setIfInBounds_ne (fun e => ht e.symm)]
    exact r.2 t b hb
/-- what 'finish' does to the temporaries -/
def cput (dst : Option Nat) (v : Value) (tmps : Array Value) : Array Value := match dst with | some d => tmps.setIfInBounds d v | none => tmps
theorem aput_sound {tm tm' : T AV} {nt : Nat} {tmps : Array Value} (r : TR E tm nt tmps) {dst : Option Nat} {a : AV} {v : Value} (h0 : aput tm nt dst a = some tm') (hv : VR E a v) : TR E tm' nt (cput dst v tmps) := by
  unfold aput at h0
  split at h0
  · cases h0; exact r
  · rename_i d
    rw [blt_dec] at h0
    by_cases hd : d < nt
    · simp only [hd, decide_true, cond] at h0; cases h0; exact r.put hd hv
    · simp only [hd, decide_false, cond] at h0; cases h0
theorem VR.not_bool {a : AV} {v : Value} (hv : VR E a v) (ha : ∀ b, a ≠ .bool b) : ∀ b, v ≠ .bool b := by
  intro b e
  subst e
  cases a <;> simp only [VR] at hv
  case bool b' => exact ha b' rfl
  all_goals (first
    | (cases hv; done)
    | (obtain ⟨_, _, hv⟩ := hv; cases hv; done)
    | (obtain ⟨_, _, _, _, hv, _⟩ := hv; cases hv; done)
    | (obtain ⟨_, _, hv, _⟩ := hv; cases hv; done)
    | (obtain ⟨_, hv, _⟩ := hv; cases hv; done))
theorem gotBool_soundS {tm : T AV} {tmps : Array Value} {ops : Array Oper} {j : Nat} (r : ∀ o, ops[j]? = some o → ∀ t, o.dst = some t → ∀ a, tm.at t = some a → ∃ v, tmps[t]? = some v ∧ VR E a v) {b : Option Bool} (h0 : gotBool tm ops.toList j = some b) : yielded ops tmps j = b := by
  unfold gotBool at h0
  unfold yielded
  rw [Array.getElem?_toList] at h0
  split at h0
  · rename_i ho; cases h0; simp [ho]
  · rename_i o ho
    split at h0
    · rename_i hd; cases h0; simp [ho, hd]
    · rename_i d hd
      split at h0
      · rename_i b' hb
        cases h0
        obtain ⟨v, h1, h2⟩ := r _ ho _ hd _ hb
        simp only [VR] at h2
        simp [ho, hd, h1, h2]
      · rename_i a hb ha
        cases h0
        obtain ⟨v, h1, h2⟩ := r _ ho _ hd _ ha
        have := h2.not_bool (fun b e => by subst e; exact hb b rfl)
        simp only [ho, hd, Option.bind_some, h1]
        cases v <;> first | rfl | exact absurd rfl (this _)
      · cases h0
theorem awanted_soundS {tm : T AV} {tmps : Array Value} {ops : Array Oper} {o : Oper} (r : ∀ g want, o.guard = some (g, want) → ∀ o', ops[g]? = some o' → ∀ t, o'.dst = some t → ∀ a, tm.at t = some a → ∃ v, tmps[t]? = some v ∧ VR E a v) {b : Bool} (h0 : awanted tm ops.toList o = some b) : Region.wanted o (yielded ops tmps) = b := by
  unfold awanted at h0
  unfold Region.wanted
  split at h0
  · rename_i hg; cases h0; rw [hg]
  · rename_i j want hg
    rw [hg]
    simp only
    split at h0
    · cases h0
    · rename_i hb; cases h0
      rw [gotBool_soundS (r j want hg) hb]; rfl
    · rename_i b' hb; cases h0
      rw [gotBool_soundS (r j want hg) hb]; rfl
theorem awanted_sound {tm : T AV} {nt : Nat} {tmps : Array Value} (r : TR E tm nt tmps) {ops : Array Oper} {o : Oper} {b : Bool} (h0 : awanted tm ops.toList o = some b) : Region.wanted o (yielded ops tmps) = b :=
  awanted_soundS (fun _ _ _ _ _ t _ a ha => r.2 t a ha) h0
theorem TR.reads {tm : T AV} {nt : Nat} {tmps : Array Value} (r : TR E tm nt tmps) (fn : FuncId) (todo : List Item) (ds : List Deferred) (kd : CallKind) (ro : Option Nat) (S : Operand → Prop) : Reads E tm (rf fn tmps todo ds kd ro).eval S := by
  intro x _ a ha
  cases x with
  | tmp t =>
    simp only [aeval] at ha
    obtain ⟨v, h1, h2⟩ := r.2 t a ha
    simp only [Frame.eval, Array.getD_eq_getD_getElem?, h1]
    exact h2
  | const v => exact ofVal_VR ha E
  | global g => cases ha
  | func f => simp only [aeval] at ha; cases ha; simp only [Frame.eval, VR]; exact ⟨[], [], rfl, VRs.nil E, VRs.nil E⟩

/-! ## items, frames -/
def IR (E : Emb) : AItem → Item → Prop
  | .code c, i => i = .code c
  | .inBlock id, i => i = .inBlock id
  | .inLoop c, i => i = .inLoop c
  | .inScope c, i => i = .inScope c
  | .ops all k rest, i => i = .inRegion all (List.range' k rest.length) ∧ rest = all.toList.drop k
  | .inRF l, i => ∃ L, E l = some L ∧ i = .inRangeFunc L.blk
  | .endRF l, i => ∃ L, E l = some L ∧ i = .endRangeFunc L.blk
  | .beginRound, i => i = .beginRound
def IRs (E : Emb) : List AItem → List Item → Prop
  | [], is => is = []
  | a :: as, is => ∃ i is', is = i :: is' ∧ IR E a i ∧ IRs E as is'
theorem IR.mono {E E' : Emb} (h : E.le E') {a : AItem} {i : Item} (r : IR E a i) : IR E' a i := by
  cases a <;> simp only [IR] at r ⊢ <;> first | exact r | (obtain ⟨L, h1, h2⟩ := r; exact ⟨L, h _ _ h1, h2⟩)
theorem IRs.mono {E E' : Emb} (h : E.le E') : ∀ {as : List AItem} {is : List Item}, IRs E as is → IRs E' as is
  | [], _, r => by simpa [IRs] using r
  | _ :: _, _, r => by simp only [IRs] at r ⊢; obtain ⟨i, is', h1, h2, h3⟩ := r; exact ⟨i, is', h1, h2.mono h, h3.mono h⟩
theorem IRs.cons {a : AItem} {i : Item} {as : List AItem} {is : List Item} (h1 : IR E a i) (h2 : IRs E as is) : IRs E (a :: as) (i :: is) := by simp only [IRs]; exact ⟨i, is, rfl, h1, h2⟩
theorem IRs.cons_inv {a : AItem} {as : List AItem} {is : List Item} (h : IRs E (a :: as) is) : ∃ i is', is = i :: is' ∧ IR E a i ∧ IRs E as is' := by simpa only [IRs] using h
theorem IRs.nil_inv {is : List Item} (h : IRs E [] is) : is = [] := by simpa only [IRs] using h

def DRs (E : Emb) : List ADef → List Deferred → Prop
  | [], ds => ds = []
  | a :: as, ds => ∃ d ds', ds = d :: ds' ∧ DR E a d ∧ DRs E as ds'
theorem DRs.mono {E E' : Emb} (h : E.le E') : ∀ {as : List ADef} {is : List Deferred}, DRs E as is → DRs E' as is
  | [], _, r => by simpa [DRs] using r
  | _ :: _, _, r => by simp only [DRs] at r ⊢; obtain ⟨i, is', h1, h2, h3⟩ := r; exact ⟨i, is', h1, h2.mono h, h3.mono h⟩
theorem DRs.cons {a : ADef} {d : Deferred} {as : List ADef} {ds : List Deferred} (h1 : DR E a d) (h2 : DRs E as ds) : DRs E (a :: as) (d :: ds) := by simp only [DRs]; exact ⟨d, ds, rfl, h1, h2⟩
theorem DRs.cons_inv {a : ADef} {as : List ADef} {ds : List Deferred} (h : DRs E (a :: as) ds) : ∃ d ds', ds = d :: ds' ∧ DR E a d ∧ DRs E as ds' := by simpa only [DRs] using h
theorem DRs.nil_inv {ds : List Deferred} (h : DRs E [] ds) : ds = [] := by simpa only [DRs] using h

def CR (E : Emb) : List (AV × Bool) → List PanicEntry → Prop
  | [], ps => ps = []
  | a :: as, ps => ∃ v ps', ps = { v, recovered := a.2 } :: ps' ∧ VR E a.1 v ∧ CR E as ps'
theorem CR.mono {E E' : Emb} (h : E.le E') : ∀ {as : List (AV × Bool)} {is : List PanicEntry}, CR E as is → CR E' as is
  | [], _, r => by simpa [CR] using r
  | _ :: _, _, r => by simp only [CR] at r ⊢; obtain ⟨i, is', h1, h2, h3⟩ := r; exact ⟨i, is', h1, h2.mono h, h3.mono h⟩
theorem CR.append : ∀ {as bs : List (AV × Bool)} {is js : List PanicEntry}, CR E as is → CR E bs js → CR E (as ++ bs) (is ++ js)
  | [], _, _, _, h, k => by simp only [CR] at h; subst h; exact k
  | _ :: _, _, _, _, h, k => by simp only [CR] at h; obtain ⟨v, ps, rfl, h1, h2⟩ := h; simp only [List.cons_append, CR]; exact ⟨v, _, rfl, h1, h2.append k⟩
def MR (E : Emb) : AMode → FrameMode → Prop
  | .run, m => m = .run
  | .ret, m => m = .returning
  | .pan chain, m => ∃ ps, m = .panicking ps ∧ CR E chain ps
theorem MR.mono {E E' : Emb} (h : E.le E') {a : AMode} {m : FrameMode} (r : MR E a m) : MR E' a m := by
  cases a <;> simp only [MR] at r ⊢ <;> first | exact r | (obtain ⟨ps, h1, h2⟩ := r; exact ⟨ps, h1, h2.mono h⟩)
def RR (E : Emb) : Option Nat → Option Nat → Prop
  | none, o => o = none
  | some l, o => ∃ L, E l = some L ∧ o = some L.blk
theorem RR.mono {E E' : Emb} (h : E.le E') {a b : Option Nat} (r : RR E a b) : RR E' a b := by
  cases a <;> simp only [RR] at r ⊢ <;> first | exact r | (obtain ⟨L, h1, h2⟩ := r; exact ⟨L, h _ _ h1, h2⟩)

structure FR (E : Emb) (a : AFrame) (c : Frame) : Prop where
  fn : c.fn = a.fn
  tm : TR E a.tm a.nt c.tmps
  todo : IRs E a.todo c.todo
  defers : DRs E a.defers c.defers
  mode : MR E a.mode c.mode
  kind : c.kind = a.kind
  round : RR E a.roundOf c.roundOf
theorem FR.mono {E E' : Emb} (h : E.le E') {a : AFrame} {c : Frame} (r : FR E a c) : FR E' a c :=
  ⟨r.fn, r.tm.mono h, r.todo.mono h, r.defers.mono h, r.mode.mono h, r.kind, r.round.mono h⟩
def FRs (E : Emb) : List AFrame → List Frame → Prop
  | [], cs => cs = []
  | a :: as, cs => ∃ c cs', cs = c :: cs' ∧ FR E a c ∧ FRs E as cs'
theorem FRs.mono {E E' : Emb} (h : E.le E') : ∀ {as : List AFrame} {is : List Frame}, FRs E as is → FRs E' as is
  | [], _, r => by simpa [FRs] using r
  | _ :: _, _, r => by simp only [FRs] at r ⊢; obtain ⟨i, is', h1, h2, h3⟩ := r; exact ⟨i, is', h1, h2.mono h, h3.mono h⟩
theorem FRs.cons {a : AFrame} {c : Frame} {as : List AFrame} {cs : List Frame} (h1 : FR E a c) (h2 : FRs E as cs) : FRs E (a :: as) (c :: cs) := by simp only [FRs]; exact ⟨c, cs, rfl, h1, h2⟩
theorem FRs.cons_inv {a : AFrame} {as : List AFrame} {cs : List Frame} (h : FRs E (a :: as) cs) : ∃ c cs', cs = c :: cs' ∧ FR E a c ∧ FRs E as cs' := by simpa only [FRs] using h
theorem FRs.nil_inv {cs : List Frame} (h : FRs E [] cs) : cs = [] := by simpa only [FRs] using h

/-! ## entering -/
theorem at_putArgs (args : List AV) (i : Nat) : (putArgs .leaf 0 args).at i = if i < args.length then args[i]? else none := at_put_leaf args i
theorem enterFrame_sound {f : Nat} {args : List AV} {cargs : List Value} {kd : CallKind} {g : AFrame} (h0 : enterFrame P f args kd = some g) (ha : VRs E args cargs) : FR E g (Frame.enter P f ⟨cargs⟩ kd) := by
  unfold enterFrame at h0
  split at h0
  · rename_i fn hf
    split at h0
    · rename_i c hb
      cases h0
      have hlen := ha.length
      refine ⟨by simp [Frame.enter], ⟨?_, fun t a hta => ?_⟩, ?_, by simp [Frame.enter, DRs], by simp [Frame.enter, MR], by simp [Frame.enter], by simp [Frame.enter, RR]⟩
      · simp [Frame.enter, hf, hlen]; omega
      · rw [at_putArgs] at hta
        split at hta
        · rename_i ht
          obtain ⟨v, h1, h2⟩ := ha.get _ _ hta
          refine ⟨v, ?_, h2⟩
          simp only [Frame.enter]
          rw [Array.getElem?_append_left (by simp; omega)]
          rw [show (⟨cargs⟩ : Array Value) = cargs.toArray from rfl, List.getElem?_toArray]; exact h1
        · cases hta
      · simp only [Frame.enter, hf, hb, Option.bind_some, Option.getD_some]
        exact IRs.cons rfl (by simp [IRs])
    · cases h0
  · cases h0
theorem setParams_sound {nt : Nat} : ∀ {ps : List Nat} {args : List AV} {cargs : List Value} {tm tm' : T AV} {tmps : Array Value}, setParams tm nt ps args = some tm' → VRs E args cargs → TR E tm nt tmps →
    ps.length = cargs.length ∧ TR E tm' nt ((ps.zip cargs).foldl (fun tmps (p : Nat × Value) => tmps.setIfInBounds p.1 p.2) tmps)
  | [], args, cargs, tm, tm', tmps, h0, ha, r => by
    cases args with
    | nil => simp [setParams] at h0; subst h0; rw [ha.nil_inv]; exact ⟨rfl, r⟩
    | cons a as => simp [setParams] at h0
  | p :: ps, args, cargs, tm, tm', tmps, h0, ha, r => by
    cases args with
    | nil => simp [setParams] at h0
    | cons a as =>
      obtain ⟨v, vs, rfl, h1, h2⟩ := ha.cons_inv
      simp only [setParams, blt_dec] at h0
      by_cases hp : p < nt
      · simp only [hp, decide_true, cond] at h0
        obtain ⟨g1, g2⟩ := setParams_sound h0 h2 (r.put hp h1)
        exact ⟨by simp [g1], by simpa using g2⟩
      · simp only [hp, decide_false, cond] at h0; cases h0
theorem run_getLoop {l : Nat} {L : Loop} (hl : w.heap[l]? = some (.loop L)) : (Instr.getLoop l).run P w = .ok L w := by
  simp [Instr.getLoop, getObj, Sem.run, hl]
theorem roundFrame_sound (r : Rel E h w.heap) {l : Nat} {args : List AV} {cargs : List Value} {g : AFrame} (h0 : roundFrame h l args = some g) {L : Loc} (hE : E l = some L) (ha : VRs E args cargs) :
    ∃ fn tmps as bd, (Instr.yield L.blk ⟨cargs⟩).run P w = .ok (.round L.blk fn tmps as bd) w ∧ FR E g (Frame.round L.blk fn tmps as bd .normal) := by
  unfold roundFrame at h0
  split at h0
  · rename_i st pe fn tm nt ps as bd df hl
    split at h0
    · rename_i tm' htm
      cases h0
      obtain ⟨L', g1, tmps, Ld, g2, g3, g4⟩ := r.obj _ _ hl
      rw [hE] at g1; cases g1
      obtain ⟨k1, k2⟩ := setParams_sound htm ha g4
      refine ⟨fn, _, as, bd, ?_, ⟨rfl, k2, ?_, by simp [Frame.round, DRs], by simp [Frame.round, MR], rfl, by simp only [Frame.round, RR]; exact ⟨L, hE, rfl⟩⟩⟩
      · have hs : (⟨cargs⟩ : Array Value).size = (⟨ps⟩ : Array Tmp).size := by simp [k1]
        simp only [Instr.yield, Sem.run_bind, run_getLoop g2, Result.andThen_ok]
        rw [if_neg (by simp [hs])]
        simp only [Sem.run_pure]
        congr 2
        rw [← Array.foldl_toList]; simp
      · exact IRs.cons rfl (IRs.cons rfl (IRs.cons rfl (by simp [IRs])))
    · cases h0
  · cases h0
/-- what comes of a call, as the machine's next frame -/
theorem inFrame_sound (r : Rel E h w.heap) {c : AIn} {g : AFrame} (h0 : inFrame P h c = some g) {s : Sem Next} (hs : Out P E h w (s.run P w) (.call c)) :
    ∃ nx G, s.run P w = .ok nx w ∧ ((∃ f args, nx = .enter f args ∧ G = Frame.enter P f args .normal) ∨ (∃ l f t as bd, nx = .round l f t as bd ∧ G = Frame.round l f t as bd .normal)) ∧ FR E g G := by
  cases c with
  | enter f args =>
    obtain ⟨cargs, h1, h2⟩ := hs
    exact ⟨_, _, h1, .inl ⟨f, _, rfl, rfl⟩, enterFrame_sound h0 h2⟩
  | round l args =>
    obtain ⟨cargs, L, h1, h2, h3⟩ := hs
    obtain ⟨fn, tmps, as, bd, k1, k2⟩ := roundFrame_sound (P := P) r h0 h1 h2
    exact ⟨_, _, h3.trans k1, .inr ⟨_, _, _, _, _, rfl, rfl⟩, k2⟩
end Go.Hb

namespace Go.Hb
variable {P : Program} {E : Emb} {h h' : Hp} {w w' : World}

/-! ## masks -/
theorem testBit_edges (bs : List Nat) (j : Nat) : ∀ es : List Edge, Nat.testBit (edgesBefore bs es) j = true ↔ ∃ e ∈ es, Region.binds .any e = true ∧ (j = e.on ∨ Nat.testBit (bs.getD e.on 0) j = true)
  | [] => by simp [edgesBefore]
  | e :: es => by
    have ih := testBit_edges bs j es
    simp only [edgesBefore]
    cases hb : Region.binds .any e with
    | false =>
      simp only [cond, ih, List.mem_cons]
      constructor
      · rintro ⟨x, h1, h2⟩; exact ⟨x, .inr h1, h2⟩
      · rintro ⟨x, rfl | h1, h2⟩
        · rw [hb] at h2; cases h2.1
        · exact ⟨x, h1, h2⟩
    | true =>
      simp only [cond]
      show Nat.testBit ((2 ^ e.on ||| bs.getD e.on 0) ||| edgesBefore bs es) j = true ↔ _
      simp only [Nat.testBit_or, Nat.testBit_two_pow, Bool.or_eq_true, decide_eq_true_eq, ih, List.mem_cons]
      constructor
      · rintro ((h1 | h1) | ⟨x, h1, h2⟩)
        · exact ⟨e, .inl rfl, hb, .inl h1.symm⟩
        · exact ⟨e, .inl rfl, hb, .inr h1⟩
        · exact ⟨x, .inr h1, h2⟩
      · rintro ⟨x, rfl | h1, h2, h3⟩
        · rcases h3 with h3 | h3
          · exact .inl (.inl h3.symm)
          · exact .inl (.inr h3)
        · exact .inr ⟨x, h1, h2, h3⟩
theorem befores_spec : ∀ (l : List Oper) (acc : List Nat), (befores l acc).length = acc.length + l.length ∧ (befores l acc).take acc.length = acc ∧
    ∀ i o, l[i]? = some o → (befores l acc)[acc.length + i]? = some (edgesBefore ((befores l acc).take (acc.length + i)) o.after.toList)
  | [], acc => by simp [befores]
  | o :: l, acc => by
    obtain ⟨h1, h2, h3⟩ := befores_spec l (acc ++ [edgesBefore acc o.after.toList])
    simp only [befores]
    simp only [List.length_append, List.length_cons, List.length_nil] at h1 h2 h3
    refine ⟨by rw [h1]; simp; omega, ?_, fun i x hx => ?_⟩
    · have := congrArg (List.take acc.length) h2
      rw [List.take_take] at this
      rw [show min acc.length (acc.length + (0 + 1)) = acc.length by omega] at this
      rw [this]; simp
    · cases i with
      | zero =>
        simp at hx; subst hx
        have e1 := congrArg (fun z => z[acc.length]?) h2
        simp only [List.getElem?_take] at e1
        rw [if_pos (by omega)] at e1
        have e2 := congrArg (List.take acc.length) h2
        rw [List.take_take, show min acc.length (acc.length + (0 + 1)) = acc.length by omega] at e2
        rw [Nat.add_zero, e1, e2]; simp
      | succ i =>
        have := h3 i x (by simpa using hx)
        rw [show acc.length + (i + 1) = acc.length + (0 + 1) + i by omega]
        exact this
def bsOf (l : List Oper) : List Nat := befores l []
theorem mask {l : List Oper} {i : Nat} {o : Oper} (ho : l[i]? = some o) (j : Nat) :
    Nat.testBit ((bsOf l).getD i 0) j = true ↔ ∃ e ∈ o.after.toList, Region.binds .any e = true ∧ (j = e.on ∨ (e.on < i ∧ Nat.testBit ((bsOf l).getD e.on 0) j = true)) := by
  obtain ⟨h1, _, h3⟩ := befores_spec l []
  have := h3 i o ho
  simp only [List.length_nil, Nat.zero_add] at this
  rw [List.getD_eq_getElem?_getD, show bsOf l = befores l [] from rfl, this]
  simp only [Option.getD_some, testBit_edges]
  constructor
  · rintro ⟨e, k1, k2, k3⟩
    refine ⟨e, k1, k2, k3.imp id fun k3 => ?_⟩
    rw [List.getD_eq_getElem?_getD, List.getElem?_take] at k3
    by_cases he : e.on < i
    · rw [if_pos he] at k3; exact ⟨he, by rw [List.getD_eq_getElem?_getD]; exact k3⟩
    · rw [if_neg he] at k3; simp at k3
  · rintro ⟨e, k1, k2, k3⟩
    refine ⟨e, k1, k2, k3.imp id fun k3 => ?_⟩
    rw [List.getD_eq_getElem?_getD, List.getElem?_take, if_pos k3.1, ← List.getD_eq_getElem?_getD]
    exact k3.2
/-- the edges of one operation are met -/
def Met (D : Nat → Prop) (o : Oper) : Prop := ∀ e ∈ o.after.toList, Region.binds .any e = true → D e.on
def Closed (l : List Oper) (D : Nat → Prop) : Prop := ∀ i o, l[i]? = some o → D i → Met D o
theorem closed_mask {l : List Oper} {D : Nat → Prop} (hD : Closed l D) (hlt : ∀ i, D i → i < l.length) : ∀ (n i : Nat), i < n → ∀ o, l[i]? = some o → Met D o → ∀ j, Nat.testBit ((bsOf l).getD i 0) j = true → D j := by
  intro n
  induction n with
  | zero => intro i hi; omega
  | succ n ih =>
    intro i hi o ho hm j hj
    obtain ⟨e, k1, k2, k3⟩ := (mask ho j).1 hj
    have hde := hm e k1 k2
    rcases k3 with rfl | ⟨k3, k4⟩
    · exact hde
    · have hlt' := hlt _ hde
      have ho' : l[e.on]? = some (l[e.on]'hlt') := by simp
      exact ih e.on (by omega) _ ho' (hD _ _ ho' hde) j k4

/-! ## schedules -/
theorem edgesRank_spec {md : Region.Mode} {n : Nat} {rk : List Nat} {i : Nat} : ∀ {es : List Edge}, edgesRank md n rk i es = true → ∀ e ∈ es, Region.binds md e = true → e.on < n ∧ rk.getD e.on 0 < rk.getD i 0
  | [], _, e, he, _ => by cases he
  | x :: xs, h, e, he, hb => by
    simp only [edgesRank, Bool.and_eq_true, Bool.or_eq_true, Bool.not_eq_true', blt_dec, decide_eq_true_eq] at h
    cases he with
    | head => rcases h.1 with h1 | h1
              · rw [hb] at h1; cases h1
              · exact h1
    | tail _ he => exact edgesRank_spec h.2 e he hb
theorem rankOk_spec {md : Region.Mode} {n : Nat} {rk : List Nat} : ∀ {l : List Oper} {k : Nat}, rankOk md n rk l k = true → ∀ i o, l[i]? = some o → ∀ e ∈ o.after.toList, Region.binds md e = true → e.on < n ∧ rk.getD e.on 0 < rk.getD (k + i) 0
  | [], _, _, i, o, ho => by simp at ho
  | x :: xs, k, h, i, o, ho => by
    simp only [rankOk, Bool.and_eq_true] at h
    cases i with
    | zero => simp at ho; subst ho; exact edgesRank_spec h.1
    | succ i =>
      have := rankOk_spec h.2 i o (by simpa using ho)
      rwa [show Nat.succ k + i = k + (i + 1) by omega] at this
theorem ready_nil {md : Region.Mode} {ops : Array Oper} {rk : List Nat} (hrk : rankOk md ops.size rk ops.toList 0 = true) {listed : Array Bool} (hsz : listed.size = ops.size) (h0 : Region.ready md ops listed = []) :
    ∀ i, i < ops.size → listed.getD i true = true := by
  have key : ∀ (m i : Nat), i < ops.size → rk.getD i 0 < m → listed.getD i true = true := by
    intro m
    induction m with
    | zero => intro i _ h; omega
    | succ m ih =>
      intro i hi hr
      cases hl : listed.getD i true with
      | true => rfl
      | false =>
        exfalso
        have : i ∈ Region.ready md ops listed := by
          unfold Region.ready
          rw [List.mem_filter]
          refine ⟨by simpa using hi, ?_⟩
          have ho : ops[i]? = some ops[i] := by simp [hi]
          simp only [hl, Bool.not_false, Bool.true_and, ho, Option.map_some, Option.getD_some]
          rw [Array.all_eq_true]
          intro x hx
          have hmem : ops[i].after[x] ∈ ops[i].after.toList := by simp
          cases hb : Region.binds md ops[i].after[x] with
          | false => rfl
          | true =>
            have := rankOk_spec hrk i ops[i] (by simp [hi]) _ hmem hb
            rw [Nat.zero_add] at this
            have h2 := ih _ this.1 (by omega)
            simp only [Bool.not_true, Bool.false_or]
            have hlt : ops[i].after[x].on < listed.size := by rw [hsz]; exact this.1
            rw [Array.getD_eq_getD_getElem?] at h2 ⊢
            rw [Array.getElem?_eq_getElem hlt] at h2 ⊢
            exact h2
        rw [h0] at this; cases this
  intro i hi
  exact key _ i hi (Nat.lt_succ_self _)
theorem ready_spec {md : Region.Mode} {ops : Array Oper} {listed : Array Bool} {i : Nat} (h0 : i ∈ Region.ready md ops listed) :
    i < ops.size ∧ listed.getD i true = false ∧ ∃ o, ops[i]? = some o ∧ ∀ e ∈ o.after.toList, Region.binds md e = true → listed.getD e.on false = true := by
  unfold Region.ready at h0
  rw [List.mem_filter] at h0
  obtain ⟨h1, h2⟩ := h0
  simp only [List.mem_range] at h1
  have ho : ops[i]? = some ops[i] := by simp [h1]
  rw [ho] at h2
  simp only [Option.map_some, Option.getD_some, Bool.and_eq_true, Bool.not_eq_true', Array.all_eq_true] at h2
  refine ⟨h1, h2.1, ops[i], ho, fun e he hb => ?_⟩
  obtain ⟨x, hx, rfl⟩ := List.getElem_of_mem he
  have := h2.2 x (by simpa using hx)
  rw [Array.getElem_toList] at hb
  rw [hb] at this
  simpa using this
theorem binds_any {md : Region.Mode} {e : Edge} (h : Region.binds .any e = true) : Region.binds md e = true := by
  unfold Region.binds at h ⊢
  cases hg : e.ground <;> simp_all <;> exact absurd h (by decide)
end Go.Hb

namespace Go.Hb
variable {P : Program} {E : Emb} {h h' : Hp} {w w' : World}

/-! ## the trace of a region -/
def planOf (l : List Oper) (i : Nat) (o : Oper) : Plan := { o, kd := kdOf o.op, lo := loOf ((bsOf l).getD i 0) (effs l 0) 0, hi := hiOf (bsOf l) i (effs l 0) 0 }
theorem plansGo_get (bs es : List Nat) : ∀ (l : List Oper) (k i : Nat), (plansGo bs es l k)[i]? = (l[i]?).map fun o => { o, kd := kdOf o.op, lo := loOf (bs.getD (k + i) 0) es 0, hi := hiOf bs (k + i) es 0 }
  | [], k, i => by simp [plansGo]
  | o :: l, k, i => by
    cases i with
    | zero => simp [plansGo]
    | succ i => simp only [plansGo, List.getElem?_cons_succ]; rw [plansGo_get bs es l]; rw [show Nat.succ k + i = k + (i + 1) by omega]
theorem plansGo_length (bs es : List Nat) : ∀ (l : List Oper) (k : Nat), (plansGo bs es l k).length = l.length
  | [], _ => rfl
  | _ :: l, k => by simp [plansGo, plansGo_length bs es l]

inductive RC (P : Program) (call : Oracle) (l : List Oper) (p : Plan) (r r' : RS) (a : AV) : Prop
  | unwE (hw : awanted r.tm l p.o = some false) (ha : a = .undef) (hk : p.kd = .eff) (e : r' = { r with tm := r'.tm, h := insertPend r.h r.s r.pend, stages := r.h :: r.stages, s := r.s + 1 })
  | unwF (hw : awanted r.tm l p.o = some false) (ha : a = .undef) (hk : p.kd = .fresh) (e : r' = { r with tm := r'.tm, next := r.next + 1 })
  | unwQ (hw : awanted r.tm l p.o = some false) (ha : a = .undef) (hk : p.kd = .pure ∨ p.kd = .read) (e : r' = { r with tm := r'.tm })
  | pure (hx : Hp) (hw : awanted r.tm l p.o = some true) (hk : p.kd = .pure) (h0 : aop P r.h r.tm p.o = some (.val a hx)) (e : r' = { r with tm := r'.tm })
  | read (hx : Hp) (hw : awanted r.tm l p.o = some true) (hk : p.kd = .read) (h0 : aop P r.h r.tm p.o = some (.val a hx)) (e : r' = { r with tm := r'.tm, again := bif Nat.beq p.lo p.hi then r.again else ⟨p.o, r.tm, p.lo, p.hi, a⟩ :: r.again })
  | fresh (ob : AObj) (hw : awanted r.tm l p.o = some true) (hk : p.kd = .fresh) (h0 : afresh P r.tm r.next p.o = some (a, ob)) (e : r' = { r with tm := r'.tm, next := r.next + 1, pend := (p.hi, r.next, ob) :: r.pend })
  | eff (h2 : Hp) (hw : awanted r.tm l p.o = some true) (hk : p.kd = .eff)
      (h0 : aop P (insertPend r.h r.s r.pend) r.tm p.o = some (.val a h2) ∨ ∃ c, aop P (insertPend r.h r.s r.pend) r.tm p.o = some (.call c) ∧ call c (insertPend r.h r.s r.pend) = some (a, h2))
      (e : r' = { r with tm := r'.tm, h := h2, stages := r.h :: r.stages, s := r.s + 1 })
theorem rstep_cases {call : Oracle} {nt : Nat} {l : List Oper} {p : Plan} {r r' : RS} (h0 : rstep P call nt l p r = some r') : ∃ a, aput r.tm nt p.o.dst a = some r'.tm ∧ RC P call l p r r' a := by
  unfold rstep at h0
  split at h0
  · cases h0
  · rename_i hw
    split at h0
    · cases h0
    · rename_i tm htm
      split at h0
      · rename_i hk; cases h0; exact ⟨.undef, htm, .unwE hw rfl hk rfl⟩
      · rename_i hk; cases h0; exact ⟨.undef, htm, .unwF hw rfl hk rfl⟩
      · rename_i hk1 hk2; cases h0
        refine ⟨.undef, htm, .unwQ hw rfl ?_ rfl⟩
        cases hk : p.kd <;> simp_all
  · rename_i hw
    split at h0
    · rename_i hk
      split at h0
      · rename_i v hx hv
        split at h0
        · rename_i tm htm; cases h0; exact ⟨v, htm, .pure hx hw hk hv rfl⟩
        · cases h0
      · cases h0
    · rename_i hk
      split at h0
      · rename_i v hx hv
        split at h0
        · rename_i tm htm; cases h0; exact ⟨v, htm, .read hx hw hk hv rfl⟩
        · cases h0
      · cases h0
    · rename_i hk
      split at h0
      · rename_i v ob hv
        split at h0
        · rename_i tm htm; cases h0; exact ⟨v, htm, .fresh ob hw hk hv rfl⟩
        · cases h0
      · cases h0
    · rename_i hk
      simp only at h0
      split at h0
      · rename_i v h2 hv
        split at h0
        · rename_i tm htm; cases h0; exact ⟨v, htm, .eff h2 hw hk (.inl hv) rfl⟩
        · cases h0
      · rename_i c hv
        split at h0
        · rename_i v h2 hc
          split at h0
          · rename_i tm htm; cases h0; exact ⟨v, htm, .eff h2 hw hk (.inr ⟨c, hv, hc⟩) rfl⟩
          · cases h0
        · cases h0
      · cases h0
theorem rsteps_trace {call : Oracle} {nt : Nat} {l : List Oper} : ∀ {ps : List Plan} {r r' : RS}, rsteps P call nt l ps r = some r' →
    ∃ R : Nat → RS, R 0 = r ∧ R ps.length = r' ∧ ∀ i p, ps[i]? = some p → rstep P call nt l p (R i) = some (R (i + 1))
  | [], r, r', h0 => by simp [rsteps] at h0; subst h0; exact ⟨fun _ => r, rfl, rfl, fun i p hp => by simp at hp⟩
  | p :: ps, r, r', h0 => by
    simp only [rsteps] at h0
    split at h0
    · rename_i r1 hr1
      obtain ⟨R, e1, e2, e3⟩ := rsteps_trace h0
      refine ⟨fun i => match i with | 0 => r | i + 1 => R i, rfl, e2, fun i q hq => ?_⟩
      cases i with
      | zero => simp at hq; subst hq; show _ = some (R 0); rw [e1]; exact hr1
      | succ i => exact e3 i q (by simpa using hq)
    · cases h0

/-! ### effects, in their order -/
theorem effs_spec : ∀ (l : List Oper) (k : Nat), (∀ (q e : Nat), (effs l k)[q]? = some e → k ≤ e ∧ e < k + l.length ∧ ∃ o, l[e - k]? = some o ∧ kdOf o.op = .eff) ∧
    (∀ (i : Nat) (o : Oper), l[i]? = some o → kdOf o.op = .eff → ∃ q : Nat, (effs l k)[q]? = some (k + i)) ∧ List.Pairwise (· < ·) (effs l k)
  | [], k => by simp [effs]
  | o :: l, k => by
    obtain ⟨h1, h2, h3⟩ := effs_spec l (Nat.succ k)
    have base : ∀ (q e : Nat), (effs l (Nat.succ k))[q]? = some e → k ≤ e ∧ e < k + (o :: l).length ∧ ∃ o', (o :: l)[e - k]? = some o' ∧ kdOf o'.op = .eff := fun q e he => by
      obtain ⟨g1, g2, o', g3, g4⟩ := h1 q e he
      refine ⟨by omega, by simp; omega, o', ?_, g4⟩
      rw [show e - k = (e - Nat.succ k) + 1 by omega]; simpa using g3
    have base2 : ∀ (i : Nat) (o' : Oper), l[i]? = some o' → kdOf o'.op = .eff → ∃ q : Nat, (effs l (Nat.succ k))[q]? = some (k + (i + 1)) := fun i o' hi hk => by
      obtain ⟨q, hq⟩ := h2 i o' hi hk
      exact ⟨q, by rw [hq]; congr 1; omega⟩
    cases hk : kdOf o.op with
    | eff =>
      simp only [effs, hk]
      refine ⟨fun q e he => ?_, fun i o' hi hk' => ?_, ?_⟩
      · cases q with
        | zero => simp at he; subst he; exact ⟨Nat.le_refl _, by simp, o, by simp, hk⟩
        | succ q => exact base q e (by simpa using he)
      · cases i with
        | zero => exact ⟨0, by simp⟩
        | succ i =>
          obtain ⟨q, hq⟩ := base2 i o' (by simpa using hi) hk'
          exact ⟨q + 1, by simpa using hq⟩
      · rw [List.pairwise_cons]
        refine ⟨fun e he => ?_, h3⟩
        obtain ⟨q, hq, rfl⟩ := List.getElem_of_mem he
        have := (h1 q _ (List.getElem?_eq_getElem hq)).1
        omega
    | _ =>
      simp only [effs, hk]
      refine ⟨base, fun i o' hi hk' => ?_, h3⟩
      cases i with
      | zero => simp at hi; subst hi; rw [hk] at hk'; cases hk'
      | succ i => exact base2 i o' (by simpa using hi) hk'
theorem loOf_le (b j : Nat) : ∀ (es : List Nat) (k : Nat), (∀ (q e : Nat), es[q]? = some e → Nat.testBit b e = true → k + q + 1 ≤ j) → loOf b es k ≤ j
  | [], k, _ => by simp [loOf]
  | e :: es, k, h => by
    have ih := loOf_le b j es (Nat.succ k) (fun q x hx hb => by have := h (q + 1) x (by simpa using hx) hb; omega)
    simp only [loOf]
    cases hb : Nat.testBit b e with
    | true => simp only [cond]; have := h 0 e rfl hb; omega
    | false => simp only [cond]; exact ih
theorem hiOf_spec (bs : List Nat) (i : Nat) : ∀ (es : List Nat) (k : Nat), k ≤ hiOf bs i es k ∧ hiOf bs i es k ≤ k + es.length ∧
    (∀ (q e : Nat), es[q]? = some e → k + q < hiOf bs i es k → Nat.testBit (bs.getD e 0) i = false) ∧ (∀ e : Nat, es[hiOf bs i es k - k]? = some e → Nat.testBit (bs.getD e 0) i = true)
  | [], k => by simp [hiOf]
  | e :: es, k => by
    obtain ⟨h1, h2, h3, h4⟩ := hiOf_spec bs i es (Nat.succ k)
    simp only [hiOf]
    cases hb : Nat.testBit (bs.getD e 0) i with
    | true =>
      simp only [cond]
      refine ⟨Nat.le_refl _, by simp, fun q x hx hq => by omega, fun x hx => ?_⟩
      simp at hx; subst hx; exact hb
    | false =>
      simp only [cond]
      refine ⟨by generalize hiOf bs i es (Nat.succ k) = m at h1; omega, by generalize hiOf bs i es (Nat.succ k) = m at h2; simp; omega, fun q x hx hq => ?_, fun x hx => ?_⟩
      · cases q with
        | zero => simp at hx; subst hx; exact hb
        | succ q => exact h3 q x (by simpa using hx) (by omega)
      · rw [show hiOf bs i es (Nat.succ k) - k = (hiOf bs i es (Nat.succ k) - Nat.succ k) + 1 by generalize hiOf bs i es (Nat.succ k) = m at h1; omega] at hx
        exact h4 x (by simpa using hx)
theorem chained_spec {bs : List Nat} : ∀ {es : List Nat}, chained bs es = true → ∀ (q e f : Nat), es[q]? = some e → es[q + 1]? = some f → Nat.testBit (bs.getD f 0) e = true
  | [], _, q, e, f, he, _ => by simp at he
  | [x], _, q, e, f, he, hf => by simp at hf
  | x :: y :: es, h, q, e, f, he, hf => by
    simp only [chained, Bool.and_eq_true] at h
    cases q with
    | zero => simp at he hf; subst he hf; exact h.1
    | succ q => exact chained_spec h.2 q e f (by simpa using he) (by simpa using hf)

/-! ### what is put in place -/
theorem look_insertPend {k : Nat} : ∀ {ps : List (Nat × Nat × AObj)} {x : Nat} {o : AObj}, (insertPend h k ps).look x = some o → (k, x, o) ∈ ps ∨ h.look x = some o
  | [], x, o, e => .inr e
  | (a, id, ob) :: ps, x, o, e => by
    simp only [insertPend, beq_dec] at e
    by_cases ha : a = k
    · simp only [ha, decide_true, cond] at e
      rw [look_set] at e
      split at e
      · rename_i hx; cases e; subst hx ha; exact .inl (List.mem_cons_self ..)
      · exact (look_insertPend e).imp (List.mem_cons_of_mem _) (fun z => z)
    · simp only [ha, decide_false, cond] at e
      exact (look_insertPend e).imp (List.mem_cons_of_mem _) (fun z => z)
theorem nb_insertPend {k : Nat} : ∀ {ps : List (Nat × Nat × AObj)}, (insertPend h k ps).nb = h.nb
  | [] => rfl
  | (a, id, ob) :: ps => by
    simp only [insertPend]
    cases Nat.beq a k with
    | true => simp only [cond, nb_set]; exact nb_insertPend
    | false => simp only [cond]; exact nb_insertPend

/-! ### the view of the temporaries -/
noncomputable def viewUpTo (tm0 : T AV) (dst : Nat → Option Nat) (A : Nat → AV) (D : Nat → Prop) [DecidablePred D] : Nat → Nat → Option AV
  | 0, t => tm0.at t
  | n+1, t => if D n ∧ dst n = some t then some (A n) else viewUpTo tm0 dst A D n t
section
variable {tm0 : T AV} {dst : Nat → Option Nat} {A : Nat → AV} {D D' : Nat → Prop} [DecidablePred D] [DecidablePred D']
theorem view_congr {t : Nat} : ∀ {n : Nat}, (∀ k, k < n → dst k = some t → (D k ↔ D' k)) → viewUpTo tm0 dst A D n t = viewUpTo tm0 dst A D' n t
  | 0, _ => rfl
  | n+1, h => by
    simp only [viewUpTo]
    rw [view_congr (fun k hk => h k (by omega))]
    by_cases hd : dst n = some t
    · have := h n (by omega) hd
      by_cases hD : D n
      · rw [if_pos ⟨hD, hd⟩, if_pos ⟨this.1 hD, hd⟩]
      · rw [if_neg (fun e => hD e.1), if_neg (fun e => hD (this.2 e.1))]
    · rw [if_neg (fun e => hd e.2), if_neg (fun e => hd e.2)]
theorem view_skip {t i : Nat} : ∀ {n : Nat}, i ≤ n → (∀ k, i ≤ k → k < n → dst k = some t → ¬ D k) → viewUpTo tm0 dst A D n t = viewUpTo tm0 dst A D i t
  | 0, hi, _ => by rw [show i = 0 by omega]
  | n+1, hi, h => by
    by_cases e : i = n + 1
    · rw [e]
    · simp only [viewUpTo]
      rw [if_neg (fun ⟨hD, hd⟩ => h n (by omega) (by omega) hd hD)]
      exact view_skip (by omega) (fun k h1 h2 => h k h1 (by omega))
end
end Go.Hb

namespace Go.Hb
variable {P : Program} {E : Emb} {h h' : Hp} {w w' : World}

/-! ## orders -/
inductive Legal (l : List Oper) : (Nat → Bool) → List Nat → Prop
  | nil {D} : (∀ i, i < l.length → D i = true) → Legal l D []
  | cons {D i is o} : l[i]? = some o → D i = false → Met (D · = true) o → Legal l (fun k => D k || k == i) is → Legal l D (i :: is)
def unl : List Bool → Nat
  | [] => 0
  | true :: l => unl l
  | false :: l => unl l + 1
theorem unl_set : ∀ {l : List Bool} {i : Nat}, l[i]? = some false → unl (l.set i true) + 1 = unl l
  | [], i, h => by simp at h
  | b :: l, 0, h => by simp at h; subst h; simp [unl]
  | true :: l, i + 1, h => by simp only [List.set_cons_succ, unl]; exact unl_set (by simpa using h)
  | false :: l, i + 1, h => by simp only [List.set_cons_succ, unl]; have := unl_set (l := l) (i := i) (by simpa using h); omega
theorem unl_zero : ∀ {l : List Bool} {i : Nat}, unl l = 0 → i < l.length → l[i]? = some true
  | [], i, _, h => by simp at h
  | true :: l, 0, _, _ => rfl
  | true :: l, i + 1, h, h2 => by simp only [List.getElem?_cons_succ]; exact unl_zero h (by simpa using h2)
  | false :: l, i, h, _ => by simp [unl] at h
theorem unl_replicate : ∀ n, unl (List.replicate n false) = n
  | 0 => rfl
  | n + 1 => by simp [List.replicate_succ, unl, unl_replicate n]
theorem go_legal {md : Region.Mode} {ops : Array Oper} {rk : List Nat} (hrk : rankOk md ops.size rk ops.toList 0 = true) : ∀ (fuel t : Nat) (listed : Array Bool), listed.size = ops.size → unl listed.toList ≤ fuel →
    Legal ops.toList (fun k => listed.getD k false) (Region.linearise.go md ops fuel t listed []) := by
  have gd : ∀ {listed : Array Bool} {i : Nat}, listed.size = ops.size → i < ops.size → ∀ b, listed.getD i b = listed.getD i false := fun {listed i} hs hi b => by
    rw [Array.getD_eq_getD_getElem?, Array.getD_eq_getD_getElem?, Array.getElem?_eq_getElem (by omega)]; rfl
  intro fuel
  induction fuel with
  | zero =>
    intro t listed hs hu
    simp only [Region.linearise.go, List.reverse_nil]
    refine .nil fun i hi => ?_
    have := unl_zero (l := listed.toList) (i := i) (by omega) (by simp only [Array.length_toList] at hi ⊢; omega)
    rw [Array.getD_eq_getD_getElem?, ← Array.getElem?_toList, this]; rfl
  | succ fuel ih =>
    intro t listed hs hu
    simp only [Region.linearise.go]
    change Legal _ _ (match (Region.ready md ops listed)[t % (Region.ready md ops listed).length]? with
      | some i => Region.linearise.go md ops fuel (t / (Region.ready md ops listed).length) (listed.setIfInBounds i true) [i]
      | none => [].reverse)
    cases hi : (Region.ready md ops listed)[t % (Region.ready md ops listed).length]? with
    | none =>
      have hnil : Region.ready md ops listed = [] := by
        cases hr : Region.ready md ops listed with
        | nil => rfl
        | cons x xs =>
          rw [hr] at hi
          have hlt : t % (x :: xs).length < (x :: xs).length := Nat.mod_lt _ (by simp)
          simp at hi
          simp at hlt
          omega
      simp only [List.reverse_nil]
      refine .nil fun i hi => ?_
      have hi' : i < ops.size := by simpa using hi
      have := ready_nil hrk hs hnil i hi'
      rw [gd hs hi'] at this; exact this
    | some i =>
      simp only []
      obtain ⟨g1, g2, o, g3, g4⟩ := ready_spec (List.mem_of_getElem? hi)
      rw [gd hs g1] at g2
      rw [linearise_go_acc, List.reverse_singleton, List.singleton_append]
      have hlf : listed.toList[i]? = some false := by
        rw [Array.getD_eq_getD_getElem?, Array.getElem?_eq_getElem (by omega)] at g2
        rw [Array.getElem?_toList, Array.getElem?_eq_getElem (by omega)]
        simpa using g2
      have e : (fun k => (listed.setIfInBounds i true).getD k false) = (fun k => listed.getD k false || k == i) := by
        funext k
        rw [Array.getD_eq_getD_getElem?, Array.getD_eq_getD_getElem?, Array.getElem?_setIfInBounds]
        by_cases hk : i = k
        · subst hk; simp [hs, g1]
        · have : (k == i) = false := by simp; omega
          simp [hk, this]
      refine .cons (by rw [Array.getElem?_toList]; exact g3) g2 (fun x hx hb => g4 x hx (binds_any hb)) ?_
      have := ih (t / (Region.ready md ops listed).length) (listed.setIfInBounds i true) (by simpa using hs) (by
        rw [Array.toList_setIfInBounds]
        have := unl_set hlf
        omega)
      rw [e] at this
      exact this
theorem schedule_legal {ops : Array Oper} (hok : (rplan ops).ok = true) (mx : Bool) (t : Nat) : Legal ops.toList (fun _ => false) (Region.schedule mx ops t) := by
  simp only [rplan, Bool.and_eq_true] at hok
  obtain ⟨⟨⟨⟨h1, h2⟩, h3⟩, h4⟩, h5⟩ := hok
  have e : (fun k => (Array.replicate ops.size false).getD k false) = fun _ => false := by
    funext k
    rw [Array.getD_eq_getD_getElem?, Array.getElem?_replicate]
    split <;> rfl
  have key : ∀ {md rk} t, rankOk md ops.size rk ops.toList 0 = true → Legal ops.toList (fun _ => false) (Region.linearise md ops t) := fun t hr => by
    have := go_legal hr ops.size t (Array.replicate ops.size false) (by simp) (by simp [unl_replicate])
    rw [e] at this
    exact this
  unfold Region.schedule
  split
  · exact key t h3
  · split
    · exact key _ h4
    · exact key _ h5

/-! ## what does not look at the heap -/
def AOut.reh (h1 : Hp) : AOut → AOut
  | .val v _ => .val v h1
  | o => o
set_option maxHeartbeats 1000000 in
theorem aop_reh {tm : T AV} {o : Oper} (hk : kdOf o.op = .pure) (h1 : Hp) : aop P h1 tm o = (aop P h tm o).map (AOut.reh h1) := by
  unfold kdOf at hk
  unfold aop
  cases hop : o.op <;> simp only [hop] at hk ⊢ <;> first | (cases hk; done) | skip
  case call c =>
    unfold acall
    cases hc : c.callee with
    | builtin b =>
      rw [hc] at hk
      cases hv : aevals tm c.args.toList with
      | none => rfl
      | some args =>
        simp only
        cases b <;> (try simp only at hk) <;> (first | (cases hk; done) | skip) <;> (unfold abuiltin; (try simp only); repeat' split) <;> simp_all [AOut.reh]
    | value f => rw [hc] at hk; cases hk
    | invoke r n => rw [hc] at hk; cases hk
  all_goals (try simp only [val, ev1, ev2, cond_eq_ite])
  all_goals (repeat' split)
  all_goals (first | rfl | simp_all [AOut.reh, val])
theorem aop_pure {tm : T AV} {o : Oper} (hk : kdOf o.op = .pure) {a : AV} {hx : Hp} (h0 : aop P h tm o = some (.val a hx)) (h1 : Hp) : aop P h1 tm o = some (.val a h1) := by
  rw [aop_reh hk (h := h), h0]; rfl

mutual
theorem AV.same_eq : ∀ (a b : AV), AV.same a b = true → a = b
  | .bool _, b, h => by cases b <;> simp_all [AV.same]
  | .int _ _, b, h => by cases b <;> simp_all [AV.same]
  | .str _ _, b, h => by cases b <;> simp_all [AV.same, beq_dec]
  | .ptr _ _, b, h => by cases b <;> simp_all [AV.same, beq_dec]
  | .nilp, b, h => by cases b <;> simp_all [AV.same]
  | .slice .., b, h => by cases b <;> simp_all [AV.same, beq_dec]
  | .nils, b, h => by cases b <;> simp_all [AV.same]
  | .map _, b, h => by cases b <;> simp_all [AV.same, beq_dec]
  | .nilm, b, h => by cases b <;> simp_all [AV.same]
  | .func f fs cs, b, h => by
    cases b with
    | func f' fs' cs' =>
      simp only [AV.same, Bool.and_eq_true, beq_dec, decide_eq_true_eq] at h
      rw [h.1.1, AV.sameL_eq _ _ h.1.2, AV.sameL_eq _ _ h.2]
    | _ => simp [AV.same] at h
  | .yield _, b, h => by cases b <;> simp_all [AV.same, beq_dec]
  | .meth _ _, b, h => by cases b <;> simp_all [AV.same]
  | .via .., b, h => by cases b <;> simp_all [AV.same]
  | .nilf, b, h => by cases b <;> simp_all [AV.same]
  | .iface t v, b, h => by
    cases b with
    | iface t' v' =>
      simp only [AV.same, Bool.and_eq_true, beq_dec, decide_eq_true_eq] at h
      rw [h.1, AV.same_eq _ _ h.2]
    | _ => simp [AV.same] at h
  | .nili, b, h => by cases b <;> simp_all [AV.same]
  | .agg vs, b, h => by
    cases b with
    | agg vs' => simp only [AV.same] at h; rw [AV.sameL_eq _ _ h]
    | _ => simp [AV.same] at h
  | .tup vs, b, h => by
    cases b with
    | tup vs' => simp only [AV.same] at h; rw [AV.sameL_eq _ _ h]
    | _ => simp [AV.same] at h
theorem AV.sameL_eq : ∀ (a b : List AV), AV.sameL a b = true → a = b
  | [], b, h => by cases b <;> simp_all [AV.sameL]
  | a :: as, b, h => by
    cases b with
    | nil => simp [AV.sameL] at h
    | cons b bs =>
      simp only [AV.sameL, Bool.and_eq_true] at h
      rw [AV.same_eq _ _ h.1, AV.sameL_eq _ _ h.2]
end
theorem checkAt_spec {a : Again} (h0 : checkAt P a h = true) : ∃ hx, aop P h a.tm a.o = some (.val a.v hx) := by
  unfold checkAt at h0
  split at h0
  · rename_i v hx hv; exact ⟨hx, by rw [hv, AV.same_eq _ _ h0]⟩
  · cases h0
theorem checkStages_spec {a : Again} : ∀ {hs : List Hp} {k x : Nat} {h : Hp}, checkStages P a hs k = true → hs[x]? = some h → x ≤ k → a.lo ≤ k - x → k - x ≤ a.hi → checkAt P a h = true
  | [], k, x, h, _, hx, _, _, _ => by simp at hx
  | y :: ys, k, x, h, h0, hx, hk, h1, h2 => by
    simp only [checkStages, Bool.and_eq_true] at h0
    cases x with
    | zero =>
      simp at hx; subst hx
      have := h0.1
      rw [Nat.sub_zero] at h1 h2
      simp only [ble_dec, h1, h2, decide_true, Bool.and_self, cond] at this
      exact this
    | succ x => exact checkStages_spec (k := k - 1) (x := x) h0.2 (by simpa using hx) (by omega) (by omega) (by omega)
theorem checkAll_spec {hs : List Hp} {k : Nat} : ∀ {as : List Again}, checkAll P hs k as = true → ∀ a ∈ as, checkStages P a hs k = true
  | [], _, a, ha => by cases ha
  | x :: xs, h0, a, ha => by
    simp only [checkAll, Bool.and_eq_true] at h0
    cases ha with
    | head => exact h0.1
    | tail _ ha => exact checkAll_spec h0.2 a ha
theorem not_defer {tm : T AV} {o : Oper} {v : AV} {h2 : Hp} (h0 : aop P h tm o = some (.val v h2)) : ∀ c, o.op ≠ .defer c := by
  intro c hc
  unfold aop at h0
  rw [hc] at h0
  simp only [cond_eq_ite] at h0
  repeat' split at h0
  all_goals cases h0
theorem not_defer' {tm : T AV} {o : Oper} {c' : AIn} (h0 : aop P h tm o = some (.call c')) : ∀ c, o.op ≠ .defer c := by
  intro c hc
  unfold aop at h0
  rw [hc] at h0
  simp only [cond_eq_ite] at h0
  repeat' split at h0
  all_goals cases h0
end Go.Hb

