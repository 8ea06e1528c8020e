/-
  OWN WORK: data that came in, as lists that nobody writes; the outermost call.
-/
import Derived.Test.YtogkjcpighphfaaGreatHG0
import Derived.WalkKit
import Derived.OpenShut
import Derived.ChangeArms
set_option linter.unusedVariables false
set_option linter.unusedSimpArgs false
set_option linter.unusedSectionVars false
namespace Go.Hb
open Go.Proofs
/-! ## data that came in, as lists that nobody writes -/
/-- all rows of cells of a world, as they are now -/
def embOf (w : World) : Emb := ⟨fun _ => none, fun k => match w.heap[k]? with
  | some (.cells C _ _) => some C
  | _ => none⟩
theorem embOf_imm {w : World} {k : Nat} {C : Array Value} {el : TypeId} {fz : Nat × Nat} (h : w.heap[k]? = some (.cells C el fz)) : (embOf w).imm k = some C := by
  simp only [embOf, h]
theorem embOf_rel (w : World) : Rel (embOf w) ⟨.leaf, 0⟩ w.heap := by
  refine ⟨fun b o e => ?_, fun b b' o o' L L' e => ?_, fun _ _ => rfl, fun k C e => ?_, fun b o L e => ?_, fun b o e => ?_⟩
  · simp [Hp.look, T.at_leaf] at e
  · simp [Hp.look, T.at_leaf] at e
  · simp only [embOf] at e
    split at e
    · rename_i C' el fz h; cases e; exact ⟨el, fz, h⟩
    · cases e
  · simp [Hp.look, T.at_leaf] at e
  · simp [Hp.look, T.at_leaf] at e
/-- these cells are an abstract value -/
def Elt (w : World) (e : Nat) (a : AV) (cs : List Value) : Prop := cs.length = e ∧ ∃ u : Value, u.cells.toList = cs ∧ VR (embOf w) a u ∧ ∀ c ∈ cs, c.oneCell' = true
theorem Elt.one {w : World} {a : AV} {u : Value} (h : VR (embOf w) a u) (ha : a.one = true) (hu : u.cells = #[u]) : Elt w 1 a [u] :=
  ⟨rfl, u, by rw [hu], h, fun c hc => by rw [List.mem_singleton.1 hc]; exact h.one ha⟩
variable {H : Type} {enc : TypeId × Value → H} {P : Program} {w : World} {spare : Nat → Bool} {held : Bool}
theorem cell_at {a : Addr} {C : Array Value} {el : TypeId} {fz : Nat × Nat} (hC : w.heap[a.block]? = some (.cells C el fz)) (hs : a.spot = none) (k : Nat) : w.cell? (a.add k) = C[a.off + k]? := by
  unfold World.cell? Addr.add
  by_cases h : k = 0
  · subst h; simp [hC, hs]
  · simp [h, hC]
theorem add_add (a : Addr) (i j : Nat) : (a.add i).add j = a.add (i + j) := by
  unfold Addr.add
  by_cases hi : i = 0 <;> by_cases hj : j = 0 <;> simp [hi, hj, Nat.add_assoc]
theorem flat_snoc (us : List Value) (u : Value) : flat (us ++ [u]) = flat us ++ u.cells.toList := by simp [flat]
theorem lift_slice {α : Type} (f : α → AV) {t e : TypeId} {n fuel : Nat} (ht : P.underlying t = some (.slice e)) (hc : P.cellsOf e = n) (hn : 0 < n) {cs : List Value} {x : DataW H × List MemPlace}
    (h : DataW.trod enc P w 0 spare held fuel t cs = some x) (hel : ∀ fu, fu < fuel → ∀ cs x, DataW.trod enc P w 0 spare held fu e cs = some x → ∃ y, Elt w n (f y) cs) : ∃ (ys : List α) (c : Value), cs = [c] ∧ VR (embOf w) (.ilst n (ys.map f) false) c := by
  rcases DataW.trod_slice ht h with ⟨rfl, _⟩ | ⟨a, len, cap, elems, rest, m, rfl, rfl, _, _, hlc, _, hlen, hat, _⟩
  · refine ⟨[], _, rfl, ?_⟩
    simp only [VR]
    exact ⟨[], by simp [VRs], ⟨fun u hu => (by cases hu), .inl ⟨rfl, none, 0, rfl, fun _ => rfl, fun _ => rfl⟩⟩⟩
  · cases len with
    | zero =>
      refine ⟨[], _, rfl, ?_⟩
      simp only [VR]
      exact ⟨[], by simp [VRs], ⟨fun u hu => (by cases hu), .inl ⟨rfl, some a, cap, rfl, fun e => (by cases e), fun e => (by cases e)⟩⟩⟩
    | succ len =>
      rw [hc] at hat
      have each : ∀ i, i < len + 1 → ∃ cs' y, w.cells? 0 (a.add (i * n)) n = some cs' ∧ Elt w n (f y) cs' := fun i hi => by
        have h1 := hat i hi
        rw [List.getElem?_eq_getElem (by omega)] at h1
        obtain ⟨cs', g1, g2⟩ := Option.bind_eq_some_iff.1 h1
        obtain ⟨y, g3⟩ := hel m (Nat.lt_succ_self m) cs' _ g2
        exact ⟨cs', y, g1, g3⟩
      obtain ⟨C, el, fz, hC, hs⟩ : ∃ C el fz, w.heap[a.block]? = some (.cells C el fz) ∧ a.spot = none := by
        obtain ⟨cs', y, g1, g2, _⟩ := each 0 (by omega)
        obtain ⟨_, _, g3⟩ := World.cells?_some g1
        have g4 := g3 0 hn
        have : (a.add (0 * n)).add 0 = a := by simp [Addr.add]
        rw [this, List.getElem?_eq_getElem (by omega)] at g4
        unfold World.cell? at g4
        split at g4
        · rename_i C el fz hh
          split at g4
          · cases g4
          · rename_i hsp
            refine ⟨C, el, fz, hh, ?_⟩
            cases hq : a.spot with
            | none => rfl
            | some q => rw [hq] at hsp; simp at hsp
        · cases g4
      have all : ∀ k, k ≤ len + 1 → ∃ (ys : List α) (us : List Value), us.length = k ∧ VRs (embOf w) (ys.map f) us ∧ (∀ u ∈ us, okE n u) ∧ ∀ j, j < k * n → C[a.off + j]? = (flat us)[j]? := by
        intro k
        induction k with
        | zero => exact fun _ => ⟨[], [], rfl, by simp [VRs], fun u hu => (by cases hu), fun j hj => by omega⟩
        | succ k ih =>
          intro hk
          obtain ⟨ys, us, q1, q2, q3, q4⟩ := ih (by omega)
          obtain ⟨cs', y, g1, g2, u, g3, g4, g5⟩ := each k (by omega)
          obtain ⟨_, g6, g7⟩ := World.cells?_some g1
          have hfl := flat_length q3
          refine ⟨ys ++ [y], us ++ [u], by simp [q1], ?_, fun v hv => ?_, fun j hj => ?_⟩
          · rw [List.map_append]; exact q2.append (VRs.cons g4 (VRs.nil _))
          · rcases List.mem_append.1 hv with hv | hv
            · exact q3 v hv
            · rw [List.mem_singleton.1 hv]
              refine ⟨?_, fun c hc => g5 c (by rw [← g3]; exact hc)⟩
              rw [← Array.length_toList, g3, g2]
          · rw [flat_snoc, g3]
            by_cases hj2 : j < k * n
            · rw [q4 j hj2, List.getElem?_append_left (by rw [hfl, q1]; exact hj2)]
            · have hr : j - k * n < n := by rw [Nat.succ_mul] at hj; omega
              rw [List.getElem?_append_right (by rw [hfl, q1]; omega), hfl, q1, ← g7 _ hr, add_add, cell_at hC hs]
              congr 2; omega
      obtain ⟨ys, us, q1, q2, q3, q4⟩ := all (len + 1) (Nat.le_refl _)
      refine ⟨ys, _, rfl, ?_⟩
      simp only [VR]
      refine ⟨us, q2, q3, .inr ⟨a.block, a.off, cap, C, ?_, embOf_imm hC, by omega, fun e => (by cases e), by rw [q1]; exact q4⟩⟩
      rw [q1, ← hs]
theorem lift_int {fuel : Nat} {t : TypeId} (ht : P.underlying t = some (.int .i64)) {cs : List Value} {x : DataW H × List MemPlace} (h : DataW.trod enc P w 0 spare held fuel t cs = some x) : ∃ n, cs = [.int .i64 n] := by
  obtain ⟨n, h1, _⟩ := DataW.trod_int ht h
  exact ⟨n, h1⟩
theorem lift_str {fuel : Nat} {t : TypeId} (ht : P.underlying t = some .string) {cs : List Value} {x : DataW H × List MemPlace} (h : DataW.trod enc P w 0 spare held fuel t cs = some x) : ∃ (s : Str) (c : Value), cs = [c] ∧ VR (embOf w) (avS s) c := by
  obtain ⟨s, h1, _⟩ := DataW.trod_string ht h
  refine ⟨s.data.toList, _, h1, ?_⟩
  have := natBytes_bytesNat s.data.toList
  simp only [avS, VR, bstr, this]
theorem four {α : Type} {cs : List α} (h : cs.length = 4) : ∃ a b c d, cs = [a, b, c, d] := by
  match cs, h with
  | [a, b, c, d], _ => exact ⟨a, b, c, d, rfl⟩
theorem two {α : Type} {cs : List α} (h : cs.length = 2) : ∃ a b, cs = [a, b] := by
  match cs, h with
  | [a, b], _ => exact ⟨a, b, rfl⟩
theorem elt_agg {l : List AV} {cs : List Value} (h : VRs (embOf w) l cs) (ho : allOne l = true) : Elt w l.length (.agg l) cs :=
  ⟨h.length, .agg ⟨cs⟩, rfl, by simp only [VR]; exact ⟨cs, rfl, h⟩, VRs.ones h ho⟩
theorem elt_one {a : AV} {c : Value} (h : VR (embOf w) a c) (ha : a.one = true) (hc : c.cells = #[c]) : Elt w 1 a [c] :=
  ⟨rfl, c, by rw [hc], h, fun x hx => by rw [List.mem_singleton.1 hx]; exact h.one ha⟩
section
theorem cells3 : Tryz.prog.cellsOf 3 = 1 := by kernel_rfl
theorem cells9 : Tryz.prog.cellsOf 9 = 1 := by kernel_rfl
theorem cells22 : Tryz.prog.cellsOf 22 = 1 := by kernel_rfl
theorem cells23 : Tryz.prog.cellsOf 23 = 1 := by kernel_rfl
theorem cells24 : Tryz.prog.cellsOf 24 = 1 := by kernel_rfl
theorem cells26 : Tryz.prog.cellsOf 26 = 4 := by kernel_rfl
theorem cells41 : Tryz.prog.cellsOf 41 = 2 := by kernel_rfl
theorem cells42 : Tryz.prog.cellsOf 42 = 1 := by kernel_rfl
theorem cells43 : Tryz.prog.cellsOf 43 = 1 := by kernel_rfl
theorem cells45 : Tryz.prog.cellsOf 45 = 4 := by kernel_rfl
theorem cells47 : Tryz.prog.cellsOf 47 = 1 := by kernel_rfl
theorem cells49 : Tryz.prog.cellsOf 49 = 4 := by kernel_rfl
theorem got {α : Type} {xs : List α} {n i : Nat} {r : Option α} (h : r = xs[i]?) (hl : xs.length = n) (hi : i < n) : ∃ x, r = some x := by
  rw [List.getElem?_eq_getElem (by omega)] at h; exact ⟨_, h⟩
theorem lift_ints {fuel : Nat} {cs : List Value} {x : DataW H × List MemPlace} (h : DataW.trod enc Tryz.prog w 0 spare held fuel 23 cs = some x) : ∃ (l : List Int) (c : Value), cs = [c] ∧ VR (embOf w) (.ilst 1 (l.map avI) false) c :=
  lift_slice avI Tryz.underlying23 cells3 (by omega) h (fun fu _ cs x hx => by
    obtain ⟨n, rfl⟩ := lift_int Tryz.underlying3 hx
    exact ⟨n, elt_one (by simp only [avI, VR]) rfl rfl⟩)
theorem lift_pat : ∀ (fuel : Nat) (cs : List Value) (x : DataW H × List MemPlace), DataW.trod enc Tryz.prog w 0 spare held fuel 49 cs = some x → ∃ p : Pat, Elt w 4 (Pat.av p) cs := by
  intro fuel
  induction fuel using Nat.strongRecOn with
  | ind fuel ih =>
    intro cs x h
    obtain ⟨xs, m, rfl, rfl, hl, hlen, hf⟩ := DataW.trod_struct Tryz.underlying49 h
    rw [cells49] at hl
    obtain ⟨c0, c1, c2, c3, rfl⟩ := four hl
    have h0 : DataW.trod enc Tryz.prog w 0 spare held m 47 (([c0, c1, c2, c3].drop 0).take (Tryz.prog.cellsOf 47)) = xs[0]? := hf 0 _ rfl
    have h1 : DataW.trod enc Tryz.prog w 0 spare held m 3 (([c0, c1, c2, c3].drop 1).take (Tryz.prog.cellsOf 3)) = xs[1]? := hf 1 _ rfl
    have h2 : DataW.trod enc Tryz.prog w 0 spare held m 9 (([c0, c1, c2, c3].drop 2).take (Tryz.prog.cellsOf 9)) = xs[2]? := hf 2 _ rfl
    have h3 : DataW.trod enc Tryz.prog w 0 spare held m 43 (([c0, c1, c2, c3].drop 3).take (Tryz.prog.cellsOf 43)) = xs[3]? := hf 3 _ rfl
    simp only [cells47, cells3, cells9, cells43, List.drop, List.take] at h0 h1 h2 h3
    obtain ⟨x0, h0⟩ := got h0 hlen (by decide)
    obtain ⟨x1, h1⟩ := got h1 hlen (by decide)
    obtain ⟨x2, h2⟩ := got h2 hlen (by decide)
    obtain ⟨x3, h3⟩ := got h3 hlen (by decide)
    obtain ⟨f, e0⟩ := lift_int Tryz.underlying47 h0
    obtain ⟨n, e1⟩ := lift_int Tryz.underlying3 h1
    obtain ⟨s, c, e2, v2⟩ := lift_str Tryz.underlying9 h2
    obtain ⟨ps, c', e3, v3⟩ := lift_slice Pat.av Tryz.underlying43 cells49 (by omega) h3 (fun fu hfu cs x hx => ih fu (by omega) cs x hx)
    cases e0; cases e1; cases e2; cases e3
    refine ⟨.mk f n s ps, ?_⟩
    simp only [Pat.av, pats_map]
    refine elt_agg (VRs.cons (by simp only [VR]) (VRs.cons (by simp only [VR]) (VRs.cons v2 (VRs.cons v3 (VRs.nil _))))) ?_
    rfl
theorem lift_node (fuel : Nat) (cs : List Value) (x : DataW H × List MemPlace) (h : DataW.trod enc Tryz.prog w 0 spare held fuel 45 cs = some x) : ∃ p : Node, Elt w 4 (Node.av p) cs := by
  obtain ⟨xs, m, rfl, rfl, hl, hlen, hf⟩ := DataW.trod_struct Tryz.underlying45 h
  rw [cells45] at hl
  obtain ⟨c0, c1, c2, c3, rfl⟩ := four hl
  have h0 : DataW.trod enc Tryz.prog w 0 spare held m 42 (([c0, c1, c2, c3].drop 0).take (Tryz.prog.cellsOf 42)) = xs[0]? := hf 0 _ rfl
  have h1 : DataW.trod enc Tryz.prog w 0 spare held m 3 (([c0, c1, c2, c3].drop 1).take (Tryz.prog.cellsOf 3)) = xs[1]? := hf 1 _ rfl
  have h2 : DataW.trod enc Tryz.prog w 0 spare held m 23 (([c0, c1, c2, c3].drop 2).take (Tryz.prog.cellsOf 23)) = xs[2]? := hf 2 _ rfl
  have h3 : DataW.trod enc Tryz.prog w 0 spare held m 43 (([c0, c1, c2, c3].drop 3).take (Tryz.prog.cellsOf 43)) = xs[3]? := hf 3 _ rfl
  simp only [cells42, cells3, cells23, cells43, List.drop, List.take] at h0 h1 h2 h3
  obtain ⟨x0, h0⟩ := got h0 hlen (by decide)
  obtain ⟨x1, h1⟩ := got h1 hlen (by decide)
  obtain ⟨x2, h2⟩ := got h2 hlen (by decide)
  obtain ⟨x3, h3⟩ := got h3 hlen (by decide)
  obtain ⟨f, e0⟩ := lift_int Tryz.underlying42 h0
  obtain ⟨n, e1⟩ := lift_int Tryz.underlying3 h1
  obtain ⟨ks, c, e2, v2⟩ := lift_ints h2
  obtain ⟨ps, c', e3, v3⟩ := lift_slice Pat.av Tryz.underlying43 cells49 (by omega) h3 (fun fu _ cs x hx => lift_pat fu cs x hx)
  cases e0; cases e1; cases e2; cases e3
  refine ⟨⟨f, n, ks, ps⟩, ?_⟩
  simp only [Node.av, pats_map]
  refine elt_agg (VRs.cons (by simp only [VR]) (VRs.cons (by simp only [VR]) (VRs.cons v2 (VRs.cons v3 (VRs.nil _))))) ?_
  rfl
theorem lift_con (fuel : Nat) (cs : List Value) (x : DataW H × List MemPlace) (h : DataW.trod enc Tryz.prog w 0 spare held fuel 41 cs = some x) : ∃ p : Con, Elt w 2 (Con.av p) cs := by
  obtain ⟨xs, m, rfl, rfl, hl, hlen, hf⟩ := DataW.trod_struct Tryz.underlying41 h
  rw [cells41] at hl
  obtain ⟨c0, c1, rfl⟩ := two hl
  have h0 : DataW.trod enc Tryz.prog w 0 spare held m 9 (([c0, c1].drop 0).take (Tryz.prog.cellsOf 9)) = xs[0]? := hf 0 _ rfl
  have h1 : DataW.trod enc Tryz.prog w 0 spare held m 3 (([c0, c1].drop 1).take (Tryz.prog.cellsOf 3)) = xs[1]? := hf 1 _ rfl
  simp only [cells9, cells3, List.drop, List.take] at h0 h1
  obtain ⟨x0, h0⟩ := got h0 hlen (by decide)
  obtain ⟨x1, h1⟩ := got h1 hlen (by decide)
  obtain ⟨s, c, e0, v0⟩ := lift_str Tryz.underlying9 h0
  obtain ⟨n, e1⟩ := lift_int Tryz.underlying3 h1
  cases e0; cases e1
  refine ⟨⟨s, n⟩, ?_⟩
  simp only [Con.av]
  refine elt_agg (VRs.cons v0 (VRs.cons (by simp only [VR]) (VRs.nil _))) ?_
  rfl
theorem lift_prog (fuel : Nat) (cs : List Value) (x : DataW H × List MemPlace) (h : DataW.trod enc Tryz.prog w 0 spare held fuel 26 cs = some x) : ∃ p : Prog, VR (embOf w) (Prog.av p) (.agg ⟨cs⟩) := by
  obtain ⟨xs, m, rfl, rfl, hl, hlen, hf⟩ := DataW.trod_struct Tryz.underlying26 h
  rw [cells26] at hl
  obtain ⟨c0, c1, c2, c3, rfl⟩ := four hl
  have h0 : DataW.trod enc Tryz.prog w 0 spare held m 22 (([c0, c1, c2, c3].drop 0).take (Tryz.prog.cellsOf 22)) = xs[0]? := hf 0 _ rfl
  have h1 : DataW.trod enc Tryz.prog w 0 spare held m 23 (([c0, c1, c2, c3].drop 1).take (Tryz.prog.cellsOf 23)) = xs[1]? := hf 1 _ rfl
  have h2 : DataW.trod enc Tryz.prog w 0 spare held m 3 (([c0, c1, c2, c3].drop 2).take (Tryz.prog.cellsOf 3)) = xs[2]? := hf 2 _ rfl
  have h3 : DataW.trod enc Tryz.prog w 0 spare held m 24 (([c0, c1, c2, c3].drop 3).take (Tryz.prog.cellsOf 24)) = xs[3]? := hf 3 _ rfl
  simp only [cells22, cells23, cells3, cells24, List.drop, List.take] at h0 h1 h2 h3
  obtain ⟨x0, h0⟩ := got h0 hlen (by decide)
  obtain ⟨x1, h1⟩ := got h1 hlen (by decide)
  obtain ⟨x2, h2⟩ := got h2 hlen (by decide)
  obtain ⟨x3, h3⟩ := got h3 hlen (by decide)
  obtain ⟨ns, c, e0, v0⟩ := lift_slice Node.av Tryz.underlying22 cells45 (by omega) h0 (fun fu _ cs x hx => lift_node fu cs x hx)
  obtain ⟨fs, c', e1, v1⟩ := lift_ints h1
  obtain ⟨n, e2⟩ := lift_int Tryz.underlying3 h2
  obtain ⟨ks, c'', e3, v3⟩ := lift_slice Con.av Tryz.underlying24 cells41 (by omega) h3 (fun fu _ cs x hx => lift_con fu cs x hx)
  cases e0; cases e1; cases e2; cases e3
  refine ⟨⟨ns, fs, n, ks⟩, ?_⟩
  simp only [Prog.av, VR]
  exact ⟨_, rfl, VRs.cons v0 (VRs.cons v1 (VRs.cons (by simp only [VR]) (VRs.cons v3 (VRs.nil _))))⟩
end
end Go.Hb

namespace Go.Hb
open Go.Proofs
variable {P : Program}
noncomputable section
/-- one way of the outermost call, to the place where it hands its value back -/
def wayL (P : Program) (is : List Ins) (s : TS) : Option (AV × Nat × List Prop) :=
  match xexec P is s.as with
  | some (s1, ps) => match s1.cs, s1.fr.kind, s1.fr.mode, s1.fr.roundOf, s1.fr.defers with
    | [], .normal, .ret, none, [] => match P.funcs[s1.fr.fn]? with
      | some fd => match aresults P s1.h s1.fr.tm fd.results.toList with
        | some [v] => some (v, s1.fr.fn, ps)
        | _ => none
      | none => none
    | _, _, _, _, _ => none
  | none => none
theorem calls_of_way {f : Nat} {args : List AV} {is : List Ins} {b : Bool} {ps : List Prop} {cargs : List Value} (hb : hasBody P f = true) (hk : AV.keylessL args = true) (h0 : wayL P is (start P f args) = some (.bool b, f, ps)) (hps : AllP ps) (w : World) (hv : VRs (embOf w) args cargs) :
    Calls P f ⟨cargs⟩ w fun e w' => e = .returned (.bool b) ∧ RowKit.Grown w w' := by
  intro base
  unfold hasBody at hb
  split at hb
  · rename_i fn hf
    split at hb
    · rename_i c hc
      have hg : enterFrame P f args .normal = some ⟨f, putArgs .leaf 0 args, max fn.ntmps args.length, [.code c], [], .run, .normal, none⟩ := by simp [enterFrame, hf, hc]
      have fr' : FR (embOf w) _ (Frame.enter P f ⟨cargs⟩ .normal) := enterFrame_sound hg hv
      have f1 : FR (embOf w) (start P f args).as.fr (Frame.enter P f ⟨cargs⟩ .normal) := by
        have e1 : (start P f args).as.fr = ⟨f, mkT ((List.range args.length).zip args), max fn.ntmps args.length, [.code c], [], .run, .normal, none⟩ := by simp [start, hf, hc, TS.as, TF.fr]
        rw [e1]
        refine ⟨fr'.fn, ⟨fr'.tm.1, fun t a e => ?_⟩, fr'.todo, fr'.defers, fr'.mode, fr'.kind, fr'.round⟩
        have h1 := at_range (at_mkT e)
        have hlt := (List.getElem?_eq_some_iff.1 h1).1
        have h2 : (putArgs .leaf 0 args).at t = some a := by
          unfold putArgs; rw [at_put_leaf, if_pos hlt]; exact h1
        exact fr'.tm.2 t a h2
      have e2 : (start P f args).as.cs = [] := by unfold start; split; · split <;> rfl
                                                  · rfl
      have e3 : (start P f args).as.h = ⟨.leaf, 0⟩ := by unfold start; split; · split <;> rfl
                                                         · rfl
      unfold wayL at h0
      split at h0
      · rename_i s1 qs h1
        split at h0
        · rename_i hcs hkd hmo hro hde
          split at h0
          · rename_i fd hfd
            split at h0
            · rename_i v hrs
              simp only [Option.some.injEq, Prod.mk.injEq] at h0
              obtain ⟨rfl, hfn, rfl⟩ := h0
              have hl : LeadsM P 0 (start P f args).as s1 := xexec_sound h1 (fun p hpp => hps.mem p hpp)
              obtain ⟨E', g, ccs, w', s2, f2, fs2, r2, x⟩ := hl (by rw [e3]; exact Nat.le_refl _) (embOf w) _ [] w base f1 (by rw [e2]; rfl) (by rw [e3]; exact embOf_rel w)
              rw [hcs] at fs2
              have := fs2.nil_inv
              subst this
              obtain ⟨cv, g1, g2⟩ := run_results r2 f2.tm hrs
              simp only [tupled, VR] at g2
              subst g2
              have fm := f2.mode
              rw [hmo] at fm
              simp only [MR] at fm
              have fdd := f2.defers
              rw [hde] at fdd
              rw [e3] at x
              have hno : ∀ {b o}, ¬ (⟨.leaf, 0⟩ : Hp).look b = some o := fun {b o} e => by simp [Hp.look, T.at_leaf] at e
              refine ⟨.returned (.bool b), w', g, ⟨rfl, ⟨x.os, x.output, fun i hi => ?_⟩, x.froz, x.size⟩, s2, by rw [f2.fn, hfn], fm, fdd.nil_inv, by rw [f2.kind, hkd], fd, by rw [f2.fn]; exact hfd, g1⟩
              have := x.keep i hi (fun b o L e => absurd e hno)
              rw [this]
              cases w.heap[i]? with
              | none => rfl
              | some ob => cases ob <;> simp
            · cases h0
          · cases h0
        · cases h0
      · cases h0
    · cases hb
  · cases hb
end
end Go.Hb

