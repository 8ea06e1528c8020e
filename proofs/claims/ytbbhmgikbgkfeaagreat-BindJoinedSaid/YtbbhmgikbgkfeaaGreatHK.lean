/-
  OWN WORK (V19, V67, H20, Q2, H21, V68): a machine on abstract values, its soundness, ways through the text (the ways WRITTEN BY A PROGRAM), plain laws.
-/
import Derived.Test.YtbbhmgikbgkfeaaGreatHF
import Derived.Test.YtbbhmgikbgkfeaaGreatHI
import Derived.Test.YtbbhmgikbgkfeaaGreatHJ
set_option linter.unusedVariables false
set_option linter.unusedSimpArgs false
set_option linter.unusedSectionVars false
set_option maxRecDepth 100000
namespace Go.Hb
open Go.Proofs
variable {P : Program}
noncomputable section
def wayL (P : Program) (is : List Ins) (s : TS) : Option (AV × Nat × List Prop) :=
 match xexec P is s.as with
 | some (s1, ps) => match s1.cs, s1.fr.kind, s1.fr.mode, s1.fr.roundOf, s1.fr.defers with
  | [], .normal, .ret, none, [] => match P.funcs[s1.fr.fn]? with
   | some fd => match aresults P s1.h s1.fr.tm fd.results.toList with
    | some [v] => some (v, s1.fr.fn, ps)
    | _ => none
   | none => none
  | _, _, _, _, _ => none
 | none => none
theorem calls_of_way {f : Nat} {args : List AV} {is : List Ins} {b : Bool} {ps : List Prop} {cargs : List Value} (hb : hasBody P f = true) (hk : AV.keylessL args = true) (h0 : wayL P is (start P f args) = some (.bool b, f, ps)) (hps : AllP ps) (w : World) (hv : VRs (embOf w) args cargs) :
  Calls P f ⟨cargs⟩ w fun e w' => e = .returned (.bool b) ∧ RowKit.Grown w w' := by
 intro base
 unfold hasBody at hb
 split at hb
 · rename_i fn hf
   split at hb
   · rename_i c hc
     have hg : enterFrame P f args .normal = some ⟨f, putArgs .leaf 0 args, max fn.ntmps args.length, [.code c], [], .run, .normal, none⟩ := by simp [enterFrame, hf, hc]
     have fr' : FR (embOf w) _ (Frame.enter P f ⟨cargs⟩ .normal) := enterFrame_sound hg hv
     have f1 : FR (embOf w) (start P f args).as.fr (Frame.enter P f ⟨cargs⟩ .normal) := by
      have e1 : (start P f args).as.fr = ⟨f, mkT ((List.range args.length).zip args), max fn.ntmps args.length, [.code c], [], .run, .normal, none⟩ := by simp [start, hf, hc, TS.as, TF.fr]
      rw [e1]
      refine ⟨fr'.fn, ⟨fr'.tm.1, fun t a e => ?_⟩, fr'.todo, fr'.defers, fr'.mode, fr'.kind, fr'.round⟩
      have h1 := at_range (at_mkT e)
      have hlt := (List.getElem?_eq_some_iff.1 h1).1
      have h2 : (putArgs .leaf 0 args).at t = some a := by
       unfold putArgs; rw [at_put_leaf, if_pos hlt]; exact h1
      exact fr'.tm.2 t a h2
     have e2 : (start P f args).as.cs = [] := by unfold start; split; · split <;> rfl
                                                 · rfl
     have e3 : (start P f args).as.h = ⟨.leaf, 0⟩ := by unfold start; split; · split <;> rfl
                                                        · rfl
     unfold wayL at h0
     split at h0
     · rename_i s1 qs h1
       split at h0
       · rename_i hcs hkd hmo hro hde
         split at h0
         · rename_i fd hfd
           split at h0
           · rename_i v hrs
             simp only [Option.some.injEq, Prod.mk.injEq] at h0
             obtain ⟨rfl, hfn, rfl⟩ := h0
             have hl : LeadsM P 0 (start P f args).as s1 := xexec_sound h1 (fun p hpp => hps.mem p hpp)
             obtain ⟨E', g, ccs, w', s2, f2, fs2, r2, x⟩ := hl (by rw [e3]; exact Nat.le_refl _) (embOf w) _ [] w base f1 (by rw [e2]; rfl) (by rw [e3]; exact embOf_rel w)
             rw [hcs] at fs2
             have := fs2.nil_inv
             subst this
             obtain ⟨cv, g1, g2⟩ := run_results r2 f2.tm hrs
             simp only [tupled, VR] at g2
             subst g2
             have fm := f2.mode
             rw [hmo] at fm
             simp only [MR] at fm
             have fdd := f2.defers
             rw [hde] at fdd
             rw [e3] at x
             have hno : ∀ {b o}, ¬ (⟨.leaf, 0⟩ : Hp).look b = some o := fun {b o} e => by simp [Hp.look, T.at_leaf] at e
             refine ⟨.returned (.bool b), w', g, ⟨rfl, ⟨x.os, x.output, fun i hi => ?_⟩, x.froz, x.size⟩, s2, by rw [f2.fn, hfn], fm, fdd.nil_inv, by rw [f2.kind, hkd], fd, by rw [f2.fn]; exact hfd, g1⟩
             have := x.keep i hi (fun b o L e => absurd e hno)
             rw [this]
             cases w.heap[i]? with
             | none => rfl
             | some ob => cases ob <;> simp
           · cases h0
         · cases h0
       · cases h0
     · cases h0
   · cases hb
 · cases hb
end
end Go.Hb
namespace Go.Hb
open Go.Proofs
variable {P : Program}
noncomputable section
theorem calls_of_leadsX {f : Nat} {args : List AV} {is : List Ins} {b : Bool} {ps : List Prop} {cargs : List Value} {t : TS} (hb : hasBody P f = true) (hk : AV.keylessL args = true) (hl0 : LeadsM P 0 (start P f args).as t.as) (h0 : wayL P is t = some (.bool b, f, ps)) (hps : AllP ps) (w : World) (hv : VRs (embOf w) args cargs) :
  Calls P f ⟨cargs⟩ w fun e w' => e = .returned (.bool b) ∧ RowKit.Grown w w' := by
 intro base
 unfold hasBody at hb
 split at hb
 · rename_i fn hf
   split at hb
   · rename_i c hc
     have hg : enterFrame P f args .normal = some ⟨f, putArgs .leaf 0 args, max fn.ntmps args.length, [.code c], [], .run, .normal, none⟩ := by simp [enterFrame, hf, hc]
     have fr' : FR (embOf w) _ (Frame.enter P f ⟨cargs⟩ .normal) := enterFrame_sound hg hv
     have f1 : FR (embOf w) (start P f args).as.fr (Frame.enter P f ⟨cargs⟩ .normal) := by
      have e1 : (start P f args).as.fr = ⟨f, mkT ((List.range args.length).zip args), max fn.ntmps args.length, [.code c], [], .run, .normal, none⟩ := by simp [start, hf, hc, TS.as, TF.fr]
      rw [e1]
      refine ⟨fr'.fn, ⟨fr'.tm.1, fun t a e => ?_⟩, fr'.todo, fr'.defers, fr'.mode, fr'.kind, fr'.round⟩
      have h1 := at_range (at_mkT e)
      have hlt := (List.getElem?_eq_some_iff.1 h1).1
      have h2 : (putArgs .leaf 0 args).at t = some a := by
       unfold putArgs; rw [at_put_leaf, if_pos hlt]; exact h1
      exact fr'.tm.2 t a h2
     have e2 : (start P f args).as.cs = [] := by unfold start; split; · split <;> rfl
                                                 · rfl
     have e3 : (start P f args).as.h = ⟨.leaf, 0⟩ := by unfold start; split; · split <;> rfl
                                                        · rfl
     unfold wayL at h0
     split at h0
     · rename_i s1 qs h1
       split at h0
       · rename_i hcs hkd hmo hro hde
         split at h0
         · rename_i fd hfd
           split at h0
           · rename_i v hrs
             simp only [Option.some.injEq, Prod.mk.injEq] at h0
             obtain ⟨rfl, hfn, rfl⟩ := h0
             have hl : LeadsM P 0 (start P f args).as s1 := hl0.trans (xexec_sound h1 (fun p hpp => hps.mem p hpp))
             obtain ⟨E', g, ccs, w', s2, f2, fs2, r2, x⟩ := hl (by rw [e3]; exact Nat.le_refl _) (embOf w) _ [] w base f1 (by rw [e2]; rfl) (by rw [e3]; exact embOf_rel w)
             rw [hcs] at fs2
             have := fs2.nil_inv
             subst this
             obtain ⟨cv, g1, g2⟩ := run_results r2 f2.tm hrs
             simp only [tupled, VR] at g2
             subst g2
             have fm := f2.mode
             rw [hmo] at fm
             simp only [MR] at fm
             have fdd := f2.defers
             rw [hde] at fdd
             rw [e3] at x
             have hno : ∀ {b o}, ¬ (⟨.leaf, 0⟩ : Hp).look b = some o := fun {b o} e => by simp [Hp.look, T.at_leaf] at e
             refine ⟨.returned (.bool b), w', g, ⟨rfl, ⟨x.os, x.output, fun i hi => ?_⟩, x.froz, x.size⟩, s2, by rw [f2.fn, hfn], fm, fdd.nil_inv, by rw [f2.kind, hkd], fd, by rw [f2.fn]; exact hfd, g1⟩
             have := x.keep i hi (fun b o L e => absurd e hno)
             rw [this]
             cases w.heap[i]? with
             | none => rfl
             | some ob => cases ob <;> simp
           · cases h0
         · cases h0
       · cases h0
     · cases h0
   · cases hb
 · cases hb
end
end Go.Hb
namespace Go.Hb
open Go.Proofs
noncomputable def let_c0 (q_form q_n : Int) (q_text : Str) (q_parts : List Pat) (l : List Con) (c0_2 : Str) (c0_1 i6 : Int) (l2 : List Pat) : TS :=
 { fr := { fn := 41, nt := 50, sl := [(1, (iC l)), (2, (.ptr 0 0)), (4, (.ptr 1 0)), (5, (.gl 2 4 0 l2.length false)), (6, (nI i6))], todo := [.code (cd Tryz.f41 [1, 1, 1, 0, 1, 0, 0]), .inLoop (cd Tryz.f41 [1, 1, 1, 0, 1, 0, 0]), .inBlock 0, .code (cd Tryz.f41 [1, 1, 1, 1])] }, cs := [], hp := [(0, (.cells (putCells .leaf 0 [(nI q_form), (nI c0_1), (avS c0_2), (iP q_parts)]) 4 [] false), false), (1, (.cells (putCells .leaf 0 [(nI 0), (nI 0), (.str 0 0), .nils]) 4 [] false), false), (2, (.lst 4 (Pats.av l2)), true)], nb := 3 }
theorem let_E_0 (q_form q_n : Int) (q_text : Str) (q_parts : List Pat) (l : List Con) (y0 : Con) (h0 : (q_form == (6 : Int)) = true) (h1 : decide (q_n ≥ (0 : Int)) = true) (h2 : decide (q_n < (l.length : Int)) = true) (h3 : 0 ≤ q_n) (h4 : ((l)[q_n.toNat]?) = some y0) :
  LeadsM PP 0 (start PP 41 [(.agg [(nI q_form), (nI q_n), (avS q_text), (iP q_parts)]), (iC l)]).as (let_c0 q_form q_n q_text q_parts l y0.name 0 0 ([] : List Pat)).as :=
 wW 3 [0, 1, 2] [qp h0, qp h1, ql Con.av l, qp h2, qp h3, qg Con.av h4, qp (p := ([] : List AV) = (Pats.av ([] : List Pat))) rfl, qp (p := (AV.gl 2 4 0 0 false) = (.gl 2 4 0 ([] : List Pat).length false)) rfl] [rn 12, bt 10, rn 5, bt 15, rn 3, aL l, rn 3, bt 21, rn 6, aI (Con.av y0), rn 20, .nilL 5 4, .lset 2 (Pats.av ([] : List Pat)), .set 5 (.gl 2 4 0 ([] : List Pat).length false)] ⟨pats_kl, trivial⟩
theorem let_E_1 (q_form q_n : Int) (q_text : Str) (q_parts : List Pat) (l : List Con) (h0 : (q_form == (6 : Int)) = true) (h1 : decide (q_n ≥ (0 : Int)) = true) (h2 : decide (q_n < (l.length : Int)) = false) :
  LeadsM PP 0 (start PP 41 [(.agg [(nI q_form), (nI q_n), (avS q_text), (iP q_parts)]), (iC l)]).as (let_c0 q_form q_n q_text q_parts l q_text q_n 0 ([] : List Pat)).as :=
 wW 3 [0, 1, 2] [qp h0, qp h1, ql Con.av l, qp h2, qp (p := ([] : List AV) = (Pats.av ([] : List Pat))) rfl, qp (p := (AV.gl 2 4 0 0 false) = (.gl 2 4 0 ([] : List Pat).length false)) rfl] [rn 12, bt 10, rn 5, bt 15, rn 3, aL l, rn 3, bf 21, rn 13, .nilL 5 4, .lset 2 (Pats.av ([] : List Pat)), .set 5 (.gl 2 4 0 ([] : List Pat).length false)] ⟨pats_kl, trivial⟩
theorem let_E_2 (q_form q_n : Int) (q_text : Str) (q_parts : List Pat) (l : List Con) (h0 : (q_form == (6 : Int)) = true) (h1 : decide (q_n ≥ (0 : Int)) = false) :
  LeadsM PP 0 (start PP 41 [(.agg [(nI q_form), (nI q_n), (avS q_text), (iP q_parts)]), (iC l)]).as (let_c0 q_form q_n q_text q_parts l q_text q_n 0 ([] : List Pat)).as :=
 wW 3 [0, 1, 2] [qp h0, qp h1, qp (p := ([] : List AV) = (Pats.av ([] : List Pat))) rfl, qp (p := (AV.gl 2 4 0 0 false) = (.gl 2 4 0 ([] : List Pat).length false)) rfl] [rn 12, bt 10, rn 5, bf 15, rn 20, .nilL 5 4, .lset 2 (Pats.av ([] : List Pat)), .set 5 (.gl 2 4 0 ([] : List Pat).length false)] ⟨pats_kl, trivial⟩
theorem let_E_3 (q_form q_n : Int) (q_text : Str) (q_parts : List Pat) (l : List Con) (h0 : (q_form == (6 : Int)) = false) :
  LeadsM PP 0 (start PP 41 [(.agg [(nI q_form), (nI q_n), (avS q_text), (iP q_parts)]), (iC l)]).as (let_c0 q_form q_n q_text q_parts l q_text q_n 0 ([] : List Pat)).as :=
 wW 3 [0, 1, 2] [qp h0, qp (p := ([] : List AV) = (Pats.av ([] : List Pat))) rfl, qp (p := (AV.gl 2 4 0 0 false) = (.gl 2 4 0 ([] : List Pat).length false)) rfl] [rn 12, bf 10, rn 25, .nilL 5 4, .lset 2 (Pats.av ([] : List Pat)), .set 5 (.gl 2 4 0 ([] : List Pat).length false)] ⟨pats_kl, trivial⟩
theorem let_0_0 (q_form q_n : Int) (q_text : Str) (q_parts : List Pat) (l : List Con) (c0_2 : Str) (c0_1 i6 : Int) (l2 : List Pat) (y_form0 y_n1 : Int) (y_text2 : Str) (y_parts3 : List Pat) (y_form4 y_n5 : Int) (y_text6 : Str) (y_parts7 : List Pat) (h0 : decide (i6 < (q_parts.length : Int)) = true) (h1 : 0 ≤ i6) (h2 : ((q_parts)[i6.toNat]?) = some (Pat.mk y_form0 y_n1 y_text2 y_parts3)) (h3 : Pure PP 41 [(.agg [(nI y_form0), (nI y_n1), (avS y_text2), (iP y_parts3)]), (iC l)] (.agg [(nI y_form4), (nI y_n5), (avS y_text6), (iP y_parts7)])) (h4 : List.length (l2 ++ [(Pat.mk y_form4 y_n5 y_text6 y_parts7)]) ≤ 1000000) (h5 : (IntKind.i64.wrap (i6 + (1 : Int))) = (i6 + (1 : Int))) :
  LeadsM PP 0 (let_c0 q_form q_n q_text q_parts l c0_2 c0_1 i6 l2).as (let_c0 q_form q_n q_text q_parts l c0_2 c0_1 (i6 + (1 : Int)) (l2 ++ [(Pat.mk y_form4 y_n5 y_text6 y_parts7)])).as :=
 wW 5 [0, 1, 4] [qlP q_parts, qp h0, qp h1, qgP h2, qp h3, qp (p := 0 + l2.length ≤ List.length (Pats.av l2)) (app_p1F pats_map _), qp h4, qp (p := List.take l2.length (List.drop 0 (Pats.av l2)) ++ (Pats.av [(Pat.mk y_form4 y_n5 y_text6 y_parts7)]) = (Pats.av (l2 ++ [(Pat.mk y_form4 y_n5 y_text6 y_parts7)]))) (app_p3F pats_map _ _), qp (p := l2.length + List.length (Pats.av [(Pat.mk y_form4 y_n5 y_text6 y_parts7)]) = List.length (l2 ++ [(Pat.mk y_form4 y_n5 y_text6 y_parts7)])) (app_p4F pats_map _ _), qp (congrArg (AV.int .i64) h5)] [rn 6, aL q_parts, rn 2, bt 34, rn 9, aI (Pat.av (Pat.mk y_form0 y_n1 y_text2 y_parts3)), rn 2, .pure (.agg [(nI y_form4), (nI y_n5), (avS y_text6), (iP y_parts7)]), rn 1, .app (Pats.av (l2 ++ [(Pat.mk y_form4 y_n5 y_text6 y_parts7)])) (l2 ++ [(Pat.mk y_form4 y_n5 y_text6 y_parts7)]).length, rn 6, sI 36 (i6 + (1 : Int)), rn 3] ⟨pats_kl, trivial⟩
theorem let_0_1 (q_form q_n : Int) (q_text : Str) (q_parts : List Pat) (l : List Con) (c0_2 : Str) (c0_1 i6 : Int) (l2 : List Pat) (h0 : decide (i6 < (q_parts.length : Int)) = false) :
  Ends PP 0 (let_c0 q_form q_n q_text q_parts l c0_2 c0_1 i6 l2).as (.ret (.agg [(nI q_form), (nI c0_1), (avS c0_2), (iP l2)])) (hpOf [] 0) :=
 wE 3 [] [qlP q_parts, qp h0, qp (p := AV.keylessL (Pats.av l2) = true) pats_kl, qp (p := AV.frzOk 2 4 (Pats.av l2) (Pats.av l2) (.gl 2 4 0 l2.length false)) (frz_wholeF pats_map _)] [rn 6, aL q_parts, rn 2, bf 34, rn 6, .frz 47 2 (Pats.av l2), rn 8] trivial
noncomputable def ltr_c0 (l : List Int) (by0 i6 : Int) (l0 : List Int) : TS :=
 { fr := { fn := 13, nt := 23, sl := [(0, (iI l)), (1, (nI by0)), (4, .nils), (5, (.gl 0 1 0 l0.length false)), (6, (nI i6))], todo := [.code (cd Tryz.f13 [1, 1, 0, 1, 0, 0]), .inLoop (cd Tryz.f13 [1, 1, 0, 1, 0, 0]), .inBlock 0, .code (cd Tryz.f13 [1, 1, 1])] }, cs := [], hp := [(0, (.lst 1 (jI l0)), true)], nb := 1 }
theorem ltr_E_0 (l : List Int) (by0 : Int) :
  LeadsM PP 0 (start PP 13 [(iI l), (nI by0)]).as (ltr_c0 l by0 0 ([] : List Int)).as :=
 wW 1 [0] [qp (p := ([] : List AV) = (jI ([] : List Int))) rfl, qp (p := (AV.gl 0 1 0 0 false) = (.gl 0 1 0 ([] : List Int).length false)) rfl] [rn 15, .nilL 5 1, .lset 0 (jI ([] : List Int)), .set 5 (.gl 0 1 0 ([] : List Int).length false)] ⟨kk, trivial⟩
theorem ltr_0_0 (l : List Int) (by0 i6 : Int) (l0 : List Int) (y0 : Int) (h0 : decide (i6 < (l.length : Int)) = true) (h1 : 0 ≤ i6) (h2 : ((l)[i6.toNat]?) = some y0) (h3 : (IntKind.i64.wrap (y0 + by0)) = (y0 + by0)) (h4 : List.length (l0 ++ [(y0 + by0)]) ≤ 1000000) (h5 : (IntKind.i64.wrap (i6 + (1 : Int))) = (i6 + (1 : Int))) :
  LeadsM PP 0 (ltr_c0 l by0 i6 l0).as (ltr_c0 l by0 (i6 + (1 : Int)) (l0 ++ [(y0 + by0)])).as :=
 wW 3 [2] [ql avI l, qp h0, qp h1, qg avI h2, qp (congrArg (AV.int .i64) h3), qp (app_p1 avI l0), qp h4, qp (app_p3 avI l0 [(y0 + by0)]), qp (app_p4 avI l0 [(y0 + by0)]), qp (congrArg (AV.int .i64) h5)] [rn 5, aL l, rn 2, bt 10, rn 8, aI (avI y0), rn 3, sI 19 (y0 + by0), rn 1, .app (jI (l0 ++ [(y0 + by0)])) (l0 ++ [(y0 + by0)]).length, rn 6, sI 12 (i6 + (1 : Int)), rn 3] ⟨kk, trivial⟩
theorem ltr_0_1 (l : List Int) (by0 i6 : Int) (l0 : List Int) (h0 : decide (i6 < (l.length : Int)) = false) :
  Ends PP 0 (ltr_c0 l by0 i6 l0).as (.ret (iI l0)) (hpOf [] 0) :=
 wE 1 [] [ql avI l, qp h0, qp (p := AV.keylessL (jI l0) = true) (keylessL_map _ (fun _ => rfl) _), qp (p := AV.frzOk 0 1 (jI l0) (jI l0) (.gl 0 1 0 l0.length false)) (frz_whole _ _)] [rn 5, aL l, rn 2, bf 10, rn 8, .frz 4 0 (jI l0)] trivial
noncomputable def onl_s (x : Node) (l : List Con) : TS := startH PP 12 [(Node.av x), (iC l)] [] 0
noncomputable def onl_c0 (x : Node) (l l5 : List Con) (c0_1 i7 : Int) (l3 : List Pat) : TS :=
 { fr := { fn := 12, nt := 59, sl := [(1, (iC l)), (2, (.ptr 0 0)), (4, (.ptr 1 0)), (5, (.ptr 2 0)), (6, (.gl 3 4 0 l3.length false)), (7, (nI i7))], todo := [.code (cd Tryz.f12 [1, 1, 1, 1, 0, 1, 0, 0]), .inLoop (cd Tryz.f12 [1, 1, 1, 1, 0, 1, 0, 0]), .inBlock 0, .code (cd Tryz.f12 [1, 1, 1, 1, 1])] }, cs := [], hp := [(0, (.cells (putCells .leaf 0 [(nI x.op), (nI c0_1), (iI x.kids), (iP x.pats)]) 4 [] false), false), (1, (.cells (putCells .leaf 0 [.nils, .nils, (nI 0), .nils]) 4 [] false), false), (2, (.cells (putCells .leaf 0 [(.gl 4 4 0 ([] : List Node).length false), .nils, (nI 0), (.gl 5 2 0 l5.length false)]) 4 [] false), false), (3, (.lst 4 (Pats.av l3)), true), (4, (.lst 4 (jN ([] : List Node))), true), (5, (.lst 2 (jC l5)), true)], nb := 6 }
theorem onl_E_0 (x : Node) (l : List Con) (y0 : Con) (h0 : (x.op == (14 : Int)) = true) (h1 : decide (x.n ≥ (0 : Int)) = true) (h2 : decide (x.n < (l.length : Int)) = true) (h3 : 0 ≤ x.n) (h4 : ((l)[x.n.toNat]?) = some y0) :
  LeadsM PP 0 (onl_s x l).as (onl_c0 x l [y0] 0 0 ([] : List Pat)).as :=
 wW 7 [0, 1, 2, 5, 6, 4] [qp h0, qp h1, ql Con.av l, qp h2, qp h3, qg Con.av h4, qp (p := ([] : List AV) = (Pats.av ([] : List Pat))) rfl, qp (p := (AV.gl 5 4 0 0 false) = (.gl 5 4 0 ([] : List Pat).length false)) rfl, qp (p := getCells (putCells .leaf 0 [(avS y0.name), (nI y0.args)]) 0 (1 * 2) = some [(avS y0.name), (nI y0.args)]) rfl, qp (p := allOne [(avS y0.name), (nI y0.args)] = true) rfl, qp (p := [(.agg [(avS y0.name), (nI y0.args)])] = (jC [y0])) rfl, qp (p := (AV.gl 4 2 0 1 false) = (.gl 4 2 0 [y0].length false)) rfl, qp (p := ([] : List AV) = (jN ([] : List Node))) rfl, qp (p := (AV.gl 6 4 0 0 false) = (.gl 6 4 0 ([] : List Node).length false)) rfl] [rn 18, bt 11, rn 8, bt 15, rn 3, aL l, rn 3, bt 21, rn 1, .reg [.d, .d, .d, .d, .d, .ans (.idx (Con.av y0)), .d, .d, .d, .d, .d], rn 15, .nilL 6 4, .lset 5 (Pats.av ([] : List Pat)), .set 6 (.gl 5 4 0 ([] : List Pat).length false), .ctoL 2 3 true [(avS y0.name), (nI y0.args)], .lset 4 (jC [y0]), .cset 2 3 (.gl 4 2 0 [y0].length false), .cnil 2 0 4, .lset 6 (jN ([] : List Node)), .cset 2 0 (.gl 6 4 0 ([] : List Node).length false)] ⟨pats_kl, ⟨kk, ⟨kk, trivial⟩⟩⟩
theorem onl_E_1 (x : Node) (l : List Con) (h0 : (x.op == (14 : Int)) = true) (h1 : decide (x.n ≥ (0 : Int)) = true) (h2 : decide (x.n < (l.length : Int)) = false) :
  LeadsM PP 0 (onl_s x l).as (onl_c0 x l ([] : List Con) 0 0 ([] : List Pat)).as :=
 wW 6 [0, 1, 2, 3, 5, 4] [qp h0, qp h1, ql Con.av l, qp h2, qp (p := ([] : List AV) = (Pats.av ([] : List Pat))) rfl, qp (p := (AV.gl 3 4 0 0 false) = (.gl 3 4 0 ([] : List Pat).length false)) rfl, qp (p := ([] : List AV) = (jC ([] : List Con))) rfl, qp (p := (AV.gl 4 2 0 0 false) = (.gl 4 2 0 ([] : List Con).length false)) rfl, qp (p := ([] : List AV) = (jN ([] : List Node))) rfl, qp (p := (AV.gl 5 4 0 0 false) = (.gl 5 4 0 ([] : List Node).length false)) rfl] [rn 18, bt 11, rn 8, bt 15, rn 3, aL l, rn 3, bf 21, rn 17, .nilL 6 4, .lset 3 (Pats.av ([] : List Pat)), .set 6 (.gl 3 4 0 ([] : List Pat).length false), .cnil 2 3 2, .lset 4 (jC ([] : List Con)), .cset 2 3 (.gl 4 2 0 ([] : List Con).length false), .cnil 2 0 4, .lset 5 (jN ([] : List Node)), .cset 2 0 (.gl 5 4 0 ([] : List Node).length false)] ⟨pats_kl, ⟨kk, ⟨kk, trivial⟩⟩⟩
theorem onl_E_2 (x : Node) (l : List Con) (h0 : (x.op == (14 : Int)) = true) (h1 : decide (x.n ≥ (0 : Int)) = false) :
  LeadsM PP 0 (onl_s x l).as (onl_c0 x l ([] : List Con) 0 0 ([] : List Pat)).as :=
 wW 6 [0, 1, 2, 3, 5, 4] [qp h0, qp h1, qp (p := ([] : List AV) = (Pats.av ([] : List Pat))) rfl, qp (p := (AV.gl 3 4 0 0 false) = (.gl 3 4 0 ([] : List Pat).length false)) rfl, qp (p := ([] : List AV) = (jC ([] : List Con))) rfl, qp (p := (AV.gl 4 2 0 0 false) = (.gl 4 2 0 ([] : List Con).length false)) rfl, qp (p := ([] : List AV) = (jN ([] : List Node))) rfl, qp (p := (AV.gl 5 4 0 0 false) = (.gl 5 4 0 ([] : List Node).length false)) rfl] [rn 18, bt 11, rn 8, bf 15, rn 24, .nilL 6 4, .lset 3 (Pats.av ([] : List Pat)), .set 6 (.gl 3 4 0 ([] : List Pat).length false), .cnil 2 3 2, .lset 4 (jC ([] : List Con)), .cset 2 3 (.gl 4 2 0 ([] : List Con).length false), .cnil 2 0 4, .lset 5 (jN ([] : List Node)), .cset 2 0 (.gl 5 4 0 ([] : List Node).length false)] ⟨pats_kl, ⟨kk, ⟨kk, trivial⟩⟩⟩
theorem onl_E_3 (x : Node) (l : List Con) (h0 : (x.op == (14 : Int)) = false) :
  LeadsM PP 0 (onl_s x l).as (onl_c0 x l ([] : List Con) x.n 0 ([] : List Pat)).as :=
 wW 6 [0, 1, 2, 3, 5, 4] [qp h0, qp (p := ([] : List AV) = (Pats.av ([] : List Pat))) rfl, qp (p := (AV.gl 3 4 0 0 false) = (.gl 3 4 0 ([] : List Pat).length false)) rfl, qp (p := ([] : List AV) = (jC ([] : List Con))) rfl, qp (p := (AV.gl 4 2 0 0 false) = (.gl 4 2 0 ([] : List Con).length false)) rfl, qp (p := ([] : List AV) = (jN ([] : List Node))) rfl, qp (p := (AV.gl 5 4 0 0 false) = (.gl 5 4 0 ([] : List Node).length false)) rfl] [rn 18, bf 11, rn 13, .nilL 6 4, .lset 3 (Pats.av ([] : List Pat)), .set 6 (.gl 3 4 0 ([] : List Pat).length false), .cnil 2 3 2, .lset 4 (jC ([] : List Con)), .cset 2 3 (.gl 4 2 0 ([] : List Con).length false), .cnil 2 0 4, .lset 5 (jN ([] : List Node)), .cset 2 0 (.gl 5 4 0 ([] : List Node).length false)] ⟨pats_kl, ⟨kk, ⟨kk, trivial⟩⟩⟩
theorem onl_0_0 (x : Node) (l l5 : List Con) (c0_1 i7 : Int) (l3 : List Pat) (y_form0 y_n1 : Int) (y_text2 : Str) (y_parts3 : List Pat) (y_form4 y_n5 : Int) (y_text6 : Str) (y_parts7 : List Pat) (h0 : decide (i7 < (x.pats.length : Int)) = true) (h1 : 0 ≤ i7) (h2 : ((x.pats)[i7.toNat]?) = some (Pat.mk y_form0 y_n1 y_text2 y_parts3)) (h3 : Pure PP 41 [(.agg [(nI y_form0), (nI y_n1), (avS y_text2), (iP y_parts3)]), (iC l)] (.agg [(nI y_form4), (nI y_n5), (avS y_text6), (iP y_parts7)])) (h4 : List.length (l3 ++ [(Pat.mk y_form4 y_n5 y_text6 y_parts7)]) ≤ 1000000) (h5 : (IntKind.i64.wrap (i7 + (1 : Int))) = (i7 + (1 : Int))) :
  LeadsM PP 0 (onl_c0 x l l5 c0_1 i7 l3).as (onl_c0 x l l5 c0_1 (i7 + (1 : Int)) (l3 ++ [(Pat.mk y_form4 y_n5 y_text6 y_parts7)])).as :=
 wW 8 [0, 1, 2, 7, 4, 5] [qlP x.pats, qp h0, qp h1, qgP h2, qp h3, qp (p := 0 + l3.length ≤ List.length (Pats.av l3)) (app_p1F pats_map _), qp h4, qp (p := List.take l3.length (List.drop 0 (Pats.av l3)) ++ (Pats.av [(Pat.mk y_form4 y_n5 y_text6 y_parts7)]) = (Pats.av (l3 ++ [(Pat.mk y_form4 y_n5 y_text6 y_parts7)]))) (app_p3F pats_map _ _), qp (p := l3.length + List.length (Pats.av [(Pat.mk y_form4 y_n5 y_text6 y_parts7)]) = List.length (l3 ++ [(Pat.mk y_form4 y_n5 y_text6 y_parts7)])) (app_p4F pats_map _ _), qp (congrArg (AV.int .i64) h5)] [rn 6, aL x.pats, rn 2, bt 37, rn 9, aI (Pat.av (Pat.mk y_form0 y_n1 y_text2 y_parts3)), rn 2, .pure (.agg [(nI y_form4), (nI y_n5), (avS y_text6), (iP y_parts7)]), rn 1, .app (Pats.av (l3 ++ [(Pat.mk y_form4 y_n5 y_text6 y_parts7)])) (l3 ++ [(Pat.mk y_form4 y_n5 y_text6 y_parts7)]).length, rn 6, sI 39 (i7 + (1 : Int)), rn 3] ⟨pats_kl, ⟨kk, ⟨kk, trivial⟩⟩⟩
theorem onl_0_1 (x : Node) (l l5 : List Con) (c0_1 i7 : Int) (l3 : List Pat) (h0 : decide (i7 < (x.pats.length : Int)) = false) (h1 : List.length (([] : List Node) ++ [(Node.mk x.op c0_1 x.kids l3)]) ≤ 1000000) :
  Ends PP 0 (onl_c0 x l l5 c0_1 i7 l3).as (.ret (.agg [(iN (([] : List Node) ++ [(Node.mk x.op c0_1 x.kids l3)])), (.ilst 1 (jI ([] : List Int)) true), (nI 0), (iC l5)])) (hpOf [] 0) :=
 wE 8 [] [qlP x.pats, qp h0, qp (p := AV.keylessL (Pats.av l3) = true) pats_kl, qp (p := AV.frzOk 3 4 (Pats.av l3) (Pats.av l3) (.gl 3 4 0 l3.length false)) (frz_wholeF pats_map _), qp (app_p1 Node.av ([] : List Node)), qp h1, qp (app_p3 Node.av ([] : List Node) [(Node.mk x.op c0_1 x.kids l3)]), qp (app_p4 Node.av ([] : List Node) [(Node.mk x.op c0_1 x.kids l3)]), qp (p := AV.keylessL (jN (([] : List Node) ++ [(Node.mk x.op c0_1 x.kids l3)])) = true) (keylessL_map _ (fun _ => rfl) _), qp (p := AV.frzOk 7 4 (jN (([] : List Node) ++ [(Node.mk x.op c0_1 x.kids l3)])) (jN (([] : List Node) ++ [(Node.mk x.op c0_1 x.kids l3)])) (.gl 7 4 0 (([] : List Node) ++ [(Node.mk x.op c0_1 x.kids l3)]).length false)) (frz_whole _ _), qp (p := AV.keylessL (jC l5) = true) (keylessL_map _ (fun _ => rfl) _), qp (p := AV.frzOk 5 2 (jC l5) (jC l5) (.gl 5 2 0 l5.length false)) (frz_whole _ _)] [rn 6, aL x.pats, rn 2, bf 37, rn 6, .frz 50 3 (Pats.av l3), rn 8, .app (jN (([] : List Node) ++ [(Node.mk x.op c0_1 x.kids l3)])) (([] : List Node) ++ [(Node.mk x.op c0_1 x.kids l3)]).length, rn 9, .cfrz 1 0 7 (jN (([] : List Node) ++ [(Node.mk x.op c0_1 x.kids l3)])), .cnilI 1 1 1, .cfrz 1 3 5 (jC l5)] trivial
end Go.Hb
namespace Go.Hb
open Go.Proofs
variable {P : Program}
theorem cW {f : Nat} {args : List AV} {b : Bool} {cargs : List Value} (L : List Pf) (is : List Ins) (w : World) (hv : VRs (embOf w) args cargs) (hb : hasBody P f = true := by kernel_rfl) (hk : AV.keylessL args = true := by kernel_rfl) (h0 : wayL P is (start P f args) = some (.bool b, f, L.map Pf.p) := by kernel_rfl) :
    Calls P f ⟨cargs⟩ w fun e w' => e = .returned (.bool b) ∧ RowKit.Grown w w' := calls_of_way hb hk h0 (allPf L) w hv
theorem cL {f : Nat} {args : List AV} {b : Bool} {cargs : List Value} {t : TS} (hl : LeadsM P 0 (start P f args).as t.as) (L : List Pf) (is : List Ins) (w : World) (hv : VRs (embOf w) args cargs) (hb : hasBody P f = true := by kernel_rfl) (hk : AV.keylessL args = true := by kernel_rfl) (h0 : wayL P is t = some (.bool b, f, L.map Pf.p) := by kernel_rfl) :
    Calls P f ⟨cargs⟩ w fun e w' => e = .returned (.bool b) ∧ RowKit.Grown w w' := calls_of_leadsX hb hk hl h0 (allPf L) w hv
end Go.Hb
namespace Go.Hb
open Go.Proofs
noncomputable def lJd_c0 (p q r : Prog) (vy7 vy9 : Int) (c2_0 : List Node) (c2_1 : List Int) (c2_2 : Int) (c2_3 : List Con) (c3_0 : List Node) (c3_1 : List Int) (c3_2 : Int) (c3_3 : List Con) (c4_0 : List Node) (c4_1 : List Int) (c4_2 : Int) (c4_3 : List Con) (c5_0 : List Node) (c5_1 : List Int) (c5_2 : Int) (c5_3 : List Con) (i15 : Int) : TS :=
 { fr := { fn := 3, nt := 257, sl := [(3, (.ptr 0 0)), (5, (.ptr 1 0)), (6, (bV false)), (7, (.ptr 2 0)), (8, (nI vy7)), (9, (.ptr 3 0)), (10, (nI vy9)), (11, (.ptr 4 0)), (13, (.ptr 5 0)), (15, (nI i15))], todo := [.code (cd Tryz.f3 [1, 1, 1, 1, 1, 1, 1, 0, 1, 0, 1, 0, 1, 0, 0]), .inLoop (cd Tryz.f3 [1, 1, 1, 1, 1, 1, 1, 0, 1, 0, 1, 0, 1, 0, 0]), .inBlock 0, .code (cd Tryz.f3 [1, 1, 1, 1, 1, 1, 1, 0, 1, 0, 1, 1]), .code (cd Tryz.f3 [1, 1, 1, 1, 1, 1, 1, 1])] }, cs := [], hp := [(0, (.cells (putCells .leaf 0 [(iN p.nodes), (iI p.funs), (nI p.main), (iC p.cons)]) 4 [] false), false), (1, (.cells (putCells .leaf 0 [(iN r.nodes), (iI r.funs), (nI r.main), (iC r.cons)]) 4 [] false), false), (2, (.cells (putCells .leaf 0 [(iN c2_0), (iI c2_1), (nI c2_2), (iC c2_3)]) 4 [] false), false), (3, (.cells (putCells .leaf 0 [(iN c3_0), (iI c3_1), (nI c3_2), (iC c3_3)]) 4 [] false), false), (4, (.cells (putCells .leaf 0 [(iN c4_0), (iI c4_1), (nI c4_2), (iC c4_3)]) 4 [] false), false), (5, (.cells (putCells .leaf 0 [(iN c5_0), (iI c5_1), (nI c5_2), (iC c5_3)]) 4 [] false), false)], nb := 6 }
noncomputable def lJd_c1 (p q r : Prog) (vy7 vy9 : Int) (c2_0 : List Node) (c2_1 : List Int) (c2_2 : Int) (c2_3 : List Con) (c3_0 : List Node) (c3_1 : List Int) (c3_2 : Int) (c3_3 : List Con) (c4_0 : List Node) (c4_1 : List Int) (c4_2 : Int) (c4_3 : List Con) (c5_0 : List Node) (c5_1 : List Int) (c5_2 : Int) (c5_3 : List Con) (i16 : Int) : TS :=
 { fr := { fn := 3, nt := 257, sl := [(3, (.ptr 0 0)), (5, (.ptr 1 0)), (6, (bV false)), (7, (.ptr 2 0)), (8, (nI vy7)), (9, (.ptr 3 0)), (10, (nI vy9)), (11, (.ptr 4 0)), (13, (.ptr 5 0)), (16, (nI i16))], todo := [.code (cd Tryz.f3 [1, 1, 1, 1, 1, 1, 1, 0, 1, 0, 1, 1, 1, 0, 0]), .inLoop (cd Tryz.f3 [1, 1, 1, 1, 1, 1, 1, 0, 1, 0, 1, 1, 1, 0, 0]), .inBlock 2, .code (cd Tryz.f3 [1, 1, 1, 1, 1, 1, 1, 1])] }, cs := [], hp := [(0, (.cells (putCells .leaf 0 [(iN p.nodes), (iI p.funs), (nI p.main), (iC p.cons)]) 4 [] false), false), (1, (.cells (putCells .leaf 0 [(iN r.nodes), (iI r.funs), (nI r.main), (iC r.cons)]) 4 [] false), false), (2, (.cells (putCells .leaf 0 [(iN c2_0), (iI c2_1), (nI c2_2), (iC c2_3)]) 4 [] false), false), (3, (.cells (putCells .leaf 0 [(iN c3_0), (iI c3_1), (nI c3_2), (iC c3_3)]) 4 [] false), false), (4, (.cells (putCells .leaf 0 [(iN c4_0), (iI c4_1), (nI c4_2), (iC c4_3)]) 4 [] false), false), (5, (.cells (putCells .leaf 0 [(iN c5_0), (iI c5_1), (nI c5_2), (iC c5_3)]) 4 [] false), false)], nb := 6 }
theorem lJd_E_0 (p q r : Prog) (y0 y1 : Bool) (h0 : Pure PP 5 [(Prog.av p)] (bV y0)) (h1 : (!y0) = true) (h2 : Pure PP 7 [] (bV y1)) :
  ∀ (w : World) (cargs : List Value), VRs (embOf w) [Prog.av p, Prog.av q, Prog.av r] cargs → Calls PP 3 ⟨cargs⟩ w fun e w' => e = .returned (.bool y1) ∧ RowKit.Grown w w' :=
 fun w cargs hv => cW [qp h0, qp h1, qp h2] [rn 11, pB y0, rn 2, bt 26, rn 28, pB y1, rn 3] w hv
theorem lJd_E_1 (p q r : Prog) (y0 y1 y2 : Bool) (h0 : Pure PP 5 [(Prog.av p)] (bV y0)) (h1 : (!y0) = false) (h2 : Pure PP 5 [(Prog.av q)] (bV y1)) (h3 : (!y1) = true) (h4 : Pure PP 7 [] (bV y2)) :
  ∀ (w : World) (cargs : List Value), VRs (embOf w) [Prog.av p, Prog.av q, Prog.av r] cargs → Calls PP 3 ⟨cargs⟩ w fun e w' => e = .returned (.bool y2) ∧ RowKit.Grown w w' :=
 fun w cargs hv => cW [qp h0, qp h1, qp h2, qp h3, qp h4] [rn 11, pB y0, rn 2, bf 26, rn 1, pB y1, rn 3, bt 31, rn 23, pB y2, rn 3] w hv
theorem lJd_E_2 (p q r : Prog) (y0 y1 : Bool) (y2 y3 : Bool) (h0 : Pure PP 5 [(Prog.av p)] (bV y0)) (h1 : (!y0) = false) (h2 : Pure PP 5 [(Prog.av q)] (bV y1)) (h3 : (!y1) = false) (h4 : Pure PP 5 [(Prog.av r)] (bV y2)) (h5 : (!y2) = true) (h6 : Pure PP 7 [] (bV y3)) :
  ∀ (w : World) (cargs : List Value), VRs (embOf w) [Prog.av p, Prog.av q, Prog.av r] cargs → Calls PP 3 ⟨cargs⟩ w fun e w' => e = .returned (.bool y3) ∧ RowKit.Grown w w' :=
 fun w cargs hv => cW [qp h0, qp h1, qp h2, qp h3, qp h4, qp h5, qp h6] [rn 11, pB y0, rn 2, bf 26, rn 1, pB y1, rn 3, bf 31, rn 1, pB y2, rn 3, bt 36, rn 18, pB y3, rn 3] w hv
theorem lJd_E_3 (p q r : Prog) (y0 y1 : Bool) (y2 y3 y4 : Bool) (h0 : Pure PP 5 [(Prog.av p)] (bV y0)) (h1 : (!y0) = false) (h2 : Pure PP 5 [(Prog.av q)] (bV y1)) (h3 : (!y1) = false) (h4 : Pure PP 5 [(Prog.av r)] (bV y2)) (h5 : (!y2) = false) (h6 : Pure PP 6 [(Prog.av p)] (bV y3)) (h7 : (!y3) = true) (h8 : Pure PP 7 [] (bV y4)) :
  ∀ (w : World) (cargs : List Value), VRs (embOf w) [Prog.av p, Prog.av q, Prog.av r] cargs → Calls PP 3 ⟨cargs⟩ w fun e w' => e = .returned (.bool y4) ∧ RowKit.Grown w w' :=
 fun w cargs hv => cW [qp h0, qp h1, qp h2, qp h3, qp h4, qp h5, qp h6, qp h7, qp h8] [rn 11, pB y0, rn 2, bf 26, rn 1, pB y1, rn 3, bf 31, rn 1, pB y2, rn 3, bf 36, rn 1, pB y3, rn 3, bt 41, rn 13, pB y4, rn 3] w hv
theorem lJd_E_4 (p q r : Prog) (y0 y1 : Bool) (y2 y3 : Bool) (y4 y5 : Bool) (h0 : Pure PP 5 [(Prog.av p)] (bV y0)) (h1 : (!y0) = false) (h2 : Pure PP 5 [(Prog.av q)] (bV y1)) (h3 : (!y1) = false) (h4 : Pure PP 5 [(Prog.av r)] (bV y2)) (h5 : (!y2) = false) (h6 : Pure PP 6 [(Prog.av p)] (bV y3)) (h7 : (!y3) = false) (h8 : Pure PP 6 [(Prog.av q)] (bV y4)) (h9 : (!y4) = true) (h10 : Pure PP 7 [] (bV y5)) :
  ∀ (w : World) (cargs : List Value), VRs (embOf w) [Prog.av p, Prog.av q, Prog.av r] cargs → Calls PP 3 ⟨cargs⟩ w fun e w' => e = .returned (.bool y5) ∧ RowKit.Grown w w' :=
 fun w cargs hv => cW [qp h0, qp h1, qp h2, qp h3, qp h4, qp h5, qp h6, qp h7, qp h8, qp h9, qp h10] [rn 11, pB y0, rn 2, bf 26, rn 1, pB y1, rn 3, bf 31, rn 1, pB y2, rn 3, bf 36, rn 1, pB y3, rn 3, bf 41, rn 1, pB y4, rn 3, bt 46, rn 8, pB y5, rn 3] w hv
theorem lJd_E_5 (p q r : Prog) (y0 y1 : Bool) (y2 y3 : Bool) (y4 y5 y6 : Bool) (h0 : Pure PP 5 [(Prog.av p)] (bV y0)) (h1 : (!y0) = false) (h2 : Pure PP 5 [(Prog.av q)] (bV y1)) (h3 : (!y1) = false) (h4 : Pure PP 5 [(Prog.av r)] (bV y2)) (h5 : (!y2) = false) (h6 : Pure PP 6 [(Prog.av p)] (bV y3)) (h7 : (!y3) = false) (h8 : Pure PP 6 [(Prog.av q)] (bV y4)) (h9 : (!y4) = false) (h10 : Pure PP 6 [(Prog.av r)] (bV y5)) (h11 : (!y5) = true) (h12 : Pure PP 7 [] (bV y6)) :
  ∀ (w : World) (cargs : List Value), VRs (embOf w) [Prog.av p, Prog.av q, Prog.av r] cargs → Calls PP 3 ⟨cargs⟩ w fun e w' => e = .returned (.bool y6) ∧ RowKit.Grown w w' :=
 fun w cargs hv => cW [qp h0, qp h1, qp h2, qp h3, qp h4, qp h5, qp h6, qp h7, qp h8, qp h9, qp h10, qp h11, qp h12] [rn 11, pB y0, rn 2, bf 26, rn 1, pB y1, rn 3, bf 31, rn 1, pB y2, rn 3, bf 36, rn 1, pB y3, rn 3, bf 41, rn 1, pB y4, rn 3, bf 46, rn 1, pB y5, rn 3, bt 50, rn 3, pB y6, rn 3] w hv
theorem lJd_E_15 (p q r : Prog) (y0 y1 : Bool) (y2 y3 : Bool) (y4 y5 : Bool) (y6 : Prog) (y7 : Int) (y8 : Prog) (y9 : Int) (y10 : Prog) (y11 : Int) (y12 : Prog) (y13 y14 : Int) (h0 : Pure PP 5 [(Prog.av p)] (bV y0)) (h1 : (!y0) = false) (h2 : Pure PP 5 [(Prog.av q)] (bV y1)) (h3 : (!y1) = false) (h4 : Pure PP 5 [(Prog.av r)] (bV y2)) (h5 : (!y2) = false) (h6 : Pure PP 6 [(Prog.av p)] (bV y3)) (h7 : (!y3) = false) (h8 : Pure PP 6 [(Prog.av q)] (bV y4)) (h9 : (!y4) = false) (h10 : Pure PP 6 [(Prog.av r)] (bV y5)) (h11 : (!y5) = false) (h12 : Pure PP 8 [(Prog.av p), (Prog.av q)] (.tup [(Prog.av y6), (nI y7)])) (h13 : Pure PP 8 [(Prog.av q), (Prog.av r)] (.tup [(Prog.av y8), (nI y9)])) (h14 : Pure PP 9 [(Prog.av p)] (.tup [(Prog.av y10), (nI y11)])) (h15 : Pure PP 9 [(Prog.av q)] (.tup [(Prog.av y12), (nI y13)])) (h16 : (y11 != (0 : Int)) = false) (h17 : (y13 != (0 : Int)) = false) (h18 : ((y10.nodes.length : Int) != (p.nodes.length : Int)) = false) (h19 : ((y12.nodes.length : Int) != (q.nodes.length : Int)) = false) (h20 : (y7 == (0 : Int)) = true) (h21 : Pure PP 10 [(Prog.av y6)] (nI y14)) (h22 : (y14 != (0 : Int)) = false) (h23 : (IntKind.i64.wrap ((p.nodes.length : Int) + (q.nodes.length : Int))) = ((p.nodes.length : Int) + (q.nodes.length : Int))) (h24 : ((y6.nodes.length : Int) != ((p.nodes.length : Int) + (q.nodes.length : Int))) = false) (h25 : (IntKind.i64.wrap ((p.funs.length : Int) + (q.funs.length : Int))) = ((p.funs.length : Int) + (q.funs.length : Int))) (h26 : ((y6.funs.length : Int) != ((p.funs.length : Int) + (q.funs.length : Int))) = false) (h27 : (y6.main != p.main) = false) (h28 : decide ((y6.cons.length : Int) < (y10.cons.length : Int)) = false) :
  LeadsM PP 0 (start PP 3 [(Prog.av p), (Prog.av q), (Prog.av r)]).as (lJd_c0 p q r y7 y9 y6.nodes y6.funs y6.main y6.cons y8.nodes y8.funs y8.main y8.cons y10.nodes y10.funs y10.main y10.cons y12.nodes y12.funs y12.main y12.cons 0).as :=
 wW 7 [0, 2, 3, 4, 5, 6] [qp h0, qp h1, qp h2, qp h3, qp h4, qp h5, qp h6, qp h7, qp h8, qp h9, qp h10, qp h11, qp h12, qp h13, qp h14, qp h15, qp h16, qp h17, ql Node.av y10.nodes, ql Node.av p.nodes, qp h18, ql Node.av y12.nodes, ql Node.av q.nodes, qp h19, qp h20, qp h21, qp h22, ql Node.av y6.nodes, ql Node.av p.nodes, ql Node.av q.nodes, qp (congrArg (AV.int .i64) h23), qp h24, ql avI y6.funs, ql avI p.funs, ql avI q.funs, qp (congrArg (AV.int .i64) h25), qp h26, qp h27, ql Con.av y6.cons, ql Con.av y10.cons, qp h28] [rn 11, pB y0, rn 2, bf 26, rn 1, pB y1, rn 3, bf 31, rn 1, pB y2, rn 3, bf 36, rn 1, pB y3, rn 3, bf 41, rn 1, pB y4, rn 3, bf 46, rn 1, pB y5, rn 3, bf 50, rn 6, .pure (.tup [(Prog.av y6), (nI y7)]), rn 11, .pure (.tup [(Prog.av y8), (nI y9)]), rn 10, .pure (.tup [(Prog.av y10), (nI y11)]), rn 10, .pure (.tup [(Prog.av y12), (nI y13)]), rn 13, bf 76, rn 4, bf 80, rn 2, aL y10.nodes, rn 2, aL p.nodes, rn 3, bf 89, rn 2, aL y12.nodes, rn 2, aL q.nodes, rn 3, bf 97, rn 8, bt 99, rn 5, .pure (nI y14), rn 2, bf 103, rn 2, aL y6.nodes, rn 2, aL p.nodes, rn 2, aL q.nodes, rn 1, sI 113 ((p.nodes.length : Int) + (q.nodes.length : Int)), rn 3, bf 116, rn 2, aL y6.funs, rn 2, aL p.funs, rn 2, aL q.funs, rn 1, sI 126 ((p.funs.length : Int) + (q.funs.length : Int)), rn 3, bf 129, rn 7, bf 136, rn 2, aL y6.cons, rn 2, aL y10.cons, rn 3, bf 144, rn 9] trivial
theorem lJd_E_16 (p q r : Prog) (y0 y1 : Bool) (y2 y3 : Bool) (y4 y5 : Bool) (y6 : Prog) (y7 : Int) (y8 : Prog) (y9 : Int) (y10 : Prog) (y11 : Int) (y12 : Prog) (y13 : Int) (y14 : Bool) (h0 : Pure PP 5 [(Prog.av p)] (bV y0)) (h1 : (!y0) = false) (h2 : Pure PP 5 [(Prog.av q)] (bV y1)) (h3 : (!y1) = false) (h4 : Pure PP 5 [(Prog.av r)] (bV y2)) (h5 : (!y2) = false) (h6 : Pure PP 6 [(Prog.av p)] (bV y3)) (h7 : (!y3) = false) (h8 : Pure PP 6 [(Prog.av q)] (bV y4)) (h9 : (!y4) = false) (h10 : Pure PP 6 [(Prog.av r)] (bV y5)) (h11 : (!y5) = false) (h12 : Pure PP 8 [(Prog.av p), (Prog.av q)] (.tup [(Prog.av y6), (nI y7)])) (h13 : Pure PP 8 [(Prog.av q), (Prog.av r)] (.tup [(Prog.av y8), (nI y9)])) (h14 : Pure PP 9 [(Prog.av p)] (.tup [(Prog.av y10), (nI y11)])) (h15 : Pure PP 9 [(Prog.av q)] (.tup [(Prog.av y12), (nI y13)])) (h16 : (y11 != (0 : Int)) = false) (h17 : (y13 != (0 : Int)) = false) (h18 : ((y10.nodes.length : Int) != (p.nodes.length : Int)) = false) (h19 : ((y12.nodes.length : Int) != (q.nodes.length : Int)) = false) (h20 : (y7 == (0 : Int)) = false) (h21 : (y7 != (0 : Int)) = true) (h22 : Pure PP 7 [] (bV y14)) :
  ∀ (w : World) (cargs : List Value), VRs (embOf w) [Prog.av p, Prog.av q, Prog.av r] cargs → Calls PP 3 ⟨cargs⟩ w fun e w' => e = .returned (.bool y14) ∧ RowKit.Grown w w' :=
 fun w cargs hv => cW [qp h0, qp h1, qp h2, qp h3, qp h4, qp h5, qp h6, qp h7, qp h8, qp h9, qp h10, qp h11, qp h12, qp h13, qp h14, qp h15, qp h16, qp h17, ql Node.av y10.nodes, ql Node.av p.nodes, qp h18, ql Node.av y12.nodes, ql Node.av q.nodes, qp h19, qp h20, qp h21, qp h22] [rn 11, pB y0, rn 2, bf 26, rn 1, pB y1, rn 3, bf 31, rn 1, pB y2, rn 3, bf 36, rn 1, pB y3, rn 3, bf 41, rn 1, pB y4, rn 3, bf 46, rn 1, pB y5, rn 3, bf 50, rn 6, .pure (.tup [(Prog.av y6), (nI y7)]), rn 11, .pure (.tup [(Prog.av y8), (nI y9)]), rn 10, .pure (.tup [(Prog.av y10), (nI y11)]), rn 10, .pure (.tup [(Prog.av y12), (nI y13)]), rn 13, bf 76, rn 4, bf 80, rn 2, aL y10.nodes, rn 2, aL p.nodes, rn 3, bf 89, rn 2, aL y12.nodes, rn 2, aL q.nodes, rn 3, bf 97, rn 8, bf 99, rn 8, bt 225, rn 7, pB y14, rn 3] w hv
theorem lJd_0_1 (p q r : Prog) (vy7 vy9 : Int) (c2_0 : List Node) (c2_1 : List Int) (c2_2 : Int) (c2_3 : List Con) (c3_0 : List Node) (c3_1 : List Int) (c3_2 : Int) (c3_3 : List Con) (c4_0 : List Node) (c4_1 : List Int) (c4_2 : Int) (c4_3 : List Con) (c5_0 : List Node) (c5_1 : List Int) (c5_2 : Int) (c5_3 : List Con) (i15 : Int) (y0 : Node) (y1 : Prog) (y2 : Node) (y3 : Prog) (y4 : Bool) (h0 : decide (i15 < (c4_0.length : Int)) = true) (h1 : 0 ≤ i15) (h2 : ((c4_0)[i15.toNat]?) = some y0) (h3 : Pure PP 12 [(Node.av y0), (iC c4_3)] (Prog.av y1)) (h4 : ((c2_0)[i15.toNat]?) = some y2) (h5 : Pure PP 12 [(Node.av y2), (iC c2_3)] (Prog.av y3)) (h6 : Pure PP 11 [(Prog.av y1), (Prog.av y3)] (bV y4)) (h7 : (!y4) = false) (h8 : (IntKind.i64.wrap (i15 + (1 : Int))) = (i15 + (1 : Int))) :
  LeadsM PP 0 (lJd_c0 p q r vy7 vy9 c2_0 c2_1 c2_2 c2_3 c3_0 c3_1 c3_2 c3_3 c4_0 c4_1 c4_2 c4_3 c5_0 c5_1 c5_2 c5_3 i15).as (lJd_c0 p q r vy7 vy9 c2_0 c2_1 c2_2 c2_3 c3_0 c3_1 c3_2 c3_3 c4_0 c4_1 c4_2 c4_3 c5_0 c5_1 c5_2 c5_3 (i15 + (1 : Int))).as :=
 wW 6 [0, 1, 2, 3, 4, 5] [ql Node.av c4_0, qp h0, qp h1, qg Node.av h2, qp h3, qp h1, qg Node.av h4, qp h5, qp h6, qr (AV.ilst 2 (jC c2_3) false), qr (AV.ilst 2 (jC c2_3) false), qr (Node.av y2), qr (Node.av y2), qr (AV.ilst 4 (jN c2_0) false), qr (AV.ilst 4 (jN c2_0) false), qp h7, qp (congrArg (AV.int .i64) h8)] [rn 6, aL c4_0, rn 2, bt 149, rn 5, .reg [.d, .d, .d, .ans (.idx (Node.av y0)), .d, .d, .d, .pure (Prog.av y1), .d, .d, .d, .ans (.idx (Node.av y2)), .d, .d, .d, .pure (Prog.av y3), .pure (bV y4), .d], bf 169, rn 6, sI 151 (i15 + (1 : Int)), rn 3] trivial
theorem lJd_0_2 (p q r : Prog) (vy7 vy9 : Int) (c2_0 : List Node) (c2_1 : List Int) (c2_2 : Int) (c2_3 : List Con) (c3_0 : List Node) (c3_1 : List Int) (c3_2 : Int) (c3_3 : List Con) (c4_0 : List Node) (c4_1 : List Int) (c4_2 : Int) (c4_3 : List Con) (c5_0 : List Node) (c5_1 : List Int) (c5_2 : Int) (c5_3 : List Con) (i15 : Int) (h0 : decide (i15 < (c4_0.length : Int)) = false) :
  LeadsM PP 0 (lJd_c0 p q r vy7 vy9 c2_0 c2_1 c2_2 c2_3 c3_0 c3_1 c3_2 c3_3 c4_0 c4_1 c4_2 c4_3 c5_0 c5_1 c5_2 c5_3 i15).as (lJd_c1 p q r vy7 vy9 c2_0 c2_1 c2_2 c2_3 c3_0 c3_1 c3_2 c3_3 c4_0 c4_1 c4_2 c4_3 c5_0 c5_1 c5_2 c5_3 0).as :=
 wW 6 [0, 1, 2, 3, 4, 5] [ql Node.av c4_0, qp h0] [rn 6, aL c4_0, rn 2, bf 149, rn 8] trivial
theorem lJd_1_1 (p q r : Prog) (vy7 vy9 : Int) (c2_0 : List Node) (c2_1 : List Int) (c2_2 : Int) (c2_3 : List Con) (c3_0 : List Node) (c3_1 : List Int) (c3_2 : Int) (c3_3 : List Con) (c4_0 : List Node) (c4_1 : List Int) (c4_2 : Int) (c4_3 : List Con) (c5_0 : List Node) (c5_1 : List Int) (c5_2 : Int) (c5_3 : List Con) (i16 : Int) (y0 y1 : Node) (y2 : List Int) (y3 y4 : Prog) (y5 : Bool) (h0 : decide (i16 < (c5_0.length : Int)) = true) (h1 : 0 ≤ i16) (h2 : ((c5_0)[i16.toNat]?) = some y0) (h3 : 0 ≤ (IntKind.i64.wrap ((c4_0.length : Int) + i16))) (h4 : ((c2_0)[(IntKind.i64.wrap ((c4_0.length : Int) + i16)).toNat]?) = some y1) (h5 : (y0.op == (4 : Int)) = true) (h6 : decide (y0.n < (0 : Int)) = true) (h7 : (IntKind.i64.wrap (y0.n - (p.funs.length : Int))) = (y0.n - (p.funs.length : Int))) (h8 : Pure PP 13 [(iI y0.kids), (nI (c4_0.length : Int))] (iI y2)) (h9 : Pure PP 12 [(.agg [(nI y0.op), (nI (y0.n - (p.funs.length : Int))), (iI y2), (iP y0.pats)]), (iC c5_3)] (Prog.av y3)) (h10 : Pure PP 12 [(Node.av y1), (iC c2_3)] (Prog.av y4)) (h11 : Pure PP 11 [(Prog.av y3), (Prog.av y4)] (bV y5)) (h12 : (!y5) = false) (h13 : (IntKind.i64.wrap (i16 + (1 : Int))) = (i16 + (1 : Int))) :
  LeadsM PP 0 (lJd_c1 p q r vy7 vy9 c2_0 c2_1 c2_2 c2_3 c3_0 c3_1 c3_2 c3_3 c4_0 c4_1 c4_2 c4_3 c5_0 c5_1 c5_2 c5_3 i16).as (lJd_c1 p q r vy7 vy9 c2_0 c2_1 c2_2 c2_3 c3_0 c3_1 c3_2 c3_3 c4_0 c4_1 c4_2 c4_3 c5_0 c5_1 c5_2 c5_3 (i16 + (1 : Int))).as :=
 wW 8 [0, 1, 2, 3, 4, 5] [ql Node.av c5_0, qp h0, qp h1, qg Node.av h2, ql Node.av c4_0, qp h3, qg Node.av h4, qr (Node.av y1), qr (Node.av y1), qp (congrArg (AV.int .i64) (len_i Node.av c4_0)), qp (congrArg (AV.int .i64) (len_i Node.av c4_0)), qr (AV.ilst 4 (jN c4_0) false), qr (AV.ilst 4 (jN c4_0) false), qr (AV.ilst 4 (jN c2_0) false), qr (AV.ilst 4 (jN c2_0) false), qp h5, qp h6, ql avI p.funs, qp (congrArg (AV.int .i64) h7), ql Node.av c4_0, qp h8, qp h9, qp h10, qp h11, qr (AV.ilst 2 (jC c2_3) false), qr (AV.ilst 2 (jC c2_3) false), qr (Node.av y1), qr (Node.av y1), qp h12, qp (congrArg (AV.int .i64) h13)] [rn 6, aL c5_0, rn 2, bt 174, rn 5, .reg [.d, .d, .d, .ans (.idx (Node.av y0)), .d, .d, .d, .d, .d, .ans (.len (c4_0.length : Int)), .d, .d, .ans (.idx (Node.av y1)), .d, .d, .d, .d, .d], rn 7, bt 194, rn 5, bt 198, rn 6, aL p.funs, rn 1, sI 204 (y0.n - (p.funs.length : Int)), rn 9, aL c4_0, .pure (iI y2), rn 4, .reg [.d, .d, .d, .pure (Prog.av y3), .d, .d, .d, .pure (Prog.av y4), .pure (bV y5), .d], bf 222, rn 6, sI 176 (i16 + (1 : Int)), rn 3] trivial
theorem lJd_1_3 (p q r : Prog) (vy7 vy9 : Int) (c2_0 : List Node) (c2_1 : List Int) (c2_2 : Int) (c2_3 : List Con) (c3_0 : List Node) (c3_1 : List Int) (c3_2 : Int) (c3_3 : List Con) (c4_0 : List Node) (c4_1 : List Int) (c4_2 : Int) (c4_3 : List Con) (c5_0 : List Node) (c5_1 : List Int) (c5_2 : Int) (c5_3 : List Con) (i16 : Int) (y0 y1 : Node) (y2 : List Int) (y3 y4 : Prog) (y5 : Bool) (h0 : decide (i16 < (c5_0.length : Int)) = true) (h1 : 0 ≤ i16) (h2 : ((c5_0)[i16.toNat]?) = some y0) (h3 : 0 ≤ (IntKind.i64.wrap ((c4_0.length : Int) + i16))) (h4 : ((c2_0)[(IntKind.i64.wrap ((c4_0.length : Int) + i16)).toNat]?) = some y1) (h5 : (y0.op == (4 : Int)) = true) (h6 : decide (y0.n < (0 : Int)) = false) (h7 : Pure PP 13 [(iI y0.kids), (nI (c4_0.length : Int))] (iI y2)) (h8 : Pure PP 12 [(.agg [(nI y0.op), (nI y0.n), (iI y2), (iP y0.pats)]), (iC c5_3)] (Prog.av y3)) (h9 : Pure PP 12 [(Node.av y1), (iC c2_3)] (Prog.av y4)) (h10 : Pure PP 11 [(Prog.av y3), (Prog.av y4)] (bV y5)) (h11 : (!y5) = false) (h12 : (IntKind.i64.wrap (i16 + (1 : Int))) = (i16 + (1 : Int))) :
  LeadsM PP 0 (lJd_c1 p q r vy7 vy9 c2_0 c2_1 c2_2 c2_3 c3_0 c3_1 c3_2 c3_3 c4_0 c4_1 c4_2 c4_3 c5_0 c5_1 c5_2 c5_3 i16).as (lJd_c1 p q r vy7 vy9 c2_0 c2_1 c2_2 c2_3 c3_0 c3_1 c3_2 c3_3 c4_0 c4_1 c4_2 c4_3 c5_0 c5_1 c5_2 c5_3 (i16 + (1 : Int))).as :=
 wW 8 [0, 1, 2, 3, 4, 5] [ql Node.av c5_0, qp h0, qp h1, qg Node.av h2, ql Node.av c4_0, qp h3, qg Node.av h4, qr (Node.av y1), qr (Node.av y1), qp (congrArg (AV.int .i64) (len_i Node.av c4_0)), qp (congrArg (AV.int .i64) (len_i Node.av c4_0)), qr (AV.ilst 4 (jN c4_0) false), qr (AV.ilst 4 (jN c4_0) false), qr (AV.ilst 4 (jN c2_0) false), qr (AV.ilst 4 (jN c2_0) false), qp h5, qp h6, ql Node.av c4_0, qp h7, qp h8, qp h9, qp h10, qr (AV.ilst 2 (jC c2_3) false), qr (AV.ilst 2 (jC c2_3) false), qr (Node.av y1), qr (Node.av y1), qp h11, qp (congrArg (AV.int .i64) h12)] [rn 6, aL c5_0, rn 2, bt 174, rn 5, .reg [.d, .d, .d, .ans (.idx (Node.av y0)), .d, .d, .d, .d, .d, .ans (.len (c4_0.length : Int)), .d, .d, .ans (.idx (Node.av y1)), .d, .d, .d, .d, .d], rn 7, bt 194, rn 5, bf 198, rn 8, aL c4_0, .pure (iI y2), rn 4, .reg [.d, .d, .d, .pure (Prog.av y3), .d, .d, .d, .pure (Prog.av y4), .pure (bV y5), .d], bf 222, rn 6, sI 176 (i16 + (1 : Int)), rn 3] trivial
theorem lJd_1_5 (p q r : Prog) (vy7 vy9 : Int) (c2_0 : List Node) (c2_1 : List Int) (c2_2 : Int) (c2_3 : List Con) (c3_0 : List Node) (c3_1 : List Int) (c3_2 : Int) (c3_3 : List Con) (c4_0 : List Node) (c4_1 : List Int) (c4_2 : Int) (c4_3 : List Con) (c5_0 : List Node) (c5_1 : List Int) (c5_2 : Int) (c5_3 : List Con) (i16 : Int) (y0 y1 : Node) (y2 : List Int) (y3 y4 : Prog) (y5 : Bool) (h0 : decide (i16 < (c5_0.length : Int)) = true) (h1 : 0 ≤ i16) (h2 : ((c5_0)[i16.toNat]?) = some y0) (h3 : 0 ≤ (IntKind.i64.wrap ((c4_0.length : Int) + i16))) (h4 : ((c2_0)[(IntKind.i64.wrap ((c4_0.length : Int) + i16)).toNat]?) = some y1) (h5 : (y0.op == (4 : Int)) = false) (h6 : Pure PP 13 [(iI y0.kids), (nI (c4_0.length : Int))] (iI y2)) (h7 : Pure PP 12 [(.agg [(nI y0.op), (nI y0.n), (iI y2), (iP y0.pats)]), (iC c5_3)] (Prog.av y3)) (h8 : Pure PP 12 [(Node.av y1), (iC c2_3)] (Prog.av y4)) (h9 : Pure PP 11 [(Prog.av y3), (Prog.av y4)] (bV y5)) (h10 : (!y5) = false) (h11 : (IntKind.i64.wrap (i16 + (1 : Int))) = (i16 + (1 : Int))) :
  LeadsM PP 0 (lJd_c1 p q r vy7 vy9 c2_0 c2_1 c2_2 c2_3 c3_0 c3_1 c3_2 c3_3 c4_0 c4_1 c4_2 c4_3 c5_0 c5_1 c5_2 c5_3 i16).as (lJd_c1 p q r vy7 vy9 c2_0 c2_1 c2_2 c2_3 c3_0 c3_1 c3_2 c3_3 c4_0 c4_1 c4_2 c4_3 c5_0 c5_1 c5_2 c5_3 (i16 + (1 : Int))).as :=
 wW 8 [0, 1, 2, 3, 4, 5] [ql Node.av c5_0, qp h0, qp h1, qg Node.av h2, ql Node.av c4_0, qp h3, qg Node.av h4, qr (Node.av y1), qr (Node.av y1), qp (congrArg (AV.int .i64) (len_i Node.av c4_0)), qp (congrArg (AV.int .i64) (len_i Node.av c4_0)), qr (AV.ilst 4 (jN c4_0) false), qr (AV.ilst 4 (jN c4_0) false), qr (AV.ilst 4 (jN c2_0) false), qr (AV.ilst 4 (jN c2_0) false), qp h5, ql Node.av c4_0, qp h6, qp h7, qp h8, qp h9, qr (AV.ilst 2 (jC c2_3) false), qr (AV.ilst 2 (jC c2_3) false), qr (Node.av y1), qr (Node.av y1), qp h10, qp (congrArg (AV.int .i64) h11)] [rn 6, aL c5_0, rn 2, bt 174, rn 5, .reg [.d, .d, .d, .ans (.idx (Node.av y0)), .d, .d, .d, .d, .d, .ans (.len (c4_0.length : Int)), .d, .d, .ans (.idx (Node.av y1)), .d, .d, .d, .d, .d], rn 7, bf 194, rn 13, aL c4_0, .pure (iI y2), rn 4, .reg [.d, .d, .d, .pure (Prog.av y3), .d, .d, .d, .pure (Prog.av y4), .pure (bV y5), .d], bf 222, rn 6, sI 176 (i16 + (1 : Int)), rn 3] trivial
theorem lJd_1_7 (p q r : Prog) (vy7 vy9 : Int) (c2_0 : List Node) (c2_1 : List Int) (c2_2 : Int) (c2_3 : List Con) (c3_0 : List Node) (c3_1 : List Int) (c3_2 : Int) (c3_3 : List Con) (c4_0 : List Node) (c4_1 : List Int) (c4_2 : Int) (c4_3 : List Con) (c5_0 : List Node) (c5_1 : List Int) (c5_2 : Int) (c5_3 : List Con) (i16 : Int) (y0 : Bool) (h0 : decide (i16 < (c5_0.length : Int)) = false) (h1 : (vy7 != (0 : Int)) = false) (h2 : (vy9 != (0 : Int)) = true) (h3 : Pure PP 7 [] (bV y0)) (hl : LeadsM PP 0 (start PP 3 [Prog.av p, Prog.av q, Prog.av r]).as (lJd_c1 p q r vy7 vy9 c2_0 c2_1 c2_2 c2_3 c3_0 c3_1 c3_2 c3_3 c4_0 c4_1 c4_2 c4_3 c5_0 c5_1 c5_2 c5_3 i16).as) :
  ∀ (w : World) (cargs : List Value), VRs (embOf w) [Prog.av p, Prog.av q, Prog.av r] cargs → Calls PP 3 ⟨cargs⟩ w fun e w' => e = .returned (.bool y0) ∧ RowKit.Grown w w' :=
 fun w cargs hv => cL hl [ql Node.av c5_0, qp h0, qp h1, qp h2, qp h3] [rn 6, aL c5_0, rn 2, bf 174, rn 8, bf 225, rn 4, bt 228, rn 3, pB y0, rn 3] w hv
theorem lJd_1_8 (p q r : Prog) (vy7 vy9 : Int) (c2_0 : List Node) (c2_1 : List Int) (c2_2 : Int) (c2_3 : List Con) (c3_0 : List Node) (c3_1 : List Int) (c3_2 : Int) (c3_3 : List Con) (c4_0 : List Node) (c4_1 : List Int) (c4_2 : Int) (c4_3 : List Con) (c5_0 : List Node) (c5_1 : List Int) (c5_2 : Int) (c5_3 : List Con) (i16 : Int) (y0 : Prog) (y1 : Int) (y2 : Prog) (y3 : Int) (y4 : Bool) (h0 : decide (i16 < (c5_0.length : Int)) = false) (h1 : (vy7 != (0 : Int)) = false) (h2 : (vy9 != (0 : Int)) = false) (h3 : Pure PP 8 [(.agg [(iN c2_0), (iI c2_1), (nI c2_2), (iC c2_3)]), (Prog.av r)] (.tup [(Prog.av y0), (nI y1)])) (h4 : Pure PP 8 [(Prog.av p), (.agg [(iN c3_0), (iI c3_1), (nI c3_2), (iC c3_3)])] (.tup [(Prog.av y2), (nI y3)])) (h5 : (y1 == y3) = true) (h6 : (y1 != (0 : Int)) = true) (h7 : Pure PP 7 [] (bV y4)) (hl : LeadsM PP 0 (start PP 3 [Prog.av p, Prog.av q, Prog.av r]).as (lJd_c1 p q r vy7 vy9 c2_0 c2_1 c2_2 c2_3 c3_0 c3_1 c3_2 c3_3 c4_0 c4_1 c4_2 c4_3 c5_0 c5_1 c5_2 c5_3 i16).as) :
  ∀ (w : World) (cargs : List Value), VRs (embOf w) [Prog.av p, Prog.av q, Prog.av r] cargs → Calls PP 3 ⟨cargs⟩ w fun e w' => e = .returned (.bool y4) ∧ RowKit.Grown w w' :=
 fun w cargs hv => cL hl [ql Node.av c5_0, qp h0, qp h1, qp h2, qp h3, qp h4, qp h5, qp h6, qp h7] [rn 6, aL c5_0, rn 2, bf 174, rn 8, bf 225, rn 4, bf 228, rn 6, .pure (.tup [(Prog.av y0), (nI y1)]), rn 11, .pure (.tup [(Prog.av y2), (nI y3)]), rn 13, bt 245, rn 3, bt 248, rn 6, pB y4, rn 4] w hv
theorem lJd_1_9 (p q r : Prog) (vy7 vy9 : Int) (c2_0 : List Node) (c2_1 : List Int) (c2_2 : Int) (c2_3 : List Con) (c3_0 : List Node) (c3_1 : List Int) (c3_2 : Int) (c3_3 : List Con) (c4_0 : List Node) (c4_1 : List Int) (c4_2 : Int) (c4_3 : List Con) (c5_0 : List Node) (c5_1 : List Int) (c5_2 : Int) (c5_3 : List Con) (i16 : Int) (y0 : Prog) (y1 : Int) (y2 : Prog) (y3 : Int) (y4 y5 : Bool) (h0 : decide (i16 < (c5_0.length : Int)) = false) (h1 : (vy7 != (0 : Int)) = false) (h2 : (vy9 != (0 : Int)) = false) (h3 : Pure PP 8 [(.agg [(iN c2_0), (iI c2_1), (nI c2_2), (iC c2_3)]), (Prog.av r)] (.tup [(Prog.av y0), (nI y1)])) (h4 : Pure PP 8 [(Prog.av p), (.agg [(iN c3_0), (iI c3_1), (nI c3_2), (iC c3_3)])] (.tup [(Prog.av y2), (nI y3)])) (h5 : (y1 == y3) = true) (h6 : (y1 != (0 : Int)) = false) (h7 : Pure PP 11 [(Prog.av y0), (Prog.av y2)] (bV y4)) (h8 : y4 = true) (h9 : Pure PP 7 [] (bV y5)) (hl : LeadsM PP 0 (start PP 3 [Prog.av p, Prog.av q, Prog.av r]).as (lJd_c1 p q r vy7 vy9 c2_0 c2_1 c2_2 c2_3 c3_0 c3_1 c3_2 c3_3 c4_0 c4_1 c4_2 c4_3 c5_0 c5_1 c5_2 c5_3 i16).as) :
  ∀ (w : World) (cargs : List Value), VRs (embOf w) [Prog.av p, Prog.av q, Prog.av r] cargs → Calls PP 3 ⟨cargs⟩ w fun e w' => e = .returned (.bool y5) ∧ RowKit.Grown w w' :=
 fun w cargs hv => cL hl [ql Node.av c5_0, qp h0, qp h1, qp h2, qp h3, qp h4, qp h5, qp h6, qp h7, qp h8, qp h9] [rn 6, aL c5_0, rn 2, bf 174, rn 8, bf 225, rn 4, bf 228, rn 6, .pure (.tup [(Prog.av y0), (nI y1)]), rn 11, .pure (.tup [(Prog.av y2), (nI y3)]), rn 13, bt 245, rn 3, bf 248, rn 2, pB y4, rn 3, bt 254, pB y5, rn 4] w hv
end Go.Hb
namespace Go.Hb
open Go.Proofs
set_option maxHeartbeats 2000000
noncomputable section
theorem let_loop (f n : Int) (s : Str) (ps : List Pat) (l : List Con) (t' : Str) (n' : Int) (hl : ps.length < 1000000) (ih : ∀ p ∈ ps, Pure PP 41 [Pat.av p, .ilst 2 (List.map Con.av l) false] (Pat.av (lettP l p))) :
  ∀ (t : List Pat) (i : Nat) (acc : List Pat), ps.drop i = t → acc.length = i → Ends PP 0 (let_c0 f n s ps l t' n' (i : Int) acc).as (.ret (Pat.av (.mk f n' t' (acc ++ lettPs l t)))) (hpOf [] 0)
 | [], i, acc, h, ha => by
  have := dropN h
  rw [lettPs, List.append_nil]
  exact let_0_1 f n s ps l t' n' i acc sd
 | .mk f1 n1 s1 ps1 :: t, i, acc, h, ha => by
  obtain ⟨g1, g2, g3⟩ := dropC h
  have hp := ih (.mk f1 n1 s1 ps1) (List.mem_of_getElem? g1)
  rw [lettPs]
  generalize lettP l (.mk f1 n1 s1 ps1) = p' at hp ⊢
  obtain ⟨f2, n2, s2, ps2⟩ := p'
  refine (let_0_0 f n s ps l t' n' i acc f1 n1 s1 ps1 f2 n2 s2 ps2 sd sd sd hp (by simp; omega) sd).ends ?_
  have := let_loop f n s ps l t' n' hl ih t (i + 1) (acc ++ [.mk f2 n2 s2 ps2]) g2 (by simp [ha])
  rw [List.append_assoc] at this
  exact this
mutual
theorem let_pure (l : List Con) : ∀ (p : Pat), psize p < 1000000 → Pure PP 41 [Pat.av p, .ilst 2 (List.map Con.av l) false] (Pat.av (lettP l p))
 | .mk f n s ps, h => by
  refine pure_at (by kernel_rfl) (by simp [AV.keylessL, pat_kl, AV.keyless]) (pat_kl _) ?_
  simp only [psize] at h
  have := psizes_len ps
  have L := fun t' n' => let_loop f n s ps l t' n' (by omega) (let_all l ps (by omega)) ps 0 [] rfl rfl
  rw [lettP]
  by_cases hf : f = 6
  · by_cases h0 : 0 ≤ n
    · by_cases h1 : n < l.length
      · have e : l[n.toNat]? = some l[n.toNat] := List.getElem?_eq_getElem (by omega)
        rw [if_pos ⟨hf, h0, h1⟩, e]
        exact (let_E_0 f n s ps l _ (by simp [hf]) (by simp [h0]) (by simp; omega) h0 e).ends (L _ 0)
      · rw [if_neg (fun g => h1 g.2.2)]
        exact (let_E_1 f n s ps l (by simp [hf]) (by simp [h0]) (by simp; omega)).ends (L _ n)
    · rw [if_neg (fun g => h0 g.2.1)]
      exact (let_E_2 f n s ps l (by simp [hf]) (by simp; omega)).ends (L _ n)
  · rw [if_neg (fun g => hf g.1)]
    exact (let_E_3 f n s ps l (by simp [hf])).ends (L _ n)
theorem let_all (l : List Con) : ∀ (ps : List Pat), psizes ps < 1000000 → ∀ p ∈ ps, Pure PP 41 [Pat.av p, .ilst 2 (List.map Con.av l) false] (Pat.av (lettP l p))
 | [], _, p, hp => by cases hp
 | q :: ps, h, p, hp => by
  simp only [psizes] at h
  rcases List.mem_cons.1 hp with e | hp
  · rw [e]; exact let_pure l q (by omega)
  · exact let_all l ps (by omega) p hp
end
theorem ltr_loop (l : List Int) (by0 : Int) (hl : l.length < 1000000) (hb : 0 ≤ by0 ∧ by0 ≤ 1000000) (hk : ∀ k ∈ l, 0 ≤ k ∧ k ≤ 1000000) : ∀ (t : List Int) (i : Nat) (acc : List Int), l.drop i = t → acc.length = i →
  Ends PP 0 (ltr_c0 l by0 (i : Int) acc).as (.ret (.ilst 1 (List.map avI (acc ++ t.map fun k => k + by0)) false)) (hpOf [] 0)
 | [], i, acc, h, ha => by
  have := dropN h
  rw [List.map_nil, List.append_nil]
  exact ltr_0_1 l by0 i acc sd
 | k :: t, i, acc, h, ha => by
  obtain ⟨g1, g2, g3⟩ := dropC h
  have hr := hk k (List.mem_of_getElem? g1)
  refine (ltr_0_0 l by0 i acc k sd sd sd sd (by simp; omega) sd).ends ?_
  have := ltr_loop l by0 hl hb hk t (i + 1) (acc ++ [k + by0]) g2 (by simp [ha])
  rw [List.append_assoc] at this
  exact this
theorem ltr_pure (l : List Int) (by0 : Int) (hl : l.length < 1000000) (hb : 0 ≤ by0 ∧ by0 ≤ 1000000) (hk : ∀ k ∈ l, 0 ≤ k ∧ k ≤ 1000000) : Pure PP 13 [.ilst 1 (List.map avI l) false, .int .i64 by0] (.ilst 1 (List.map avI (l.map fun k => k + by0)) false) :=
 pure_at (by kernel_rfl) (by simp [AV.keylessL, AV.keyless]) (by simp [AV.keyless]) ((ltr_E_0 l by0).ends (ltr_loop l by0 hl hb hk l 0 [] rfl rfl))
theorem vr_fun0 {E : Emb} {a c d : AV} {cv : Value} (h : VR E (.agg [a, .ilst 1 (List.map avI ([] : List Int)) true, c, d]) cv) : VR E (.agg [a, .ilst 1 (List.map avI ([] : List Int)) false, c, d]) cv := by
 rw [VR] at h ⊢
 obtain ⟨ws, rfl, h5⟩ := h
 obtain ⟨a1, w1, rfl, c1, h5⟩ := h5.cons_inv
 obtain ⟨a2, w2, rfl, c2, h5⟩ := h5.cons_inv
 exact ⟨_, rfl, VRs.cons c1 (VRs.cons (vr_ilst_weak c2) h5)⟩
theorem onl_loop (x : Node) (l l5 : List Con) (n' : Int) (hl : x.pats.length < 1000000) (hp : psizes x.pats < 1000000) : ∀ (t : List Pat) (i : Nat) (acc : List Pat), x.pats.drop i = t → acc.length = i →
  Ends PP 0 (onl_c0 x l l5 n' (i : Int) acc).as (.ret (.agg [.ilst 4 (List.map Node.av [⟨x.op, n', x.kids, acc ++ lettPs l t⟩]) false, .ilst 1 (List.map avI ([] : List Int)) true, .int .i64 0, .ilst 2 (List.map Con.av l5) false])) (hpOf [] 0)
 | [], i, acc, h, ha => by
  have := dropN h
  rw [lettPs, List.append_nil]
  exact onl_0_1 x l l5 n' i acc sd (by simp)
 | .mk f1 n1 s1 ps1 :: t, i, acc, h, ha => by
  obtain ⟨g1, g2, g3⟩ := dropC h
  have hp1 := let_all l x.pats hp (.mk f1 n1 s1 ps1) (List.mem_of_getElem? g1)
  rw [lettPs]
  generalize lettP l (.mk f1 n1 s1 ps1) = p' at hp1 ⊢
  obtain ⟨f2, n2, s2, ps2⟩ := p'
  refine (onl_0_0 x l l5 n' i acc f1 n1 s1 ps1 f2 n2 s2 ps2 sd sd sd hp1 (by simp; omega) sd).ends ?_
  have := onl_loop x l l5 n' hl hp t (i + 1) (acc ++ [.mk f2 n2 s2 ps2]) g2 (by simp [ha])
  rw [List.append_assoc] at this
  exact this
theorem onl_pure (x : Node) (l : List Con) (h : fitN x) : Pure PP 12 [Node.av x, .ilst 2 (List.map Con.av l) false] (Prog.av (onlyP x l)) := by
 have hp := h.2
 have hl := psizes_len x.pats
 have L := fun l5 n' => onl_loop x l l5 n' (by omega) hp x.pats 0 [] rfl rfl
 have W : ∀ (l5 : List Con) (n' : Int), Ends PP 0 (onl_s x l).as (.ret (.agg [.ilst 4 (List.map Node.av [⟨x.op, n', x.kids, lettPs l x.pats⟩]) false, .ilst 1 (List.map avI ([] : List Int)) true, .int .i64 0, .ilst 2 (List.map Con.av l5) false])) (hpOf [] 0) →
   Pure PP 12 [Node.av x, .ilst 2 (List.map Con.av l) false] (Prog.av ⟨[⟨x.op, n', x.kids, lettPs l x.pats⟩], [], 0, l5⟩) := fun l5 n' he =>
  pure_weak (pure_atH (s := onl_s x l) (by kernel_rfl) (by kernel_rfl) (by simp [AV.keylessL, AV.keyless, Node.av]) (by simp [AV.keylessL, AV.keyless]) he) (fun E cv h => vr_fun0 h)
 unfold onlyP
 by_cases ho : x.op = 14
 · rw [if_pos ho]
   by_cases h0 : 0 ≤ x.n
   · by_cases h1 : x.n < l.length
     · have e : l[x.n.toNat]? = some l[x.n.toNat] := List.getElem?_eq_getElem (by omega)
       rw [if_pos ⟨ho, h0, h1⟩, e]
       exact W _ 0 ((onl_E_0 x l _ (by simp [ho]) (by simp [h0]) (by simp; omega) h0 e).ends (L _ 0))
     · rw [if_neg (fun g => h1 g.2.2)]
       exact W _ 0 ((onl_E_1 x l (by simp [ho]) (by simp [h0]) (by simp; omega)).ends (L _ 0))
   · rw [if_neg (fun g => h0 g.2.1)]
     exact W _ 0 ((onl_E_2 x l (by simp [ho]) (by simp; omega)).ends (L _ 0))
 · rw [if_neg ho, if_neg (fun g => ho g.1)]
   exact W _ x.n ((onl_E_3 x l (by simp [ho])).ends (L _ x.n))
mutual
theorem lettP_size (l : List Con) : ∀ q : Pat, psize (lettP l q) = psize q
 | .mk f n s ps => by rw [lettP]; split <;> rw [psize, psize, lettPs_size l ps]
theorem lettPs_size (l : List Con) : ∀ ps : List Pat, psizes (lettPs l ps) = psizes ps
 | [] => rfl
 | q :: ps => by rw [lettPs, psizes, psizes, lettP_size l q, lettPs_size l ps]
end
theorem only_fit {x : Node} (h : fitN x) (l : List Con) : FitP (onlyP x l) := by
 refine ⟨by simp [onlyP], by simp [onlyP], ?_, fun y hy => ?_⟩
 · unfold onlyP
   simp only
   split <;> simp
 · simp only [onlyP, List.mem_singleton] at hy
   subst hy
   exact ⟨h.1, by show psizes (lettPs l x.pats) < 1000000; rw [lettPs_size]; exact h.2⟩
theorem canon_maps (p : Prog) : MapsOk p (canonP p) (sM p.funs.length) (sM p.cons.length) :=
 ⟨fun i h0 h1 => by
  rw [sM_at h0 h1]
  unfold canonP
  simp only [List.length_map]
  omega, fun i d hd => by
  have hlt := (List.getElem?_eq_some_iff.1 hd).1
  rw [sM_at (by omega) (by omega), Int.toNat_natCast]
  exact ⟨by omega, hd⟩⟩
theorem canon_node {p : Prog} (h : Fs p) {i : Nat} {x : Node} (hx : (canonP p).nodes[i]? = some x) : nodeOk (canonP p) x = true ∧ fitN x ∧ ∀ c ∈ x.kids, 0 ≤ c ∧ c < p.nodes.length := by
 have hlt := (List.getElem?_eq_some_iff.1 hx).1
 rw [canon_len h] at hlt
 obtain ⟨k, hk⟩ : ∃ k, (ordL p)[i]? = some k := ⟨_, List.getElem?_eq_getElem (by rw [ordL_len h.toFm]; exact hlt)⟩
 have e1 := (canon_laid h.toFm).node i k hk
 rw [Nat.zero_add, hx] at e1
 have := (canon_laid h.toFm).nodeFine h (canon_maps p) (N := p.nodes.length) (by omega) hk
 rw [← Option.some.inj e1] at this
 have hs := this.2.1
 simp only [smallNode, Bool.and_eq_true, decide_eq_true_eq] at hs
 have hps := psizes_le (c := 12) (ps := x.pats) (fun q hq => ((fine_of this.1).pats q hq).1)
 exact ⟨this.1, ⟨by omega, by omega⟩, fun c hc => by have := this.2.2 c hc; omega⟩
abbrev JC0 (p q r : Prog) (e f : Int) (b : Prog) (i : Int) : TS := lJd_c0 p q r e f (joinP p q).nodes (joinP p q).funs (joinP p q).main (joinP p q).cons b.nodes b.funs b.main b.cons (canonP p).nodes (canonP p).funs (canonP p).main (canonP p).cons (canonP q).nodes (canonP q).funs (canonP q).main (canonP q).cons i
abbrev JC1 (p q r : Prog) (e f : Int) (b : Prog) (i : Int) : TS := lJd_c1 p q r e f (joinP p q).nodes (joinP p q).funs (joinP p q).main (joinP p q).cons b.nodes b.funs b.main b.cons (canonP p).nodes (canonP p).funs (canonP p).main (canonP p).cons (canonP q).nodes (canonP q).funs (canonP q).main (canonP q).cons i
section
variable {p q : Prog} (r : Prog) (e f : Int) (b : Prog) (h : Fs p) (g : Fs q) (ha : Fs (joinP p q))
include h ha
theorem jd_first : ∀ (t : List Node) (i : Nat), (canonP p).nodes.drop i = t → LeadsM PP 0 (JC0 p q r e f b (i : Int)).as (JC1 p q r e f b 0).as
 | [], i, hd => by
  have := dropN hd
  exact lJd_0_2 p q r e f _ _ _ _ _ _ _ _ _ _ _ _ _ _ _ _ i sd
 | x :: t, i, hd => by
  obtain ⟨g1, g2, g3⟩ := dropC hd
  have hn := h.head.1
  rw [canon_len h] at g3
  obtain ⟨y, hy, he⟩ := only_first (q := q) h g1
  have fx := (canon_node h g1).2.1
  have fy := ha.fit i y hy
  have ox := onl_pure x (canonP p).cons fx
  have oy := onl_pure y (joinP p q).cons fy
  rw [← he] at oy
  exact (lJd_0_1 p q r e f _ _ _ _ _ _ _ _ _ _ _ _ _ _ _ _ i x _ y _ true (by rw [canon_len h]; exact sd) sd sd ox sd oy (rSame_pure _ (only_fit fx _)) rfl sd).trans (jd_first t (i + 1) g2)
include g
theorem jd_second (hc : clash p.cons q.cons = false) : ∀ (t : List Node) (i : Nat), (canonP q).nodes.drop i = t → i ≤ (canonP q).nodes.length → LeadsM PP 0 (JC1 p q r e f b (i : Int)).as (JC1 p q r e f b (((canonP q).nodes.length : Nat) : Int)).as
 | [], i, hd, hi => by
  have := dropN hd
  obtain rfl : i = (canonP q).nodes.length := by omega
  exact LeadsM.refl _
 | x :: t, i, hd, hi => by
  obtain ⟨g1, g2, g3⟩ := dropC hd
  have hn := h.head
  have gn := g.head
  have g4 := g3
  rw [canon_len g] at g4
  obtain ⟨y, hy, he⟩ := only_second h g hc g1
  obtain ⟨nx, fx, kx⟩ := canon_node g g1
  have fy := ha.fit _ y hy
  have oy := onl_pure y (joinP p q).cons fy
  rw [← he] at oy
  have kl := ltr_pure x.kids (((canonP p).nodes.length : Nat) : Int) fx.1 (by rw [canon_len h]; omega) (fun k hk => by have := kx k hk; omega)
  rw [canon_len h] at kl
  have fs : fitN (shiftX x p.funs.length p.nodes.length) := ⟨by show (x.kids.map _).length < 1000000; rw [List.length_map]; exact fx.1, fx.2⟩
  have ox := onl_pure (shiftX x p.funs.length p.nodes.length) (canonP q).cons fs
  have sm := rSame_pure _ (only_fit fs (canonP q).cons)
  have ew : IntKind.i64.wrap ((((canonP p).nodes.length : Nat) : Int) + (i : Int)) = ((p.nodes.length + i : Nat) : Int) := by
   rw [canon_len h, wrap64 (by omega) (by omega)]; omega
  have hy' : (joinP p q).nodes[(IntKind.i64.wrap ((((canonP p).nodes.length : Nat) : Int) + (i : Int))).toNat]? = some y := by rw [ew, Int.toNat_natCast]; exact hy
  have hw0 : 0 ≤ IntKind.i64.wrap ((((canonP p).nodes.length : Nat) : Int) + (i : Int)) := by rw [ew]; omega
  have hrest := jd_second hc t (i + 1) g2 (by omega)
  have hlt : (decide ((i : Int) < (((canonP q).nodes.length : Nat) : Int))) = true := by simp; omega
  by_cases o4 : x.op = 4
  · by_cases hneg : x.n < 0
    · have hlow := (node_has nx).1 o4
      have e1 : shiftX x p.funs.length p.nodes.length = ⟨x.op, x.n - p.funs.length, x.kids.map (fun k => k + (p.nodes.length : Int)), x.pats⟩ := by unfold shiftX; rw [if_pos ⟨o4, hneg⟩]
      have hfl : (canonP q).funs.length = q.funs.length := by unfold canonP; simp
      rw [e1] at ox oy sm
      rw [← canon_len h] at kl ox oy sm
      exact (lJd_1_1 p q r e f _ _ _ _ _ _ _ _ _ _ _ _ _ _ _ _ i x y _ _ _ true hlt sd sd hw0 hy' (by simp [o4]) (by simp [hneg]) sd kl ox oy sm rfl sd).trans hrest
    · have e1 : shiftX x p.funs.length p.nodes.length = ⟨x.op, x.n, x.kids.map (fun k => k + (p.nodes.length : Int)), x.pats⟩ := by unfold shiftX; rw [if_neg (fun g => hneg g.2)]
      rw [e1] at ox oy sm
      rw [← canon_len h] at kl ox oy sm
      exact (lJd_1_3 p q r e f _ _ _ _ _ _ _ _ _ _ _ _ _ _ _ _ i x y _ _ _ true hlt sd sd hw0 hy' (by simp [o4]) (by simp; omega) kl ox oy sm rfl sd).trans hrest
  · have e1 : shiftX x p.funs.length p.nodes.length = ⟨x.op, x.n, x.kids.map (fun k => k + (p.nodes.length : Int)), x.pats⟩ := by unfold shiftX; rw [if_neg (fun g => o4 g.1)]
    rw [e1] at ox oy sm
    rw [← canon_len h] at kl ox oy sm
    exact (lJd_1_5 p q r e f _ _ _ _ _ _ _ _ _ _ _ _ _ _ _ _ i x y _ _ _ true hlt sd sd hw0 hy' (by simp [o4]) kl ox oy sm rfl sd).trans hrest
end
theorem lJoined_calls (p q r : Prog) (hk : Pure PP 7 [] (.bool true)) (w : World) (cargs : List Value) (hv : VRs (embOf w) [Prog.av p, Prog.av q, Prog.av r] cargs) :
  Calls Tryz.prog 3 ⟨cargs⟩ w fun e w' => e = .returned (.bool true) ∧ RowKit.Grown w w' := by
 have sp := rSmallProg_pure p
 have sq := rSmallProg_pure q
 have sr := rSmallProg_pure r
 cases hsp : smallProg p with
 | false => rw [hsp] at sp; exact lJd_E_0 p q r false true sp rfl hk w cargs hv
 | true =>
 rw [hsp] at sp
 cases hsq : smallProg q with
 | false => rw [hsq] at sq; exact lJd_E_1 p q r true false true sp rfl sq rfl hk w cargs hv
 | true =>
 rw [hsq] at sq
 cases hsr : smallProg r with
 | false => rw [hsr] at sr; exact lJd_E_2 p q r true true false true sp rfl sq rfl sr rfl hk w cargs hv
 | true =>
 rw [hsr] at sr
 have fp := rFormed_pure p hsp
 have fq := rFormed_pure q hsq
 have fr := rFormed_pure r hsr
 cases hfp : refFormed p with
 | false => rw [hfp] at fp; exact lJd_E_3 p q r true true true false true sp rfl sq rfl sr rfl fp rfl hk w cargs hv
 | true =>
 rw [hfp] at fp
 cases hfq : refFormed q with
 | false => rw [hfq] at fq; exact lJd_E_4 p q r true true true true false true sp rfl sq rfl sr rfl fp rfl fq rfl hk w cargs hv
 | true =>
 rw [hfq] at fq
 cases hfr : refFormed r with
 | false => rw [hfr] at fr; exact lJd_E_5 p q r true true true true true false true sp rfl sq rfl sr rfl fp rfl fq rfl fr rfl hk w cargs hv
 | true =>
 rw [hfr] at fr
 have hP := Fs.of hsp hfp
 have hQ := Fs.of hsq hfq
 have hR := Fs.of hsr hfr
 have jpq := valJ_pure hP hQ
 have jqr := valJ_pure hQ hR
 have cp := valC_pure hP
 have cq := valC_pure hQ
 have lp := canon_len hP
 have lq := canon_len hQ
 have l18 : ((((canonP p).nodes.length : Nat) : Int) != ((List.length p.nodes : Nat) : Int)) = false := by rw [lp]; simp
 have l19 : ((((canonP q).nodes.length : Nat) : Int) != ((List.length q.nodes : Nat) : Int)) = false := by rw [lq]; simp
 by_cases e1 : (valJ p q).2 = 0
 · obtain ⟨v1, cl, n300, c20, hA⟩ := valJ_ok hP hQ e1
   have la := join_len hP.toFm hQ.toFm
   have ckA := check_of hA.sm
   rw [hA.fo] at ckA
   have bp := hP.head
   have bq := hQ.head
   rw [v1] at jpq
   have h15 := lJd_E_15 p q r true true true true true true (joinP p q) _ _ _ (canonP p) 0 (canonP q) 0 0 sp rfl sq rfl sr rfl fp rfl fq rfl fr rfl jpq jqr cp cq rfl rfl l18 l19 (by simp [e1]) ckA rfl sd (by rw [la]; simp) sd (by
    have : (joinP p q).funs.length = p.funs.length + q.funs.length := by unfold joinP; simp
    rw [this]; simp) (by
    have : (joinP p q).main = p.main := rfl
    rw [this]; simp) (by
    have : (canonP p).cons.length ≤ (joinP p q).cons.length := by
     show p.cons.length ≤ (p.cons ++ newC p.cons q.cons).length
     rw [List.length_append]; omega
    simp; omega)
   have L := h15.trans ((jd_first r _ _ _ hP hA (canonP p).nodes 0 rfl).trans (jd_second r _ _ _ hP hQ hA cl (canonP q).nodes 0 rfl (Nat.zero_le _)))
   by_cases e2 : (valJ q r).2 = 0
   · obtain ⟨v2, _, _, _, hB⟩ := valJ_ok hQ hR e2
     have x := valJ_pure hA hR
     have y := valJ_pure hP hB
     rw [← valJ_assoc hP hQ hR e1 e2] at y
     rw [v2] at L
     by_cases e3 : (valJ (joinP p q) r).2 = 0
     · obtain ⟨v3, _, _, _, hX⟩ := valJ_ok hA hR e3
       have sm := rSame_pure _ hX.fitp
       rw [← v3] at sm
       exact lJd_1_9 p q r _ _ _ _ _ _ _ _ _ _ _ _ _ _ _ _ _ _ _ _ _ _ _ true true (by simp) (by simp [e1]) (by simp [e2]) x y (beq_self_eq_true _) (by simp [e3]) sm rfl hk L w cargs hv
     · exact lJd_1_8 p q r _ _ _ _ _ _ _ _ _ _ _ _ _ _ _ _ _ _ _ _ _ _ _ true (by simp) (by simp [e1]) (by simp [e2]) x y (beq_self_eq_true _) (by simp [e3]) hk L w cargs hv
   · exact lJd_1_7 p q r _ _ _ _ _ _ _ _ _ _ _ _ _ _ _ _ _ _ _ true (by simp) (by simp [e1]) (by simp [e2]) hk L w cargs hv
 · exact lJd_E_16 p q r true true true true true true _ _ _ _ _ _ _ _ true sp rfl sq rfl sr rfl fp rfl fq rfl fr rfl jpq jqr cp cq rfl rfl l18 l19 (by simp [e1]) (by simp [e1]) hk w cargs hv
end
end Go.Hb
