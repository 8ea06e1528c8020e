/-
  OWN WORK (the ways WRITTEN BY A PROGRAM): how many values a node adds for a kid.
-/
import Derived.Test.YtogkjcpighphfaaGreatHG5
set_option linter.unusedVariables false
set_option linter.unusedSimpArgs false
set_option linter.unusedSectionVars false
namespace Go.Hb
open Go.Proofs
theorem bAdds_E_0 (x : Node) (kid : Int) (h0 : (x.op == (5 : Int)) = true) :
    Ends PP 0 (start PP 87 [(Node.av x), (.int .i64 kid)]).as (.ret (.int .i64 1)) (hpOf [] 0) :=
  wE 1 [ty h0] [.run 13, .b 9 true, .run 21] (by kernel_rfl) (by kernel_rfl) trivial h0
theorem bAdds_E_1 (x : Node) (kid : Int) (h0 : (x.op == (5 : Int)) = false) (h1 : (x.op == (27 : Int)) = true) :
    Ends PP 0 (start PP 87 [(Node.av x), (.int .i64 kid)]).as (.ret (.int .i64 1)) (hpOf [] 0) :=
  wE 1 [ty h0, ty h1] [.run 13, .b 9 false, .run 5, .b 14 true, .run 16] (by kernel_rfl) (by kernel_rfl) trivial ⟨h0, h1⟩
theorem bAdds_E_2 (x : Node) (kid : Int) (h0 : (x.op == (5 : Int)) = false) (h1 : (x.op == (27 : Int)) = false) (h2 : (x.op == (7 : Int)) = true) (h3 : (kid == (1 : Int)) = true) :
    Ends PP 0 (start PP 87 [(Node.av x), (.int .i64 kid)]).as (.ret (.int .i64 1)) (hpOf [] 0) :=
  wE 1 [ty h0, ty h1, ty h2, ty h3] [.run 13, .b 9 false, .run 5, .b 14 false, .run 4, .b 18 true, .run 6, .b 5 true, .run 6] (by kernel_rfl) (by kernel_rfl) trivial ⟨h0, h1, h2, h3⟩
theorem bAdds_E_5 (x : Node) (kid : Int) (h0 : (x.op == (5 : Int)) = false) (h1 : (x.op == (27 : Int)) = false) (h2 : (x.op == (7 : Int)) = true) (h3 : (kid == (1 : Int)) = false) (h4 : (x.op == (15 : Int)) = false) :
    Ends PP 0 (start PP 87 [(Node.av x), (.int .i64 kid)]).as (.ret (.int .i64 0)) (hpOf [] 0) :=
  wE 1 [ty h0, ty h1, ty h2, ty h3, ty h4] [.run 13, .b 9 false, .run 5, .b 14 false, .run 4, .b 18 true, .run 6, .b 5 false, .run 7, .b 27 false, .run 13] (by kernel_rfl) (by kernel_rfl) trivial ⟨h0, h1, h2, h3, h4⟩
theorem bAdds_E_6 (x : Node) (kid : Int) (y_form0 : Int) (y_n1 : Int) (y_text2 : Str) (y_parts3 : (List Pat)) (y4 : Int) (h0 : (x.op == (5 : Int)) = false) (h1 : (x.op == (27 : Int)) = false) (h2 : (x.op == (7 : Int)) = false) (h3 : (x.op == (15 : Int)) = true) (h4 : (decide (kid > (0 : Int))) = true) (h5 : (IntKind.i64.wrap (kid - (1 : Int))) = (kid - (1 : Int))) (h6 : 0 ≤ (kid - (1 : Int))) (h7 : ((x.pats)[(kid - (1 : Int)).toNat]?) = some (Pat.mk y_form0 y_n1 y_text2 y_parts3)) (h8 : Pure PP 142 [(.agg [(.int .i64 y_form0), (.int .i64 y_n1), (avS y_text2), (.ilst 4 (Pats.av y_parts3) false)])] (.int .i64 y4)) :
    Ends PP 0 (start PP 87 [(Node.av x), (.int .i64 kid)]).as (.ret (.int .i64 y4)) (hpOf [] 0) :=
  wE 1 [ty h0, ty h1, ty h2, ty h3, ty h4, (AV.int .i64 (IntKind.i64.wrap (kid - (1 : Int)))) = (.int .i64 (kid - (1 : Int))), ty h6, (Pats.av x.pats)[(kid - (1 : Int)).toNat]? = some (Pat.av (Pat.mk y_form0 y_n1 y_text2 y_parts3)), ty h8] [.run 13, .b 9 false, .run 5, .b 14 false, .run 4, .b 18 false, .run 13, .b 27 true, .run 5, .b 23 true, .run 7, .set 34 (.int .i64 (kid - (1 : Int))), .ans (.idx (Pat.av (Pat.mk y_form0 y_n1 y_text2 y_parts3))), .run 1, .pure (.int .i64 y4), .run 3] (by kernel_rfl) (by kernel_rfl) trivial ⟨h0, h1, h2, h3, h4, (congrArg (AV.int .i64) h5), h6, (map_getF pats_map h7), h8⟩
theorem bAdds_E_7 (x : Node) (kid : Int) (h0 : (x.op == (5 : Int)) = false) (h1 : (x.op == (27 : Int)) = false) (h2 : (x.op == (7 : Int)) = false) (h3 : (x.op == (15 : Int)) = true) (h4 : (decide (kid > (0 : Int))) = false) :
    Ends PP 0 (start PP 87 [(Node.av x), (.int .i64 kid)]).as (.ret (.int .i64 0)) (hpOf [] 0) :=
  wE 1 [ty h0, ty h1, ty h2, ty h3, ty h4] [.run 13, .b 9 false, .run 5, .b 14 false, .run 4, .b 18 false, .run 13, .b 27 true, .run 5, .b 23 false, .run 8] (by kernel_rfl) (by kernel_rfl) trivial ⟨h0, h1, h2, h3, h4⟩
theorem bAdds_E_8 (x : Node) (kid : Int) (h0 : (x.op == (5 : Int)) = false) (h1 : (x.op == (27 : Int)) = false) (h2 : (x.op == (7 : Int)) = false) (h3 : (x.op == (15 : Int)) = false) :
    Ends PP 0 (start PP 87 [(Node.av x), (.int .i64 kid)]).as (.ret (.int .i64 0)) (hpOf [] 0) :=
  wE 1 [ty h0, ty h1, ty h2, ty h3] [.run 13, .b 9 false, .run 5, .b 14 false, .run 4, .b 18 false, .run 13, .b 27 false, .run 13] (by kernel_rfl) (by kernel_rfl) trivial ⟨h0, h1, h2, h3⟩
noncomputable def bNames_c0 (q_form : Int) (q_n : Int) (q_text : Str) (q_parts : (List Pat)) (n3 : Int) (t12 : Int) : TS :=
  { fr := { fn := 142, nt := 22, sl := [(2, (.int .i64 0)), (3, (.int .i64 n3)), (10, (.ilst 4 (Pats.av q_parts) false)), (11, (.int .i64 ((List.length q_parts : Nat) : Int))), (12, (.int .i64 t12))], todo := [.code (cd Tryz.f142 [1, 1, 1, 0, 1, 0, 0]), .inLoop (cd Tryz.f142 [1, 1, 1, 0, 1, 0, 0]), .inBlock 0, .code (cd Tryz.f142 [1, 1, 1, 1])] }, cs := [], hp := [], nb := 0 }
theorem bNames_E_0 (q_form : Int) (q_n : Int) (q_text : Str) (q_parts : (List Pat)) (h0 : (q_form == (2 : Int)) = true) :
    Ends PP 0 (start PP 142 [(.agg [(.int .i64 q_form), (.int .i64 q_n), (avS q_text), (.ilst 4 (Pats.av q_parts) false)])]).as (.ret (.int .i64 1)) (hpOf [] 0) :=
  wE 1 [ty h0] [.run 12, .b 8 true, .run 6] (by kernel_rfl) (by kernel_rfl) trivial h0
theorem bNames_E_1 (q_form : Int) (q_n : Int) (q_text : Str) (q_parts : (List Pat)) (h0 : (q_form == (2 : Int)) = false) :
    LeadsM PP 0 (start PP 142 [(.agg [(.int .i64 q_form), (.int .i64 q_n), (avS q_text), (.ilst 4 (Pats.av q_parts) false)])]).as (bNames_c0 q_form q_n q_text q_parts 0 0).as :=
  wW 1 [] [ty h0, ((List.length (Pats.av q_parts) : Nat) : Int) = ((List.length q_parts : Nat) : Int)] [.run 12, .b 8 false, .run 11, .ans (.len ((List.length q_parts : Nat) : Int)), .run 4] (by kernel_rfl) (by kernel_rfl) trivial ⟨h0, (len_iF pats_map _)⟩
theorem bNames_0_0 (q_form : Int) (q_n : Int) (q_text : Str) (q_parts : (List Pat)) (n3 : Int) (t12 : Int) (y_form0 : Int) (y_n1 : Int) (y_text2 : Str) (y_parts3 : (List Pat)) (y4 : Int) (h0 : (decide (t12 < ((List.length q_parts : Nat) : Int))) = true) (h1 : 0 ≤ t12) (h2 : ((q_parts)[t12.toNat]?) = some (Pat.mk y_form0 y_n1 y_text2 y_parts3)) (h3 : Pure PP 142 [(.agg [(.int .i64 y_form0), (.int .i64 y_n1), (avS y_text2), (.ilst 4 (Pats.av y_parts3) false)])] (.int .i64 y4)) (h4 : (IntKind.i64.wrap (n3 + y4)) = (n3 + y4)) (h5 : (IntKind.i64.wrap (t12 + (1 : Int))) = (t12 + (1 : Int))) :
    LeadsM PP 0 (bNames_c0 q_form q_n q_text q_parts n3 t12).as (bNames_c0 q_form q_n q_text q_parts (n3 + y4) (t12 + (1 : Int))).as :=
  wW 1 [] [ty h0, 0 ≤ t12, (Pats.av q_parts)[t12.toNat]? = some (Pat.av (Pat.mk y_form0 y_n1 y_text2 y_parts3)), ty h3, (AV.int .i64 (IntKind.i64.wrap (n3 + y4))) = (.int .i64 (n3 + y4)), (AV.int .i64 (IntKind.i64.wrap (t12 + (1 : Int)))) = (.int .i64 (t12 + (1 : Int)))] [.run 5, .b 13 true, .run 6, .ans (.idx (Pat.av (Pat.mk y_form0 y_n1 y_text2 y_parts3))), .run 7, .pure (.int .i64 y4), .run 1, .set 19 (.int .i64 (n3 + y4)), .run 5, .set 20 (.int .i64 (t12 + (1 : Int))), .run 3] (by kernel_rfl) (by kernel_rfl) trivial ⟨h0, h1, (map_getF pats_map h2), h3, (congrArg (AV.int .i64) h4), (congrArg (AV.int .i64) h5)⟩
theorem bNames_0_1 (q_form : Int) (q_n : Int) (q_text : Str) (q_parts : (List Pat)) (n3 : Int) (t12 : Int) (h0 : (decide (t12 < ((List.length q_parts : Nat) : Int))) = false) :
    Ends PP 0 (bNames_c0 q_form q_n q_text q_parts n3 t12).as (.ret (.int .i64 n3)) (hpOf [] 0) :=
  wE 0 [ty h0] [.run 5, .b 13 false, .run 8] (by kernel_rfl) (by kernel_rfl) trivial h0
end Go.Hb

namespace Go.Hb
open Go.Proofs
theorem rAdds_E_0 (x : Node) (kid : Int) (h0 : (x.op == (5 : Int)) = true) :
    Ends PP 0 (start PP 88 [(Node.av x), (.int .i64 kid)]).as (.ret (.int .i64 1)) (hpOf [] 0) :=
  wE 1 [ty h0] [.run 18, .b 7 true, .run 8] (by kernel_rfl) (by kernel_rfl) trivial h0
theorem rAdds_E_1 (x : Node) (kid : Int) (h0 : (x.op == (5 : Int)) = false) (h1 : (x.op == (27 : Int)) = true) :
    Ends PP 0 (start PP 88 [(Node.av x), (.int .i64 kid)]).as (.ret (.int .i64 1)) (hpOf [] 0) :=
  wE 1 [ty h0, ty h1] [.run 18, .b 7 false, .run 5, .b 7 true, .run 6] (by kernel_rfl) (by kernel_rfl) trivial ⟨h0, h1⟩
theorem rAdds_E_2 (x : Node) (kid : Int) (h0 : (x.op == (5 : Int)) = false) (h1 : (x.op == (27 : Int)) = false) (h2 : (x.op == (7 : Int)) = true) :
    Ends PP 0 (start PP 88 [(Node.av x), (.int .i64 kid)]).as (.ret (.int .i64 kid)) (hpOf [] 0) :=
  wE 1 [ty h0, ty h1, ty h2] [.run 18, .b 7 false, .run 5, .b 7 false, .run 6, .b 10 true, .run 7] (by kernel_rfl) (by kernel_rfl) trivial ⟨h0, h1, h2⟩
theorem rAdds_E_3 (x : Node) (kid : Int) (y_form0 : Int) (y_n1 : Int) (y_text2 : Str) (y_parts3 : (List Pat)) (y4 : Int) (h0 : (x.op == (5 : Int)) = false) (h1 : (x.op == (27 : Int)) = false) (h2 : (x.op == (7 : Int)) = false) (h3 : (x.op == (15 : Int)) = true) (h4 : (decide (kid > (0 : Int))) = true) (h5 : (IntKind.i64.wrap (kid - (1 : Int))) = (kid - (1 : Int))) (h6 : 0 ≤ (kid - (1 : Int))) (h7 : ((x.pats)[(kid - (1 : Int)).toNat]?) = some (Pat.mk y_form0 y_n1 y_text2 y_parts3)) (h8 : Pure PP 143 [(.agg [(.int .i64 y_form0), (.int .i64 y_n1), (avS y_text2), (.ilst 4 (Pats.av y_parts3) false)])] (.int .i64 y4)) :
    Ends PP 0 (start PP 88 [(Node.av x), (.int .i64 kid)]).as (.ret (.int .i64 y4)) (hpOf [] 0) :=
  wE 1 [ty h0, ty h1, ty h2, ty h3, ty h4, (AV.int .i64 (IntKind.i64.wrap (kid - (1 : Int)))) = (.int .i64 (kid - (1 : Int))), ty h6, (Pats.av x.pats)[(kid - (1 : Int)).toNat]? = some (Pat.av (Pat.mk y_form0 y_n1 y_text2 y_parts3)), ty h8] [.run 18, .b 7 false, .run 5, .b 7 false, .run 6, .b 10 false, .run 6, .b 13 true, .run 6, .b 16 true, .run 7, .set 20 (.int .i64 (kid - (1 : Int))), .ans (.idx (Pat.av (Pat.mk y_form0 y_n1 y_text2 y_parts3))), .run 1, .pure (.int .i64 y4), .run 3] (by kernel_rfl) (by kernel_rfl) trivial ⟨h0, h1, h2, h3, h4, (congrArg (AV.int .i64) h5), h6, (map_getF pats_map h7), h8⟩
theorem rAdds_E_4 (x : Node) (kid : Int) (h0 : (x.op == (5 : Int)) = false) (h1 : (x.op == (27 : Int)) = false) (h2 : (x.op == (7 : Int)) = false) (h3 : (x.op == (15 : Int)) = true) (h4 : (decide (kid > (0 : Int))) = false) :
    Ends PP 0 (start PP 88 [(Node.av x), (.int .i64 kid)]).as (.ret (.int .i64 0)) (hpOf [] 0) :=
  wE 1 [ty h0, ty h1, ty h2, ty h3, ty h4] [.run 18, .b 7 false, .run 5, .b 7 false, .run 6, .b 10 false, .run 6, .b 13 true, .run 6, .b 16 false, .run 8] (by kernel_rfl) (by kernel_rfl) trivial ⟨h0, h1, h2, h3, h4⟩
theorem rAdds_E_5 (x : Node) (kid : Int) (h0 : (x.op == (5 : Int)) = false) (h1 : (x.op == (27 : Int)) = false) (h2 : (x.op == (7 : Int)) = false) (h3 : (x.op == (15 : Int)) = false) :
    Ends PP 0 (start PP 88 [(Node.av x), (.int .i64 kid)]).as (.ret (.int .i64 0)) (hpOf [] 0) :=
  wE 1 [ty h0, ty h1, ty h2, ty h3] [.run 18, .b 7 false, .run 5, .b 7 false, .run 6, .b 10 false, .run 6, .b 13 false, .run 8] (by kernel_rfl) (by kernel_rfl) trivial ⟨h0, h1, h2, h3⟩
noncomputable def rNames_c0 (q_form : Int) (q_n : Int) (q_text : Str) (q_parts : (List Pat)) (n3 : Int) (i4 : Int) : TS :=
  { fr := { fn := 143, nt := 24, sl := [(1, (.ptr 0 0)), (2, (.int .i64 0)), (3, (.int .i64 n3)), (4, (.int .i64 i4))], todo := [.code (cd Tryz.f143 [1, 1, 1, 0, 1, 0, 0]), .inLoop (cd Tryz.f143 [1, 1, 1, 0, 1, 0, 0]), .inBlock 0, .code (cd Tryz.f143 [1, 1, 1, 1])] }, cs := [], hp := [(0, (.cells (putCells .leaf 0 [(.int .i64 q_form), (.int .i64 q_n), (avS q_text), (.ilst 4 (Pats.av q_parts) false)]) 4 [] false), false)], nb := 1 }
theorem rNames_E_0 (q_form : Int) (q_n : Int) (q_text : Str) (q_parts : (List Pat)) (h0 : (q_form == (2 : Int)) = true) :
    LeadsM PP 0 (start PP 143 [(.agg [(.int .i64 q_form), (.int .i64 q_n), (avS q_text), (.ilst 4 (Pats.av q_parts) false)])]).as (rNames_c0 q_form q_n q_text q_parts 1 0).as :=
  wW 1 [0] [ty h0] [.run 16, .b 7 true, .run 11] (by kernel_rfl) (by kernel_rfl) trivial h0
theorem rNames_E_1 (q_form : Int) (q_n : Int) (q_text : Str) (q_parts : (List Pat)) (h0 : (q_form == (2 : Int)) = false) :
    LeadsM PP 0 (start PP 143 [(.agg [(.int .i64 q_form), (.int .i64 q_n), (avS q_text), (.ilst 4 (Pats.av q_parts) false)])]).as (rNames_c0 q_form q_n q_text q_parts 0 0).as :=
  wW 1 [0] [ty h0] [.run 16, .b 7 false, .run 9] (by kernel_rfl) (by kernel_rfl) trivial h0
theorem rNames_0_0 (q_form : Int) (q_n : Int) (q_text : Str) (q_parts : (List Pat)) (n3 : Int) (i4 : Int) (y_form0 : Int) (y_n1 : Int) (y_text2 : Str) (y_parts3 : (List Pat)) (y4 : Int) (h0 : (decide (i4 < ((List.length q_parts : Nat) : Int))) = true) (h1 : 0 ≤ i4) (h2 : ((q_parts)[i4.toNat]?) = some (Pat.mk y_form0 y_n1 y_text2 y_parts3)) (h3 : Pure PP 143 [(.agg [(.int .i64 y_form0), (.int .i64 y_n1), (avS y_text2), (.ilst 4 (Pats.av y_parts3) false)])] (.int .i64 y4)) (h4 : (IntKind.i64.wrap (n3 + y4)) = (n3 + y4)) (h5 : (IntKind.i64.wrap (i4 + (1 : Int))) = (i4 + (1 : Int))) :
    LeadsM PP 0 (rNames_c0 q_form q_n q_text q_parts n3 i4).as (rNames_c0 q_form q_n q_text q_parts (n3 + y4) (i4 + (1 : Int))).as :=
  wW 1 [0] [((List.length (Pats.av q_parts) : Nat) : Int) = ((List.length q_parts : Nat) : Int), ty h0, 0 ≤ i4, (Pats.av q_parts)[i4.toNat]? = some (Pat.av (Pat.mk y_form0 y_n1 y_text2 y_parts3)), ty h3, (AV.int .i64 (IntKind.i64.wrap (n3 + y4))) = (.int .i64 (n3 + y4)), (AV.int .i64 (IntKind.i64.wrap (i4 + (1 : Int)))) = (.int .i64 (i4 + (1 : Int)))] [.run 6, .ans (.len ((List.length q_parts : Nat) : Int)), .run 2, .b 12 true, .run 9, .ans (.idx (Pat.av (Pat.mk y_form0 y_n1 y_text2 y_parts3))), .run 1, .pure (.int .i64 y4), .run 1, .set 22 (.int .i64 (n3 + y4)), .run 6, .set 14 (.int .i64 (i4 + (1 : Int))), .run 3] (by kernel_rfl) (by kernel_rfl) trivial ⟨(len_iF pats_map _), h0, h1, (map_getF pats_map h2), h3, (congrArg (AV.int .i64) h4), (congrArg (AV.int .i64) h5)⟩
theorem rNames_0_1 (q_form : Int) (q_n : Int) (q_text : Str) (q_parts : (List Pat)) (n3 : Int) (i4 : Int) (h0 : (decide (i4 < ((List.length q_parts : Nat) : Int))) = false) :
    Ends PP 0 (rNames_c0 q_form q_n q_text q_parts n3 i4).as (.ret (.int .i64 n3)) (hpOf [] 0) :=
  wE 1 [((List.length (Pats.av q_parts) : Nat) : Int) = ((List.length q_parts : Nat) : Int), ty h0] [.run 6, .ans (.len ((List.length q_parts : Nat) : Int)), .run 2, .b 12 false, .run 8] (by kernel_rfl) (by kernel_rfl) trivial ⟨(len_iF pats_map _), h0⟩
end Go.Hb

namespace Go.Hb
open Go.Proofs
theorem Ends.val {P : Program} {m : Nat} {s : AS} {v v' : AV} {h' : Hp} (h : Ends P m s (.ret v) h') (hv : ∀ E cv, VR E v cv → VR E v' cv) : Ends P m s (.ret v') h' := fun hm E fr ccs w f fs r cl base => by
  obtain ⟨cl', w', E', s1, ⟨cv, e, g⟩, r2, x2⟩ := h hm E fr ccs w f fs r cl base
  exact ⟨cl', w', E', s1, ⟨cv, e, hv _ _ g⟩, r2, x2⟩
theorem vr_inexact {E : Emb} {e : Nat} {xs : List AV} {cv : Value} (h : VR E (.ilst e xs true) cv) : VR E (.ilst e xs false) cv := by
  simp only [VR] at h ⊢
  obtain ⟨vs, h1, h2, h3⟩ := h
  refine ⟨vs, h1, h2, ?_⟩
  rcases h3 with ⟨a1, a, cap, a2, a3, a4⟩ | ⟨k, a, cap, C, a1, a2, a3, a4, a5⟩
  · exact .inl ⟨a1, a, cap, a2, a3, fun e => (by cases e)⟩
  · exact .inr ⟨k, a, cap, C, a1, a2, a3, fun e => (by cases e), a5⟩
/-! ## how many names a pattern binds -/
mutual
def bnm : Pat → Int
  | .mk f _ _ ps => if f = 2 then 1 else bnms ps
def bnms : List Pat → Int
  | [] => 0
  | p :: ps => bnm p + bnms ps
end
mutual
def rnm : Pat → Int
  | .mk f _ _ ps => (if f = 2 then 1 else 0) + rnms ps
def rnms : List Pat → Int
  | [] => 0
  | p :: ps => rnm p + rnms ps
end
mutual
theorem bnm_le : ∀ p, 0 ≤ bnm p ∧ bnm p ≤ psize p
  | .mk f _ _ ps => by
    have := bnms_le ps
    simp only [bnm, psize]; split <;> omega
theorem bnms_le : ∀ ps, 0 ≤ bnms ps ∧ bnms ps ≤ psizes ps
  | [] => by simp [bnms, psizes]
  | p :: ps => by
    have := bnm_le p; have := bnms_le ps
    simp only [bnms, psizes]; omega
end
mutual
theorem rnm_le : ∀ p, 0 ≤ rnm p ∧ rnm p ≤ psize p
  | .mk f _ _ ps => by
    have := rnms_le ps
    simp only [rnm, psize]; split <;> omega
theorem rnms_le : ∀ ps, 0 ≤ rnms ps ∧ rnms ps ≤ psizes ps
  | [] => by simp [rnms, psizes]
  | p :: ps => by
    have := rnm_le p; have := rnms_le ps
    simp only [rnms, psizes]; omega
end
mutual
theorem nm_eq (cons : List Con) : ∀ p, patOk cons p = true → bnm p = rnm p
  | .mk f n s ps, h => by
    simp only [patOk, Bool.and_eq_true] at h
    have := nms_eq cons ps h.2
    simp only [bnm, rnm]
    by_cases g : f = 2
    · have hk := h.1
      subst g
      simp only [patHead] at hk
      simp at hk
      obtain ⟨⟨hk, _⟩, _⟩ := hk
      subst hk
      simp [rnms]
    · rw [if_neg g, if_neg g, this]; omega
theorem nms_eq (cons : List Con) : ∀ ps, patsOk cons ps = true → bnms ps = rnms ps
  | [], _ => rfl
  | p :: ps, h => by
    simp only [patsOk, Bool.and_eq_true] at h
    simp only [bnms, rnms, nm_eq cons p h.1, nms_eq cons ps h.2]
end
theorem bNames_loop (f n : Int) (s : Str) (ps : List Pat) (hl : ps.length < 1000000) (ih : ∀ p ∈ ps, Pure PP 142 [Pat.av p] (.int .i64 (bnm p))) :
    ∀ (t : List Pat) (i : Nat) (a : Int), 0 ≤ a → a + bnms t ≤ 1000000 → ps.drop i = t → Ends PP 0 (bNames_c0 f n s ps a (i : Int)).as (.ret (.int .i64 (a + bnms t))) (hpOf [] 0)
  | [], i, a, _, _, h => by
    have := dropN h
    exact Ends.eqv (bNames_0_1 f n s ps a i (by (simp only [decide_eq_true_eq, decide_eq_false_iff_not]; omega))) (by simp [bnms])
  | .mk f' n' s' ps' :: t, i, a, ha, hb, h => by
    obtain ⟨g1, g2, g3⟩ := dropC h
    have ihp := ih _ (List.mem_of_getElem? g1)
    have b1 := bnm_le (.mk f' n' s' ps')
    have b2 := bnms_le t
    rw [bnms] at hb ⊢
    refine (bNames_0_0 f n s ps a i f' n' s' ps' _ (by (simp only [decide_eq_true_eq, decide_eq_false_iff_not]; omega)) (by omega) (by assumption) ihp (by (apply wrap64 <;> omega)) (by (apply wrap64 <;> omega))).ends ?_
    exact Ends.eqv (bNames_loop f n s ps hl ih t (i + 1) (a + bnm (.mk f' n' s' ps')) (by omega) (by omega) g2) (by rw [Int.add_assoc])
mutual
theorem bNames_pure : ∀ (p : Pat), psize p < 100000 → Pure PP 142 [Pat.av p] (.int .i64 (bnm p))
  | .mk f n s ps, h => by
    refine pure_at (by kernel_rfl) (by simp [AV.keylessL, pat_kl]) rfl ?_
    simp only [psize] at h
    have := psizes_len ps
    have b := bnms_le ps
    by_cases g : f = 2
    · subst g
      exact Ends.eqv (bNames_E_0 2 n s ps rfl) (by simp [bnm])
    · refine (bNames_E_1 f n s ps (by simpa using g)).ends ?_
      exact Ends.eqv (bNames_loop f n s ps (by omega) (bNames_all ps (by omega)) ps 0 0 (by omega) (by omega) rfl) (by simp [bnm, g])
theorem bNames_all : ∀ (ps : List Pat), psizes ps < 100000 → ∀ p ∈ ps, Pure PP 142 [Pat.av p] (.int .i64 (bnm p))
  | [], _, p, hp => by cases hp
  | q :: ps, h, p, hp => by
    simp only [psizes] at h
    rcases List.mem_cons.1 hp with e | hp
    · rw [e]; exact bNames_pure q (by omega)
    · exact bNames_all ps (by omega) p hp
end
theorem rNames_loop (f n : Int) (s : Str) (ps : List Pat) (hl : ps.length < 1000000) (ih : ∀ p ∈ ps, Pure PP 143 [Pat.av p] (.int .i64 (rnm p))) :
    ∀ (t : List Pat) (i : Nat) (a : Int), 0 ≤ a → a + rnms t ≤ 1000000 → ps.drop i = t → Ends PP 0 (rNames_c0 f n s ps a (i : Int)).as (.ret (.int .i64 (a + rnms t))) (hpOf [] 0)
  | [], i, a, _, _, h => by
    have := dropN h
    exact Ends.eqv (rNames_0_1 f n s ps a i (by (simp only [decide_eq_true_eq, decide_eq_false_iff_not]; omega))) (by simp [rnms])
  | .mk f' n' s' ps' :: t, i, a, ha, hb, h => by
    obtain ⟨g1, g2, g3⟩ := dropC h
    have ihp := ih _ (List.mem_of_getElem? g1)
    have b1 := rnm_le (.mk f' n' s' ps')
    have b2 := rnms_le t
    rw [rnms] at hb ⊢
    refine (rNames_0_0 f n s ps a i f' n' s' ps' _ (by (simp only [decide_eq_true_eq, decide_eq_false_iff_not]; omega)) (by omega) (by assumption) ihp (by (apply wrap64 <;> omega)) (by (apply wrap64 <;> omega))).ends ?_
    exact Ends.eqv (rNames_loop f n s ps hl ih t (i + 1) (a + rnm (.mk f' n' s' ps')) (by omega) (by omega) g2) (by rw [Int.add_assoc])
mutual
theorem rNames_pure : ∀ (p : Pat), psize p < 100000 → Pure PP 143 [Pat.av p] (.int .i64 (rnm p))
  | .mk f n s ps, h => by
    refine pure_at (by kernel_rfl) (by simp [AV.keylessL, pat_kl]) rfl ?_
    simp only [psize] at h
    have := psizes_len ps
    have b := rnms_le ps
    by_cases g : f = 2
    · subst g
      refine (rNames_E_0 2 n s ps rfl).ends ?_
      exact Ends.eqv (rNames_loop 2 n s ps (by omega) (rNames_all ps (by omega)) ps 0 1 (by omega) (by omega) rfl) (by simp [rnm])
    · refine (rNames_E_1 f n s ps (by simpa using g)).ends ?_
      exact Ends.eqv (rNames_loop f n s ps (by omega) (rNames_all ps (by omega)) ps 0 0 (by omega) (by omega) rfl) (by simp [rnm, g])
theorem rNames_all : ∀ (ps : List Pat), psizes ps < 100000 → ∀ p ∈ ps, Pure PP 143 [Pat.av p] (.int .i64 (rnm p))
  | [], _, p, hp => by cases hp
  | q :: ps, h, p, hp => by
    simp only [psizes] at h
    rcases List.mem_cons.1 hp with e | hp
    · rw [e]; exact rNames_pure q (by omega)
    · exact rNames_all ps (by omega) p hp
end
/-! ## how many values a node adds for a kid -/
def addsN (x : Node) (k : Int) : Int :=
  if x.op = 5 ∨ x.op = 27 ∨ (x.op = 7 ∧ k = 1) then 1
  else if x.op = 15 ∧ k > 0 then (match x.pats[(k - 1).toNat]? with | some q => bnm q | none => 0) else 0
/-- a node that is as defined: its patterns are small, it has a pattern for each kid but the first one, a let has two kids -/
structure FineN (cons : List Con) (x : Node) : Prop where
  pats : ∀ q ∈ x.pats, psize q ≤ 12 ∧ patOk cons q = true
  mat : x.op = 15 → x.kids.length = 1 + x.pats.length
  let2 : x.op = 7 → x.kids.length = 2
theorem fine_of {p : Prog} {x : Node} (h : nodeOk p x = true) : FineN p.cons x := by
  simp only [nodeOk, Bool.and_eq_true, decide_eq_true_eq] at h
  obtain ⟨⟨_, h2⟩, h3⟩ := h
  refine ⟨fun q hq => ?_, fun e => ?_, fun e => ?_⟩
  · have := List.all_eq_true.1 h2 q hq
    simpa [nodePat] using this
  · rw [e] at h3; simp [kidsN] at h3; omega
  · rw [e] at h3; simp [kidsN] at h3; omega
theorem addsN_le {cons : List Con} {x : Node} (hf : FineN cons x) (k : Int) : 0 ≤ addsN x k ∧ addsN x k ≤ 12 := by
  unfold addsN
  split
  · omega
  · split
    · split
      · rename_i q hq
        have := (hf.pats q (List.mem_of_getElem? hq)).1
        have := bnm_le q
        omega
      · omega
    · omega
theorem addsN_mat {x : Node} {k : Int} (h15 : x.op = 15) (hk : k > 0) {q : Pat} (hq : x.pats[(k - 1).toNat]? = some q) : addsN x k = bnm q := by
  unfold addsN
  rw [if_neg (by rw [h15]; omega), if_pos ⟨h15, hk⟩, hq]
theorem bAdds_pure {cons : List Con} {x : Node} (hf : FineN cons x) {k : Int} (h0 : 0 ≤ k) (h1 : k < x.kids.length) (hk : x.kids.length ≤ 10) : Pure PP 87 [Node.av x, .int .i64 k] (.int .i64 (addsN x k)) := by
  refine pure_at (by kernel_rfl) rfl rfl ?_
  have mt : x.op = 15 → k > 0 → ∃ f n s ps, x.pats[(k - 1).toNat]? = some (.mk f n s ps) ∧ Pure PP 142 [Pat.av (.mk f n s ps)] (.int .i64 (bnm (.mk f n s ps))) := fun e g => by
    have hl := hf.mat e
    obtain ⟨q, hq⟩ : ∃ q, x.pats[(k - 1).toNat]? = some q := ⟨_, List.getElem?_eq_getElem (by omega)⟩
    obtain ⟨f, n, s, ps⟩ := q
    have := (hf.pats _ (List.mem_of_getElem? hq)).1
    exact ⟨f, n, s, ps, hq, bNames_pure _ (by omega)⟩
  by_cases g5 : x.op = 5
  · exact Ends.eqv (bAdds_E_0 x k (by simp [g5])) (by simp [addsN, g5])
  · by_cases g27 : x.op = 27
    · exact Ends.eqv (bAdds_E_1 x k (by simp [g5]) (by simp [g27])) (by simp [addsN, g27])
    · by_cases g7 : x.op = 7
      · by_cases gk : k = 1
        · exact Ends.eqv (bAdds_E_2 x k (by simp [g5]) (by simp [g27]) (by simp [g7]) (by simp [gk])) (by simp [addsN, g7, gk])
        · exact Ends.eqv (bAdds_E_5 x k (by simp [g5]) (by simp [g27]) (by simp [g7]) (by simp [gk]) (by simp [g7])) (by simp [addsN, g7, gk])
      · by_cases g15 : x.op = 15
        · by_cases gk : k > 0
          · obtain ⟨f, n, s, ps, hq, hp⟩ := mt g15 gk
            exact Ends.eqv (bAdds_E_6 x k f n s ps _ (by simp [g5]) (by simp [g27]) (by simp [g7]) (by simp [g15]) (by simpa using gk) (by (apply wrap64 <;> omega)) (by omega) hq hp) (by rw [addsN_mat g15 gk hq])
          · exact Ends.eqv (bAdds_E_7 x k (by simp [g5]) (by simp [g27]) (by simp [g7]) (by simp [g15]) (by simpa using gk)) (by simp [addsN, g15, gk])
        · exact Ends.eqv (bAdds_E_8 x k (by simp [g5]) (by simp [g27]) (by simp [g7]) (by simp [g15])) (by simp [addsN, g5, g27, g7, g15])
theorem rAdds_pure {cons : List Con} {x : Node} (hf : FineN cons x) {k : Int} (h0 : 0 ≤ k) (h1 : k < x.kids.length) (hk : x.kids.length ≤ 10) : Pure PP 88 [Node.av x, .int .i64 k] (.int .i64 (addsN x k)) := by
  refine pure_at (by kernel_rfl) rfl rfl ?_
  by_cases g5 : x.op = 5
  · exact Ends.eqv (rAdds_E_0 x k (by simp [g5])) (by simp [addsN, g5])
  · by_cases g27 : x.op = 27
    · exact Ends.eqv (rAdds_E_1 x k (by simp [g5]) (by simp [g27])) (by simp [addsN, g27])
    · by_cases g7 : x.op = 7
      · have := hf.let2 g7
        refine Ends.eqv (rAdds_E_2 x k (by simp [g5]) (by simp [g27]) (by simp [g7])) ?_
        by_cases gk : k = 1
        · simp [addsN, g7, gk]
        · have : k = 0 := by omega
          simp [addsN, g7, this]
      · by_cases g15 : x.op = 15
        · by_cases gk : k > 0
          · have hl := hf.mat g15
            obtain ⟨q, hq⟩ : ∃ q, x.pats[(k - 1).toNat]? = some q := ⟨_, List.getElem?_eq_getElem (by omega)⟩
            obtain ⟨f, n, s, ps⟩ := q
            have hpo := hf.pats _ (List.mem_of_getElem? hq)
            have hp := rNames_pure (.mk f n s ps) (by omega)
            rw [← nm_eq cons _ hpo.2] at hp
            exact Ends.eqv (rAdds_E_3 x k f n s ps _ (by simp [g5]) (by simp [g27]) (by simp [g7]) (by simp [g15]) (by simpa using gk) (by (apply wrap64 <;> omega)) (by omega) hq hp) (by rw [addsN_mat g15 gk hq])
          · exact Ends.eqv (rAdds_E_4 x k (by simp [g5]) (by simp [g27]) (by simp [g7]) (by simp [g15]) (by simpa using gk)) (by simp [addsN, g15, gk])
        · exact Ends.eqv (rAdds_E_5 x k (by simp [g5]) (by simp [g27]) (by simp [g7]) (by simp [g15])) (by simp [addsN, g5, g27, g7, g15])
end Go.Hb

