/-
  OWN WORK (the ways WRITTEN BY A PROGRAM): patterns and nodes of the program.
-/
import Derived.Test.YtogkjcpighphfaaGreatHG3
set_option linter.unusedVariables false
set_option linter.unusedSimpArgs false
set_option linter.unusedSectionVars false
namespace Go.Hb
open Go.Proofs
noncomputable def bEvP_c0 (l : (List Pat)) (p : Prog) (t8 : Int) : TS :=
  { fr := { fn := 220, nt := 19, sl := [(0, (.ilst 4 (Pats.av l) false)), (1, (.func 182 [] [(.ptr 0 0)])), (4, (.int .i64 0)), (7, (.int .i64 ((List.length l : Nat) : Int))), (8, (.int .i64 t8))], todo := [.code (cd Tryz.f220 [1, 0, 1, 0, 0]), .inLoop (cd Tryz.f220 [1, 0, 1, 0, 0]), .inBlock 0, .code (cd Tryz.f220 [1, 1])] }, cs := [{ fn := 181, nt := 9, sl := [(4, (.bool false)), (5, (.ilst 4 (Pats.av l) false)), (6, (.func 182 [] [(.ptr 0 0)]))], todo := [opsAt Tryz.f181 [1, 0] 2, .code (cd Tryz.f181 [1, 1])] }, { fn := 135, nt := 9, sl := [(4, (.bool false)), (5, (.ilst 4 (Pats.av l) false)), (6, (.func 182 [] [(.ptr 0 0)]))], todo := [opsAt Tryz.f135 [1, 0] 2, .code (cd Tryz.f135 [1, 1])] }], hp := [(0, (.cells (putCells .leaf 0 [(.func 133 [(Prog.av p)] [])]) 1 [] false), false)], nb := 1 }
theorem bEvP_E_0 (l : (List Pat)) (p : Prog) :
    LeadsM PP 0 (start PP 135 [(.ilst 4 (Pats.av l) false), (.func 133 [(Prog.av p)] [])]).as (bEvP_c0 l p 0).as :=
  wW 1 [0] [((List.length (Pats.av l) : Nat) : Int) = ((List.length l : Nat) : Int)] [.run 27, .ans (.len ((List.length l : Nat) : Int)), .run 4] (by kernel_rfl) (by kernel_rfl) trivial (len_iF pats_map _)
theorem bEvP_0_0 (l : (List Pat)) (p : Prog) (t8 : Int) (y_form0 : Int) (y_n1 : Int) (y_text2 : Str) (y_parts3 : (List Pat)) (y4 : Bool) (h0 : (decide (t8 < ((List.length l : Nat) : Int))) = true) (h1 : 0 ≤ t8) (h2 : ((l)[t8.toNat]?) = some (Pat.mk y_form0 y_n1 y_text2 y_parts3)) (h3 : Pure PP 133 [(Prog.av p), (.agg [(.int .i64 y_form0), (.int .i64 y_n1), (avS y_text2), (.ilst 4 (Pats.av y_parts3) false)])] (.bool y4)) (h4 : (!y4) = true) :
    Ends PP 0 (bEvP_c0 l p t8).as (.ret (.bool (!(decide (t8 ≥ (0 : Int)))))) (hpOf [] 0) :=
  wE 2 [ty h0, 0 ≤ t8, (Pats.av l)[t8.toNat]? = some (Pat.av (Pat.mk y_form0 y_n1 y_text2 y_parts3)), ty h3, ty h4] [.run 5, .b 9 true, .run 14, .ans (.idx (Pat.av (Pat.mk y_form0 y_n1 y_text2 y_parts3))), .run 11, .pure (.bool y4), .run 6, .b 16 true, .run 17] (by kernel_rfl) (by kernel_rfl) trivial ⟨h0, h1, (map_getF pats_map h2), h3, h4⟩
theorem bEvP_0_1 (l : (List Pat)) (p : Prog) (t8 : Int) (y_form0 : Int) (y_n1 : Int) (y_text2 : Str) (y_parts3 : (List Pat)) (y4 : Bool) (h0 : (decide (t8 < ((List.length l : Nat) : Int))) = true) (h1 : 0 ≤ t8) (h2 : ((l)[t8.toNat]?) = some (Pat.mk y_form0 y_n1 y_text2 y_parts3)) (h3 : Pure PP 133 [(Prog.av p), (.agg [(.int .i64 y_form0), (.int .i64 y_n1), (avS y_text2), (.ilst 4 (Pats.av y_parts3) false)])] (.bool y4)) (h4 : (!y4) = false) (h5 : (IntKind.i64.wrap (t8 + (1 : Int))) = (t8 + (1 : Int))) :
    LeadsM PP 0 (bEvP_c0 l p t8).as (bEvP_c0 l p (t8 + (1 : Int))).as :=
  wW 2 [0] [ty h0, 0 ≤ t8, (Pats.av l)[t8.toNat]? = some (Pat.av (Pat.mk y_form0 y_n1 y_text2 y_parts3)), ty h3, ty h4, (AV.int .i64 (IntKind.i64.wrap (t8 + (1 : Int)))) = (.int .i64 (t8 + (1 : Int)))] [.run 5, .b 9 true, .run 14, .ans (.idx (Pat.av (Pat.mk y_form0 y_n1 y_text2 y_parts3))), .run 11, .pure (.bool y4), .run 6, .b 16 false, .run 5, .set 18 (.int .i64 (t8 + (1 : Int))), .run 3] (by kernel_rfl) (by kernel_rfl) trivial ⟨h0, h1, (map_getF pats_map h2), h3, h4, (congrArg (AV.int .i64) h5)⟩
theorem bEvP_0_2 (l : (List Pat)) (p : Prog) (t8 : Int) (h0 : (decide (t8 < ((List.length l : Nat) : Int))) = false) :
    Ends PP 0 (bEvP_c0 l p t8).as (.ret (.bool true)) (hpOf [] 0) :=
  wE 1 [ty h0] [.run 5, .b 9 false, .run 17] (by kernel_rfl) (by kernel_rfl) trivial h0
noncomputable def bNode_c0 (p : Prog) (x : Node) (t8 : Int) : TS :=
  { fr := { fn := 220, nt := 19, sl := [(0, (.ilst 4 (Pats.av x.pats) false)), (1, (.func 182 [] [(.ptr 0 0)])), (4, (.int .i64 0)), (7, (.int .i64 ((List.length x.pats : Nat) : Int))), (8, (.int .i64 t8))], todo := [.code (cd Tryz.f220 [1, 0, 1, 0, 0]), .inLoop (cd Tryz.f220 [1, 0, 1, 0, 0]), .inBlock 0, .code (cd Tryz.f220 [1, 1])] }, cs := [{ fn := 181, nt := 9, sl := [(4, (.bool false)), (5, (.ilst 4 (Pats.av x.pats) false)), (6, (.func 182 [] [(.ptr 0 0)]))], todo := [opsAt Tryz.f181 [1, 0] 2, .code (cd Tryz.f181 [1, 1])] }, { fn := 135, nt := 9, sl := [(4, (.bool false)), (5, (.ilst 4 (Pats.av x.pats) false)), (6, (.func 182 [] [(.ptr 0 0)]))], todo := [opsAt Tryz.f135 [1, 0] 2, .code (cd Tryz.f135 [1, 1])] }, { fn := 79, nt := 35, sl := [(4, (.bool false)), (29, (.bool true)), (31, (.ilst 4 (Pats.av x.pats) false)), (32, (.func 131 [] [(.ptr 1 0)]))], todo := [opsAt Tryz.f79 [1, 1, 1, 1, 0] 13, .code (cd Tryz.f79 [1, 1, 1, 1, 1])] }], hp := [(0, (.cells (putCells .leaf 0 [(.func 131 [] [(.ptr 1 0)])]) 1 [] false), false), (1, (.cells (putCells .leaf 0 [(.ilst 4 (List.map Node.av p.nodes) false), (.ilst 1 (List.map avI p.funs) false), (.int .i64 p.main), (.ilst 2 (List.map Con.av p.cons) false)]) 4 [] false), false)], nb := 2 }
theorem bNode_E_0 (p : Prog) (x : Node) (y0 : Bool) (y1 : Bool) (h0 : Pure PP 130 [(.int .i64 x.op)] (.iface 189 (.agg []))) (h1 : Pure PP 65 [(.int .i64 ((List.length x.pats : Nat) : Int)), (.int .i64 1), (.int .i64 5)] (.bool y0)) (h2 : y0 = true) (h3 : (IntKind.i64.wrap ((1 : Int) + ((List.length x.pats : Nat) : Int))) = ((1 : Int) + ((List.length x.pats : Nat) : Int))) (h4 : (((List.length x.kids : Nat) : Int) == ((1 : Int) + ((List.length x.pats : Nat) : Int))) = true) (h5 : Pure PP 134 [(Prog.av p), (Node.av x)] (.bool y1)) (h6 : y1 = true) :
    LeadsM PP 0 (start PP 79 [(Prog.av p), (Node.av x)]).as (bNode_c0 p x 0).as :=
  wW 6 [5, 0] [ty h0, ((List.length (Pats.av x.pats) : Nat) : Int) = ((List.length x.pats : Nat) : Int), ty h1, ty h2, ((List.length (List.map avI x.kids) : Nat) : Int) = ((List.length x.kids : Nat) : Int), ((List.length (Pats.av x.pats) : Nat) : Int) = ((List.length x.pats : Nat) : Int), (AV.int .i64 (IntKind.i64.wrap ((1 : Int) + ((List.length x.pats : Nat) : Int)))) = (.int .i64 ((1 : Int) + ((List.length x.pats : Nat) : Int))), ty h4, ty h5, ty h6, ((List.length (Pats.av x.pats) : Nat) : Int) = ((List.length x.pats : Nat) : Int)] [.run 10, .pure (.iface 189 (.agg [])), .run 44, .ans (.len ((List.length x.pats : Nat) : Int)), .pure (.bool y0), .run 1, .b 11 true, .run 2, .ans (.len ((List.length x.kids : Nat) : Int)), .run 2, .ans (.len ((List.length x.pats : Nat) : Int)), .run 1, .set 18 (.int .i64 ((1 : Int) + ((List.length x.pats : Nat) : Int))), .run 7, .b 24 true, .run 2, .pure (.bool y1), .run 2, .b 29 true, .run 31, .ans (.len ((List.length x.pats : Nat) : Int)), .run 4] (by kernel_rfl) (by kernel_rfl) trivial ⟨h0, (len_iF pats_map _), h1, h2, (len_i _ _), (len_iF pats_map _), (congrArg (AV.int .i64) h3), h4, h5, h6, (len_iF pats_map _)⟩
theorem bNode_E_1 (p : Prog) (x : Node) (y0 : Bool) (y1 : Bool) (h0 : Pure PP 130 [(.int .i64 x.op)] (.iface 189 (.agg []))) (h1 : Pure PP 65 [(.int .i64 ((List.length x.pats : Nat) : Int)), (.int .i64 1), (.int .i64 5)] (.bool y0)) (h2 : y0 = true) (h3 : (IntKind.i64.wrap ((1 : Int) + ((List.length x.pats : Nat) : Int))) = ((1 : Int) + ((List.length x.pats : Nat) : Int))) (h4 : (((List.length x.kids : Nat) : Int) == ((1 : Int) + ((List.length x.pats : Nat) : Int))) = true) (h5 : Pure PP 134 [(Prog.av p), (Node.av x)] (.bool y1)) (h6 : y1 = false) :
    Ends PP 0 (start PP 79 [(Prog.av p), (Node.av x)]).as (.ret (.bool false)) (hpOf [] 0) :=
  wE 5 [ty h0, ((List.length (Pats.av x.pats) : Nat) : Int) = ((List.length x.pats : Nat) : Int), ty h1, ty h2, ((List.length (List.map avI x.kids) : Nat) : Int) = ((List.length x.kids : Nat) : Int), ((List.length (Pats.av x.pats) : Nat) : Int) = ((List.length x.pats : Nat) : Int), (AV.int .i64 (IntKind.i64.wrap ((1 : Int) + ((List.length x.pats : Nat) : Int)))) = (.int .i64 ((1 : Int) + ((List.length x.pats : Nat) : Int))), ty h4, ty h5, ty h6] [.run 10, .pure (.iface 189 (.agg [])), .run 44, .ans (.len ((List.length x.pats : Nat) : Int)), .pure (.bool y0), .run 1, .b 11 true, .run 2, .ans (.len ((List.length x.kids : Nat) : Int)), .run 2, .ans (.len ((List.length x.pats : Nat) : Int)), .run 1, .set 18 (.int .i64 ((1 : Int) + ((List.length x.pats : Nat) : Int))), .run 7, .b 24 true, .run 2, .pure (.bool y1), .run 2, .b 29 false, .run 8] (by kernel_rfl) (by kernel_rfl) trivial ⟨h0, (len_iF pats_map _), h1, h2, (len_i _ _), (len_iF pats_map _), (congrArg (AV.int .i64) h3), h4, h5, h6⟩
theorem bNode_E_2 (p : Prog) (x : Node) (y0 : Bool) (h0 : Pure PP 130 [(.int .i64 x.op)] (.iface 189 (.agg []))) (h1 : Pure PP 65 [(.int .i64 ((List.length x.pats : Nat) : Int)), (.int .i64 1), (.int .i64 5)] (.bool y0)) (h2 : y0 = true) (h3 : (IntKind.i64.wrap ((1 : Int) + ((List.length x.pats : Nat) : Int))) = ((1 : Int) + ((List.length x.pats : Nat) : Int))) (h4 : (((List.length x.kids : Nat) : Int) == ((1 : Int) + ((List.length x.pats : Nat) : Int))) = false) :
    Ends PP 0 (start PP 79 [(Prog.av p), (Node.av x)]).as (.ret (.bool false)) (hpOf [] 0) :=
  wE 5 [ty h0, ((List.length (Pats.av x.pats) : Nat) : Int) = ((List.length x.pats : Nat) : Int), ty h1, ty h2, ((List.length (List.map avI x.kids) : Nat) : Int) = ((List.length x.kids : Nat) : Int), ((List.length (Pats.av x.pats) : Nat) : Int) = ((List.length x.pats : Nat) : Int), (AV.int .i64 (IntKind.i64.wrap ((1 : Int) + ((List.length x.pats : Nat) : Int)))) = (.int .i64 ((1 : Int) + ((List.length x.pats : Nat) : Int))), ty h4] [.run 10, .pure (.iface 189 (.agg [])), .run 44, .ans (.len ((List.length x.pats : Nat) : Int)), .pure (.bool y0), .run 1, .b 11 true, .run 2, .ans (.len ((List.length x.kids : Nat) : Int)), .run 2, .ans (.len ((List.length x.pats : Nat) : Int)), .run 1, .set 18 (.int .i64 ((1 : Int) + ((List.length x.pats : Nat) : Int))), .run 7, .b 24 false, .run 13] (by kernel_rfl) (by kernel_rfl) trivial ⟨h0, (len_iF pats_map _), h1, h2, (len_i _ _), (len_iF pats_map _), (congrArg (AV.int .i64) h3), h4⟩
theorem bNode_E_3 (p : Prog) (x : Node) (y0 : Bool) (h0 : Pure PP 130 [(.int .i64 x.op)] (.iface 189 (.agg []))) (h1 : Pure PP 65 [(.int .i64 ((List.length x.pats : Nat) : Int)), (.int .i64 1), (.int .i64 5)] (.bool y0)) (h2 : y0 = false) :
    Ends PP 0 (start PP 79 [(Prog.av p), (Node.av x)]).as (.ret (.bool false)) (hpOf [] 0) :=
  wE 5 [ty h0, ((List.length (Pats.av x.pats) : Nat) : Int) = ((List.length x.pats : Nat) : Int), ty h1, ty h2] [.run 10, .pure (.iface 189 (.agg [])), .run 44, .ans (.len ((List.length x.pats : Nat) : Int)), .pure (.bool y0), .run 1, .b 11 false, .run 27] (by kernel_rfl) (by kernel_rfl) trivial ⟨h0, (len_iF pats_map _), h1, h2⟩
theorem bNode_E_4 (p : Prog) (x : Node) (h0 : Pure PP 130 [(.int .i64 x.op)] (.iface 232 (.agg []))) (h1 : (decide (((List.length x.pats : Nat) : Int) > (0 : Int))) = true) :
    Ends PP 0 (start PP 79 [(Prog.av p), (Node.av x)]).as (.ret (.bool false)) (hpOf [] 0) :=
  wE 2 [ty h0, ((List.length (Pats.av x.pats) : Nat) : Int) = ((List.length x.pats : Nat) : Int), ty h1] [.run 10, .pure (.iface 232 (.agg [])), .run 24, .ans (.len ((List.length x.pats : Nat) : Int)), .run 2, .b 14 true, .run 6] (by kernel_rfl) (by kernel_rfl) trivial ⟨h0, (len_iF pats_map _), h1⟩
theorem bNode_E_5 (p : Prog) (x : Node) (y0 : Bool) (y1 : Con) (y2 : Bool) (h0 : Pure PP 130 [(.int .i64 x.op)] (.iface 232 (.agg []))) (h1 : (decide (((List.length x.pats : Nat) : Int) > (0 : Int))) = false) (h2 : Pure PP 65 [(.int .i64 x.n), (.int .i64 0), (.int .i64 (IntKind.i64.wrap (((List.length p.cons : Nat) : Int) - (1 : Int))))] (.bool y0)) (h3 : y0 = true) (h4 : 0 ≤ x.n) (h5 : ((p.cons)[x.n.toNat]?) = some y1) (h6 : (((List.length x.kids : Nat) : Int) == y1.args) = true) (h7 : Pure PP 134 [(Prog.av p), (Node.av x)] (.bool y2)) (h8 : y2 = true) :
    LeadsM PP 0 (start PP 79 [(Prog.av p), (Node.av x)]).as (bNode_c0 p x 0).as :=
  wW 6 [5, 0] [ty h0, ((List.length (Pats.av x.pats) : Nat) : Int) = ((List.length x.pats : Nat) : Int), ty h1, ((List.length (List.map Con.av p.cons) : Nat) : Int) = ((List.length p.cons : Nat) : Int), ty h2, ty h3, ((List.length (List.map avI x.kids) : Nat) : Int) = ((List.length x.kids : Nat) : Int), 0 ≤ x.n, (List.map Con.av p.cons)[x.n.toNat]? = some (Con.av y1), ty h6, ty h7, ty h8, ((List.length (Pats.av x.pats) : Nat) : Int) = ((List.length x.pats : Nat) : Int)] [.run 10, .pure (.iface 232 (.agg [])), .run 24, .ans (.len ((List.length x.pats : Nat) : Int)), .run 2, .b 14 false, .run 22, .reg [.d, .d, .d, .d, .d, .ans (.len ((List.length p.cons : Nat) : Int)), .d, .pure (.bool y0), .d, .b 15 true, .d, .d, .ans (.len ((List.length x.kids : Nat) : Int)), .d, .d, .d, .d, .d, .ans (.idx (Con.av y1)), .d, .d, .d, .d, .d], .run 3, .b 24 true, .run 2, .pure (.bool y2), .run 2, .b 29 true, .run 31, .ans (.len ((List.length x.pats : Nat) : Int)), .run 4] (by kernel_rfl) (by kernel_rfl) trivial ⟨h0, (len_iF pats_map _), h1, (len_i _ _), h2, h3, (len_i _ _), h4, (map_get h5), h6, h7, h8, (len_iF pats_map _)⟩
theorem bNode_E_7 (p : Prog) (x : Node) (y0 : Bool) (y1 : Con) (h0 : Pure PP 130 [(.int .i64 x.op)] (.iface 232 (.agg []))) (h1 : (decide (((List.length x.pats : Nat) : Int) > (0 : Int))) = false) (h2 : Pure PP 65 [(.int .i64 x.n), (.int .i64 0), (.int .i64 (IntKind.i64.wrap (((List.length p.cons : Nat) : Int) - (1 : Int))))] (.bool y0)) (h3 : y0 = true) (h4 : 0 ≤ x.n) (h5 : ((p.cons)[x.n.toNat]?) = some y1) (h6 : (((List.length x.kids : Nat) : Int) == y1.args) = false) :
    Ends PP 0 (start PP 79 [(Prog.av p), (Node.av x)]).as (.ret (.bool false)) (hpOf [] 0) :=
  wE 5 [ty h0, ((List.length (Pats.av x.pats) : Nat) : Int) = ((List.length x.pats : Nat) : Int), ty h1, ((List.length (List.map Con.av p.cons) : Nat) : Int) = ((List.length p.cons : Nat) : Int), ty h2, ty h3, ((List.length (List.map avI x.kids) : Nat) : Int) = ((List.length x.kids : Nat) : Int), 0 ≤ x.n, (List.map Con.av p.cons)[x.n.toNat]? = some (Con.av y1), ty h6] [.run 10, .pure (.iface 232 (.agg [])), .run 24, .ans (.len ((List.length x.pats : Nat) : Int)), .run 2, .b 14 false, .run 22, .reg [.d, .d, .d, .d, .d, .ans (.len ((List.length p.cons : Nat) : Int)), .d, .pure (.bool y0), .d, .b 15 true, .d, .d, .ans (.len ((List.length x.kids : Nat) : Int)), .d, .d, .d, .d, .d, .ans (.idx (Con.av y1)), .d, .d, .d, .d, .d], .run 3, .b 24 false, .run 13] (by kernel_rfl) (by kernel_rfl) trivial ⟨h0, (len_iF pats_map _), h1, (len_i _ _), h2, h3, (len_i _ _), h4, (map_get h5), h6⟩
theorem bNode_E_8 (p : Prog) (x : Node) (y0 : Bool) (h0 : Pure PP 130 [(.int .i64 x.op)] (.iface 232 (.agg []))) (h1 : (decide (((List.length x.pats : Nat) : Int) > (0 : Int))) = false) (h2 : Pure PP 65 [(.int .i64 x.n), (.int .i64 0), (.int .i64 (IntKind.i64.wrap (((List.length p.cons : Nat) : Int) - (1 : Int))))] (.bool y0)) (h3 : y0 = false) :
    Ends PP 0 (start PP 79 [(Prog.av p), (Node.av x)]).as (.ret (.bool false)) (hpOf [] 0) :=
  wE 5 [ty h0, ((List.length (Pats.av x.pats) : Nat) : Int) = ((List.length x.pats : Nat) : Int), ty h1, ((List.length (List.map Con.av p.cons) : Nat) : Int) = ((List.length p.cons : Nat) : Int), ty h2, ty h3] [.run 10, .pure (.iface 232 (.agg [])), .run 24, .ans (.len ((List.length x.pats : Nat) : Int)), .run 2, .b 14 false, .run 22, .reg [.d, .d, .d, .d, .d, .ans (.len ((List.length p.cons : Nat) : Int)), .d, .pure (.bool y0), .d, .b 15 false, .d, .d, .d, .d, .d, .d, .d, .d, .d, .d, .d, .d, .d, .d], .run 16] (by kernel_rfl) (by kernel_rfl) trivial ⟨h0, (len_iF pats_map _), h1, (len_i _ _), h2, h3⟩
theorem bNode_E_9 (p : Prog) (x : Node) (k0 : Int) (h0 : Pure PP 130 [(.int .i64 x.op)] (.iface 231 (.int .i64 k0))) (h1 : (decide (((List.length x.pats : Nat) : Int) > (0 : Int))) = true) :
    Ends PP 0 (start PP 79 [(Prog.av p), (Node.av x)]).as (.ret (.bool false)) (hpOf [] 0) :=
  wE 2 [ty h0, ((List.length (Pats.av x.pats) : Nat) : Int) = ((List.length x.pats : Nat) : Int), ty h1] [.run 10, .pure (.iface 231 (.int .i64 k0)), .run 24, .ans (.len ((List.length x.pats : Nat) : Int)), .run 2, .b 14 true, .run 6] (by kernel_rfl) (by kernel_rfl) trivial ⟨h0, (len_iF pats_map _), h1⟩
theorem bNode_E_10 (p : Prog) (x : Node) (k0 : Int) (y1 : Bool) (h0 : Pure PP 130 [(.int .i64 x.op)] (.iface 231 (.int .i64 k0))) (h1 : (decide (((List.length x.pats : Nat) : Int) > (0 : Int))) = false) (h2 : (((List.length x.kids : Nat) : Int) == k0) = true) (h3 : Pure PP 134 [(Prog.av p), (Node.av x)] (.bool y1)) (h4 : y1 = true) :
    LeadsM PP 0 (start PP 79 [(Prog.av p), (Node.av x)]).as (bNode_c0 p x 0).as :=
  wW 5 [4, 0] [ty h0, ((List.length (Pats.av x.pats) : Nat) : Int) = ((List.length x.pats : Nat) : Int), ty h1, ((List.length (List.map avI x.kids) : Nat) : Int) = ((List.length x.kids : Nat) : Int), ty h2, ty h3, ty h4, ((List.length (Pats.av x.pats) : Nat) : Int) = ((List.length x.pats : Nat) : Int)] [.run 10, .pure (.iface 231 (.int .i64 k0)), .run 24, .ans (.len ((List.length x.pats : Nat) : Int)), .run 2, .b 14 false, .run 24, .ans (.len ((List.length x.kids : Nat) : Int)), .run 7, .b 24 true, .run 2, .pure (.bool y1), .run 2, .b 29 true, .run 31, .ans (.len ((List.length x.pats : Nat) : Int)), .run 4] (by kernel_rfl) (by kernel_rfl) trivial ⟨h0, (len_iF pats_map _), h1, (len_i _ _), h2, h3, h4, (len_iF pats_map _)⟩
theorem bNode_E_11 (p : Prog) (x : Node) (k0 : Int) (y1 : Bool) (h0 : Pure PP 130 [(.int .i64 x.op)] (.iface 231 (.int .i64 k0))) (h1 : (decide (((List.length x.pats : Nat) : Int) > (0 : Int))) = false) (h2 : (((List.length x.kids : Nat) : Int) == k0) = true) (h3 : Pure PP 134 [(Prog.av p), (Node.av x)] (.bool y1)) (h4 : y1 = false) :
    Ends PP 0 (start PP 79 [(Prog.av p), (Node.av x)]).as (.ret (.bool false)) (hpOf [] 0) :=
  wE 4 [ty h0, ((List.length (Pats.av x.pats) : Nat) : Int) = ((List.length x.pats : Nat) : Int), ty h1, ((List.length (List.map avI x.kids) : Nat) : Int) = ((List.length x.kids : Nat) : Int), ty h2, ty h3, ty h4] [.run 10, .pure (.iface 231 (.int .i64 k0)), .run 24, .ans (.len ((List.length x.pats : Nat) : Int)), .run 2, .b 14 false, .run 24, .ans (.len ((List.length x.kids : Nat) : Int)), .run 7, .b 24 true, .run 2, .pure (.bool y1), .run 2, .b 29 false, .run 8] (by kernel_rfl) (by kernel_rfl) trivial ⟨h0, (len_iF pats_map _), h1, (len_i _ _), h2, h3, h4⟩
theorem bNode_E_12 (p : Prog) (x : Node) (k0 : Int) (h0 : Pure PP 130 [(.int .i64 x.op)] (.iface 231 (.int .i64 k0))) (h1 : (decide (((List.length x.pats : Nat) : Int) > (0 : Int))) = false) (h2 : (((List.length x.kids : Nat) : Int) == k0) = false) :
    Ends PP 0 (start PP 79 [(Prog.av p), (Node.av x)]).as (.ret (.bool false)) (hpOf [] 0) :=
  wE 4 [ty h0, ((List.length (Pats.av x.pats) : Nat) : Int) = ((List.length x.pats : Nat) : Int), ty h1, ((List.length (List.map avI x.kids) : Nat) : Int) = ((List.length x.kids : Nat) : Int), ty h2] [.run 10, .pure (.iface 231 (.int .i64 k0)), .run 24, .ans (.len ((List.length x.pats : Nat) : Int)), .run 2, .b 14 false, .run 24, .ans (.len ((List.length x.kids : Nat) : Int)), .run 7, .b 24 false, .run 13] (by kernel_rfl) (by kernel_rfl) trivial ⟨h0, (len_iF pats_map _), h1, (len_i _ _), h2⟩
theorem bNode_E_13 (p : Prog) (x : Node) (h0 : Pure PP 130 [(.int .i64 x.op)] .nili) :
    Ends PP 0 (start PP 79 [(Prog.av p), (Node.av x)]).as (.ret (.bool false)) (hpOf [] 0) :=
  wE 2 [ty h0] [.run 10, .pure .nili, .run 18] (by kernel_rfl) (by kernel_rfl) trivial h0
theorem bNode_0_0 (p : Prog) (x : Node) (t8 : Int) (y_form0 : Int) (y_n1 : Int) (y_text2 : Str) (y_parts3 : (List Pat)) (y4 : Int) (y5 : Bool) (h0 : (decide (t8 < ((List.length x.pats : Nat) : Int))) = true) (h1 : 0 ≤ t8) (h2 : ((x.pats)[t8.toNat]?) = some (Pat.mk y_form0 y_n1 y_text2 y_parts3)) (h3 : Pure PP 132 [(.agg [(.int .i64 y_form0), (.int .i64 y_n1), (avS y_text2), (.ilst 4 (Pats.av y_parts3) false)]), (.int .i64 12)] (.int .i64 y4)) (h4 : (decide (y4 ≤ (12 : Int))) = true) (h5 : Pure PP 133 [(Prog.av p), (.agg [(.int .i64 y_form0), (.int .i64 y_n1), (avS y_text2), (.ilst 4 (Pats.av y_parts3) false)])] (.bool y5)) (h6 : (!y5) = true) :
    Ends PP 0 (bNode_c0 p x t8).as (.ret (.bool (!(decide (t8 ≥ (0 : Int)))))) (hpOf [] 0) :=
  wE 4 [ty h0, 0 ≤ t8, (Pats.av x.pats)[t8.toNat]? = some (Pat.av (Pat.mk y_form0 y_n1 y_text2 y_parts3)), ty h3, ty h4, ty h5, ty h6] [.run 5, .b 9 true, .run 14, .ans (.idx (Pat.av (Pat.mk y_form0 y_n1 y_text2 y_parts3))), .run 20, .pure (.int .i64 y4), .run 2, .b 7 true, .run 2, .pure (.bool y5), .run 11, .b 16 true, .run 22] (by kernel_rfl) (by kernel_rfl) trivial ⟨h0, h1, (map_getF pats_map h2), h3, h4, h5, h6⟩
theorem bNode_0_1 (p : Prog) (x : Node) (t8 : Int) (y_form0 : Int) (y_n1 : Int) (y_text2 : Str) (y_parts3 : (List Pat)) (y4 : Int) (y5 : Bool) (h0 : (decide (t8 < ((List.length x.pats : Nat) : Int))) = true) (h1 : 0 ≤ t8) (h2 : ((x.pats)[t8.toNat]?) = some (Pat.mk y_form0 y_n1 y_text2 y_parts3)) (h3 : Pure PP 132 [(.agg [(.int .i64 y_form0), (.int .i64 y_n1), (avS y_text2), (.ilst 4 (Pats.av y_parts3) false)]), (.int .i64 12)] (.int .i64 y4)) (h4 : (decide (y4 ≤ (12 : Int))) = true) (h5 : Pure PP 133 [(Prog.av p), (.agg [(.int .i64 y_form0), (.int .i64 y_n1), (avS y_text2), (.ilst 4 (Pats.av y_parts3) false)])] (.bool y5)) (h6 : (!y5) = false) (h7 : (IntKind.i64.wrap (t8 + (1 : Int))) = (t8 + (1 : Int))) :
    LeadsM PP 0 (bNode_c0 p x t8).as (bNode_c0 p x (t8 + (1 : Int))).as :=
  wW 4 [0, 1] [ty h0, 0 ≤ t8, (Pats.av x.pats)[t8.toNat]? = some (Pat.av (Pat.mk y_form0 y_n1 y_text2 y_parts3)), ty h3, ty h4, ty h5, ty h6, (AV.int .i64 (IntKind.i64.wrap (t8 + (1 : Int)))) = (.int .i64 (t8 + (1 : Int)))] [.run 5, .b 9 true, .run 14, .ans (.idx (Pat.av (Pat.mk y_form0 y_n1 y_text2 y_parts3))), .run 20, .pure (.int .i64 y4), .run 2, .b 7 true, .run 2, .pure (.bool y5), .run 11, .b 16 false, .run 5, .set 18 (.int .i64 (t8 + (1 : Int))), .run 3] (by kernel_rfl) (by kernel_rfl) trivial ⟨h0, h1, (map_getF pats_map h2), h3, h4, h5, h6, (congrArg (AV.int .i64) h7)⟩
theorem bNode_0_2 (p : Prog) (x : Node) (t8 : Int) (y_form0 : Int) (y_n1 : Int) (y_text2 : Str) (y_parts3 : (List Pat)) (y4 : Int) (h0 : (decide (t8 < ((List.length x.pats : Nat) : Int))) = true) (h1 : 0 ≤ t8) (h2 : ((x.pats)[t8.toNat]?) = some (Pat.mk y_form0 y_n1 y_text2 y_parts3)) (h3 : Pure PP 132 [(.agg [(.int .i64 y_form0), (.int .i64 y_n1), (avS y_text2), (.ilst 4 (Pats.av y_parts3) false)]), (.int .i64 12)] (.int .i64 y4)) (h4 : (decide (y4 ≤ (12 : Int))) = false) :
    Ends PP 0 (bNode_c0 p x t8).as (.ret (.bool (!(decide (t8 ≥ (0 : Int)))))) (hpOf [] 0) :=
  wE 4 [ty h0, 0 ≤ t8, (Pats.av x.pats)[t8.toNat]? = some (Pat.av (Pat.mk y_form0 y_n1 y_text2 y_parts3)), ty h3, ty h4] [.run 5, .b 9 true, .run 14, .ans (.idx (Pat.av (Pat.mk y_form0 y_n1 y_text2 y_parts3))), .run 20, .pure (.int .i64 y4), .run 2, .b 7 false, .run 36] (by kernel_rfl) (by kernel_rfl) trivial ⟨h0, h1, (map_getF pats_map h2), h3, h4⟩
theorem bNode_0_3 (p : Prog) (x : Node) (t8 : Int) (h0 : (decide (t8 < ((List.length x.pats : Nat) : Int))) = false) :
    Ends PP 0 (bNode_c0 p x t8).as (.ret (.bool true)) (hpOf [] 0) :=
  wE 2 [ty h0] [.run 5, .b 9 false, .run 22] (by kernel_rfl) (by kernel_rfl) trivial h0
noncomputable def bDiffer_c0 (l : (List Str)) (t9 : Int) (m0 : (List (Str × Bool))) : TS :=
  { fr := { fn := 75, nt := 21, sl := [(0, (.ilst 1 (List.map avS l) false)), (2, (.bool false)), (3, (.map 0)), (7, (.ilst 1 (List.map avS l) false)), (8, (.int .i64 ((List.length l : Nat) : Int))), (9, (.int .i64 t9))], todo := [.code (cd Tryz.f75 [1, 1, 0, 1, 0, 0]), .inLoop (cd Tryz.f75 [1, 1, 0, 1, 0, 0]), .inBlock 0, .code (cd Tryz.f75 [1, 1, 1])] }, cs := [], hp := [(0, (.map (mEnts avS avB 0 m0) (List.length m0)), true)], nb := 1 }
theorem bDiffer_E_0 (l : (List Str)) :
    LeadsM PP 0 (start PP 75 [(.ilst 1 (List.map avS l) false)]).as (bDiffer_c0 l 0 ([] : List (Str × Bool))).as :=
  wW 1 [0] [([] : List (AV × AV × Nat)) = (mEnts avS avB 0 ([] : List (Str × Bool))), 0 = List.length ([] : List (Str × Bool)), ((List.length (List.map avS l) : Nat) : Int) = ((List.length l : Nat) : Int)] [.run 7, .mset 0 (mEnts avS avB 0 ([] : List (Str × Bool))) (List.length ([] : List (Str × Bool))), .run 6, .ans (.len ((List.length l : Nat) : Int)), .run 4] (by kernel_rfl) (by kernel_rfl) ⟨kl_map (fun _ => rfl) (fun _ => rfl) _ _ _, trivial⟩ ⟨rfl, rfl, (len_i _ _)⟩
theorem bDiffer_0_0 (l : (List Str)) (t9 : Int) (m0 : (List (Str × Bool))) (y0 : Str) (h0 : (decide (t9 < ((List.length l : Nat) : Int))) = true) (h1 : 0 ≤ t9) (h2 : ((l)[t9.toNat]?) = some y0) (h3 : (IntKind.i64.wrap (t9 + (1 : Int))) = (t9 + (1 : Int))) :
    LeadsM PP 0 (bDiffer_c0 l t9 m0).as (bDiffer_c0 l (t9 + (1 : Int)) (mIns y0 true m0)).as :=
  wW 1 [0] [ty h0, 0 ≤ t9, (List.map avS l)[t9.toNat]? = some (avS y0), mapPut (mEnts avS avB 0 m0) (List.length m0) (avS y0) (avB true) = some ((mEnts avS avB 0 (mIns y0 true m0)), List.length (mIns y0 true m0)), (AV.int .i64 (IntKind.i64.wrap (t9 + (1 : Int)))) = (.int .i64 (t9 + (1 : Int)))] [.run 5, .b 10 true, .run 6, .ans (.idx (avS y0)), .run 6, .mput (mEnts avS avB 0 (mIns y0 true m0)) (List.length (mIns y0 true m0)), .run 4, .set 15 (.int .i64 (t9 + (1 : Int))), .run 3] (by kernel_rfl) (by kernel_rfl) ⟨kl_map (fun _ => rfl) (fun _ => rfl) _ _ _, trivial⟩ ⟨h0, h1, (map_get h2), (map_put key_avS _ _ _), (congrArg (AV.int .i64) h3)⟩
theorem bDiffer_0_1 (l : (List Str)) (t9 : Int) (m0 : (List (Str × Bool))) (h0 : (decide (t9 < ((List.length l : Nat) : Int))) = false) :
    Ends PP 0 (bDiffer_c0 l t9 m0).as (.ret (.bool (((List.length m0 : Nat) : Int) == ((List.length l : Nat) : Int)))) (hpOf [] 0) :=
  wE 1 [ty h0, (AV.int .i64 ((List.length (mEnts avS avB 0 m0) : Nat) : Int)) = (.int .i64 ((List.length m0 : Nat) : Int)), ((List.length (List.map avS l) : Nat) : Int) = ((List.length l : Nat) : Int)] [.run 5, .b 10 false, .run 6, .set 17 (.int .i64 ((List.length m0 : Nat) : Int)), .run 1, .ans (.len ((List.length l : Nat) : Int)), .run 4] (by kernel_rfl) (by kernel_rfl) trivial ⟨h0, (len_ents _ _ _), (len_i _ _)⟩
end Go.Hb

namespace Go.Hb
open Go.Proofs
set_option maxHeartbeats 2000000
/-! ### patterns -/
theorem bEvP_loop (l : List Pat) (p : Prog) (hl : l.length < 1000000) (ih : ∀ q ∈ l, Pure PP 133 [Prog.av p, Pat.av q] (.bool (patOk p.cons q))) :
    ∀ (t : List Pat) (i : Nat), l.drop i = t → Ends PP 0 (bEvP_c0 l p (i : Int)).as (.ret (.bool (patsOk p.cons t))) (hpOf [] 0)
  | [], i, h => by
    have := dropN h
    exact Ends.eqv (bEvP_0_2 l p i (by (simp only [decide_eq_true_eq, decide_eq_false_iff_not]; omega))) (by simp [patsOk])
  | .mk f n s ps :: t, i, h => by
    obtain ⟨g1, g2, g3⟩ := dropC h
    have hq := ih (.mk f n s ps) (List.mem_of_getElem? g1)
    cases k : patOk p.cons (.mk f n s ps) with
    | false =>
      rw [k] at hq
      exact Ends.eqv (bEvP_0_0 l p i f n s ps false (by (simp only [decide_eq_true_eq, decide_eq_false_iff_not]; omega)) (by omega) (by assumption) hq rfl) (by simp [patsOk, k])
    | true =>
      rw [k] at hq
      refine (bEvP_0_1 l p i f n s ps true (by (simp only [decide_eq_true_eq, decide_eq_false_iff_not]; omega)) (by omega) (by assumption) hq rfl (by (apply wrap64 <;> omega))).ends ?_
      exact Ends.eqv (bEvP_loop l p hl ih t (i + 1) g2) (by simp [patsOk, k])
theorem bEvP_pure (l : List Pat) (p : Prog) (hl : l.length < 1000000) (ih : ∀ q ∈ l, Pure PP 133 [Prog.av p, Pat.av q] (.bool (patOk p.cons q))) :
    Pure PP 135 [.ilst 4 (Pats.av l) false, .func 133 [Prog.av p] []] (.bool (patsOk p.cons l)) :=
  pure_at (by kernel_rfl) (by simp [AV.keylessL, AV.keyless, Prog.av]) rfl ((bEvP_E_0 l p).ends (bEvP_loop l p hl ih l 0 rfl))

theorem bPat_E (p : Prog) (q_form q_n : Int) (q_text : Str) (q_parts : List Pat) (hc : p.cons.length ≤ 1000) (hev : Pure PP 135 [.ilst 4 (Pats.av q_parts) false, .func 133 [Prog.av p] []] (.bool (patsOk p.cons q_parts))) :
    Ends PP 0 (start PP 133 [Prog.av p, Pat.av (.mk q_form q_n q_text q_parts)]).as (.ret (.bool (patOk p.cons (.mk q_form q_n q_text q_parts)))) (hpOf [] 0) := by
  have hw : IntKind.i64.wrap ((p.cons.length : Int) - 1) = (p.cons.length : Int) - 1 := by apply wrap64 <;> omega
  cases hb1 : (!(strEq (List.length q_text) (bytesNat q_text) 0 0)) with
  | true =>
    exact Ends.eqv (bPat_E_0 p q_form q_n q_text q_parts   hb1) (by clear hev; simp_all [patOk, patHead, argsAt, strEq_nil, len_beq] <;> rfl)
  | false =>
    cases hb2 : (!(patsOk p.cons q_parts)) with
    | true =>
      exact Ends.eqv (bPat_E_1 p q_form q_n q_text q_parts  (patsOk p.cons q_parts) hb1 hev hb2) (by clear hev; simp_all [patOk, patHead, argsAt, strEq_nil, len_beq] <;> rfl)
    | false =>
      cases hb3 : (q_form == (1 : Int)) with
      | true =>
        cases hb4 : (q_n == (0 : Int)) with
        | true =>
          exact Ends.eqv (bPat_E_2 p q_form q_n q_text q_parts  (patsOk p.cons q_parts) hb1 hev hb2 hb3 hb4) (by clear hev; simp_all [patOk, patHead, argsAt, strEq_nil, len_beq] <;> rfl)
        | false =>
          exact Ends.eqv (bPat_E_3 p q_form q_n q_text q_parts  (patsOk p.cons q_parts) hb1 hev hb2 hb3 hb4) (by clear hev; simp_all [patOk, patHead, argsAt, strEq_nil, len_beq] <;> rfl)
      | false =>
        cases hb5 : (q_form == (2 : Int)) with
        | true =>
          cases hb6 : (q_n == (0 : Int)) with
          | true =>
            exact Ends.eqv (bPat_E_4 p q_form q_n q_text q_parts  (patsOk p.cons q_parts) hb1 hev hb2 hb3 hb5 hb6) (by clear hev; simp_all [patOk, patHead, argsAt, strEq_nil, len_beq] <;> rfl)
          | false =>
            exact Ends.eqv (bPat_E_5 p q_form q_n q_text q_parts  (patsOk p.cons q_parts) hb1 hev hb2 hb3 hb5 hb6) (by clear hev; simp_all [patOk, patHead, argsAt, strEq_nil, len_beq] <;> rfl)
        | false =>
          cases hb7 : (q_form == (5 : Int)) with
          | true =>
            cases hb8 : (q_n == (0 : Int)) with
            | true =>
              exact Ends.eqv (bPat_E_6 p q_form q_n q_text q_parts  (patsOk p.cons q_parts) hb1 hev hb2 hb3 hb5 hb7 hb8) (by clear hev; simp_all [patOk, patHead, argsAt, strEq_nil, len_beq] <;> rfl)
            | false =>
              exact Ends.eqv (bPat_E_7 p q_form q_n q_text q_parts  (patsOk p.cons q_parts) hb1 hev hb2 hb3 hb5 hb7 hb8) (by clear hev; simp_all [patOk, patHead, argsAt, strEq_nil, len_beq] <;> rfl)
          | false =>
            cases hb9 : (q_form == (3 : Int)) with
            | true =>
              cases hb10 : (inB q_n (-1000000000) 1000000000) with
              | true =>
                exact Ends.eqv (bPat_E_8 p q_form q_n q_text q_parts  (patsOk p.cons q_parts) (inB q_n (-1000000000) 1000000000) hb1 hev hb2 hb3 hb5 hb7 hb9 (bInt_pure q_n) hb10) (by clear hev; simp_all [patOk, patHead, argsAt, strEq_nil, len_beq] <;> rfl)
              | false =>
                exact Ends.eqv (bPat_E_9 p q_form q_n q_text q_parts  (patsOk p.cons q_parts) (inB q_n (-1000000000) 1000000000) hb1 hev hb2 hb3 hb5 hb7 hb9 (bInt_pure q_n) hb10) (by clear hev; simp_all [patOk, patHead, argsAt, strEq_nil, len_beq] <;> rfl)
            | false =>
              cases hb11 : (q_form == (4 : Int)) with
              | true =>
                cases hb12 : (inB q_n 0 1) with
                | true =>
                  exact Ends.eqv (bPat_E_10 p q_form q_n q_text q_parts  (patsOk p.cons q_parts) (inB q_n 0 1) hb1 hev hb2 hb3 hb5 hb7 hb9 hb11 (bIn_pure q_n 0 1) hb12) (by clear hev; simp_all [patOk, patHead, argsAt, strEq_nil, len_beq] <;> rfl)
                | false =>
                  exact Ends.eqv (bPat_E_11 p q_form q_n q_text q_parts  (patsOk p.cons q_parts) (inB q_n 0 1) hb1 hev hb2 hb3 hb5 hb7 hb9 hb11 (bIn_pure q_n 0 1) hb12) (by clear hev; simp_all [patOk, patHead, argsAt, strEq_nil, len_beq] <;> rfl)
              | false =>
                cases hb13 : (q_form == (6 : Int)) with
                | true =>
                  cases hb14 : (inB q_n 0 (IntKind.i64.wrap (((List.length p.cons : Nat) : Int) - (1 : Int)))) with
                  | true =>
                    obtain ⟨y2, hx15⟩ : ∃ y, ((p.cons)[q_n.toNat]?) = some y := by (exact ⟨_, List.getElem?_eq_getElem (by ((simp_all only [inB_iff, inB_not, beq_iff_eq, decide_eq_true_eq, decide_eq_false_iff_not] <;> omega)))⟩)
                    exact Ends.eqv (bPat_E_12 p q_form q_n q_text q_parts  (patsOk p.cons q_parts) (inB q_n 0 (IntKind.i64.wrap (((List.length p.cons : Nat) : Int) - (1 : Int)))) y2 hb1 hev hb2 hb3 hb5 hb7 hb9 hb11 hb13 (bIn_pure q_n 0 (IntKind.i64.wrap (((List.length p.cons : Nat) : Int) - (1 : Int)))) hb14 (by (simp_all only [inB_iff, inB_not, beq_iff_eq, decide_eq_true_eq, decide_eq_false_iff_not] <;> omega)) hx15) (by clear hev; simp_all [patOk, patHead, argsAt, strEq_nil, len_beq] <;> rfl)
                  | false =>
                    exact Ends.eqv (bPat_E_13 p q_form q_n q_text q_parts  (patsOk p.cons q_parts) (inB q_n 0 (IntKind.i64.wrap (((List.length p.cons : Nat) : Int) - (1 : Int)))) hb1 hev hb2 hb3 hb5 hb7 hb9 hb11 hb13 (bIn_pure q_n 0 (IntKind.i64.wrap (((List.length p.cons : Nat) : Int) - (1 : Int)))) hb14) (by clear hev; simp_all [patOk, patHead, argsAt, strEq_nil, len_beq] <;> rfl)
                | false =>
                  exact Ends.eqv (bPat_E_14 p q_form q_n q_text q_parts  (patsOk p.cons q_parts) hb1 hev hb2 hb3 hb5 hb7 hb9 hb11 hb13) (by clear hev; simp_all [patOk, patHead, argsAt, strEq_nil, len_beq] <;> rfl)
mutual
theorem bPat_pure (p : Prog) (hc : p.cons.length ≤ 1000) : ∀ (q : Pat), psize q < 1000000 → Pure PP 133 [Prog.av p, Pat.av q] (.bool (patOk p.cons q))
  | .mk f n s ps, h => by
    refine pure_at (by kernel_rfl) (by simp [AV.keylessL, pat_kl, AV.keyless, Prog.av]) rfl ?_
    simp only [psize] at h
    have := psizes_len ps
    exact bPat_E p f n s ps hc (bEvP_pure ps p (by omega) (bPat_all p hc ps (by omega)))
theorem bPat_all (p : Prog) (hc : p.cons.length ≤ 1000) : ∀ (ps : List Pat), psizes ps < 1000000 → ∀ q ∈ ps, Pure PP 133 [Prog.av p, Pat.av q] (.bool (patOk p.cons q))
  | [], _, q, hq => by cases hq
  | r :: ps, h, q, hq => by
    simp only [psizes] at h
    rcases List.mem_cons.1 hq with e | hq
    · rw [e]; exact bPat_pure p hc r (by omega)
    · exact bPat_all p hc ps (by omega) q hq
end
/-! ### kids -/
def fixedK (op : Int) : Option Int :=
  if op = 1 ∨ op = 2 ∨ op = 3 ∨ op = 4 ∨ op = 21 ∨ op = 25 ∨ op = 28 then some 0
  else if op = 5 ∨ op = 27 ∨ op = 16 ∨ op = 17 ∨ op = 19 ∨ op = 20 ∨ op = 23 ∨ op = 26 ∨ op = 24 then some 1
  else if op = 6 ∨ op = 7 ∨ op = 9 ∨ op = 10 ∨ op = 11 ∨ op = 12 ∨ op = 13 ∨ op = 18 ∨ op = 22 then some 2
  else if op = 8 then some 3 else none
def kidsOfV (op : Int) : AV :=
  match fixedK op with
  | some k => .iface 231 (.int .i64 k)
  | none => if op = 15 then .iface 189 (.agg []) else if op = 14 then .iface 232 (.agg []) else .nili
theorem kidsN_fixed {op k : Int} (h : fixedK op = some k) (pats args : Int) : kidsN op pats args = k ∧ op ≠ 15 ∧ op ≠ 14 := by
  unfold fixedK at h
  unfold kidsN
  split at h
  · rename_i g; rw [if_pos g]; simp only [Option.some.injEq] at h; refine ⟨h, ?_, ?_⟩ <;> omega
  · rename_i g0; rw [if_neg g0]
    split at h
    · rename_i g; rw [if_pos g]; simp only [Option.some.injEq] at h; refine ⟨h, ?_, ?_⟩ <;> omega
    · rename_i g1; rw [if_neg g1]
      split at h
      · rename_i g; rw [if_pos g]; simp only [Option.some.injEq] at h; refine ⟨h, ?_, ?_⟩ <;> omega
      · rename_i g2; rw [if_neg g2]
        split at h
        · rename_i g; rw [if_pos g]; simp only [Option.some.injEq] at h; refine ⟨h, ?_, ?_⟩ <;> omega
        · cases h
theorem kidsN_none {op : Int} (h : fixedK op = none) (pats args : Int) : kidsN op pats args = if op = 15 then 1 + pats else if op = 14 then args else -1 := by
  unfold fixedK at h
  unfold kidsN
  split at h
  · cases h
  · rename_i g0; rw [if_neg g0]
    split at h
    · cases h
    · rename_i g1; rw [if_neg g1]
      split at h
      · cases h
      · rename_i g2; rw [if_neg g2]
        split at h
        · cases h
        · rename_i g; rw [if_neg g]

theorem bKidsOf_E (op : Int) : Ends PP 0 (start PP 130 [.int .i64 op]).as (.ret (kidsOfV op)) (hpOf [] 0) := by
  cases hb1 : (op == (1 : Int)) with
  | true =>
    exact Ends.eqv (bKidsOf_E_0 op   hb1) (by simp_all [kidsOfV, fixedK])
  | false =>
    cases hb2 : (op == (2 : Int)) with
    | true =>
      exact Ends.eqv (bKidsOf_E_1 op   hb1 hb2) (by simp_all [kidsOfV, fixedK])
    | false =>
      cases hb3 : (op == (3 : Int)) with
      | true =>
        exact Ends.eqv (bKidsOf_E_2 op   hb1 hb2 hb3) (by simp_all [kidsOfV, fixedK])
      | false =>
        cases hb4 : (op == (4 : Int)) with
        | true =>
          exact Ends.eqv (bKidsOf_E_3 op   hb1 hb2 hb3 hb4) (by simp_all [kidsOfV, fixedK])
        | false =>
          cases hb5 : (op == (21 : Int)) with
          | true =>
            exact Ends.eqv (bKidsOf_E_4 op   hb1 hb2 hb3 hb4 hb5) (by simp_all [kidsOfV, fixedK])
          | false =>
            cases hb6 : (op == (25 : Int)) with
            | true =>
              exact Ends.eqv (bKidsOf_E_5 op   hb1 hb2 hb3 hb4 hb5 hb6) (by simp_all [kidsOfV, fixedK])
            | false =>
              cases hb7 : (op == (28 : Int)) with
              | true =>
                exact Ends.eqv (bKidsOf_E_6 op   hb1 hb2 hb3 hb4 hb5 hb6 hb7) (by simp_all [kidsOfV, fixedK])
              | false =>
                cases hb8 : (op == (5 : Int)) with
                | true =>
                  exact Ends.eqv (bKidsOf_E_7 op   hb1 hb2 hb3 hb4 hb5 hb6 hb7 hb8) (by simp_all [kidsOfV, fixedK])
                | false =>
                  cases hb9 : (op == (27 : Int)) with
                  | true =>
                    exact Ends.eqv (bKidsOf_E_8 op   hb1 hb2 hb3 hb4 hb5 hb6 hb7 hb8 hb9) (by simp_all [kidsOfV, fixedK])
                  | false =>
                    cases hb10 : (op == (16 : Int)) with
                    | true =>
                      exact Ends.eqv (bKidsOf_E_9 op   hb1 hb2 hb3 hb4 hb5 hb6 hb7 hb8 hb9 hb10) (by simp_all [kidsOfV, fixedK])
                    | false =>
                      cases hb11 : (op == (17 : Int)) with
                      | true =>
                        exact Ends.eqv (bKidsOf_E_10 op   hb1 hb2 hb3 hb4 hb5 hb6 hb7 hb8 hb9 hb10 hb11) (by simp_all [kidsOfV, fixedK])
                      | false =>
                        cases hb12 : (op == (19 : Int)) with
                        | true =>
                          exact Ends.eqv (bKidsOf_E_11 op   hb1 hb2 hb3 hb4 hb5 hb6 hb7 hb8 hb9 hb10 hb11 hb12) (by simp_all [kidsOfV, fixedK])
                        | false =>
                          cases hb13 : (op == (20 : Int)) with
                          | true =>
                            exact Ends.eqv (bKidsOf_E_12 op   hb1 hb2 hb3 hb4 hb5 hb6 hb7 hb8 hb9 hb10 hb11 hb12 hb13) (by simp_all [kidsOfV, fixedK])
                          | false =>
                            cases hb14 : (op == (23 : Int)) with
                            | true =>
                              exact Ends.eqv (bKidsOf_E_13 op   hb1 hb2 hb3 hb4 hb5 hb6 hb7 hb8 hb9 hb10 hb11 hb12 hb13 hb14) (by simp_all [kidsOfV, fixedK])
                            | false =>
                              cases hb15 : (op == (24 : Int)) with
                              | true =>
                                exact Ends.eqv (bKidsOf_E_14 op   hb1 hb2 hb3 hb4 hb5 hb6 hb7 hb8 hb9 hb10 hb11 hb12 hb13 hb14 hb15) (by simp_all [kidsOfV, fixedK])
                              | false =>
                                cases hb16 : (op == (26 : Int)) with
                                | true =>
                                  exact Ends.eqv (bKidsOf_E_15 op   hb1 hb2 hb3 hb4 hb5 hb6 hb7 hb8 hb9 hb10 hb11 hb12 hb13 hb14 hb15 hb16) (by simp_all [kidsOfV, fixedK])
                                | false =>
                                  cases hb17 : (op == (6 : Int)) with
                                  | true =>
                                    exact Ends.eqv (bKidsOf_E_16 op   hb1 hb2 hb3 hb4 hb5 hb6 hb7 hb8 hb9 hb10 hb11 hb12 hb13 hb14 hb15 hb16 hb17) (by simp_all [kidsOfV, fixedK])
                                  | false =>
                                    cases hb18 : (op == (7 : Int)) with
                                    | true =>
                                      exact Ends.eqv (bKidsOf_E_17 op   hb1 hb2 hb3 hb4 hb5 hb6 hb7 hb8 hb9 hb10 hb11 hb12 hb13 hb14 hb15 hb16 hb17 hb18) (by simp_all [kidsOfV, fixedK])
                                    | false =>
                                      cases hb19 : (op == (9 : Int)) with
                                      | true =>
                                        exact Ends.eqv (bKidsOf_E_18 op   hb1 hb2 hb3 hb4 hb5 hb6 hb7 hb8 hb9 hb10 hb11 hb12 hb13 hb14 hb15 hb16 hb17 hb18 hb19) (by simp_all [kidsOfV, fixedK])
                                      | false =>
                                        cases hb20 : (op == (10 : Int)) with
                                        | true =>
                                          exact Ends.eqv (bKidsOf_E_19 op   hb1 hb2 hb3 hb4 hb5 hb6 hb7 hb8 hb9 hb10 hb11 hb12 hb13 hb14 hb15 hb16 hb17 hb18 hb19 hb20) (by simp_all [kidsOfV, fixedK])
                                        | false =>
                                          cases hb21 : (op == (11 : Int)) with
                                          | true =>
                                            exact Ends.eqv (bKidsOf_E_20 op   hb1 hb2 hb3 hb4 hb5 hb6 hb7 hb8 hb9 hb10 hb11 hb12 hb13 hb14 hb15 hb16 hb17 hb18 hb19 hb20 hb21) (by simp_all [kidsOfV, fixedK])
                                          | false =>
                                            cases hb22 : (op == (12 : Int)) with
                                            | true =>
                                              exact Ends.eqv (bKidsOf_E_21 op   hb1 hb2 hb3 hb4 hb5 hb6 hb7 hb8 hb9 hb10 hb11 hb12 hb13 hb14 hb15 hb16 hb17 hb18 hb19 hb20 hb21 hb22) (by simp_all [kidsOfV, fixedK])
                                            | false =>
                                              cases hb23 : (op == (13 : Int)) with
                                              | true =>
                                                exact Ends.eqv (bKidsOf_E_22 op   hb1 hb2 hb3 hb4 hb5 hb6 hb7 hb8 hb9 hb10 hb11 hb12 hb13 hb14 hb15 hb16 hb17 hb18 hb19 hb20 hb21 hb22 hb23) (by simp_all [kidsOfV, fixedK])
                                              | false =>
                                                cases hb24 : (op == (18 : Int)) with
                                                | true =>
                                                  exact Ends.eqv (bKidsOf_E_23 op   hb1 hb2 hb3 hb4 hb5 hb6 hb7 hb8 hb9 hb10 hb11 hb12 hb13 hb14 hb15 hb16 hb17 hb18 hb19 hb20 hb21 hb22 hb23 hb24) (by simp_all [kidsOfV, fixedK])
                                                | false =>
                                                  cases hb25 : (op == (22 : Int)) with
                                                  | true =>
                                                    exact Ends.eqv (bKidsOf_E_24 op   hb1 hb2 hb3 hb4 hb5 hb6 hb7 hb8 hb9 hb10 hb11 hb12 hb13 hb14 hb15 hb16 hb17 hb18 hb19 hb20 hb21 hb22 hb23 hb24 hb25) (by simp_all [kidsOfV, fixedK])
                                                  | false =>
                                                    cases hb26 : (op == (8 : Int)) with
                                                    | true =>
                                                      exact Ends.eqv (bKidsOf_E_25 op   hb1 hb2 hb3 hb4 hb5 hb6 hb7 hb8 hb9 hb10 hb11 hb12 hb13 hb14 hb15 hb16 hb17 hb18 hb19 hb20 hb21 hb22 hb23 hb24 hb25 hb26) (by simp_all [kidsOfV, fixedK])
                                                    | false =>
                                                      cases hb27 : (op == (14 : Int)) with
                                                      | true =>
                                                        exact Ends.eqv (bKidsOf_E_26 op   hb1 hb2 hb3 hb4 hb5 hb6 hb7 hb8 hb9 hb10 hb11 hb12 hb13 hb14 hb15 hb16 hb17 hb18 hb19 hb20 hb21 hb22 hb23 hb24 hb25 hb26 hb27) (by simp_all [kidsOfV, fixedK])
                                                      | false =>
                                                        cases hb28 : (op == (15 : Int)) with
                                                        | true =>
                                                          exact Ends.eqv (bKidsOf_E_27 op   hb1 hb2 hb3 hb4 hb5 hb6 hb7 hb8 hb9 hb10 hb11 hb12 hb13 hb14 hb15 hb16 hb17 hb18 hb19 hb20 hb21 hb22 hb23 hb24 hb25 hb26 hb27 hb28) (by simp_all [kidsOfV, fixedK])
                                                        | false =>
                                                          exact Ends.eqv (bKidsOf_E_28 op   hb1 hb2 hb3 hb4 hb5 hb6 hb7 hb8 hb9 hb10 hb11 hb12 hb13 hb14 hb15 hb16 hb17 hb18 hb19 hb20 hb21 hb22 hb23 hb24 hb25 hb26 hb27 hb28) (by simp_all [kidsOfV, fixedK])
theorem kidsOfV_kl (op : Int) : AV.keyless (kidsOfV op) = true := by
  unfold kidsOfV; split
  · rfl
  · split
    · rfl
    · split <;> rfl
theorem bKidsOf_pure (op : Int) : Pure PP 130 [.int .i64 op] (kidsOfV op) :=
  pure_at (by kernel_rfl) rfl (kidsOfV_kl op) (bKidsOf_E op)
/-! ### nodes -/
theorem bNode_loop (p : Prog) (x : Node) (hc : p.cons.length ≤ 1000) (hx : x.pats.length ≤ 10) :
    ∀ (t : List Pat) (i : Nat), x.pats.drop i = t → Ends PP 0 (bNode_c0 p x (i : Int)).as (.ret (.bool (t.all (nodePat p.cons)))) (hpOf [] 0)
  | [], i, h => by
    have := dropN h
    exact Ends.eqv (bNode_0_3 p x i (by (simp only [decide_eq_true_eq, decide_eq_false_iff_not]; omega))) (by simp)
  | .mk f n s ps :: t, i, h => by
    obtain ⟨g1, g2, g3⟩ := dropC h
    have hs := bSize_pure (.mk f n s ps) 12 (by omega) (by omega)
    by_cases k : psize (.mk f n s ps) ≤ 12
    · have hg : bsize (.mk f n s ps) 12 ≤ 12 := (bsize_iff (.mk f n s ps) 12 (by omega)).2 (by omega)
      have hq := bPat_pure p hc (.mk f n s ps) (by omega)
      cases kq : patOk p.cons (.mk f n s ps) with
      | false =>
        rw [kq] at hq
        exact Ends.eqv (bNode_0_0 p x i f n s ps _ false (by (simp only [decide_eq_true_eq, decide_eq_false_iff_not]; omega)) (by omega) (by assumption) hs (decide_eq_true hg) hq rfl) (by simp [nodePat, kq])
      | true =>
        rw [kq] at hq
        refine (bNode_0_1 p x i f n s ps _ true (by (simp only [decide_eq_true_eq, decide_eq_false_iff_not]; omega)) (by omega) (by assumption) hs (decide_eq_true hg) hq rfl (by (apply wrap64 <;> omega))).ends ?_
        exact Ends.eqv (bNode_loop p x hc hx t (i + 1) g2) (by simp [nodePat, k, kq])
    · have hg : ¬ bsize (.mk f n s ps) 12 ≤ 12 := fun g => k (by have := (bsize_iff (.mk f n s ps) 12 (by omega)).1 g; omega)
      exact Ends.eqv (bNode_0_2 p x i f n s ps _ (by (simp only [decide_eq_true_eq, decide_eq_false_iff_not]; omega)) (by omega) (by assumption) hs (decide_eq_false hg)) (by simp [nodePat, k])
theorem bNode_pure (p : Prog) (x : Node) (hc : p.cons.length ≤ 1000) (hf : p.funs.length ≤ 1000) (hx : x.pats.length ≤ 10) (hk : x.kids.length ≤ 10) : Pure PP 79 [Prog.av p, Node.av x] (.bool (nodeOk p x)) := by
  refine pure_at (by kernel_rfl) rfl rfl ?_
  have hw : IntKind.i64.wrap ((p.cons.length : Int) - 1) = (p.cons.length : Int) - 1 := by apply wrap64 <;> omega
  have hko := bKidsOf_pure x.op
  have hn := bNumber_pure p x hf
  have hl := bNode_loop p x hc hx x.pats 0 rfl
  cases kf : fixedK x.op with
  | some k =>
    obtain ⟨e1, e2, e3⟩ := kidsN_fixed kf (x.pats.length : Int) (nodeArgs p x)
    have ev : kidsOfV x.op = .iface 231 (.int .i64 k) := by unfold kidsOfV; rw [kf]
    rw [ev] at hko
    have en : nodeOk p x = (numOk p x && decide (x.pats.length = 0) && x.pats.all (nodePat p.cons) && decide ((x.kids.length : Int) = k)) := by
      simp only [nodeOk, nodeHead, numOk, e1, if_neg e2, if_neg e3]
    rw [en]
    by_cases g0 : x.pats.length = 0
    · by_cases g1 : (x.kids.length : Int) = k
      · have b1 : (((List.length x.kids : Nat) : Int) == k) = true := by simp [g1]
        cases g2 : numOk p x with
        | false =>
          rw [g2] at hn
          exact Ends.eqv (bNode_E_11 p x k false hko (by (simp only [decide_eq_true_eq, decide_eq_false_iff_not]; omega)) b1 hn rfl) (by simp)
        | true =>
          rw [g2] at hn
          refine (bNode_E_10 p x k true hko (by (simp only [decide_eq_true_eq, decide_eq_false_iff_not]; omega)) b1 hn rfl).ends ?_
          exact Ends.eqv hl (by simp [g0, g1])
      · have b1 : (((List.length x.kids : Nat) : Int) == k) = false := by simp [g1]
        exact Ends.eqv (bNode_E_12 p x k hko (by (simp only [decide_eq_true_eq, decide_eq_false_iff_not]; omega)) b1) (by simp [g1])
    · exact Ends.eqv (bNode_E_9 p x k hko (by (simp only [decide_eq_true_eq, decide_eq_false_iff_not]; omega))) (by simp [g0])
  | none =>
    have e1 := kidsN_none kf (x.pats.length : Int) (nodeArgs p x)
    by_cases h15 : x.op = 15
    · have ev : kidsOfV x.op = .iface 189 (.agg []) := by unfold kidsOfV; rw [kf]; simp only [h15, if_true]
      rw [ev] at hko
      have en : nodeOk p x = (numOk p x && inB (x.pats.length : Int) 1 5 && x.pats.all (nodePat p.cons) && decide ((x.kids.length : Int) = 1 + (x.pats.length : Int))) := by
        simp only [nodeOk, nodeHead, numOk, e1, if_pos h15, if_neg (show ¬ x.op = 14 by omega)]
      rw [en]
      have hi := bIn_pure (x.pats.length : Int) 1 5
      cases g0 : inB (x.pats.length : Int) 1 5 with
      | false =>
        rw [g0] at hi
        exact Ends.eqv (bNode_E_3 p x false hko hi rfl) (by simp)
      | true =>
        rw [g0] at hi
        by_cases g1 : (x.kids.length : Int) = 1 + (x.pats.length : Int)
        · have b1 : (((List.length x.kids : Nat) : Int) == ((1 : Int) + ((List.length x.pats : Nat) : Int))) = true := by simp [g1]
          cases g2 : numOk p x with
          | false =>
            rw [g2] at hn
            exact Ends.eqv (bNode_E_1 p x true false hko hi rfl (by (apply wrap64 <;> omega)) b1 hn rfl) (by simp)
          | true =>
            rw [g2] at hn
            refine (bNode_E_0 p x true true hko hi rfl (by (apply wrap64 <;> omega)) b1 hn rfl).ends ?_
            exact Ends.eqv hl (by simp [g1])
        · have b1 : (((List.length x.kids : Nat) : Int) == ((1 : Int) + ((List.length x.pats : Nat) : Int))) = false := by simp [g1]
          exact Ends.eqv (bNode_E_2 p x true hko hi rfl (by (apply wrap64 <;> omega)) b1) (by simp [g1])
    · by_cases h14 : x.op = 14
      · have ev : kidsOfV x.op = .iface 232 (.agg []) := by unfold kidsOfV; rw [kf]; simp [h14]
        rw [ev] at hko
        have en : nodeOk p x = (inB x.n 0 ((p.cons.length : Int) - 1) && decide (x.pats.length = 0) && x.pats.all (nodePat p.cons) && decide ((x.kids.length : Int) = nodeArgs p x)) := by
          simp only [nodeOk, nodeHead, nodeHead1, e1, if_neg h15, if_pos h14, if_neg (show ¬ x.op = 1 by omega), if_neg (show ¬ x.op = 2 by omega), if_neg (show ¬ x.op = 4 by omega), if_neg (show ¬ x.op = 24 by omega)]
        rw [en]
        by_cases g0 : x.pats.length = 0
        · have hi := bIn_pure x.n 0 ((p.cons.length : Int) - 1)
          rw [← hw] at hi
          cases g1 : inB x.n 0 ((p.cons.length : Int) - 1) with
          | false =>
            rw [hw, g1, ← hw] at hi
            exact Ends.eqv (bNode_E_8 p x false hko (by (simp only [decide_eq_true_eq, decide_eq_false_iff_not]; omega)) hi rfl) (by simp)
          | true =>
            rw [hw, g1, ← hw] at hi
            have hb := inB_iff.1 g1
            obtain ⟨c, hcx⟩ : ∃ c, p.cons[x.n.toNat]? = some c := ⟨_, List.getElem?_eq_getElem (by omega)⟩
            have ea : nodeArgs p x = c.args := by simp [nodeArgs, h14, g1, argsAt, hcx]
            rw [ea]
            by_cases g2 : (x.kids.length : Int) = c.args
            · have b1 : (((List.length x.kids : Nat) : Int) == c.args) = true := by simp [g2]
              have hnn : numOk p x = true := by simp [numOk, h14]
              rw [hnn] at hn
              refine (bNode_E_5 p x true c true hko (by (simp only [decide_eq_true_eq, decide_eq_false_iff_not]; omega)) hi rfl (by omega) hcx b1 hn rfl).ends ?_
              exact Ends.eqv hl (by simp [g0, g2])
            · have b1 : (((List.length x.kids : Nat) : Int) == c.args) = false := by simp [g2]
              exact Ends.eqv (bNode_E_7 p x true c hko (by (simp only [decide_eq_true_eq, decide_eq_false_iff_not]; omega)) hi rfl (by omega) hcx b1) (by simp [g2])
        · exact Ends.eqv (bNode_E_4 p x hko (by (simp only [decide_eq_true_eq, decide_eq_false_iff_not]; omega))) (by simp [g0])
      · have ev : kidsOfV x.op = .nili := by unfold kidsOfV; rw [kf]; simp [h15, h14]
        rw [ev] at hko
        have en : nodeOk p x = false := by
          have : kidsN x.op x.pats.length (nodeArgs p x) = -1 := by rw [e1, if_neg h15, if_neg h14]
          have h2 : ¬ (x.kids.length : Int) = -1 := by omega
          simp [nodeOk, this, h2]
        rw [en]
        exact bNode_E_13 p x hko
end Go.Hb

