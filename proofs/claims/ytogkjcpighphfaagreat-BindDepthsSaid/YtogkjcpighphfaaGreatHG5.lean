/-
  OWN WORK (the ways WRITTEN BY A PROGRAM): what the program's Check answers; it is the reference's answer.
-/
import Derived.Test.YtogkjcpighphfaaGreatHG4
set_option linter.unusedVariables false
set_option linter.unusedSimpArgs false
set_option linter.unusedSectionVars false
namespace Go.Hb
open Go.Proofs
noncomputable def bEvN_c0 (l : (List Node)) (p : Prog) (t8 : Int) : TS :=
  { fr := { fn := 111, nt := 19, sl := [(0, (.ilst 4 (List.map Node.av l) false)), (1, (.func 129 [] [(.ptr 0 0)])), (4, (.int .i64 0)), (7, (.int .i64 ((List.length l : Nat) : Int))), (8, (.int .i64 t8))], todo := [.code (cd Tryz.f111 [1, 0, 1, 0, 0]), .inLoop (cd Tryz.f111 [1, 0, 1, 0, 0]), .inBlock 0, .code (cd Tryz.f111 [1, 1])] }, cs := [{ fn := 62, nt := 9, sl := [(4, (.bool false)), (5, (.ilst 4 (List.map Node.av l) false)), (6, (.func 129 [] [(.ptr 0 0)]))], todo := [opsAt Tryz.f62 [1, 0] 2, .code (cd Tryz.f62 [1, 1])] }, { fn := 78, nt := 9, sl := [(4, (.bool false)), (5, (.ilst 4 (List.map Node.av l) false)), (6, (.func 129 [] [(.ptr 0 0)]))], todo := [opsAt Tryz.f78 [1, 0] 2, .code (cd Tryz.f78 [1, 1])] }], hp := [(0, (.cells (putCells .leaf 0 [(.func 79 [(Prog.av p)] [])]) 1 [] false), false)], nb := 1 }
theorem bEvN_E_0 (l : (List Node)) (p : Prog) :
    LeadsM PP 0 (start PP 78 [(.ilst 4 (List.map Node.av l) false), (.func 79 [(Prog.av p)] [])]).as (bEvN_c0 l p 0).as :=
  wW 1 [0] [((List.length (List.map Node.av l) : Nat) : Int) = ((List.length l : Nat) : Int)] [.run 27, .ans (.len ((List.length l : Nat) : Int)), .run 4] (by kernel_rfl) (by kernel_rfl) trivial (len_i _ _)
theorem bEvN_0_0 (l : (List Node)) (p : Prog) (t8 : Int) (y0 : Node) (y1 : Bool) (h0 : (decide (t8 < ((List.length l : Nat) : Int))) = true) (h1 : 0 ≤ t8) (h2 : ((l)[t8.toNat]?) = some y0) (h3 : Pure PP 79 [(Prog.av p), (Node.av y0)] (.bool y1)) (h4 : (!y1) = true) :
    Ends PP 0 (bEvN_c0 l p t8).as (.ret (.bool (!(decide (t8 ≥ (0 : Int)))))) (hpOf [] 0) :=
  wE 2 [ty h0, 0 ≤ t8, (List.map Node.av l)[t8.toNat]? = some (Node.av y0), ty h3, ty h4] [.run 5, .b 9 true, .run 14, .ans (.idx (Node.av y0)), .run 11, .pure (.bool y1), .run 6, .b 16 true, .run 17] (by kernel_rfl) (by kernel_rfl) trivial ⟨h0, h1, (map_get h2), h3, h4⟩
theorem bEvN_0_1 (l : (List Node)) (p : Prog) (t8 : Int) (y0 : Node) (y1 : Bool) (h0 : (decide (t8 < ((List.length l : Nat) : Int))) = true) (h1 : 0 ≤ t8) (h2 : ((l)[t8.toNat]?) = some y0) (h3 : Pure PP 79 [(Prog.av p), (Node.av y0)] (.bool y1)) (h4 : (!y1) = false) (h5 : (IntKind.i64.wrap (t8 + (1 : Int))) = (t8 + (1 : Int))) :
    LeadsM PP 0 (bEvN_c0 l p t8).as (bEvN_c0 l p (t8 + (1 : Int))).as :=
  wW 2 [0] [ty h0, 0 ≤ t8, (List.map Node.av l)[t8.toNat]? = some (Node.av y0), ty h3, ty h4, (AV.int .i64 (IntKind.i64.wrap (t8 + (1 : Int)))) = (.int .i64 (t8 + (1 : Int)))] [.run 5, .b 9 true, .run 14, .ans (.idx (Node.av y0)), .run 11, .pure (.bool y1), .run 6, .b 16 false, .run 5, .set 18 (.int .i64 (t8 + (1 : Int))), .run 3] (by kernel_rfl) (by kernel_rfl) trivial ⟨h0, h1, (map_get h2), h3, h4, (congrArg (AV.int .i64) h5)⟩
theorem bEvN_0_2 (l : (List Node)) (p : Prog) (t8 : Int) (h0 : (decide (t8 < ((List.length l : Nat) : Int))) = false) :
    Ends PP 0 (bEvN_c0 l p t8).as (.ret (.bool true)) (hpOf [] 0) :=
  wE 1 [ty h0] [.run 5, .b 9 false, .run 17] (by kernel_rfl) (by kernel_rfl) trivial h0
noncomputable def bEvC_c0 (l : (List Con)) (t8 : Int) : TS :=
  { fr := { fn := 44, nt := 19, sl := [(0, (.ilst 2 (List.map Con.av l) false)), (1, (.func 127 [] [(.ptr 0 0)])), (4, (.int .i64 0)), (7, (.int .i64 ((List.length l : Nat) : Int))), (8, (.int .i64 t8))], todo := [.code (cd Tryz.f44 [1, 0, 1, 0, 0]), .inLoop (cd Tryz.f44 [1, 0, 1, 0, 0]), .inBlock 0, .code (cd Tryz.f44 [1, 1])] }, cs := [{ fn := 126, nt := 9, sl := [(4, (.bool false)), (5, (.ilst 2 (List.map Con.av l) false)), (6, (.func 127 [] [(.ptr 0 0)]))], todo := [opsAt Tryz.f126 [1, 0] 2, .code (cd Tryz.f126 [1, 1])] }, { fn := 73, nt := 9, sl := [(4, (.bool false)), (5, (.ilst 2 (List.map Con.av l) false)), (6, (.func 127 [] [(.ptr 0 0)]))], todo := [opsAt Tryz.f73 [1, 0] 2, .code (cd Tryz.f73 [1, 1])] }], hp := [(0, (.cells (putCells .leaf 0 [(.func 74 [] [])]) 1 [] false), false)], nb := 1 }
theorem bEvC_E_0 (l : (List Con)) :
    LeadsM PP 0 (start PP 73 [(.ilst 2 (List.map Con.av l) false), (.func 74 [] [])]).as (bEvC_c0 l 0).as :=
  wW 1 [0] [((List.length (List.map Con.av l) : Nat) : Int) = ((List.length l : Nat) : Int)] [.run 27, .ans (.len ((List.length l : Nat) : Int)), .run 4] (by kernel_rfl) (by kernel_rfl) trivial (len_i _ _)
theorem bEvC_0_0 (l : (List Con)) (t8 : Int) (y0 : Con) (y1 : Bool) (h0 : (decide (t8 < ((List.length l : Nat) : Int))) = true) (h1 : 0 ≤ t8) (h2 : ((l)[t8.toNat]?) = some y0) (h3 : Pure PP 74 [(.agg [(avS y0.name), (.int .i64 y0.args)])] (.bool y1)) (h4 : (!y1) = true) :
    Ends PP 0 (bEvC_c0 l t8).as (.ret (.bool (!(decide (t8 ≥ (0 : Int)))))) (hpOf [] 0) :=
  wE 2 [ty h0, 0 ≤ t8, (List.map Con.av l)[t8.toNat]? = some (Con.av y0), ty h3, ty h4] [.run 5, .b 9 true, .run 14, .ans (.idx (Con.av y0)), .run 11, .pure (.bool y1), .run 6, .b 16 true, .run 17] (by kernel_rfl) (by kernel_rfl) trivial ⟨h0, h1, (map_get h2), h3, h4⟩
theorem bEvC_0_1 (l : (List Con)) (t8 : Int) (y0 : Con) (y1 : Bool) (h0 : (decide (t8 < ((List.length l : Nat) : Int))) = true) (h1 : 0 ≤ t8) (h2 : ((l)[t8.toNat]?) = some y0) (h3 : Pure PP 74 [(.agg [(avS y0.name), (.int .i64 y0.args)])] (.bool y1)) (h4 : (!y1) = false) (h5 : (IntKind.i64.wrap (t8 + (1 : Int))) = (t8 + (1 : Int))) :
    LeadsM PP 0 (bEvC_c0 l t8).as (bEvC_c0 l (t8 + (1 : Int))).as :=
  wW 2 [0] [ty h0, 0 ≤ t8, (List.map Con.av l)[t8.toNat]? = some (Con.av y0), ty h3, ty h4, (AV.int .i64 (IntKind.i64.wrap (t8 + (1 : Int)))) = (.int .i64 (t8 + (1 : Int)))] [.run 5, .b 9 true, .run 14, .ans (.idx (Con.av y0)), .run 11, .pure (.bool y1), .run 6, .b 16 false, .run 5, .set 18 (.int .i64 (t8 + (1 : Int))), .run 3] (by kernel_rfl) (by kernel_rfl) trivial ⟨h0, h1, (map_get h2), h3, h4, (congrArg (AV.int .i64) h5)⟩
theorem bEvC_0_2 (l : (List Con)) (t8 : Int) (h0 : (decide (t8 < ((List.length l : Nat) : Int))) = false) :
    Ends PP 0 (bEvC_c0 l t8).as (.ret (.bool true)) (hpOf [] 0) :=
  wE 1 [ty h0] [.run 5, .b 9 false, .run 17] (by kernel_rfl) (by kernel_rfl) trivial h0
noncomputable def bEvI_c0 (l : (List Int)) (t8 : Int) : TS :=
  { fr := { fn := 183, nt := 19, sl := [(0, (.ilst 1 (List.map avI l) true)), (1, (.func 137 [] [(.ptr 0 0)])), (4, (.int .i64 0)), (7, (.int .i64 ((List.length l : Nat) : Int))), (8, (.int .i64 t8))], todo := [.code (cd Tryz.f183 [1, 0, 1, 0, 0]), .inLoop (cd Tryz.f183 [1, 0, 1, 0, 0]), .inBlock 0, .code (cd Tryz.f183 [1, 1])] }, cs := [{ fn := 136, nt := 9, sl := [(4, (.bool false)), (5, (.ilst 1 (List.map avI l) true)), (6, (.func 137 [] [(.ptr 0 0)]))], todo := [opsAt Tryz.f136 [1, 0] 2, .code (cd Tryz.f136 [1, 1])] }, { fn := 80, nt := 9, sl := [(4, (.bool false)), (5, (.ilst 1 (List.map avI l) true)), (6, (.func 137 [] [(.ptr 0 0)]))], todo := [opsAt Tryz.f80 [1, 0] 2, .code (cd Tryz.f80 [1, 1])] }], hp := [(0, (.cells (putCells .leaf 0 [(.func 81 [] [])]) 1 [] false), false)], nb := 1 }
theorem bEvI_E_0 (l : (List Int)) :
    LeadsM PP 0 (start PP 80 [(.ilst 1 (List.map avI l) true), (.func 81 [] [])]).as (bEvI_c0 l 0).as :=
  wW 1 [0] [((List.length (List.map avI l) : Nat) : Int) = ((List.length l : Nat) : Int)] [.run 27, .ans (.len ((List.length l : Nat) : Int)), .run 4] (by kernel_rfl) (by kernel_rfl) trivial (len_i _ _)
theorem bEvI_0_0 (l : (List Int)) (t8 : Int) (y0 : Int) (h0 : (decide (t8 < ((List.length l : Nat) : Int))) = true) (h1 : 0 ≤ t8) (h2 : ((l)[t8.toNat]?) = some y0) (h3 : (!(y0 == (1 : Int))) = true) :
    Ends PP 0 (bEvI_c0 l t8).as (.ret (.bool (!(decide (t8 ≥ (0 : Int)))))) (hpOf [] 0) :=
  wE 1 [ty h0, 0 ≤ t8, (List.map avI l)[t8.toNat]? = some (avI y0), ty h3] [.run 5, .b 9 true, .run 14, .ans (.idx (avI y0)), .run 29, .b 16 true, .run 17] (by kernel_rfl) (by kernel_rfl) trivial ⟨h0, h1, (map_get h2), h3⟩
theorem bEvI_0_1 (l : (List Int)) (t8 : Int) (y0 : Int) (h0 : (decide (t8 < ((List.length l : Nat) : Int))) = true) (h1 : 0 ≤ t8) (h2 : ((l)[t8.toNat]?) = some y0) (h3 : (!(y0 == (1 : Int))) = false) (h4 : (IntKind.i64.wrap (t8 + (1 : Int))) = (t8 + (1 : Int))) :
    LeadsM PP 0 (bEvI_c0 l t8).as (bEvI_c0 l (t8 + (1 : Int))).as :=
  wW 1 [0] [ty h0, 0 ≤ t8, (List.map avI l)[t8.toNat]? = some (avI y0), ty h3, (AV.int .i64 (IntKind.i64.wrap (t8 + (1 : Int)))) = (.int .i64 (t8 + (1 : Int)))] [.run 5, .b 9 true, .run 14, .ans (.idx (avI y0)), .run 29, .b 16 false, .run 5, .set 18 (.int .i64 (t8 + (1 : Int))), .run 3] (by kernel_rfl) (by kernel_rfl) trivial ⟨h0, h1, (map_get h2), h3, (congrArg (AV.int .i64) h4)⟩
theorem bEvI_0_2 (l : (List Int)) (t8 : Int) (h0 : (decide (t8 < ((List.length l : Nat) : Int))) = false) :
    Ends PP 0 (bEvI_c0 l t8).as (.ret (.bool true)) (hpOf [] 0) :=
  wE 1 [ty h0] [.run 5, .b 9 false, .run 17] (by kernel_rfl) (by kernel_rfl) trivial h0
noncomputable def bMap_c0 (l : (List Con)) (t10 : Int) (l0 : (List Str)) : TS :=
  { fr := { fn := 76, nt := 22, sl := [(1, (.func 77 [] [])), (4, .nils), (5, (.gl 0 1 0 (List.length l0) false)), (8, (.ilst 2 (List.map Con.av l) false)), (9, (.int .i64 ((List.length l : Nat) : Int))), (10, (.int .i64 t10))], todo := [.code (cd Tryz.f76 [1, 1, 0, 1, 0, 0]), .inLoop (cd Tryz.f76 [1, 1, 0, 1, 0, 0]), .inBlock 0, .code (cd Tryz.f76 [1, 1, 1])] }, cs := [], hp := [(0, (.lst 1 (List.map avS l0)), true)], nb := 1 }
theorem bMap_E_0 (l : (List Con)) :
    LeadsM PP 0 (start PP 76 [(.ilst 2 (List.map Con.av l) false), (.func 77 [] [])]).as (bMap_c0 l 0 ([] : List Str)).as :=
  wW 1 [0] [((List.length (List.map Con.av l) : Nat) : Int) = ((List.length l : Nat) : Int), ([] : List AV) = (List.map avS ([] : List Str)), (AV.gl 0 1 0 0 false) = (.gl 0 1 0 (List.length ([] : List Str)) false)] [.run 12, .ans (.len ((List.length l : Nat) : Int)), .run 4, .nilL 5 1, .lset 0 (List.map avS ([] : List Str)), .set 5 (.gl 0 1 0 (List.length ([] : List Str)) false)] (by kernel_rfl) (by kernel_rfl) ⟨(keylessL_map _ (fun _ => rfl) _), trivial⟩ ⟨(len_i _ _), rfl, rfl⟩
theorem bMap_0_0 (l : (List Con)) (t10 : Int) (l0 : (List Str)) (y0 : Con) (h0 : (decide (t10 < ((List.length l : Nat) : Int))) = true) (h1 : 0 ≤ t10) (h2 : ((l)[t10.toNat]?) = some y0) (h3 : List.length (l0 ++ [y0.name]) ≤ 1000000) (h4 : (IntKind.i64.wrap (t10 + (1 : Int))) = (t10 + (1 : Int))) :
    LeadsM PP 0 (bMap_c0 l t10 l0).as (bMap_c0 l (t10 + (1 : Int)) (l0 ++ [y0.name])).as :=
  wW 5 [4] [ty h0, 0 ≤ t10, (List.map Con.av l)[t10.toNat]? = some (Con.av y0), 0 + (List.length l0) ≤ List.length (List.map avS l0), ty h3, List.take (List.length l0) (List.drop 0 (List.map avS l0)) ++ (List.map avS [y0.name]) = (List.map avS (l0 ++ [y0.name])), (List.length l0) + List.length (List.map avS [y0.name]) = List.length (l0 ++ [y0.name]), (AV.int .i64 (IntKind.i64.wrap (t10 + (1 : Int)))) = (.int .i64 (t10 + (1 : Int)))] [.run 5, .b 11 true, .run 6, .ans (.idx (Con.av y0)), .run 23, .app (List.map avS (l0 ++ [y0.name])) (List.length (l0 ++ [y0.name])), .run 5, .set 20 (.int .i64 (t10 + (1 : Int))), .run 3] (by kernel_rfl) (by kernel_rfl) ⟨(keylessL_map _ (fun _ => rfl) _), trivial⟩ ⟨h0, h1, (map_get h2), (app_p1 _ _), h3, (app_p3 _ _ _), (app_p4 _ _ _), (congrArg (AV.int .i64) h4)⟩
theorem bMap_0_1 (l : (List Con)) (t10 : Int) (l0 : (List Str)) (h0 : (decide (t10 < ((List.length l : Nat) : Int))) = false) :
    Ends PP 0 (bMap_c0 l t10 l0).as (.ret (.ilst 1 (List.map avS l0) false)) (hpOf [] 0) :=
  wE 1 [ty h0, AV.keylessL (List.map avS l0) = true, AV.frzOk 0 1 (List.map avS l0) (List.map avS l0) (.gl 0 1 0 (List.length l0) false)] [.run 5, .b 11 false, .run 8, .frz 4 0 (List.map avS l0)] (by kernel_rfl) (by kernel_rfl) trivial ⟨h0, (keylessL_map _ (fun _ => rfl) _), (frz_whole _ _)⟩
noncomputable def bFormed_c0 (p : Prog) (t79 : Int) (l1 : (List Int)) : TS :=
  { fr := { fn := 32, nt := 128, sl := [(1, (.ptr 0 0)), (2, (.bool false)), (3, (.int .i64 ((List.length p.nodes : Nat) : Int))), (4, (.gl 1 1 0 (List.length l1) true)), (77, (.ilst 1 (List.map avI p.funs) false)), (78, (.int .i64 ((List.length p.funs : Nat) : Int))), (79, (.int .i64 t79))], todo := [.code (cd Tryz.f32 [1, 1, 1, 1, 1, 0, 1, 0, 0]), .inLoop (cd Tryz.f32 [1, 1, 1, 1, 1, 0, 1, 0, 0]), .inBlock 0, .code (cd Tryz.f32 [1, 1, 1, 1, 1, 1])] }, cs := [], hp := [(0, (.cells (putCells .leaf 0 [(.ilst 4 (List.map Node.av p.nodes) false), (.ilst 1 (List.map avI p.funs) false), (.int .i64 p.main), (.ilst 2 (List.map Con.av p.cons) false)]) 4 [] false), false), (1, (.lst 1 (List.map avI l1)), true)], nb := 2 }
noncomputable def bFormed_c1 (p : Prog) (l0 : (List Int)) (t99 : Int) : TS :=
  { fr := { fn := 32, nt := 128, sl := [(2, (.bool false)), (3, (.int .i64 ((List.length p.nodes : Nat) : Int))), (4, (.gl 0 1 0 (List.length l0) true)), (97, (.ilst 4 (List.map Node.av p.nodes) false)), (98, (.int .i64 ((List.length p.nodes : Nat) : Int))), (99, (.int .i64 t99))], todo := [.code (cd Tryz.f32 [1, 1, 1, 1, 1, 1, 0, 1, 0, 0]), .inLoop (cd Tryz.f32 [1, 1, 1, 1, 1, 1, 0, 1, 0, 0]), .inBlock 2, .code (cd Tryz.f32 [1, 1, 1, 1, 1, 1, 1])] }, cs := [], hp := [(0, (.lst 1 (List.map avI l0)), true)], nb := 1 }
noncomputable def bFormed_c2 (p : Prog) (t105 : (List Int)) (t106 : Int) (l0 : (List Int)) (t107 : Int) (i7 : Int) (t99 : Int) : TS :=
  { fr := { fn := 32, nt := 128, sl := [(2, (.bool false)), (3, (.int .i64 ((List.length p.nodes : Nat) : Int))), (4, (.gl 0 1 0 (List.length l0) true)), (7, (.int .i64 i7)), (97, (.ilst 4 (List.map Node.av p.nodes) false)), (98, (.int .i64 ((List.length p.nodes : Nat) : Int))), (99, (.int .i64 t99)), (105, (.ilst 1 (List.map avI t105) false)), (106, (.int .i64 t106)), (107, (.int .i64 t107))], todo := [.code (cd Tryz.f32 [1, 1, 1, 1, 1, 1, 0, 1, 0, 0, 1, 1, 0, 0, 1, 1, 0, 0]), .inLoop (cd Tryz.f32 [1, 1, 1, 1, 1, 1, 0, 1, 0, 0, 1, 1, 0, 0, 1, 1, 0, 0]), .inBlock 4, .inBlock 3, .code (cd Tryz.f32 [1, 1, 1, 1, 1, 1, 0, 1, 0, 0, 1, 1, 1]), .inLoop (cd Tryz.f32 [1, 1, 1, 1, 1, 1, 0, 1, 0, 0]), .inBlock 2, .code (cd Tryz.f32 [1, 1, 1, 1, 1, 1, 1])] }, cs := [], hp := [(0, (.lst 1 (List.map avI l0)), true)], nb := 1 }
theorem bFormed_E_0 (p : Prog) (h0 : (decide (((List.length p.nodes : Nat) : Int) > (300 : Int))) = true) :
    Ends PP 0 (start PP 32 [(Prog.av p)]).as (.ret (.bool false)) (hpOf [] 0) :=
  wE 1 [((List.length (List.map Node.av p.nodes) : Nat) : Int) = ((List.length p.nodes : Nat) : Int), ty h0] [.run 10, .ans (.len ((List.length p.nodes : Nat) : Int)), .run 8, .b 17 true, .run 40] (by kernel_rfl) (by kernel_rfl) trivial ⟨(len_i _ _), h0⟩
theorem bFormed_E_1 (p : Prog) (h0 : (decide (((List.length p.nodes : Nat) : Int) > (300 : Int))) = false) (h1 : (decide (((List.length p.funs : Nat) : Int) < (1 : Int))) = true) :
    Ends PP 0 (start PP 32 [(Prog.av p)]).as (.ret (.bool false)) (hpOf [] 0) :=
  wE 1 [((List.length (List.map Node.av p.nodes) : Nat) : Int) = ((List.length p.nodes : Nat) : Int), ty h0, ((List.length (List.map avI p.funs) : Nat) : Int) = ((List.length p.funs : Nat) : Int), ty h1] [.run 10, .ans (.len ((List.length p.nodes : Nat) : Int)), .run 8, .b 17 false, .run 3, .ans (.len ((List.length p.funs : Nat) : Int)), .run 3, .b 24 true, .run 33] (by kernel_rfl) (by kernel_rfl) trivial ⟨(len_i _ _), h0, (len_i _ _), h1⟩
theorem bFormed_E_2 (p : Prog) (h0 : (decide (((List.length p.nodes : Nat) : Int) > (300 : Int))) = false) (h1 : (decide (((List.length p.funs : Nat) : Int) < (1 : Int))) = false) (h2 : (decide (((List.length p.funs : Nat) : Int) > ((List.length p.nodes : Nat) : Int))) = true) :
    Ends PP 0 (start PP 32 [(Prog.av p)]).as (.ret (.bool false)) (hpOf [] 0) :=
  wE 1 [((List.length (List.map Node.av p.nodes) : Nat) : Int) = ((List.length p.nodes : Nat) : Int), ty h0, ((List.length (List.map avI p.funs) : Nat) : Int) = ((List.length p.funs : Nat) : Int), ty h1, ((List.length (List.map avI p.funs) : Nat) : Int) = ((List.length p.funs : Nat) : Int), ty h2] [.run 10, .ans (.len ((List.length p.nodes : Nat) : Int)), .run 8, .b 17 false, .run 3, .ans (.len ((List.length p.funs : Nat) : Int)), .run 3, .b 24 false, .run 3, .ans (.len ((List.length p.funs : Nat) : Int)), .run 4, .b 32 true, .run 25] (by kernel_rfl) (by kernel_rfl) trivial ⟨(len_i _ _), h0, (len_i _ _), h1, (len_i _ _), h2⟩
theorem bFormed_E_3 (p : Prog) (h0 : (decide (((List.length p.nodes : Nat) : Int) > (300 : Int))) = false) (h1 : (decide (((List.length p.funs : Nat) : Int) < (1 : Int))) = false) (h2 : (decide (((List.length p.funs : Nat) : Int) > ((List.length p.nodes : Nat) : Int))) = false) (h3 : (decide (((List.length p.cons : Nat) : Int) > (20 : Int))) = true) :
    Ends PP 0 (start PP 32 [(Prog.av p)]).as (.ret (.bool false)) (hpOf [] 0) :=
  wE 1 [((List.length (List.map Node.av p.nodes) : Nat) : Int) = ((List.length p.nodes : Nat) : Int), ty h0, ((List.length (List.map avI p.funs) : Nat) : Int) = ((List.length p.funs : Nat) : Int), ty h1, ((List.length (List.map avI p.funs) : Nat) : Int) = ((List.length p.funs : Nat) : Int), ty h2, ((List.length (List.map Con.av p.cons) : Nat) : Int) = ((List.length p.cons : Nat) : Int), ty h3] [.run 10, .ans (.len ((List.length p.nodes : Nat) : Int)), .run 8, .b 17 false, .run 3, .ans (.len ((List.length p.funs : Nat) : Int)), .run 3, .b 24 false, .run 3, .ans (.len ((List.length p.funs : Nat) : Int)), .run 4, .b 32 false, .run 3, .ans (.len ((List.length p.cons : Nat) : Int)), .run 3, .b 39 true, .run 18] (by kernel_rfl) (by kernel_rfl) trivial ⟨(len_i _ _), h0, (len_i _ _), h1, (len_i _ _), h2, (len_i _ _), h3⟩
theorem bFormed_E_4 (p : Prog) (y0 : Bool) (h0 : (decide (((List.length p.nodes : Nat) : Int) > (300 : Int))) = false) (h1 : (decide (((List.length p.funs : Nat) : Int) < (1 : Int))) = false) (h2 : (decide (((List.length p.funs : Nat) : Int) > ((List.length p.nodes : Nat) : Int))) = false) (h3 : (decide (((List.length p.cons : Nat) : Int) > (20 : Int))) = false) (h4 : (IntKind.i64.wrap (((List.length p.funs : Nat) : Int) - (1 : Int))) = (((List.length p.funs : Nat) : Int) - (1 : Int))) (h5 : Pure PP 65 [(.int .i64 p.main), (.int .i64 0), (.int .i64 (((List.length p.funs : Nat) : Int) - (1 : Int)))] (.bool y0)) (h6 : (!y0) = true) :
    Ends PP 0 (start PP 32 [(Prog.av p)]).as (.ret (.bool false)) (hpOf [] 0) :=
  wE 1 [((List.length (List.map Node.av p.nodes) : Nat) : Int) = ((List.length p.nodes : Nat) : Int), ty h0, ((List.length (List.map avI p.funs) : Nat) : Int) = ((List.length p.funs : Nat) : Int), ty h1, ((List.length (List.map avI p.funs) : Nat) : Int) = ((List.length p.funs : Nat) : Int), ty h2, ((List.length (List.map Con.av p.cons) : Nat) : Int) = ((List.length p.cons : Nat) : Int), ty h3, ((List.length (List.map avI p.funs) : Nat) : Int) = ((List.length p.funs : Nat) : Int), (AV.int .i64 (IntKind.i64.wrap (((List.length p.funs : Nat) : Int) - (1 : Int)))) = (.int .i64 (((List.length p.funs : Nat) : Int) - (1 : Int))), ty h5, ty h6] [.run 10, .ans (.len ((List.length p.nodes : Nat) : Int)), .run 8, .b 17 false, .run 3, .ans (.len ((List.length p.funs : Nat) : Int)), .run 3, .b 24 false, .run 3, .ans (.len ((List.length p.funs : Nat) : Int)), .run 4, .b 32 false, .run 3, .ans (.len ((List.length p.cons : Nat) : Int)), .run 3, .b 39 false, .run 6, .ans (.len ((List.length p.funs : Nat) : Int)), .run 1, .set 47 (.int .i64 (((List.length p.funs : Nat) : Int) - (1 : Int))), .pure (.bool y0), .run 3, .b 50 true, .run 6] (by kernel_rfl) (by kernel_rfl) trivial ⟨(len_i _ _), h0, (len_i _ _), h1, (len_i _ _), h2, (len_i _ _), h3, (len_i _ _), (congrArg (AV.int .i64) h4), h5, h6⟩
theorem bFormed_E_5 (p : Prog) (y0 : Bool) (y1 : Bool) (h0 : (decide (((List.length p.nodes : Nat) : Int) > (300 : Int))) = false) (h1 : (decide (((List.length p.funs : Nat) : Int) < (1 : Int))) = false) (h2 : (decide (((List.length p.funs : Nat) : Int) > ((List.length p.nodes : Nat) : Int))) = false) (h3 : (decide (((List.length p.cons : Nat) : Int) > (20 : Int))) = false) (h4 : (IntKind.i64.wrap (((List.length p.funs : Nat) : Int) - (1 : Int))) = (((List.length p.funs : Nat) : Int) - (1 : Int))) (h5 : Pure PP 65 [(.int .i64 p.main), (.int .i64 0), (.int .i64 (((List.length p.funs : Nat) : Int) - (1 : Int)))] (.bool y0)) (h6 : (!y0) = false) (h7 : Pure PP 73 [(.ilst 2 (List.map Con.av p.cons) false), (.func 74 [] [])] (.bool y1)) (h8 : (!y1) = true) :
    Ends PP 0 (start PP 32 [(Prog.av p)]).as (.ret (.bool false)) (hpOf [] 0) :=
  wE 1 [((List.length (List.map Node.av p.nodes) : Nat) : Int) = ((List.length p.nodes : Nat) : Int), ty h0, ((List.length (List.map avI p.funs) : Nat) : Int) = ((List.length p.funs : Nat) : Int), ty h1, ((List.length (List.map avI p.funs) : Nat) : Int) = ((List.length p.funs : Nat) : Int), ty h2, ((List.length (List.map Con.av p.cons) : Nat) : Int) = ((List.length p.cons : Nat) : Int), ty h3, ((List.length (List.map avI p.funs) : Nat) : Int) = ((List.length p.funs : Nat) : Int), (AV.int .i64 (IntKind.i64.wrap (((List.length p.funs : Nat) : Int) - (1 : Int)))) = (.int .i64 (((List.length p.funs : Nat) : Int) - (1 : Int))), ty h5, ty h6, ty h7, ty h8] [.run 10, .ans (.len ((List.length p.nodes : Nat) : Int)), .run 8, .b 17 false, .run 3, .ans (.len ((List.length p.funs : Nat) : Int)), .run 3, .b 24 false, .run 3, .ans (.len ((List.length p.funs : Nat) : Int)), .run 4, .b 32 false, .run 3, .ans (.len ((List.length p.cons : Nat) : Int)), .run 3, .b 39 false, .run 6, .ans (.len ((List.length p.funs : Nat) : Int)), .run 1, .set 47 (.int .i64 (((List.length p.funs : Nat) : Int) - (1 : Int))), .pure (.bool y0), .run 3, .b 50 false, .run 8, .pure (.bool y1), .run 2, .b 56 true, .run 23] (by kernel_rfl) (by kernel_rfl) trivial ⟨(len_i _ _), h0, (len_i _ _), h1, (len_i _ _), h2, (len_i _ _), h3, (len_i _ _), (congrArg (AV.int .i64) h4), h5, h6, h7, h8⟩
theorem bFormed_E_6 (p : Prog) (y0 : Bool) (y1 : Bool) (y2 : (List Str)) (y3 : Bool) (h0 : (decide (((List.length p.nodes : Nat) : Int) > (300 : Int))) = false) (h1 : (decide (((List.length p.funs : Nat) : Int) < (1 : Int))) = false) (h2 : (decide (((List.length p.funs : Nat) : Int) > ((List.length p.nodes : Nat) : Int))) = false) (h3 : (decide (((List.length p.cons : Nat) : Int) > (20 : Int))) = false) (h4 : (IntKind.i64.wrap (((List.length p.funs : Nat) : Int) - (1 : Int))) = (((List.length p.funs : Nat) : Int) - (1 : Int))) (h5 : Pure PP 65 [(.int .i64 p.main), (.int .i64 0), (.int .i64 (((List.length p.funs : Nat) : Int) - (1 : Int)))] (.bool y0)) (h6 : (!y0) = false) (h7 : Pure PP 73 [(.ilst 2 (List.map Con.av p.cons) false), (.func 74 [] [])] (.bool y1)) (h8 : (!y1) = false) (h9 : Pure PP 76 [(.ilst 2 (List.map Con.av p.cons) false), (.func 77 [] [])] (.ilst 1 (List.map avS y2) false)) (h10 : Pure PP 75 [(.ilst 1 (List.map avS y2) false)] (.bool y3)) (h11 : (!y3) = true) :
    Ends PP 0 (start PP 32 [(Prog.av p)]).as (.ret (.bool false)) (hpOf [] 0) :=
  wE 1 [((List.length (List.map Node.av p.nodes) : Nat) : Int) = ((List.length p.nodes : Nat) : Int), ty h0, ((List.length (List.map avI p.funs) : Nat) : Int) = ((List.length p.funs : Nat) : Int), ty h1, ((List.length (List.map avI p.funs) : Nat) : Int) = ((List.length p.funs : Nat) : Int), ty h2, ((List.length (List.map Con.av p.cons) : Nat) : Int) = ((List.length p.cons : Nat) : Int), ty h3, ((List.length (List.map avI p.funs) : Nat) : Int) = ((List.length p.funs : Nat) : Int), (AV.int .i64 (IntKind.i64.wrap (((List.length p.funs : Nat) : Int) - (1 : Int)))) = (.int .i64 (((List.length p.funs : Nat) : Int) - (1 : Int))), ty h5, ty h6, ty h7, ty h8, ty h9, ty h10, ty h11] [.run 10, .ans (.len ((List.length p.nodes : Nat) : Int)), .run 8, .b 17 false, .run 3, .ans (.len ((List.length p.funs : Nat) : Int)), .run 3, .b 24 false, .run 3, .ans (.len ((List.length p.funs : Nat) : Int)), .run 4, .b 32 false, .run 3, .ans (.len ((List.length p.cons : Nat) : Int)), .run 3, .b 39 false, .run 6, .ans (.len ((List.length p.funs : Nat) : Int)), .run 1, .set 47 (.int .i64 (((List.length p.funs : Nat) : Int) - (1 : Int))), .pure (.bool y0), .run 3, .b 50 false, .run 8, .pure (.bool y1), .run 2, .b 56 false, .run 3, .pure (.ilst 1 (List.map avS y2) false), .pure (.bool y3), .run 3, .b 64 true, .run 15] (by kernel_rfl) (by kernel_rfl) trivial ⟨(len_i _ _), h0, (len_i _ _), h1, (len_i _ _), h2, (len_i _ _), h3, (len_i _ _), (congrArg (AV.int .i64) h4), h5, h6, h7, h8, h9, h10, h11⟩
theorem bFormed_E_7 (p : Prog) (y0 : Bool) (y1 : Bool) (y2 : (List Str)) (y3 : Bool) (y4 : Bool) (h0 : (decide (((List.length p.nodes : Nat) : Int) > (300 : Int))) = false) (h1 : (decide (((List.length p.funs : Nat) : Int) < (1 : Int))) = false) (h2 : (decide (((List.length p.funs : Nat) : Int) > ((List.length p.nodes : Nat) : Int))) = false) (h3 : (decide (((List.length p.cons : Nat) : Int) > (20 : Int))) = false) (h4 : (IntKind.i64.wrap (((List.length p.funs : Nat) : Int) - (1 : Int))) = (((List.length p.funs : Nat) : Int) - (1 : Int))) (h5 : Pure PP 65 [(.int .i64 p.main), (.int .i64 0), (.int .i64 (((List.length p.funs : Nat) : Int) - (1 : Int)))] (.bool y0)) (h6 : (!y0) = false) (h7 : Pure PP 73 [(.ilst 2 (List.map Con.av p.cons) false), (.func 74 [] [])] (.bool y1)) (h8 : (!y1) = false) (h9 : Pure PP 76 [(.ilst 2 (List.map Con.av p.cons) false), (.func 77 [] [])] (.ilst 1 (List.map avS y2) false)) (h10 : Pure PP 75 [(.ilst 1 (List.map avS y2) false)] (.bool y3)) (h11 : (!y3) = false) (h12 : Pure PP 78 [(.ilst 4 (List.map Node.av p.nodes) false), (.func 79 [(Prog.av p)] [])] (.bool y4)) (h13 : (!y4) = true) :
    Ends PP 0 (start PP 32 [(Prog.av p)]).as (.ret (.bool false)) (hpOf [] 0) :=
  wE 1 [((List.length (List.map Node.av p.nodes) : Nat) : Int) = ((List.length p.nodes : Nat) : Int), ty h0, ((List.length (List.map avI p.funs) : Nat) : Int) = ((List.length p.funs : Nat) : Int), ty h1, ((List.length (List.map avI p.funs) : Nat) : Int) = ((List.length p.funs : Nat) : Int), ty h2, ((List.length (List.map Con.av p.cons) : Nat) : Int) = ((List.length p.cons : Nat) : Int), ty h3, ((List.length (List.map avI p.funs) : Nat) : Int) = ((List.length p.funs : Nat) : Int), (AV.int .i64 (IntKind.i64.wrap (((List.length p.funs : Nat) : Int) - (1 : Int)))) = (.int .i64 (((List.length p.funs : Nat) : Int) - (1 : Int))), ty h5, ty h6, ty h7, ty h8, ty h9, ty h10, ty h11, ty h12, ty h13] [.run 10, .ans (.len ((List.length p.nodes : Nat) : Int)), .run 8, .b 17 false, .run 3, .ans (.len ((List.length p.funs : Nat) : Int)), .run 3, .b 24 false, .run 3, .ans (.len ((List.length p.funs : Nat) : Int)), .run 4, .b 32 false, .run 3, .ans (.len ((List.length p.cons : Nat) : Int)), .run 3, .b 39 false, .run 6, .ans (.len ((List.length p.funs : Nat) : Int)), .run 1, .set 47 (.int .i64 (((List.length p.funs : Nat) : Int) - (1 : Int))), .pure (.bool y0), .run 3, .b 50 false, .run 8, .pure (.bool y1), .run 2, .b 56 false, .run 3, .pure (.ilst 1 (List.map avS y2) false), .pure (.bool y3), .run 3, .b 64 false, .run 5, .pure (.bool y4), .run 3, .b 72 true, .run 6] (by kernel_rfl) (by kernel_rfl) trivial ⟨(len_i _ _), h0, (len_i _ _), h1, (len_i _ _), h2, (len_i _ _), h3, (len_i _ _), (congrArg (AV.int .i64) h4), h5, h6, h7, h8, h9, h10, h11, h12, h13⟩
theorem bFormed_E_8 (p : Prog) (y0 : Bool) (y1 : Bool) (y2 : (List Str)) (y3 : Bool) (y4 : Bool) (h0 : (decide (((List.length p.nodes : Nat) : Int) > (300 : Int))) = false) (h1 : (decide (((List.length p.funs : Nat) : Int) < (1 : Int))) = false) (h2 : (decide (((List.length p.funs : Nat) : Int) > ((List.length p.nodes : Nat) : Int))) = false) (h3 : (decide (((List.length p.cons : Nat) : Int) > (20 : Int))) = false) (h4 : (IntKind.i64.wrap (((List.length p.funs : Nat) : Int) - (1 : Int))) = (((List.length p.funs : Nat) : Int) - (1 : Int))) (h5 : Pure PP 65 [(.int .i64 p.main), (.int .i64 0), (.int .i64 (((List.length p.funs : Nat) : Int) - (1 : Int)))] (.bool y0)) (h6 : (!y0) = false) (h7 : Pure PP 73 [(.ilst 2 (List.map Con.av p.cons) false), (.func 74 [] [])] (.bool y1)) (h8 : (!y1) = false) (h9 : Pure PP 76 [(.ilst 2 (List.map Con.av p.cons) false), (.func 77 [] [])] (.ilst 1 (List.map avS y2) false)) (h10 : Pure PP 75 [(.ilst 1 (List.map avS y2) false)] (.bool y3)) (h11 : (!y3) = false) (h12 : Pure PP 78 [(.ilst 4 (List.map Node.av p.nodes) false), (.func 79 [(Prog.av p)] [])] (.bool y4)) (h13 : (!y4) = false) (h14 : (List.length p.nodes) < 100000) :
    LeadsM PP 0 (start PP 32 [(Prog.av p)]).as (bFormed_c0 p 0 (List.replicate (List.length p.nodes) (0 : Int))).as :=
  wW 2 [0, 1] [((List.length (List.map Node.av p.nodes) : Nat) : Int) = ((List.length p.nodes : Nat) : Int), ty h0, ((List.length (List.map avI p.funs) : Nat) : Int) = ((List.length p.funs : Nat) : Int), ty h1, ((List.length (List.map avI p.funs) : Nat) : Int) = ((List.length p.funs : Nat) : Int), ty h2, ((List.length (List.map Con.av p.cons) : Nat) : Int) = ((List.length p.cons : Nat) : Int), ty h3, ((List.length (List.map avI p.funs) : Nat) : Int) = ((List.length p.funs : Nat) : Int), (AV.int .i64 (IntKind.i64.wrap (((List.length p.funs : Nat) : Int) - (1 : Int)))) = (.int .i64 (((List.length p.funs : Nat) : Int) - (1 : Int))), ty h5, ty h6, ty h7, ty h8, ty h9, ty h10, ty h11, ty h12, ty h13, ((List.length p.nodes : Nat) : Int) = (((List.length p.nodes) : Nat) : Int), ((List.length p.nodes : Nat) : Int) = (((List.length p.nodes) : Nat) : Int), ty h14, List.replicate (List.length p.nodes) (avI (0 : Int)) = (List.map avI (List.replicate (List.length p.nodes) (0 : Int))), (AV.gl 1 1 0 (List.length p.nodes) true) = (.gl 1 1 0 (List.length (List.replicate (List.length p.nodes) (0 : Int))) true), ((List.length (List.map avI p.funs) : Nat) : Int) = ((List.length p.funs : Nat) : Int)] [.run 10, .ans (.len ((List.length p.nodes : Nat) : Int)), .run 8, .b 17 false, .run 3, .ans (.len ((List.length p.funs : Nat) : Int)), .run 3, .b 24 false, .run 3, .ans (.len ((List.length p.funs : Nat) : Int)), .run 4, .b 32 false, .run 3, .ans (.len ((List.length p.cons : Nat) : Int)), .run 3, .b 39 false, .run 6, .ans (.len ((List.length p.funs : Nat) : Int)), .run 1, .set 47 (.int .i64 (((List.length p.funs : Nat) : Int) - (1 : Int))), .pure (.bool y0), .run 3, .b 50 false, .run 8, .pure (.bool y1), .run 2, .b 56 false, .run 3, .pure (.ilst 1 (List.map avS y2) false), .pure (.bool y3), .run 3, .b 64 false, .run 5, .pure (.bool y4), .run 3, .b 72 false, .run 5, .mk (List.length p.nodes), .lset 1 (List.map avI (List.replicate (List.length p.nodes) (0 : Int))), .set 74 (.gl 1 1 0 (List.length (List.replicate (List.length p.nodes) (0 : Int))) true), .run 8, .ans (.len ((List.length p.funs : Nat) : Int)), .run 4] (by kernel_rfl) (by kernel_rfl) ⟨(keylessL_map _ (fun _ => rfl) _), trivial⟩ ⟨(len_i _ _), h0, (len_i _ _), h1, (len_i _ _), h2, (len_i _ _), h3, (len_i _ _), (congrArg (AV.int .i64) h4), h5, h6, h7, h8, h9, h10, h11, h12, h13, rfl, rfl, h14, (rep_map _ _ _), (gl_len (List.length_replicate ..).symm), (len_i _ _)⟩
theorem bFormed_0_0 (p : Prog) (t79 : Int) (l1 : (List Int)) (y0 : Int) (y1 : Bool) (h0 : (decide (t79 < ((List.length p.funs : Nat) : Int))) = true) (h1 : 0 ≤ t79) (h2 : ((p.funs)[t79.toNat]?) = some y0) (h3 : (IntKind.i64.wrap (((List.length p.nodes : Nat) : Int) - (1 : Int))) = (((List.length p.nodes : Nat) : Int) - (1 : Int))) (h4 : Pure PP 65 [(.int .i64 y0), (.int .i64 0), (.int .i64 (((List.length p.nodes : Nat) : Int) - (1 : Int)))] (.bool y1)) (h5 : (!y1) = true) :
    Ends PP 0 (bFormed_c0 p t79 l1).as (.ret (.bool false)) (hpOf [] 0) :=
  wE 2 [ty h0, 0 ≤ t79, (List.map avI p.funs)[t79.toNat]? = some (avI y0), (AV.int .i64 (IntKind.i64.wrap (((List.length p.nodes : Nat) : Int) - (1 : Int)))) = (.int .i64 (((List.length p.nodes : Nat) : Int) - (1 : Int))), ty h4, ty h5] [.run 5, .b 80 true, .run 6, .ans (.idx (avI y0)), .run 9, .set 85 (.int .i64 (((List.length p.nodes : Nat) : Int) - (1 : Int))), .pure (.bool y1), .run 2, .b 87 true, .run 6] (by kernel_rfl) (by kernel_rfl) trivial ⟨h0, h1, (map_get h2), (congrArg (AV.int .i64) h3), h4, h5⟩
theorem bFormed_0_1 (p : Prog) (t79 : Int) (l1 : (List Int)) (y0 : Int) (y1 : Bool) (y2 : Int) (h0 : (decide (t79 < ((List.length p.funs : Nat) : Int))) = true) (h1 : 0 ≤ t79) (h2 : ((p.funs)[t79.toNat]?) = some y0) (h3 : (IntKind.i64.wrap (((List.length p.nodes : Nat) : Int) - (1 : Int))) = (((List.length p.nodes : Nat) : Int) - (1 : Int))) (h4 : Pure PP 65 [(.int .i64 y0), (.int .i64 0), (.int .i64 (((List.length p.nodes : Nat) : Int) - (1 : Int)))] (.bool y1)) (h5 : (!y1) = false) (h6 : 0 ≤ y0) (h7 : y0 < (((List.length l1) : Nat) : Int)) (h8 : ((l1)[y0.toNat]?) = some y2) (h9 : (IntKind.i64.wrap (y2 + (1 : Int))) = (y2 + (1 : Int))) (h10 : (IntKind.i64.wrap (t79 + (1 : Int))) = (t79 + (1 : Int))) :
    LeadsM PP 0 (bFormed_c0 p t79 l1).as (bFormed_c0 p (t79 + (1 : Int)) (List.set l1 y0.toNat (y2 + (1 : Int)))).as :=
  wW 2 [0, 1] [ty h0, 0 ≤ t79, (List.map avI p.funs)[t79.toNat]? = some (avI y0), (AV.int .i64 (IntKind.i64.wrap (((List.length p.nodes : Nat) : Int) - (1 : Int)))) = (.int .i64 (((List.length p.nodes : Nat) : Int) - (1 : Int))), ty h4, ty h5, 0 ≤ y0, ty h7, (List.map avI l1)[(0 + y0.toNat)]? = some (avI y2), (AV.int .i64 (IntKind.i64.wrap (y2 + (1 : Int)))) = (.int .i64 (y2 + (1 : Int))), 0 ≤ y0, ty h7, (List.map avI l1)[(0 + y0.toNat)]? = some (avI y2), setElem (avI y2) 0 [(.int .i64 (y2 + (1 : Int)))] = some (avI (y2 + (1 : Int))), (List.map avI l1).set (0 + y0.toNat) (avI (y2 + (1 : Int))) = (List.map avI (List.set l1 y0.toNat (y2 + (1 : Int)))), (AV.gl 1 1 0 (List.length l1) true) = (.gl 1 1 0 (List.length (List.set l1 y0.toNat (y2 + (1 : Int)))) true), (AV.gl 1 1 0 (List.length l1) true) = (.gl 1 1 0 (List.length (List.set l1 y0.toNat (y2 + (1 : Int)))) true), (AV.int .i64 (IntKind.i64.wrap (t79 + (1 : Int)))) = (.int .i64 (t79 + (1 : Int)))] [.run 5, .b 80 true, .run 6, .ans (.idx (avI y0)), .run 9, .set 85 (.int .i64 (((List.length p.nodes : Nat) : Int) - (1 : Int))), .pure (.bool y1), .run 2, .b 87 false, .run 5, .ans (.ix), .ans (.idx (avI y2)), .run 1, .set 92 (.int .i64 (y2 + (1 : Int))), .ans (.ix), .st (avI y2) (avI (y2 + (1 : Int))), .lset 1 (List.map avI (List.set l1 y0.toNat (y2 + (1 : Int)))), .set 4 (.gl 1 1 0 (List.length (List.set l1 y0.toNat (y2 + (1 : Int)))) true), .set 88 (.gl 1 1 0 (List.length (List.set l1 y0.toNat (y2 + (1 : Int)))) true), .run 4, .set 94 (.int .i64 (t79 + (1 : Int))), .run 3] (by kernel_rfl) (by kernel_rfl) ⟨(keylessL_map _ (fun _ => rfl) _), trivial⟩ ⟨h0, h1, (map_get h2), (congrArg (AV.int .i64) h3), h4, h5, h6, h7, (map_get0 h8), (congrArg (AV.int .i64) h9), h6, h7, (map_get0 h8), rfl, (set_map0 _ _ _ _), (gl_len (List.length_set ..).symm), (gl_len (List.length_set ..).symm), (congrArg (AV.int .i64) h10)⟩
theorem bFormed_0_2 (p : Prog) (t79 : Int) (l1 : (List Int)) (h0 : (decide (t79 < ((List.length p.funs : Nat) : Int))) = false) :
    LeadsM PP 0 (bFormed_c0 p t79 l1).as (bFormed_c1 p l1 0).as :=
  wW 2 [1] [ty h0, ((List.length (List.map Node.av p.nodes) : Nat) : Int) = ((List.length p.nodes : Nat) : Int)] [.run 5, .b 80 false, .run 8, .ans (.len ((List.length p.nodes : Nat) : Int)), .run 4] (by kernel_rfl) (by kernel_rfl) ⟨(keylessL_map _ (fun _ => rfl) _), trivial⟩ ⟨h0, (len_i _ _)⟩
theorem bFormed_1_0 (p : Prog) (l0 : (List Int)) (t99 : Int) (y0 : Node) (h0 : (decide (t99 < ((List.length p.nodes : Nat) : Int))) = true) (h1 : 0 ≤ t99) (h2 : ((p.nodes)[t99.toNat]?) = some y0) :
    LeadsM PP 0 (bFormed_c1 p l0 t99).as (bFormed_c2 p y0.kids ((List.length y0.kids : Nat) : Int) l0 0 t99 t99).as :=
  wW 2 [0] [ty h0, 0 ≤ t99, (List.map Node.av p.nodes)[t99.toNat]? = some (Node.av y0), ((List.length (List.map avI y0.kids) : Nat) : Int) = ((List.length y0.kids : Nat) : Int)] [.run 5, .b 100 true, .run 7, .ans (.idx (Node.av y0)), .run 9, .ans (.len ((List.length y0.kids : Nat) : Int)), .run 4] (by kernel_rfl) (by kernel_rfl) ⟨(keylessL_map _ (fun _ => rfl) _), trivial⟩ ⟨h0, h1, (map_get h2), (len_i _ _)⟩
theorem bFormed_1_1 (p : Prog) (l0 : (List Int)) (t99 : Int) (y0 : Bool) (h0 : (decide (t99 < ((List.length p.nodes : Nat) : Int))) = false) (h1 : Pure PP 80 [(.ilst 1 (List.map avI l0) true), (.func 81 [] [])] (.bool y0)) :
    Ends PP 0 (bFormed_c1 p l0 t99).as (.ret (.bool y0)) (hpOf [] 0) :=
  wE 1 [ty h0, AV.keylessL (List.map avI l0) = true, AV.frzOk 0 1 (List.map avI l0) (List.map avI l0) (.gl 0 1 0 (List.length l0) true), ty h1] [.run 5, .b 100 false, .run 5, .frz 126 0 (List.map avI l0), .pure (.bool y0), .run 3] (by kernel_rfl) (by kernel_rfl) trivial ⟨h0, (keylessL_map _ (fun _ => rfl) _), (frz_whole _ _), h1⟩
theorem bFormed_2_0 (p : Prog) (t105 : (List Int)) (t106 : Int) (l0 : (List Int)) (t107 : Int) (i7 : Int) (t99 : Int) (y0 : Int) (y1 : Bool) (h0 : (decide (t107 < t106)) = true) (h1 : 0 ≤ t107) (h2 : ((t105)[t107.toNat]?) = some y0) (h3 : (IntKind.i64.wrap (i7 + (1 : Int))) = (i7 + (1 : Int))) (h4 : (IntKind.i64.wrap (((List.length p.nodes : Nat) : Int) - (1 : Int))) = (((List.length p.nodes : Nat) : Int) - (1 : Int))) (h5 : Pure PP 65 [(.int .i64 y0), (.int .i64 (i7 + (1 : Int))), (.int .i64 (((List.length p.nodes : Nat) : Int) - (1 : Int)))] (.bool y1)) (h6 : (!y1) = true) :
    Ends PP 0 (bFormed_c2 p t105 t106 l0 t107 i7 t99).as (.ret (.bool false)) (hpOf [] 0) :=
  wE 1 [ty h0, 0 ≤ t107, (List.map avI t105)[t107.toNat]? = some (avI y0), (AV.int .i64 (IntKind.i64.wrap (i7 + (1 : Int)))) = (.int .i64 (i7 + (1 : Int))), (AV.int .i64 (IntKind.i64.wrap (((List.length p.nodes : Nat) : Int) - (1 : Int)))) = (.int .i64 (((List.length p.nodes : Nat) : Int) - (1 : Int))), ty h5, ty h6] [.run 5, .b 108 true, .run 6, .ans (.idx (avI y0)), .run 9, .set 113 (.int .i64 (i7 + (1 : Int))), .run 2, .set 115 (.int .i64 (((List.length p.nodes : Nat) : Int) - (1 : Int))), .pure (.bool y1), .run 2, .b 117 true, .run 6] (by kernel_rfl) (by kernel_rfl) trivial ⟨h0, h1, (map_get h2), (congrArg (AV.int .i64) h3), (congrArg (AV.int .i64) h4), h5, h6⟩
theorem bFormed_2_1 (p : Prog) (t105 : (List Int)) (t106 : Int) (l0 : (List Int)) (t107 : Int) (i7 : Int) (t99 : Int) (y0 : Int) (y1 : Bool) (y2 : Int) (h0 : (decide (t107 < t106)) = true) (h1 : 0 ≤ t107) (h2 : ((t105)[t107.toNat]?) = some y0) (h3 : (IntKind.i64.wrap (i7 + (1 : Int))) = (i7 + (1 : Int))) (h4 : (IntKind.i64.wrap (((List.length p.nodes : Nat) : Int) - (1 : Int))) = (((List.length p.nodes : Nat) : Int) - (1 : Int))) (h5 : Pure PP 65 [(.int .i64 y0), (.int .i64 (i7 + (1 : Int))), (.int .i64 (((List.length p.nodes : Nat) : Int) - (1 : Int)))] (.bool y1)) (h6 : (!y1) = false) (h7 : 0 ≤ y0) (h8 : y0 < (((List.length l0) : Nat) : Int)) (h9 : ((l0)[y0.toNat]?) = some y2) (h10 : (IntKind.i64.wrap (y2 + (1 : Int))) = (y2 + (1 : Int))) (h11 : (IntKind.i64.wrap (t107 + (1 : Int))) = (t107 + (1 : Int))) :
    LeadsM PP 0 (bFormed_c2 p t105 t106 l0 t107 i7 t99).as (bFormed_c2 p t105 t106 (List.set l0 y0.toNat (y2 + (1 : Int))) (t107 + (1 : Int)) i7 t99).as :=
  wW 1 [0] [ty h0, 0 ≤ t107, (List.map avI t105)[t107.toNat]? = some (avI y0), (AV.int .i64 (IntKind.i64.wrap (i7 + (1 : Int)))) = (.int .i64 (i7 + (1 : Int))), (AV.int .i64 (IntKind.i64.wrap (((List.length p.nodes : Nat) : Int) - (1 : Int)))) = (.int .i64 (((List.length p.nodes : Nat) : Int) - (1 : Int))), ty h5, ty h6, 0 ≤ y0, ty h8, (List.map avI l0)[(0 + y0.toNat)]? = some (avI y2), (AV.int .i64 (IntKind.i64.wrap (y2 + (1 : Int)))) = (.int .i64 (y2 + (1 : Int))), 0 ≤ y0, ty h8, (List.map avI l0)[(0 + y0.toNat)]? = some (avI y2), setElem (avI y2) 0 [(.int .i64 (y2 + (1 : Int)))] = some (avI (y2 + (1 : Int))), (List.map avI l0).set (0 + y0.toNat) (avI (y2 + (1 : Int))) = (List.map avI (List.set l0 y0.toNat (y2 + (1 : Int)))), (AV.gl 0 1 0 (List.length l0) true) = (.gl 0 1 0 (List.length (List.set l0 y0.toNat (y2 + (1 : Int)))) true), (AV.gl 0 1 0 (List.length l0) true) = (.gl 0 1 0 (List.length (List.set l0 y0.toNat (y2 + (1 : Int)))) true), (AV.int .i64 (IntKind.i64.wrap (t107 + (1 : Int)))) = (.int .i64 (t107 + (1 : Int)))] [.run 5, .b 108 true, .run 6, .ans (.idx (avI y0)), .run 9, .set 113 (.int .i64 (i7 + (1 : Int))), .run 2, .set 115 (.int .i64 (((List.length p.nodes : Nat) : Int) - (1 : Int))), .pure (.bool y1), .run 2, .b 117 false, .run 5, .ans (.ix), .ans (.idx (avI y2)), .run 1, .set 122 (.int .i64 (y2 + (1 : Int))), .ans (.ix), .st (avI y2) (avI (y2 + (1 : Int))), .lset 0 (List.map avI (List.set l0 y0.toNat (y2 + (1 : Int)))), .set 4 (.gl 0 1 0 (List.length (List.set l0 y0.toNat (y2 + (1 : Int)))) true), .set 118 (.gl 0 1 0 (List.length (List.set l0 y0.toNat (y2 + (1 : Int)))) true), .run 4, .set 124 (.int .i64 (t107 + (1 : Int))), .run 3] (by kernel_rfl) (by kernel_rfl) ⟨(keylessL_map _ (fun _ => rfl) _), trivial⟩ ⟨h0, h1, (map_get h2), (congrArg (AV.int .i64) h3), (congrArg (AV.int .i64) h4), h5, h6, h7, h8, (map_get0 h9), (congrArg (AV.int .i64) h10), h7, h8, (map_get0 h9), rfl, (set_map0 _ _ _ _), (gl_len (List.length_set ..).symm), (gl_len (List.length_set ..).symm), (congrArg (AV.int .i64) h11)⟩
theorem bFormed_2_2 (p : Prog) (t105 : (List Int)) (t106 : Int) (l0 : (List Int)) (t107 : Int) (i7 : Int) (t99 : Int) (h0 : (decide (t107 < t106)) = false) (h1 : (IntKind.i64.wrap (t99 + (1 : Int))) = (t99 + (1 : Int))) :
    LeadsM PP 0 (bFormed_c2 p t105 t106 l0 t107 i7 t99).as (bFormed_c1 p l0 (t99 + (1 : Int))).as :=
  wW 1 [0] [ty h0, (AV.int .i64 (IntKind.i64.wrap (t99 + (1 : Int)))) = (.int .i64 (t99 + (1 : Int)))] [.run 5, .b 108 false, .run 5, .set 125 (.int .i64 (t99 + (1 : Int))), .run 3] (by kernel_rfl) (by kernel_rfl) ⟨(keylessL_map _ (fun _ => rfl) _), trivial⟩ ⟨h0, (congrArg (AV.int .i64) h1)⟩
theorem bCheck_E_0 (p : Prog) (y0 : Bool) (h0 : Pure PP 32 [(Prog.av p)] (.bool y0)) (h1 : (!y0) = true) :
    Ends PP 0 (start PP 10 [(Prog.av p)]).as (.ret (.int .i64 2)) (hpOf [] 0) :=
  wE 1 [ty h0, ty h1] [.run 10, .pure (.bool y0), .run 2, .b 6 true, .run 6] (by kernel_rfl) (by kernel_rfl) trivial ⟨h0, h1⟩
theorem bCheck_E_1 (p : Prog) (y0 : Bool) (h0 : Pure PP 32 [(Prog.av p)] (.bool y0)) (h1 : (!y0) = false) :
    Ends PP 0 (start PP 10 [(Prog.av p)]).as (.ret (.int .i64 0)) (hpOf [] 0) :=
  wE 1 [ty h0, ty h1] [.run 10, .pure (.bool y0), .run 2, .b 6 false, .run 7] (by kernel_rfl) (by kernel_rfl) trivial ⟨h0, h1⟩
end Go.Hb

namespace Go.Hb
open Go.Proofs
set_option maxHeartbeats 1000000
/-! ### strings that differ -/
def insAll : List Str → List (Str × Bool) → List (Str × Bool)
  | [], m => m
  | x :: t, m => insAll t (mIns x true m)
theorem bDiffer_loop (l : List Str) (hl : l.length < 1000000) : ∀ (t : List Str) (i : Nat) (m : List (Str × Bool)), l.drop i = t → Ends PP 0 (bDiffer_c0 l (i : Int) m).as (.ret (.bool (decide ((insAll t m).length = l.length)))) (hpOf [] 0)
  | [], i, m, h => by
    have := dropN h
    refine Ends.eqv (bDiffer_0_1 l i m (by (simp only [decide_eq_true_eq, decide_eq_false_iff_not]; omega))) ?_
    have : (((List.length m : Nat) : Int) == ((List.length l : Nat) : Int)) = decide (m.length = l.length) := by
      by_cases k : m.length = l.length <;> simp [k] <;> omega
    rw [this]; rfl
  | x :: t, i, m, h => by
    obtain ⟨g1, g2, g3⟩ := dropC h
    refine (bDiffer_0_0 l i m x (by (simp only [decide_eq_true_eq, decide_eq_false_iff_not]; omega)) (by omega) (by assumption) (by (apply wrap64 <;> omega))).ends ?_
    exact bDiffer_loop l hl t (i + 1) _ g2
theorem mIns_old {k : Str} {v w : Bool} : ∀ {m : List (Str × Bool)}, mGet k m = some w → (mIns k v m).map Prod.fst = m.map Prod.fst
  | [], h => by cases h
  | e :: m, h => by
    unfold mGet at h
    unfold mIns
    split at h
    · rename_i hk; rw [if_pos hk]; simp [hk]
    · rename_i hk; rw [if_neg hk]; simp [mIns_old h]
theorem mIns_new {k : Str} {v : Bool} : ∀ {m : List (Str × Bool)}, mGet k m = none → (mIns k v m).map Prod.fst = m.map Prod.fst ++ [k]
  | [], _ => rfl
  | e :: m, h => by
    unfold mGet at h
    unfold mIns
    split at h
    · cases h
    · rename_i hk; rw [if_neg hk]; simp [mIns_new h]
theorem mGet_has {k : Str} : ∀ {m : List (Str × Bool)}, (mGet k m).isSome = hasS (m.map Prod.fst) k
  | [] => rfl
  | e :: m => by
    unfold mGet
    split
    · rename_i hk; simp [hasS, hk]
    · rename_i hk
      have : ¬ e.1 = k := fun h => hk h.symm
      rw [mGet_has]; simp [hasS, this]
theorem insAll_le : ∀ (t : List Str) (m : List (Str × Bool)), (insAll t m).length ≤ m.length + t.length
  | [], m => by simp [insAll]
  | x :: t, m => by
    have a := insAll_le t (mIns x true m)
    have b : (mIns x true m).length ≤ m.length + 1 := by
      cases h : mGet x m with
      | none => have := congrArg List.length (mIns_new (v := true) h); simp at this; omega
      | some w => have := congrArg List.length (mIns_old (v := true) h); simp at this; omega
    simp only [insAll, List.length_cons]; omega
theorem insAll_iff : ∀ (t : List Str) (m : List (Str × Bool)), (insAll t m).length = m.length + t.length ↔ differFrom (m.map Prod.fst) t = true
  | [], m => by simp [insAll, differFrom]
  | x :: t, m => by
    simp only [insAll, differFrom]
    cases h : mGet x m with
    | some w =>
      have e := mIns_old (v := true) h
      have hs : hasS (m.map Prod.fst) x = true := by rw [← mGet_has, h]; rfl
      have a := insAll_le t (mIns x true m)
      have b := congrArg List.length e
      simp only [List.length_map] at b
      rw [hs]
      constructor
      · intro g; simp only [List.length_cons] at g; omega
      · intro g; simp at g
    | none =>
      have e := mIns_new (v := true) h
      have hs : hasS (m.map Prod.fst) x = false := by rw [← mGet_has, h]; rfl
      have ih := insAll_iff t (mIns x true m)
      have b := congrArg List.length e
      simp only [List.length_map, List.length_append, List.length_singleton] at b
      rw [hs, ← e]
      simp only [Bool.not_false, Bool.true_and, List.length_cons]
      rw [← ih, b]
      omega
theorem bDiffer_pure (l : List Str) (hl : l.length < 1000000) : Pure PP 75 [.ilst 1 (List.map avS l) false] (.bool (differS l)) := by
  refine pure_at (by kernel_rfl) rfl rfl ((bDiffer_E_0 l).ends (Ends.eqv (bDiffer_loop l hl l 0 [] rfl) ?_))
  have := insAll_iff l []
  simp only [List.length_nil, Nat.zero_add, List.map_nil] at this
  congr 1
  cases k : differS l with
  | true => exact decide_eq_true (this.2 k)
  | false => exact decide_eq_false fun g => by have := this.1 g; unfold differS at k; rw [k] at this; cases this
/-! ### every -/
theorem bEvC_loop (l : List Con) (hl : l.length < 1000000) : ∀ (t : List Con) (i : Nat), l.drop i = t → Ends PP 0 (bEvC_c0 l (i : Int)).as (.ret (.bool (t.all consOk1))) (hpOf [] 0)
  | [], i, h => by
    have := dropN h
    exact Ends.eqv (bEvC_0_2 l i (by (simp only [decide_eq_true_eq, decide_eq_false_iff_not]; omega))) (by simp)
  | c :: t, i, h => by
    obtain ⟨g1, g2, g3⟩ := dropC h
    have hq := bCon_pure c
    cases k : consOk1 c with
    | false => rw [k] at hq; exact Ends.eqv (bEvC_0_0 l i c false (by (simp only [decide_eq_true_eq, decide_eq_false_iff_not]; omega)) (by omega) (by assumption) hq rfl) (by simp [k])
    | true =>
      rw [k] at hq
      refine (bEvC_0_1 l i c true (by (simp only [decide_eq_true_eq, decide_eq_false_iff_not]; omega)) (by omega) (by assumption) hq rfl (by (apply wrap64 <;> omega))).ends ?_
      exact Ends.eqv (bEvC_loop l hl t (i + 1) g2) (by simp [k])
theorem bEvC_pure (l : List Con) (hl : l.length < 1000000) : Pure PP 73 [.ilst 2 (List.map Con.av l) false, .func 74 [] []] (.bool (l.all consOk1)) :=
  pure_at (by kernel_rfl) rfl rfl ((bEvC_E_0 l).ends (bEvC_loop l hl l 0 rfl))
theorem bEvN_loop (l : List Node) (p : Prog) (hl : l.length < 1000000) (ih : ∀ x ∈ l, Pure PP 79 [Prog.av p, Node.av x] (.bool (nodeOk p x))) : ∀ (t : List Node) (i : Nat), l.drop i = t → Ends PP 0 (bEvN_c0 l p (i : Int)).as (.ret (.bool (t.all (nodeOk p)))) (hpOf [] 0)
  | [], i, h => by
    have := dropN h
    exact Ends.eqv (bEvN_0_2 l p i (by (simp only [decide_eq_true_eq, decide_eq_false_iff_not]; omega))) (by simp)
  | c :: t, i, h => by
    obtain ⟨g1, g2, g3⟩ := dropC h
    have hq := ih c (List.mem_of_getElem? g1)
    cases k : nodeOk p c with
    | false => rw [k] at hq; exact Ends.eqv (bEvN_0_0 l p i c false (by (simp only [decide_eq_true_eq, decide_eq_false_iff_not]; omega)) (by omega) (by assumption) hq rfl) (by simp [k])
    | true =>
      rw [k] at hq
      refine (bEvN_0_1 l p i c true (by (simp only [decide_eq_true_eq, decide_eq_false_iff_not]; omega)) (by omega) (by assumption) hq rfl (by (apply wrap64 <;> omega))).ends ?_
      exact Ends.eqv (bEvN_loop l p hl ih t (i + 1) g2) (by simp [k])
theorem bEvN_pure (l : List Node) (p : Prog) (hl : l.length < 1000000) (ih : ∀ x ∈ l, Pure PP 79 [Prog.av p, Node.av x] (.bool (nodeOk p x))) : Pure PP 78 [.ilst 4 (List.map Node.av l) false, .func 79 [Prog.av p] []] (.bool (l.all (nodeOk p))) :=
  pure_at (by kernel_rfl) rfl rfl ((bEvN_E_0 l p).ends (bEvN_loop l p hl ih l 0 rfl))
def one (k : Int) : Bool := decide (k = 1)
theorem bEvI_loop (l : List Int) (hl : l.length < 1000000) : ∀ (t : List Int) (i : Nat), l.drop i = t → Ends PP 0 (bEvI_c0 l (i : Int)).as (.ret (.bool (t.all one))) (hpOf [] 0)
  | [], i, h => by
    have := dropN h
    exact Ends.eqv (bEvI_0_2 l i (by (simp only [decide_eq_true_eq, decide_eq_false_iff_not]; omega))) (by simp)
  | c :: t, i, h => by
    obtain ⟨g1, g2, g3⟩ := dropC h
    by_cases k : c = 1
    · refine (bEvI_0_1 l i c (by (simp only [decide_eq_true_eq, decide_eq_false_iff_not]; omega)) (by omega) (by assumption) (by simp [k]) (by (apply wrap64 <;> omega))).ends ?_
      exact Ends.eqv (bEvI_loop l hl t (i + 1) g2) (by simp [k, one])
    · exact Ends.eqv (bEvI_0_0 l i c (by (simp only [decide_eq_true_eq, decide_eq_false_iff_not]; omega)) (by omega) (by assumption) (by simp [k])) (by simp [k, one])
theorem bEvI_pure (l : List Int) (hl : l.length < 1000000) : Pure PP 80 [.ilst 1 (List.map avI l) true, .func 81 [] []] (.bool (l.all one)) :=
  pure_at (by kernel_rfl) rfl rfl ((bEvI_E_0 l).ends (bEvI_loop l hl l 0 rfl))
theorem bMap_loop (l : List Con) (hl : l.length < 100000) : ∀ (t : List Con) (i : Nat), l.drop i = t → Ends PP 0 (bMap_c0 l (i : Int) (consNames (l.take i))).as (.ret (.ilst 1 (List.map avS (consNames l)) false)) (hpOf [] 0)
  | [], i, h => by
    have hi := dropN h
    have e : consNames (l.take i) = consNames l := by rw [List.take_of_length_le hi]
    rw [e]
    exact bMap_0_1 l i _ (by (simp only [decide_eq_true_eq, decide_eq_false_iff_not]; omega))
  | c :: t, i, h => by
    obtain ⟨g1, g2, g3⟩ := dropC h
    have e : consNames (l.take i) ++ [c.name] = consNames (l.take (i + 1)) := by
      rw [List.take_add_one, g1]; simp [consNames]
    refine (bMap_0_0 l i (consNames (l.take i)) c (by (simp only [decide_eq_true_eq, decide_eq_false_iff_not]; omega)) (by omega) (by assumption) (by simp [consNames]; omega) (by (apply wrap64 <;> omega))).ends ?_
    rw [e]
    exact bMap_loop l hl t (i + 1) g2
theorem bMap_pure (l : List Con) (hl : l.length < 100000) : Pure PP 76 [.ilst 2 (List.map Con.av l) false, .func 77 [] []] (.ilst 1 (List.map avS (consNames l)) false) :=
  pure_at (by kernel_rfl) rfl rfl ((bMap_E_0 l).ends (bMap_loop l hl l 0 rfl))
/-! ### owned nodes -/
def incs (lo n : Int) : List Int → List Int → Option (List Int)
  | [], c => some c
  | k :: ks, c => if inB k lo (n - 1) = true then incs lo n ks (c.set k.toNat (c.getD k.toNat 0 + 1)) else none
def bNodes (p : Prog) : Nat → List Node → List Int → Option (List Int)
  | _, [], c => some c
  | i, x :: t, c => match incs ((i : Int) + 1) (p.nodes.length : Int) x.kids c with
      | some d => bNodes p (i + 1) t d
      | none => none
def allOnes : Option (List Int) → Bool
  | some c => c.all one
  | none => false
/-- numbers that stay small -/
def below (b : Int) (c : List Int) : Prop := ∀ k ∈ c, 0 ≤ k ∧ k ≤ b
theorem below_get {b : Int} {c : List Int} (h : below b c) {i : Nat} {z : Int} (hz : c[i]? = some z) : 0 ≤ z ∧ z ≤ b := h z (List.mem_of_getElem? hz)
theorem below_set {b : Int} {c : List Int} (h : below b c) {i : Nat} {z : Int} (hz : c[i]? = some z) : below (b + 1) (c.set i (z + 1)) := fun k hk => by
  rcases List.mem_or_eq_of_mem_set hk with g | g
  · have := h k g; omega
  · have := below_get h hz; omega
theorem bF2 (p : Prog) (i : Nat) (hi : i < p.nodes.length) (hn : p.nodes.length ≤ 1000) (ks : List Int) (hk : ks.length ≤ 1000) (K : List Int → Bool) (B : Int) (hB : 0 ≤ B) (hB2 : B ≤ 1000000)
    (hb : ∀ v : List Int, v.length = p.nodes.length → below (B + ks.length) v → Ends PP 0 (bFormed_c1 p v ((i : Int) + 1)).as (.ret (.bool (K v))) (hpOf [] 0)) :
    ∀ (t : List Int) (k : Nat) (c : List Int), c.length = p.nodes.length → k ≤ ks.length → below (B + k) c → ks.drop k = t → Ends PP 0 (bFormed_c2 p ks (ks.length : Int) c (k : Int) (i : Int) (i : Int)).as (.ret (.bool (match incs ((i : Int) + 1) p.nodes.length t c with | some v => K v | none => false))) (hpOf [] 0)
  | [], k, c, hc, hkl, hbl, h => by
    have := dropN h
    have e : k = ks.length := by omega
    subst e
    refine (bFormed_2_2 p ks ks.length c ks.length i i (by (simp only [decide_eq_true_eq, decide_eq_false_iff_not]; omega)) (by (apply wrap64 <;> omega))).ends ?_
    exact hb c hc hbl
  | y :: t, k, c, hc, hkl, hbl, h => by
    obtain ⟨g1, g2, g3⟩ := dropC h
    have hin := bIn_pure y ((i : Int) + 1) ((p.nodes.length : Int) - 1)
    cases k1 : inB y ((i : Int) + 1) ((p.nodes.length : Int) - 1) with
    | false =>
      rw [k1] at hin
      exact Ends.eqv (bFormed_2_0 p ks ks.length c k i i y false (by (simp only [decide_eq_true_eq, decide_eq_false_iff_not]; omega)) (by omega) (by assumption) (by (apply wrap64 <;> omega)) (by (apply wrap64 <;> omega)) hin rfl) (by simp [incs, k1])
    | true =>
      rw [k1] at hin
      have hy := inB_iff.1 k1
      obtain ⟨z, hz⟩ : ∃ z, c[y.toNat]? = some z := ⟨_, List.getElem?_eq_getElem (by omega)⟩
      have hzb := below_get hbl hz
      refine (bFormed_2_1 p ks ks.length c k i i y true z (by (simp only [decide_eq_true_eq, decide_eq_false_iff_not]; omega)) (by omega) (by assumption) (by (apply wrap64 <;> omega)) (by (apply wrap64 <;> omega)) hin rfl (by omega) (by omega) hz (by (apply wrap64 <;> omega)) (by (apply wrap64 <;> omega))).ends ?_
      have e : c.getD y.toNat 0 = z := by rw [List.getD_eq_getElem?_getD, hz]; rfl
      have ei : incs ((i : Int) + 1) p.nodes.length (y :: t) c = incs ((i : Int) + 1) p.nodes.length t (c.set y.toNat (z + 1)) := by
        rw [incs, if_pos k1, e]
      rw [ei]
      refine bF2 p i hi hn ks hk K B hB hB2 hb t (k + 1) (c.set y.toNat (z + 1)) (by simpa using hc) (by omega) ?_ g2
      have := below_set hbl hz
      intro q hq
      have := this q hq
      push_cast
      omega
def kidsSum : List Node → Nat
  | [] => 0
  | x :: t => x.kids.length + kidsSum t
theorem kidsSum_le : ∀ (t : List Node), (∀ x ∈ t, x.kids.length ≤ 10) → kidsSum t ≤ 10 * t.length
  | [], _ => by simp [kidsSum]
  | x :: t, h => by
    have a := kidsSum_le t (fun y hy => h y (List.mem_cons_of_mem _ hy))
    have b := h x (List.mem_cons_self ..)
    simp only [kidsSum, List.length_cons]; omega
theorem bF1 (p : Prog) (hp : smallProg p = true) (hn : p.nodes.length ≤ 1000) : ∀ (t : List Node) (i : Nat) (c : List Int) (B : Int), 0 ≤ B → B + kidsSum t ≤ 100000 → c.length = p.nodes.length → below B c → p.nodes.drop i = t →
    Ends PP 0 (bFormed_c1 p c (i : Int)).as (.ret (.bool (allOnes (bNodes p i t c)))) (hpOf [] 0)
  | [], i, c, B, h0, h1, hc, hb, h => by
    have := dropN h
    exact Ends.eqv (bFormed_1_1 p c i _ (by (simp only [decide_eq_true_eq, decide_eq_false_iff_not]; omega)) (bEvI_pure c (by omega))) rfl
  | x :: t, i, c, B, h0, h1, hc, hb, h => by
    obtain ⟨g1, g2, g3⟩ := dropC h
    have hx : smallNode x = true := by
      simp only [smallProg, Bool.and_eq_true] at hp
      exact List.all_eq_true.1 hp.2 x (List.mem_of_getElem? g1)
    simp only [smallNode, Bool.and_eq_true, decide_eq_true_eq] at hx
    simp only [kidsSum] at h1
    refine (bFormed_1_0 p c i x (by (simp only [decide_eq_true_eq, decide_eq_false_iff_not]; omega)) (by omega) (by assumption)).ends ?_
    refine Ends.eqv (bF2 p i g3 hn x.kids (by omega) (fun v => allOnes (bNodes p (i + 1) t v)) B h0 (by omega) (fun v hv hbv => bF1 p hp hn t (i + 1) v (B + x.kids.length) (by omega) (by omega) hv hbv g2) x.kids 0 c hc (by omega) (by simpa using hb) rfl) ?_
    rw [bNodes]
    cases incs ((i : Int) + 1) (p.nodes.length : Int) x.kids c <;> rfl
theorem bF0 (p : Prog) (hp : smallProg p = true) (hn : p.nodes.length ≤ 1000) (hks : kidsSum p.nodes ≤ 10000) (hf : p.funs.length ≤ 1000) : ∀ (t : List Int) (i : Nat) (c : List Int), i ≤ p.funs.length → c.length = p.nodes.length → below (i : Int) c → p.funs.drop i = t →
    Ends PP 0 (bFormed_c0 p (i : Int) c).as (.ret (.bool (match incs 0 p.nodes.length t c with | some v => allOnes (bNodes p 0 p.nodes v) | none => false))) (hpOf [] 0)
  | [], i, c, hi, hc, hb, h => by
    have := dropN h
    refine (bFormed_0_2 p i c (by (simp only [decide_eq_true_eq, decide_eq_false_iff_not]; omega))).ends ?_
    exact bF1 p hp hn p.nodes 0 c i (by omega) (by omega) hc hb rfl
  | y :: t, i, c, hi, hc, hb, h => by
    obtain ⟨g1, g2, g3⟩ := dropC h
    have hin := bIn_pure y 0 ((p.nodes.length : Int) - 1)
    cases k1 : inB y 0 ((p.nodes.length : Int) - 1) with
    | false =>
      rw [k1] at hin
      exact Ends.eqv (bFormed_0_0 p i c y false (by (simp only [decide_eq_true_eq, decide_eq_false_iff_not]; omega)) (by omega) (by assumption) (by (apply wrap64 <;> omega)) hin rfl) (by simp [incs, k1])
    | true =>
      rw [k1] at hin
      have hy := inB_iff.1 k1
      obtain ⟨z, hz⟩ : ∃ z, c[y.toNat]? = some z := ⟨_, List.getElem?_eq_getElem (by omega)⟩
      have hzb := below_get hb hz
      refine (bFormed_0_1 p i c y true z (by (simp only [decide_eq_true_eq, decide_eq_false_iff_not]; omega)) (by omega) (by assumption) (by (apply wrap64 <;> omega)) hin rfl (by omega) (by omega) hz (by (apply wrap64 <;> omega)) (by (apply wrap64 <;> omega))).ends ?_
      have e : c.getD y.toNat 0 = z := by rw [List.getD_eq_getElem?_getD, hz]; rfl
      have ei : incs 0 p.nodes.length (y :: t) c = incs 0 p.nodes.length t (c.set y.toNat (z + 1)) := by
        rw [incs, if_pos k1, e]
      rw [ei]
      refine bF0 p hp hn hks hf t (i + 1) (c.set y.toNat (z + 1)) (by omega) (by simpa using hc) ?_ g2
      have := below_set hb hz
      intro q hq
      have := this q hq
      push_cast
      omega
end Go.Hb

namespace Go.Hb
open Go.Proofs
set_option maxHeartbeats 1000000
def bindFormed (p : Prog) : Bool :=
  progHead p && decide (p.cons.length ≤ 20) && p.cons.all consOk1 && differS (consNames p.cons) && p.nodes.all (nodeOk p) &&
    (match incs 0 (p.nodes.length : Int) p.funs (List.replicate p.nodes.length 0) with
    | some v => allOnes (bNodes p 0 p.nodes v)
    | none => false)
theorem small_nodes {p : Prog} (hp : smallProg p = true) : ∀ x ∈ p.nodes, x.kids.length ≤ 10 ∧ x.pats.length ≤ 10 := fun x hx => by
  simp only [smallProg, Bool.and_eq_true] at hp
  have := List.all_eq_true.1 hp.2 x hx
  simp only [smallNode, Bool.and_eq_true, decide_eq_true_eq] at this
  exact this.1
theorem bFormed_pure (p : Prog) (hp : smallProg p = true) : Pure PP 32 [Prog.av p] (.bool (bindFormed p)) := by
  refine pure_at (by kernel_rfl) rfl rfl ?_
  have hs := hp
  simp only [smallProg, Bool.and_eq_true, decide_eq_true_eq] at hs
  obtain ⟨⟨⟨⟨s1, s2⟩, s3⟩, _⟩, _⟩ := hs
  have hno := small_nodes hp
  by_cases k0 : p.nodes.length ≤ 300
  · by_cases k1 : 1 ≤ p.funs.length
    · by_cases k2 : p.funs.length ≤ p.nodes.length
      · have kk : inB (p.funs.length : Int) 1 (p.nodes.length : Int) = true := inB_iff.2 ⟨by omega, by omega⟩
        by_cases k3 : p.cons.length ≤ 20
        · have hi := bIn_pure p.main 0 ((p.funs.length : Int) - 1)
          cases k4 : inB p.main 0 ((p.funs.length : Int) - 1) with
          | false =>
            rw [k4] at hi
            exact Ends.eqv (bFormed_E_4 p false (by (simp only [decide_eq_true_eq, decide_eq_false_iff_not]; omega)) (by (simp only [decide_eq_true_eq, decide_eq_false_iff_not]; omega)) (by (simp only [decide_eq_true_eq, decide_eq_false_iff_not]; omega)) (by (simp only [decide_eq_true_eq, decide_eq_false_iff_not]; omega)) (by (apply wrap64 <;> omega)) hi rfl) (by simp [bindFormed, progHead, k4])
          | true =>
            rw [k4] at hi
            have hh : progHead p = true := by simp [progHead, k0, kk, k4]
            have hc := bEvC_pure p.cons (by omega)
            cases k5 : p.cons.all consOk1 with
            | false =>
              rw [k5] at hc
              exact Ends.eqv (bFormed_E_5 p true false (by (simp only [decide_eq_true_eq, decide_eq_false_iff_not]; omega)) (by (simp only [decide_eq_true_eq, decide_eq_false_iff_not]; omega)) (by (simp only [decide_eq_true_eq, decide_eq_false_iff_not]; omega)) (by (simp only [decide_eq_true_eq, decide_eq_false_iff_not]; omega)) (by (apply wrap64 <;> omega)) hi rfl hc rfl) (by simp only [bindFormed, k5, Bool.and_false, Bool.false_and])
            | true =>
              rw [k5] at hc
              have hm := bMap_pure p.cons (by omega)
              have hd := bDiffer_pure (consNames p.cons) (by simp [consNames]; omega)
              cases k6 : differS (consNames p.cons) with
              | false =>
                rw [k6] at hd
                exact Ends.eqv (bFormed_E_6 p true true (consNames p.cons) false (by (simp only [decide_eq_true_eq, decide_eq_false_iff_not]; omega)) (by (simp only [decide_eq_true_eq, decide_eq_false_iff_not]; omega)) (by (simp only [decide_eq_true_eq, decide_eq_false_iff_not]; omega)) (by (simp only [decide_eq_true_eq, decide_eq_false_iff_not]; omega)) (by (apply wrap64 <;> omega)) hi rfl hc rfl hm hd rfl) (by simp only [bindFormed, k6, Bool.and_false, Bool.false_and])
              | true =>
                rw [k6] at hd
                have hn := bEvN_pure p.nodes p (by omega) (fun x hx => bNode_pure p x (by omega) (by omega) (hno x hx).2 (hno x hx).1)
                cases k7 : p.nodes.all (nodeOk p) with
                | false =>
                  rw [k7] at hn
                  exact Ends.eqv (bFormed_E_7 p true true (consNames p.cons) true false (by (simp only [decide_eq_true_eq, decide_eq_false_iff_not]; omega)) (by (simp only [decide_eq_true_eq, decide_eq_false_iff_not]; omega)) (by (simp only [decide_eq_true_eq, decide_eq_false_iff_not]; omega)) (by (simp only [decide_eq_true_eq, decide_eq_false_iff_not]; omega)) (by (apply wrap64 <;> omega)) hi rfl hc rfl hm hd rfl hn rfl) (by simp only [bindFormed, k7, Bool.and_false, Bool.false_and])
                | true =>
                  rw [k7] at hn
                  refine (bFormed_E_8 p true true (consNames p.cons) true true (by (simp only [decide_eq_true_eq, decide_eq_false_iff_not]; omega)) (by (simp only [decide_eq_true_eq, decide_eq_false_iff_not]; omega)) (by (simp only [decide_eq_true_eq, decide_eq_false_iff_not]; omega)) (by (simp only [decide_eq_true_eq, decide_eq_false_iff_not]; omega)) (by (apply wrap64 <;> omega)) hi rfl hc rfl hm hd rfl hn rfl (by omega)).ends ?_
                  have hks := kidsSum_le p.nodes (fun x hx => (hno x hx).1)
                  refine Ends.eqv (bF0 p hp (by omega) (by omega) (by omega) p.funs 0 _ (by omega) (by simp) ?_ rfl) ?_
                  · intro q hq
                    have := (List.mem_replicate.1 hq).2
                    omega
                  · simp only [bindFormed, hh, decide_eq_true k3, k5, k6, k7, Bool.true_and] <;> rfl
        · exact Ends.eqv (bFormed_E_3 p (by (simp only [decide_eq_true_eq, decide_eq_false_iff_not]; omega)) (by (simp only [decide_eq_true_eq, decide_eq_false_iff_not]; omega)) (by (simp only [decide_eq_true_eq, decide_eq_false_iff_not]; omega)) (by (simp only [decide_eq_true_eq, decide_eq_false_iff_not]; omega))) (by simp [bindFormed, k3])
      · have kk : inB (p.funs.length : Int) 1 (p.nodes.length : Int) = false := inB_not.2 (by omega)
        exact Ends.eqv (bFormed_E_2 p (by (simp only [decide_eq_true_eq, decide_eq_false_iff_not]; omega)) (by (simp only [decide_eq_true_eq, decide_eq_false_iff_not]; omega)) (by (simp only [decide_eq_true_eq, decide_eq_false_iff_not]; omega))) (by simp [bindFormed, progHead, kk])
    · have kk : inB (p.funs.length : Int) 1 (p.nodes.length : Int) = false := inB_not.2 (by omega)
      exact Ends.eqv (bFormed_E_1 p (by (simp only [decide_eq_true_eq, decide_eq_false_iff_not]; omega)) (by (simp only [decide_eq_true_eq, decide_eq_false_iff_not]; omega))) (by simp [bindFormed, progHead, kk])
  · exact Ends.eqv (bFormed_E_0 p (by (simp only [decide_eq_true_eq, decide_eq_false_iff_not]; omega))) (by simp [bindFormed, progHead, k0])
theorem bCheck_pure (p : Prog) (hp : smallProg p = true) : Pure PP 10 [Prog.av p] (.int .i64 (checkN (bindFormed p))) := by
  refine pure_at (by kernel_rfl) rfl rfl ?_
  have h := bFormed_pure p hp
  cases k : bindFormed p with
  | false => rw [k] at h; exact bCheck_E_0 p false h rfl
  | true => rw [k] at h; exact bCheck_E_1 p true h rfl
/-! ### marks and counts -/
def cnt (b : Bool) : Int := if b = true then 1 else 0
def cnts (u : List Bool) : List Int := u.map cnt
/-- a number that is too great, all others not below 0 -/
def Spoilt (c : List Int) : Prop := (∃ (i : Nat) (z : Int), c[i]? = some z ∧ 2 ≤ z) ∧ ∀ z ∈ c, 0 ≤ z
theorem spoilt_ones {c : List Int} (h : Spoilt c) : c.all one = false := by
  obtain ⟨⟨i, z, h1, h2⟩, _⟩ := h
  cases k : c.all one with
  | false => rfl
  | true =>
    have := List.all_eq_true.1 k z (List.mem_of_getElem? h1)
    simp only [one, decide_eq_true_eq] at this; omega
theorem spoilt_set {c : List Int} {j : Nat} (h : Spoilt c) : Spoilt (c.set j (c.getD j 0 + 1)) := by
  obtain ⟨⟨i, z, h1, h2⟩, h3⟩ := h
  have hi := (List.getElem?_eq_some_iff.1 h1).1
  refine ⟨⟨i, if j = i then z + 1 else z, ?_, by split <;> omega⟩, fun q hq => ?_⟩
  · rw [List.getElem?_set]
    by_cases e : j = i
    · subst e
      rw [if_pos rfl, if_pos hi, if_pos rfl, List.getD_eq_getElem?_getD, h1]; rfl
    · rw [if_neg e, if_neg e]; exact h1
  · rcases List.mem_or_eq_of_mem_set hq with g | g
    · exact h3 q g
    · rw [g, List.getD_eq_getElem?_getD]
      cases k : c[j]? with
      | none => simp
      | some w => have := h3 w (List.mem_of_getElem? k); simp; omega
theorem incs_spoilt {lo n : Int} : ∀ {ks c : List Int} {d : List Int}, Spoilt c → incs lo n ks c = some d → Spoilt d
  | [], c, d, h, e => by simp only [incs, Option.some.injEq] at e; rw [← e]; exact h
  | k :: ks, c, d, h, e => by
    simp only [incs] at e
    split at e
    · exact incs_spoilt (spoilt_set h) e
    · cases e
theorem cnts_nonneg (u : List Bool) : ∀ z ∈ cnts u, 0 ≤ z := fun z hz => by
  obtain ⟨b, _, rfl⟩ := List.mem_map.1 hz
  cases b <;> simp [cnt]
/-- marked once: counted the same; else something is spoilt -/
theorem marks_incs {lo n : Int} (hlo : 0 ≤ lo) : ∀ (ks : List Int) (u : List Bool), n ≤ u.length →
    (∀ v, marks lo n ks u = some v → incs lo n ks (cnts u) = some (cnts v)) ∧ (marks lo n ks u = none → ∀ d, incs lo n ks (cnts u) = some d → Spoilt d)
  | [], u, hn => by
    simp only [marks, incs, Option.some.injEq]
    exact ⟨fun v e => by rw [e], fun e => by cases e⟩
  | k :: ks, u, hn => by
    simp only [marks, incs]
    by_cases h1 : inB k lo (n - 1) = true
    · have hk := inB_iff.1 h1
      have hlt : k.toNat < u.length := by omega
      have hget : u[k.toNat]? = some u[k.toNat] := List.getElem?_eq_getElem hlt
      have hc : (cnts u).getD k.toNat 0 = cnt u[k.toNat] := by
        rw [List.getD_eq_getElem?_getD, cnts, List.getElem?_map, hget]; rfl
      rw [if_pos h1]
      cases hb : u[k.toNat] with
      | false =>
        rw [hb] at hget hc
        rw [if_pos ⟨h1, hget⟩]
        have e : (cnts u).set k.toNat ((cnts u).getD k.toNat 0 + 1) = cnts (u.set k.toNat true) := by
          rw [hc, cnts, cnts, List.map_set]; rfl
        rw [e]
        exact marks_incs hlo ks (u.set k.toNat true) (by simpa using hn)
      | true =>
        rw [hb] at hget hc
        rw [if_neg (by rw [hget]; simp)]
        refine And.intro (fun v e => nomatch e) (fun _ d e => incs_spoilt (And.intro ⟨k.toNat, 2, ?_, by omega⟩ ?_) e)
        · rw [hc, List.getElem?_set_self (by simp [cnts]; exact hlt)]; rfl
        · intro z hz
          rcases List.mem_or_eq_of_mem_set hz with g | g
          · exact cnts_nonneg u z g
          · rw [g, hc]; simp [cnt]
    · rw [if_neg h1, if_neg (fun g => h1 g.1)]
      exact And.intro (fun v e => nomatch e) (fun _ d e => nomatch e)
theorem bNodes_spoilt (p : Prog) : ∀ (t : List Node) (i : Nat) (c : List Int), Spoilt c → allOnes (bNodes p i t c) = false
  | [], i, c, h => by rw [bNodes]; exact spoilt_ones h
  | x :: t, i, c, h => by
    rw [bNodes]
    cases e : incs ((i : Int) + 1) (p.nodes.length : Int) x.kids c with
    | none => rfl
    | some d => exact bNodes_spoilt p t (i + 1) d (incs_spoilt h e)
theorem cnts_ones : ∀ (u : List Bool), (cnts u).all one = u.all fun b => b
  | [] => rfl
  | b :: u => by
    have := cnts_ones u
    simp only [cnts, List.map_cons, List.all_cons] at this ⊢
    rw [this]
    cases b <;> simp [cnt, one]
theorem nodes_eq (p : Prog) : ∀ (t : List Node) (i : Nat) (u : List Bool), u.length = p.nodes.length → t.all (nodeOk p) = true → allT (refNodes p i t u) = allOnes (bNodes p i t (cnts u))
  | [], i, u, hu, _ => by simp only [refNodes, bNodes, allT, allOnes, cnts_ones]
  | x :: t, i, u, hu, ha => by
    simp only [List.all_cons, Bool.and_eq_true] at ha
    obtain ⟨m1, m2⟩ := marks_incs (lo := (i : Int) + 1) (n := (p.nodes.length : Int)) (by omega) x.kids u (by omega)
    simp only [refNodes, bNodes, if_pos ha.1]
    cases hm : marks ((i : Int) + 1) (p.nodes.length : Int) x.kids u with
    | some v =>
      rw [m1 v hm]
      exact nodes_eq p t (i + 1) v (by rw [marks_len hm, hu]) ha.2
    | none =>
      cases hi : incs ((i : Int) + 1) (p.nodes.length : Int) x.kids (cnts u) with
      | none => rfl
      | some d => exact (bNodes_spoilt p t (i + 1) d (m2 hm d hi)).symm
theorem refNodes_bad (p : Prog) : ∀ (t : List Node) (i : Nat) (u : List Bool), t.all (nodeOk p) = false → allT (refNodes p i t u) = false
  | [], i, u, h => by simp at h
  | x :: t, i, u, h => by
    simp only [refNodes]
    by_cases hx : nodeOk p x = true
    · rw [if_pos hx]
      have ht : t.all (nodeOk p) = false := by simpa [hx] using h
      cases marks ((i : Int) + 1) (p.nodes.length : Int) x.kids u with
      | none => rfl
      | some v => exact refNodes_bad p t (i + 1) v ht
    · rw [if_neg hx]; rfl
/-- **the program's answer is the reference's** -/
theorem formed_eq (p : Prog) : bindFormed p = refFormed p := by
  have e1 : bindFormed p = (progHead p && consOk p.cons && (p.nodes.all (nodeOk p) && (match incs 0 (p.nodes.length : Int) p.funs (List.replicate p.nodes.length 0) with
    | some v => allOnes (bNodes p 0 p.nodes v)
    | none => false))) := by
    unfold bindFormed consOk
    cases progHead p <;> cases p.cons.all consOk1 <;> cases differS (consNames p.cons) <;> cases p.nodes.all (nodeOk p) <;> cases decide (p.cons.length ≤ 20) <;> simp
  rw [e1, refFormed]
  congr 1
  have ez : List.replicate p.nodes.length (0 : Int) = cnts (List.replicate p.nodes.length false) := by rw [cnts, List.map_replicate]; rfl
  rw [ez]
  obtain ⟨m1, m2⟩ := marks_incs (lo := 0) (n := (p.nodes.length : Int)) (by omega) p.funs (List.replicate p.nodes.length false) (by simp)
  cases hm : marks 0 (p.nodes.length : Int) p.funs (List.replicate p.nodes.length false) with
  | some v =>
    rw [m1 v hm]
    cases ha : p.nodes.all (nodeOk p) with
    | true => simp only [Bool.true_and]; exact (nodes_eq p p.nodes 0 v (by rw [marks_len hm]; simp) ha).symm
    | false => simp only [Bool.false_and]; exact (refNodes_bad p p.nodes 0 v ha).symm
  | none =>
    simp only
    cases hi : incs 0 (p.nodes.length : Int) p.funs (cnts (List.replicate p.nodes.length false)) with
    | none => simp
    | some d => simp only [bNodes_spoilt p p.nodes 0 d (m2 hm d hi), Bool.and_false]
end Go.Hb

