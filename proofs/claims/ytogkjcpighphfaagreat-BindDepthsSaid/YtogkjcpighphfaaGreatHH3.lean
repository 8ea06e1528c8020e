/-
  OWN WORK (the ways WRITTEN BY A PROGRAM): the reference's sizes; the walks come to every node with its size.
-/
import Derived.Test.YtogkjcpighphfaaGreatHH2
set_option linter.unusedVariables false
set_option linter.unusedSimpArgs false
set_option linter.unusedSectionVars false
namespace Go.Hb
open Go.Proofs
noncomputable def rSizes_c0 (p : Prog) (i4 : Int) (l1 : (List Int)) : TS :=
  { fr := { fn := 35, nt := 67, sl := [(1, (.ptr 0 0)), (2, .nils), (3, (.gl 1 1 0 (List.length l1) true)), (4, (.int .i64 i4))], todo := [.code (cd Tryz.f35 [1, 1, 0, 1, 0, 0]), .inLoop (cd Tryz.f35 [1, 1, 0, 1, 0, 0]), .inBlock 0, .code (cd Tryz.f35 [1, 1, 1])] }, cs := [], hp := [(0, (.cells (putCells .leaf 0 [(.ilst 4 (List.map Node.av p.nodes) false), (.ilst 1 (List.map avI p.funs) false), (.int .i64 p.main), (.ilst 2 (List.map Con.av p.cons) false)]) 4 [] false), false), (1, (.lst 1 (List.map avI l1)), true)], nb := 2 }
noncomputable def rSizes_c1 (p : Prog) (l1 : (List Int)) (i5 : Int) : TS :=
  { fr := { fn := 35, nt := 67, sl := [(1, (.ptr 0 0)), (2, .nils), (3, (.gl 1 1 0 (List.length l1) true)), (5, (.int .i64 i5))], todo := [.code (cd Tryz.f35 [1, 1, 1, 0, 1, 0, 0]), .inLoop (cd Tryz.f35 [1, 1, 1, 0, 1, 0, 0]), .inBlock 2, .code (cd Tryz.f35 [1, 1, 1, 1])] }, cs := [], hp := [(0, (.cells (putCells .leaf 0 [(.ilst 4 (List.map Node.av p.nodes) false), (.ilst 1 (List.map avI p.funs) false), (.int .i64 p.main), (.ilst 2 (List.map Con.av p.cons) false)]) 4 [] false), false), (1, (.lst 1 (List.map avI l1)), true)], nb := 2 }
noncomputable def rSizes_c2 (p : Prog) (vl1 : (List Int)) (k6 : Int) (i5 : Int) : TS :=
  { fr := { fn := 35, nt := 67, sl := [(1, (.ptr 0 0)), (2, .nils), (3, (.gl 1 1 0 (List.length vl1) true)), (5, (.int .i64 i5)), (6, (.int .i64 k6))], todo := [.code (cd Tryz.f35 [1, 1, 1, 0, 1, 0, 0, 1, 0, 0, 1, 0, 0]), .inLoop (cd Tryz.f35 [1, 1, 1, 0, 1, 0, 0, 1, 0, 0, 1, 0, 0]), .inBlock 4, .inBlock 3, .code (cd Tryz.f35 [1, 1, 1, 0, 1, 0, 0, 1, 1]), .inLoop (cd Tryz.f35 [1, 1, 1, 0, 1, 0, 0]), .inBlock 2, .code (cd Tryz.f35 [1, 1, 1, 1])] }, cs := [], hp := [(0, (.cells (putCells .leaf 0 [(.ilst 4 (List.map Node.av p.nodes) false), (.ilst 1 (List.map avI p.funs) false), (.int .i64 p.main), (.ilst 2 (List.map Con.av p.cons) false)]) 4 [] false), false), (1, (.lst 1 (List.map avI vl1)), true)], nb := 2 }
theorem rSizes_E_0 (p : Prog) (h0 : (List.length p.nodes) < 100000) :
    LeadsM PP 0 (start PP 35 [(Prog.av p)]).as (rSizes_c0 p 0 (List.replicate (List.length p.nodes) (0 : Int))).as :=
  wW 2 [0, 1] [((List.length (List.map Node.av p.nodes) : Nat) : Int) = ((List.length p.nodes : Nat) : Int), ((List.length p.nodes : Nat) : Int) = (((List.length p.nodes) : Nat) : Int), ((List.length p.nodes : Nat) : Int) = (((List.length p.nodes) : Nat) : Int), ty h0, List.replicate (List.length p.nodes) (avI (0 : Int)) = (List.map avI (List.replicate (List.length p.nodes) (0 : Int))), (AV.gl 1 1 0 (List.length p.nodes) true) = (.gl 1 1 0 (List.length (List.replicate (List.length p.nodes) (0 : Int))) true)] [.run 9, .ans (.len ((List.length p.nodes : Nat) : Int)), .mk (List.length p.nodes), .lset 1 (List.map avI (List.replicate (List.length p.nodes) (0 : Int))), .set 10 (.gl 1 1 0 (List.length (List.replicate (List.length p.nodes) (0 : Int))) true), .run 9] (by kernel_rfl) (by kernel_rfl) ⟨(keylessL_map _ (fun _ => rfl) _), trivial⟩ ⟨(len_i _ _), rfl, rfl, h0, (rep_map _ _ _), (gl_len (List.length_replicate ..).symm)⟩
theorem rSizes_0_0 (p : Prog) (i4 : Int) (l1 : (List Int)) (y0 : Int) (y1 : Int) (h0 : (decide (i4 < ((List.length p.funs : Nat) : Int))) = true) (h1 : 0 ≤ i4) (h2 : ((p.funs)[i4.toNat]?) = some y0) (h3 : 0 ≤ y0) (h4 : y0 < (((List.length l1) : Nat) : Int)) (h5 : ((l1)[y0.toNat]?) = some y1) (h6 : (IntKind.i64.wrap (i4 + (1 : Int))) = (i4 + (1 : Int))) :
    LeadsM PP 0 (rSizes_c0 p i4 l1).as (rSizes_c0 p (i4 + (1 : Int)) (List.set l1 y0.toNat 1)).as :=
  wW 2 [0, 1] [((List.length (List.map avI p.funs) : Nat) : Int) = ((List.length p.funs : Nat) : Int), ty h0, 0 ≤ i4, (List.map avI p.funs)[i4.toNat]? = some (avI y0), 0 ≤ y0, ty h4, (List.map avI l1)[(0 + y0.toNat)]? = some (avI y1), setElem (avI y1) 0 [(.int .i64 1)] = some (avI 1), (List.map avI l1).set (0 + y0.toNat) (avI 1) = (List.map avI (List.set l1 y0.toNat 1)), (AV.gl 1 1 0 (List.length l1) true) = (.gl 1 1 0 (List.length (List.set l1 y0.toNat 1)) true), (AV.gl 1 1 0 (List.length l1) true) = (.gl 1 1 0 (List.length (List.set l1 y0.toNat 1)) true), (AV.int .i64 (IntKind.i64.wrap (i4 + (1 : Int)))) = (.int .i64 (i4 + (1 : Int)))] [.run 6, .ans (.len ((List.length p.funs : Nat) : Int)), .run 2, .b 15 true, .run 9, .ans (.idx (avI y0)), .run 1, .ans (.ix), .st (avI y1) (avI 1), .lset 1 (List.map avI (List.set l1 y0.toNat 1)), .set 3 (.gl 1 1 0 (List.length (List.set l1 y0.toNat 1)) true), .set 18 (.gl 1 1 0 (List.length (List.set l1 y0.toNat 1)) true), .run 5, .set 17 (.int .i64 (i4 + (1 : Int))), .run 3] (by kernel_rfl) (by kernel_rfl) ⟨(keylessL_map _ (fun _ => rfl) _), trivial⟩ ⟨(len_i _ _), h0, h1, (map_get h2), h3, h4, (map_get0 h5), rfl, (set_map0 _ _ _ _), (gl_len (List.length_set ..).symm), (gl_len (List.length_set ..).symm), (congrArg (AV.int .i64) h6)⟩
theorem rSizes_0_1 (p : Prog) (i4 : Int) (l1 : (List Int)) (h0 : (decide (i4 < ((List.length p.funs : Nat) : Int))) = false) :
    LeadsM PP 0 (rSizes_c0 p i4 l1).as (rSizes_c1 p l1 0).as :=
  wW 2 [0, 1] [((List.length (List.map avI p.funs) : Nat) : Int) = ((List.length p.funs : Nat) : Int), ty h0] [.run 6, .ans (.len ((List.length p.funs : Nat) : Int)), .run 2, .b 15 false, .run 9] (by kernel_rfl) (by kernel_rfl) ⟨(keylessL_map _ (fun _ => rfl) _), trivial⟩ ⟨(len_i _ _), h0⟩
theorem rSizes_1_0 (p : Prog) (l1 : (List Int)) (i5 : Int) (h0 : (decide (i5 < ((List.length p.nodes : Nat) : Int))) = true) :
    LeadsM PP 0 (rSizes_c1 p l1 i5).as (rSizes_c2 p l1 0 i5).as :=
  wW 2 [0, 1] [((List.length (List.map Node.av p.nodes) : Nat) : Int) = ((List.length p.nodes : Nat) : Int), ty h0] [.run 6, .ans (.len ((List.length p.nodes : Nat) : Int)), .run 2, .b 29 true, .run 10] (by kernel_rfl) (by kernel_rfl) ⟨(keylessL_map _ (fun _ => rfl) _), trivial⟩ ⟨(len_i _ _), h0⟩
theorem rSizes_1_1 (p : Prog) (l1 : (List Int)) (i5 : Int) (h0 : (decide (i5 < ((List.length p.nodes : Nat) : Int))) = false) :
    Ends PP 0 (rSizes_c1 p l1 i5).as (.ret (.ilst 1 (List.map avI l1) true)) (hpOf [] 0) :=
  wE 2 [((List.length (List.map Node.av p.nodes) : Nat) : Int) = ((List.length p.nodes : Nat) : Int), ty h0, AV.keylessL (List.map avI l1) = true, AV.frzOk 1 1 (List.map avI l1) (List.map avI l1) (.gl 1 1 0 (List.length l1) true)] [.run 6, .ans (.len ((List.length p.nodes : Nat) : Int)), .run 2, .b 29 false, .run 8, .frz 2 1 (List.map avI l1)] (by kernel_rfl) (by kernel_rfl) trivial ⟨(len_i _ _), h0, (keylessL_map _ (fun _ => rfl) _), (frz_whole _ _)⟩
theorem rSizes_2_0 (p : Prog) (vl1 : (List Int)) (k6 : Int) (i5 : Int) (y0 : Node) (y1 : Int) (y2 : Int) (y3 : Int) (y4 : Int) (h0 : 0 ≤ i5) (h1 : ((p.nodes)[i5.toNat]?) = some y0) (h2 : (decide (k6 < ((List.length y0.kids : Nat) : Int))) = true) (h3 : 0 ≤ k6) (h4 : ((y0.kids)[k6.toNat]?) = some y1) (h5 : i5 < (((List.length vl1) : Nat) : Int)) (h6 : ((vl1)[i5.toNat]?) = some y2) (h7 : Pure PP 88 [(Node.av y0), (.int .i64 k6)] (.int .i64 y3)) (h8 : 0 ≤ y1) (h9 : y1 < (((List.length vl1) : Nat) : Int)) (h10 : ((vl1)[y1.toNat]?) = some y4) (h11 : (IntKind.i64.wrap (k6 + (1 : Int))) = (k6 + (1 : Int))) :
    LeadsM PP 0 (rSizes_c2 p vl1 k6 i5).as (rSizes_c2 p (List.set vl1 y1.toNat (IntKind.i64.wrap (y2 + y3))) (k6 + (1 : Int)) i5).as :=
  wW 2 [0, 1] [0 ≤ i5, (List.map Node.av p.nodes)[i5.toNat]? = some (Node.av y0), ((List.length (List.map avI y0.kids) : Nat) : Int) = ((List.length y0.kids : Nat) : Int), ty h2, 0 ≤ i5, (List.map Node.av p.nodes)[i5.toNat]? = some (Node.av y0), 0 ≤ k6, (List.map avI y0.kids)[k6.toNat]? = some (avI y1), 0 ≤ i5, ty h5, (List.map avI vl1)[(0 + i5.toNat)]? = some (avI y2), 0 ≤ i5, (List.map Node.av p.nodes)[i5.toNat]? = some (Node.av y0), ty h7, 0 ≤ y1, ty h9, (List.map avI vl1)[(0 + y1.toNat)]? = some (avI y4), setElem (avI y4) 0 [(.int .i64 (IntKind.i64.wrap (y2 + y3)))] = some (avI (IntKind.i64.wrap (y2 + y3))), (AV.int .i64 y2) = (AV.int .i64 y2), (List.map avI vl1)[(0 + i5.toNat)]? = some (avI y2), (AV.int .i64 y2) = (AV.int .i64 y2), (List.map avI vl1)[(0 + i5.toNat)]? = some (avI y2), (AV.int .i64 y1) = (AV.int .i64 y1), (AV.int .i64 y1) = (AV.int .i64 y1), (AV.ilst 1 (List.map avI y0.kids) false) = (AV.ilst 1 (List.map avI y0.kids) false), (AV.ilst 1 (List.map avI y0.kids) false) = (AV.ilst 1 (List.map avI y0.kids) false), (AV.ilst 4 (List.map Node.av p.nodes) false) = (AV.ilst 4 (List.map Node.av p.nodes) false), (AV.ilst 4 (List.map Node.av p.nodes) false) = (AV.ilst 4 (List.map Node.av p.nodes) false), (List.map avI vl1).set (0 + y1.toNat) (avI (IntKind.i64.wrap (y2 + y3))) = (List.map avI (List.set vl1 y1.toNat (IntKind.i64.wrap (y2 + y3)))), (AV.gl 1 1 0 (List.length vl1) true) = (.gl 1 1 0 (List.length (List.set vl1 y1.toNat (IntKind.i64.wrap (y2 + y3)))) true), (AV.gl 1 1 0 (List.length vl1) true) = (.gl 1 1 0 (List.length (List.set vl1 y1.toNat (IntKind.i64.wrap (y2 + y3)))) true), (AV.gl 1 1 0 (List.length vl1) true) = (.gl 1 1 0 (List.length (List.set vl1 y1.toNat (IntKind.i64.wrap (y2 + y3)))) true), (AV.int .i64 (IntKind.i64.wrap (k6 + (1 : Int)))) = (.int .i64 (k6 + (1 : Int)))] [.run 7, .ans (.idx (Node.av y0)), .run 2, .ans (.len ((List.length y0.kids : Nat) : Int)), .run 2, .b 40 true, .run 4, .regA [.d, .d, .d, .d, .ans (.idx (Node.av y0)), .d, .d, .d, .ans (.idx (avI y1)), .d, .d, .d, .ans (.ix), .ans (.idx (avI y2)), .d, .d, .d, .ans (.idx (Node.av y0)), .d, .d, .pure (.int .i64 y3), .d, .ans (.ix), .st (avI y4) (avI (IntKind.i64.wrap (y2 + y3)))] [(some (.idx (avI y2))), none, none, none], .lset 1 (List.map avI (List.set vl1 y1.toNat (IntKind.i64.wrap (y2 + y3)))), .set 3 (.gl 1 1 0 (List.length (List.set vl1 y1.toNat (IntKind.i64.wrap (y2 + y3)))) true), .set 43 (.gl 1 1 0 (List.length (List.set vl1 y1.toNat (IntKind.i64.wrap (y2 + y3)))) true), .set 53 (.gl 1 1 0 (List.length (List.set vl1 y1.toNat (IntKind.i64.wrap (y2 + y3)))) true), .run 4, .set 42 (.int .i64 (k6 + (1 : Int))), .run 3] (by kernel_rfl) (by kernel_rfl) ⟨(keylessL_map _ (fun _ => rfl) _), trivial⟩ ⟨h0, (map_get h1), (len_i _ _), h2, h0, (map_get h1), h3, (map_get h4), h0, h5, (map_get0 h6), h0, (map_get h1), h7, h8, h9, (map_get0 h10), rfl, rfl, (map_get0 h6), rfl, (map_get0 h6), rfl, rfl, rfl, rfl, rfl, rfl, (set_map0 _ _ _ _), (gl_len (List.length_set ..).symm), (gl_len (List.length_set ..).symm), (gl_len (List.length_set ..).symm), (congrArg (AV.int .i64) h11)⟩
theorem rSizes_2_1 (p : Prog) (vl1 : (List Int)) (k6 : Int) (i5 : Int) (y0 : Node) (h0 : 0 ≤ i5) (h1 : ((p.nodes)[i5.toNat]?) = some y0) (h2 : (decide (k6 < ((List.length y0.kids : Nat) : Int))) = false) (h3 : (IntKind.i64.wrap (i5 + (1 : Int))) = (i5 + (1 : Int))) :
    LeadsM PP 0 (rSizes_c2 p vl1 k6 i5).as (rSizes_c1 p vl1 (i5 + (1 : Int))).as :=
  wW 2 [0, 1] [0 ≤ i5, (List.map Node.av p.nodes)[i5.toNat]? = some (Node.av y0), ((List.length (List.map avI y0.kids) : Nat) : Int) = ((List.length y0.kids : Nat) : Int), ty h2, (AV.int .i64 (IntKind.i64.wrap (i5 + (1 : Int)))) = (.int .i64 (i5 + (1 : Int)))] [.run 7, .ans (.idx (Node.av y0)), .run 2, .ans (.len ((List.length y0.kids : Nat) : Int)), .run 2, .b 40 false, .run 6, .set 31 (.int .i64 (i5 + (1 : Int))), .run 3] (by kernel_rfl) (by kernel_rfl) ⟨(keylessL_map _ (fun _ => rfl) _), trivial⟩ ⟨h0, (map_get h1), (len_i _ _), h2, (congrArg (AV.int .i64) h3)⟩
noncomputable def rShut_c0 (p : Prog) (vy0 : (List Int)) (i4 : Int) : TS :=
  { fr := { fn := 36, nt := 33, sl := [(1, (.ptr 0 0)), (2, (.bool false)), (3, (.ilst 1 (List.map avI vy0) false)), (4, (.int .i64 i4))], todo := [.code (cd Tryz.f36 [1, 1, 0, 1, 0, 0]), .inLoop (cd Tryz.f36 [1, 1, 0, 1, 0, 0]), .inBlock 0, .code (cd Tryz.f36 [1, 1, 1])] }, cs := [], hp := [(0, (.cells (putCells .leaf 0 [(.ilst 4 (List.map Node.av p.nodes) false), (.ilst 1 (List.map avI p.funs) false), (.int .i64 p.main), (.ilst 2 (List.map Con.av p.cons) false)]) 4 [] false), false)], nb := 1 }
theorem rShut_E_0 (p : Prog) (y0 : (List Int)) (h0 : Pure PP 35 [(Prog.av p)] (.ilst 1 (List.map avI y0) false)) :
    LeadsM PP 0 (start PP 36 [(Prog.av p)]).as (rShut_c0 p y0 0).as :=
  wW 1 [0] [ty h0] [.run 8, .pure (.ilst 1 (List.map avI y0) false), .run 9] (by kernel_rfl) (by kernel_rfl) trivial h0
theorem rShut_0_0 (p : Prog) (vy0 : (List Int)) (i4 : Int) (y0 : Node) (y1 : Int) (h0 : (decide (i4 < ((List.length vy0 : Nat) : Int))) = true) (h1 : 0 ≤ i4) (h2 : ((p.nodes)[i4.toNat]?) = some y0) (h3 : (y0.op == (4 : Int)) = true) (h4 : ((vy0)[i4.toNat]?) = some y1) (h5 : (decide (y0.n ≥ y1)) = true) :
    Ends PP 0 (rShut_c0 p vy0 i4).as (.ret (.bool false)) (hpOf [] 0) :=
  wE 1 [((List.length (List.map avI vy0) : Nat) : Int) = ((List.length vy0 : Nat) : Int), ty h0, 0 ≤ i4, (List.map Node.av p.nodes)[i4.toNat]? = some (Node.av y0), ty h3, 0 ≤ i4, (List.map Node.av p.nodes)[i4.toNat]? = some (Node.av y0), 0 ≤ i4, (List.map avI vy0)[i4.toNat]? = some (avI y1), ty h5] [.run 5, .ans (.len ((List.length vy0 : Nat) : Int)), .run 2, .b 10 true, .run 5, .reg [.d, .d, .d, .ans (.idx (Node.av y0)), .d, .d, .d, .d, .b 20 true, .d, .d, .d, .ans (.idx (Node.av y0)), .d, .d, .d, .d, .ans (.idx (avI y1)), .d, .d, .d], .b 32 true, .run 6] (by kernel_rfl) (by kernel_rfl) trivial ⟨(len_i _ _), h0, h1, (map_get h2), h3, h1, (map_get h2), h1, (map_get h4), h5⟩
theorem rShut_0_1 (p : Prog) (vy0 : (List Int)) (i4 : Int) (y0 : Node) (y1 : Int) (h0 : (decide (i4 < ((List.length vy0 : Nat) : Int))) = true) (h1 : 0 ≤ i4) (h2 : ((p.nodes)[i4.toNat]?) = some y0) (h3 : (y0.op == (4 : Int)) = true) (h4 : ((vy0)[i4.toNat]?) = some y1) (h5 : (decide (y0.n ≥ y1)) = false) (h6 : (IntKind.i64.wrap (i4 + (1 : Int))) = (i4 + (1 : Int))) :
    LeadsM PP 0 (rShut_c0 p vy0 i4).as (rShut_c0 p vy0 (i4 + (1 : Int))).as :=
  wW 1 [0] [((List.length (List.map avI vy0) : Nat) : Int) = ((List.length vy0 : Nat) : Int), ty h0, 0 ≤ i4, (List.map Node.av p.nodes)[i4.toNat]? = some (Node.av y0), ty h3, 0 ≤ i4, (List.map Node.av p.nodes)[i4.toNat]? = some (Node.av y0), 0 ≤ i4, (List.map avI vy0)[i4.toNat]? = some (avI y1), ty h5, (AV.int .i64 (IntKind.i64.wrap (i4 + (1 : Int)))) = (.int .i64 (i4 + (1 : Int)))] [.run 5, .ans (.len ((List.length vy0 : Nat) : Int)), .run 2, .b 10 true, .run 5, .reg [.d, .d, .d, .ans (.idx (Node.av y0)), .d, .d, .d, .d, .b 20 true, .d, .d, .d, .ans (.idx (Node.av y0)), .d, .d, .d, .d, .ans (.idx (avI y1)), .d, .d, .d], .b 32 false, .run 6, .set 12 (.int .i64 (i4 + (1 : Int))), .run 3] (by kernel_rfl) (by kernel_rfl) trivial ⟨(len_i _ _), h0, h1, (map_get h2), h3, h1, (map_get h2), h1, (map_get h4), h5, (congrArg (AV.int .i64) h6)⟩
theorem rShut_0_2 (p : Prog) (vy0 : (List Int)) (i4 : Int) (y0 : Node) (h0 : (decide (i4 < ((List.length vy0 : Nat) : Int))) = true) (h1 : 0 ≤ i4) (h2 : ((p.nodes)[i4.toNat]?) = some y0) (h3 : (y0.op == (4 : Int)) = false) (h4 : (IntKind.i64.wrap (i4 + (1 : Int))) = (i4 + (1 : Int))) :
    LeadsM PP 0 (rShut_c0 p vy0 i4).as (rShut_c0 p vy0 (i4 + (1 : Int))).as :=
  wW 1 [0] [((List.length (List.map avI vy0) : Nat) : Int) = ((List.length vy0 : Nat) : Int), ty h0, 0 ≤ i4, (List.map Node.av p.nodes)[i4.toNat]? = some (Node.av y0), ty h3, (AV.int .i64 (IntKind.i64.wrap (i4 + (1 : Int)))) = (.int .i64 (i4 + (1 : Int)))] [.run 5, .ans (.len ((List.length vy0 : Nat) : Int)), .run 2, .b 10 true, .run 5, .reg [.d, .d, .d, .ans (.idx (Node.av y0)), .d, .d, .d, .d, .b 20 false, .d, .d, .d, .d, .d, .d, .d, .d, .d, .d, .d, .d], .run 6, .set 12 (.int .i64 (i4 + (1 : Int))), .run 3] (by kernel_rfl) (by kernel_rfl) trivial ⟨(len_i _ _), h0, h1, (map_get h2), h3, (congrArg (AV.int .i64) h4)⟩
theorem rShut_0_3 (p : Prog) (vy0 : (List Int)) (i4 : Int) (h0 : (decide (i4 < ((List.length vy0 : Nat) : Int))) = false) :
    Ends PP 0 (rShut_c0 p vy0 i4).as (.ret (.bool true)) (hpOf [] 0) :=
  wE 1 [((List.length (List.map avI vy0) : Nat) : Int) = ((List.length vy0 : Nat) : Int), ty h0] [.run 5, .ans (.len ((List.length vy0 : Nat) : Int)), .run 2, .b 10 false, .run 7] (by kernel_rfl) (by kernel_rfl) trivial ⟨(len_i _ _), h0⟩
end Go.Hb

namespace Go.Hb
open Go.Proofs
theorem rDepths_E_0 (p : Prog) (y0 : Bool) (h0 : Pure PP 33 [(Prog.av p)] (.bool y0)) (h1 : (!y0) = true) :
    Ends PP 0 (start PP 13 [(Prog.av p)]).as (.ret (.tup [(.ilst 1 (List.map avI ([] : List Int)) true), (.int .i64 2)])) (hpOf [] 0) :=
  wE 1 [ty h0, ty h1] [.run 10, .pure (.bool y0), .run 2, .b 6 true, .run 7, .nilI 2 1] (by kernel_rfl) (by kernel_rfl) trivial ⟨h0, h1⟩
theorem rDepths_E_1 (p : Prog) (y0 : Bool) (y1 : (List Int)) (h0 : Pure PP 33 [(Prog.av p)] (.bool y0)) (h1 : (!y0) = false) (h2 : Pure PP 35 [(Prog.av p)] (.ilst 1 (List.map avI y1) false)) :
    Ends PP 0 (start PP 13 [(Prog.av p)]).as (.ret (.tup [(.ilst 1 (List.map avI y1) false), (.int .i64 0)])) (hpOf [] 0) :=
  wE 1 [ty h0, ty h1, ty h2] [.run 10, .pure (.bool y0), .run 2, .b 6 false, .run 5, .pure (.ilst 1 (List.map avI y1) false), .run 4] (by kernel_rfl) (by kernel_rfl) trivial ⟨h0, h1, h2⟩
theorem rClosed_E_0 (p : Prog) (y0 : Bool) (h0 : Pure PP 33 [(Prog.av p)] (.bool y0)) (h1 : (!y0) = true) :
    Ends PP 0 (start PP 15 [(Prog.av p)]).as (.ret (.tup [(.bool false), (.int .i64 2)])) (hpOf [] 0) :=
  wE 1 [ty h0, ty h1] [.run 10, .pure (.bool y0), .run 2, .b 6 true, .run 7] (by kernel_rfl) (by kernel_rfl) trivial ⟨h0, h1⟩
theorem rClosed_E_1 (p : Prog) (y0 : Bool) (y1 : Bool) (h0 : Pure PP 33 [(Prog.av p)] (.bool y0)) (h1 : (!y0) = false) (h2 : Pure PP 36 [(Prog.av p)] (.bool y1)) :
    Ends PP 0 (start PP 15 [(Prog.av p)]).as (.ret (.tup [(.bool y1), (.int .i64 0)])) (hpOf [] 0) :=
  wE 1 [ty h0, ty h1, ty h2] [.run 10, .pure (.bool y0), .run 2, .b 6 false, .run 5, .pure (.bool y1), .run 4] (by kernel_rfl) (by kernel_rfl) trivial ⟨h0, h1, h2⟩
noncomputable def rNumbers_c0 (a : (List Int)) (b : (List Int)) (i5 : Int) : TS :=
  { fr := { fn := 37, nt := 26, sl := [(0, (.ilst 1 (List.map avI a) false)), (1, (.ilst 1 (List.map avI b) false)), (4, (.bool false)), (5, (.int .i64 i5))], todo := [.code (cd Tryz.f37 [1, 1, 0, 1, 0, 0]), .inLoop (cd Tryz.f37 [1, 1, 0, 1, 0, 0]), .inBlock 0, .code (cd Tryz.f37 [1, 1, 1])] }, cs := [{ fn := 16, nt := 8, sl := [(4, (.bool false)), (5, (.ilst 1 (List.map avI a) false)), (6, (.ilst 1 (List.map avI b) false))], todo := [opsAt Tryz.f16 [1, 0] 2, .code (cd Tryz.f16 [1, 1])] }], hp := [], nb := 0 }
theorem rNumbers_E_1 (a : (List Int)) (b : (List Int)) (h0 : (((List.length a : Nat) : Int) != ((List.length b : Nat) : Int)) = false) :
    LeadsM PP 0 (start PP 16 [(.ilst 1 (List.map avI a) false), (.ilst 1 (List.map avI b) false)]).as (rNumbers_c0 a b 0).as :=
  wW 0 [] [((List.length (List.map avI a) : Nat) : Int) = ((List.length a : Nat) : Int), ((List.length (List.map avI b) : Nat) : Int) = ((List.length b : Nat) : Int), ty h0] [.run 17, .ans (.len ((List.length a : Nat) : Int)), .run 1, .ans (.len ((List.length b : Nat) : Int)), .run 2, .b 10 false, .run 9] (by kernel_rfl) (by kernel_rfl) trivial ⟨(len_i _ _), (len_i _ _), h0⟩
theorem rNumbers_0_1 (a : (List Int)) (b : (List Int)) (i5 : Int) (y0 : Int) (y1 : Int) (h0 : (decide (i5 < ((List.length a : Nat) : Int))) = true) (h1 : 0 ≤ i5) (h2 : ((a)[i5.toNat]?) = some y0) (h3 : ((b)[i5.toNat]?) = some y1) (h4 : (y0 != y1) = false) (h5 : (IntKind.i64.wrap (i5 + (1 : Int))) = (i5 + (1 : Int))) :
    LeadsM PP 0 (rNumbers_c0 a b i5).as (rNumbers_c0 a b (i5 + (1 : Int))).as :=
  wW 0 [] [((List.length (List.map avI a) : Nat) : Int) = ((List.length a : Nat) : Int), ty h0, 0 ≤ i5, (List.map avI a)[i5.toNat]? = some (avI y0), 0 ≤ i5, (List.map avI b)[i5.toNat]? = some (avI y1), ty h4, (AV.int .i64 (IntKind.i64.wrap (i5 + (1 : Int)))) = (.int .i64 (i5 + (1 : Int)))] [.run 5, .ans (.len ((List.length a : Nat) : Int)), .run 2, .b 14 true, .run 5, .reg [.d, .d, .ans (.idx (avI y0)), .d, .d, .d, .ans (.idx (avI y1)), .d, .d], .b 25 false, .run 6, .set 16 (.int .i64 (i5 + (1 : Int))), .run 3] (by kernel_rfl) (by kernel_rfl) trivial ⟨(len_i _ _), h0, h1, (map_get h2), h1, (map_get h3), h4, (congrArg (AV.int .i64) h5)⟩
theorem rNumbers_0_2 (a : (List Int)) (b : (List Int)) (i5 : Int) (h0 : (decide (i5 < ((List.length a : Nat) : Int))) = false) :
    Ends PP 0 (rNumbers_c0 a b i5).as (.ret (.bool true)) (hpOf [] 0) :=
  wE 0 [((List.length (List.map avI a) : Nat) : Int) = ((List.length a : Nat) : Int), ty h0] [.run 5, .ans (.len ((List.length a : Nat) : Int)), .run 2, .b 14 false, .run 11] (by kernel_rfl) (by kernel_rfl) trivial ⟨(len_i _ _), h0⟩
end Go.Hb

namespace Go.Hb
open Go.Proofs
set_option maxHeartbeats 1000000
/-! ## the reference's sizes -/
def rKidsS (x : Node) (i : Nat) : Nat → List Int → List Int → List Int
  | _, [], l => l
  | j, k :: ks, l => rKidsS x i (j + 1) ks (l.set k.toNat (l.getD i 0 + addsN x j))
def rNodesS : Nat → List Node → List Int → List Int
  | _, [], l => l
  | i, x :: t, l => rNodesS (i + 1) t (rKidsS x i 0 x.kids l)
def rFunsS : List Int → List Int → List Int
  | [], l => l
  | f :: fs, l => rFunsS fs (l.set f.toNat 1)
def sizesR (p : Prog) : List Int := rNodesS 0 p.nodes (rFunsS p.funs (List.replicate p.nodes.length 0))
theorem rKidsS_len (x : Node) (i : Nat) : ∀ (t : List Int) (j : Nat) (l : List Int), (rKidsS x i j t l).length = l.length
  | [], _, _ => rfl
  | k :: t, j, l => by rw [rKidsS, rKidsS_len x i t]; simp
theorem rNodesS_len : ∀ (t : List Node) (i : Nat) (l : List Int), (rNodesS i t l).length = l.length
  | [], _, _ => rfl
  | x :: t, i, l => by rw [rNodesS, rNodesS_len t, rKidsS_len]
theorem rFunsS_len : ∀ (t : List Int) (l : List Int), (rFunsS t l).length = l.length
  | [], _ => rfl
  | f :: t, l => by rw [rFunsS, rFunsS_len t]; simp
theorem sizesR_len (p : Prog) : (sizesR p).length = p.nodes.length := by rw [sizesR, rNodesS_len, rFunsS_len]; simp
def upTo (B : Int) (l : List Int) : Prop := ∀ z ∈ l, 0 ≤ z ∧ z ≤ B
theorem upTo_get {B : Int} {l : List Int} (h : upTo B l) {i : Nat} (hi : i < l.length) : 0 ≤ l.getD i 0 ∧ l.getD i 0 ≤ B := by
  rw [List.getD_eq_getElem?_getD, List.getElem?_eq_getElem hi]
  exact h _ (List.getElem_mem hi)
theorem upTo_set {B C : Int} {l : List Int} (h : upTo B l) (hBC : B ≤ C) {i : Nat} {z : Int} (h0 : 0 ≤ z) (h1 : z ≤ C) : upTo C (l.set i z) := fun k hk => by
  rcases List.mem_or_eq_of_mem_set hk with g | g
  · have := h k g; omega
  · rw [g]; exact ⟨h0, h1⟩
theorem upTo_mono {B C : Int} {l : List Int} (h : upTo B l) (hBC : B ≤ C) : upTo C l := fun k hk => by have := h k hk; omega
theorem rS2' {p : Prog} (hp : FineP p) {i : Nat} {x : Node} (hx : p.nodes[i]? = some x) {res : AV} {h' : Hp} :
    ∀ (t : List Int) (j : Nat) (l : List Int) (B : Int), l.length = p.nodes.length → 0 ≤ B → upTo B l → B + 12 * t.length ≤ 1000000 → x.kids.drop j = t →
      (upTo (B + 12 * t.length) (rKidsS x i j t l) → Ends PP 0 (rSizes_c1 p (rKidsS x i j t l) ((i : Int) + 1)).as (.ret res) h') → Ends PP 0 (rSizes_c2 p l (j : Int) (i : Int)).as (.ret res) h'
  | [], j, l, B, hl, h0, hB, hb, h, hk => by
    have := dropN h
    have hi := (List.getElem?_eq_some_iff.1 hx).1
    have hn := hp.small
    refine (rSizes_2_1 p l j i x (by omega) (by assumption) (by (simp only [decide_eq_true_eq, decide_eq_false_iff_not]; omega)) (by (apply wrap64 <;> omega))).ends (hk ?_)
    simpa [rKidsS] using hB
  | k :: t, j, l, B, hl, h0, hB, hb, h, hk => by
    obtain ⟨g1, g2, g3⟩ := dropC h
    obtain ⟨hf, hk10, hks⟩ := hp.node _ _ hx
    have hk' := hks k (List.mem_of_getElem? g1)
    have hi := (List.getElem?_eq_some_iff.1 hx).1
    have hn := hp.small
    have ha := addsN_le hf (j : Int)
    have hz := upTo_get hB (i := i) (by omega)
    have hli : l[i]? = some (l.getD i 0) := by rw [List.getD_eq_getElem?_getD, List.getElem?_eq_getElem (by omega)]; rfl
    obtain ⟨y, hy⟩ : ∃ y, l[k.toNat]? = some y := ⟨_, List.getElem?_eq_getElem (by omega)⟩
    simp only [List.length_cons] at hb
    have ew : IntKind.i64.wrap (l.getD i 0 + addsN x j) = l.getD i 0 + addsN x j := wrap64 (by omega) (by omega)
    have st := rSizes_2_0 p l j i x k (l.getD i 0) (addsN x j) y (by omega) (by assumption) (by (simp only [decide_eq_true_eq, decide_eq_false_iff_not]; omega)) (by omega) (by assumption) (by omega) (by assumption) (rAdds_pure hf (by omega) (by omega) hk10) (by omega) (by omega) hy (by (apply wrap64 <;> omega))
    rw [ew] at st
    refine st.ends ?_
    refine rS2' hp hx t (j + 1) (l.set k.toNat (l.getD i 0 + addsN x j)) (B + 12) (by simpa using hl) (by omega) (upTo_set hB (by omega) (by omega) (by omega)) (by omega) g2 (fun hu => ?_)
    have := hk (by rw [rKidsS]; exact upTo_mono hu (by simp only [List.length_cons]; omega))
    rw [rKidsS] at this
    exact this
theorem rS1 {p : Prog} (hp : FineP p) : ∀ (t : List Node) (i : Nat) (l : List Int) (B : Int), l.length = p.nodes.length → 0 ≤ B → upTo B l → B + 120 * t.length ≤ 1000000 → p.nodes.drop i = t →
    Ends PP 0 (rSizes_c1 p l (i : Int)).as (.ret (.ilst 1 (List.map avI (rNodesS i t l)) true)) (hpOf [] 0)
  | [], i, l, B, hl, h0, hB, hb, h => by
    have := dropN h
    exact rSizes_1_1 p l i (by (simp only [decide_eq_true_eq, decide_eq_false_iff_not]; omega))
  | x :: t, i, l, B, hl, h0, hB, hb, h => by
    obtain ⟨g1, g2, g3⟩ := dropC h
    obtain ⟨hf, hk10, hks⟩ := hp.node _ _ g1
    simp only [List.length_cons] at hb
    refine (rSizes_1_0 p l i (by (simp only [decide_eq_true_eq, decide_eq_false_iff_not]; omega))).ends ?_
    refine rS2' hp g1 x.kids 0 l B hl h0 hB (by omega) rfl (fun hu => ?_)
    rw [rNodesS]
    exact rS1 hp t (i + 1) _ (B + 12 * x.kids.length) (by rw [rKidsS_len, hl]) (by omega) hu (by omega) g2
theorem rS0 {p : Prog} (hp : FineP p) : ∀ (t : List Int) (i : Nat) (l : List Int), l.length = p.nodes.length → upTo 1 l → p.funs.drop i = t →
    Ends PP 0 (rSizes_c0 p (i : Int) l).as (.ret (.ilst 1 (List.map avI (rNodesS 0 p.nodes (rFunsS t l))) true)) (hpOf [] 0)
  | [], i, l, hl, hB, h => by
    have := dropN h
    have hn := hp.small
    refine (rSizes_0_1 p i l (by (simp only [decide_eq_true_eq, decide_eq_false_iff_not]; omega))).ends ?_
    exact rS1 hp p.nodes 0 l 1 hl (by omega) hB (by omega) rfl
  | a :: t, i, l, hl, hB, h => by
    obtain ⟨g1, g2, g3⟩ := dropC h
    have ha := hp.funs a (List.mem_of_getElem? g1)
    have hf := hp.fsmall
    obtain ⟨y, hy⟩ : ∃ y, l[a.toNat]? = some y := ⟨_, List.getElem?_eq_getElem (by omega)⟩
    refine (rSizes_0_0 p i l a y (by (simp only [decide_eq_true_eq, decide_eq_false_iff_not]; omega)) (by omega) (by assumption) (by omega) (by omega) hy (by (apply wrap64 <;> omega))).ends ?_
    exact rS0 hp t (i + 1) _ (by simpa using hl) (upTo_set hB (by omega) (by omega) (by omega)) g2
theorem rSizes_pure {p : Prog} (hp : FineP p) : Pure PP 35 [Prog.av p] (.ilst 1 (List.map avI (sizesR p)) false) := by
  refine pure_at (by kernel_rfl) rfl rfl ?_
  have hn := hp.small
  refine Ends.val ?_ (fun E cv => vr_inexact)
  refine (rSizes_E_0 p (by omega)).ends ?_
  exact rS0 hp p.funs 0 _ (by simp) (fun z hz => by have := (List.mem_replicate.1 hz).2; omega) rfl
/-! ## is each place within -/
def shutOk (p : Prog) (S : List Int) (i : Nat) : Bool := match p.nodes[i]?, S[i]? with
  | some x, some s => !(decide (x.op = 4) && decide (x.n ≥ s))
  | _, _ => true
def shutFrom (p : Prog) (S : List Int) : Nat → List Int → Bool
  | _, [] => true
  | i, _ :: t => shutOk p S i && shutFrom p S (i + 1) t
theorem rSh {p : Prog} (hn : p.nodes.length ≤ 320) (S : List Int) (hS : S.length = p.nodes.length) : ∀ (t : List Int) (i : Nat), S.drop i = t → Ends PP 0 (rShut_c0 p S (i : Int)).as (.ret (.bool (shutFrom p S i t))) (hpOf [] 0)
  | [], i, h => by
    have := dropN h
    exact rShut_0_3 p S i (by (simp only [decide_eq_true_eq, decide_eq_false_iff_not]; omega))
  | s :: t, i, h => by
    obtain ⟨g1, g2, g3⟩ := dropC h
    obtain ⟨x, hx⟩ : ∃ x, p.nodes[i]? = some x := ⟨_, List.getElem?_eq_getElem (by omega)⟩
    have ih := rSh hn S hS t (i + 1) g2
    by_cases g4 : x.op = 4
    · by_cases gn : x.n ≥ s
      · exact Ends.eqv (rShut_0_0 p S i x s (by (simp only [decide_eq_true_eq, decide_eq_false_iff_not]; omega)) (by omega) (by assumption) (by simp [g4]) (by assumption) (by simpa using gn)) (by simp only [shutFrom, shutOk, hx, g1, g4, gn]; simp)
      · refine (rShut_0_1 p S i x s (by (simp only [decide_eq_true_eq, decide_eq_false_iff_not]; omega)) (by omega) (by assumption) (by simp [g4]) (by assumption) (by simpa using gn) (by (apply wrap64 <;> omega))).ends ?_
        exact Ends.eqv ih (by simp only [shutFrom, shutOk, hx, g1, g4, gn]; simp)
    · refine (rShut_0_2 p S i x (by (simp only [decide_eq_true_eq, decide_eq_false_iff_not]; omega)) (by omega) (by assumption) (by simpa using g4) (by (apply wrap64 <;> omega))).ends ?_
      exact Ends.eqv ih (by simp only [shutFrom, shutOk, hx, g1, g4]; simp)
theorem rShut_pure {p : Prog} (hp : FineP p) : Pure PP 36 [Prog.av p] (.bool (shutFrom p (sizesR p) 0 (sizesR p))) := by
  refine pure_at (by kernel_rfl) rfl rfl ?_
  refine (rShut_E_0 p (sizesR p) (rSizes_pure hp)).ends ?_
  exact rSh hp.small (sizesR p) (sizesR_len p) (sizesR p) 0 rfl
/-! ## equal lists of numbers -/
theorem rNum (a : List Int) (ha : a.length ≤ 1000) : ∀ (t : List Int) (i : Nat), a.drop i = t → Ends PP 0 (rNumbers_c0 a a (i : Int)).as (.ret (.bool true)) (hpOf [] 0)
  | [], i, h => by
    have := dropN h
    exact rNumbers_0_2 a a i (by (simp only [decide_eq_true_eq, decide_eq_false_iff_not]; omega))
  | y :: t, i, h => by
    obtain ⟨g1, g2, g3⟩ := dropC h
    refine (rNumbers_0_1 a a i y y (by (simp only [decide_eq_true_eq, decide_eq_false_iff_not]; omega)) (by omega) (by assumption) (by assumption) (by simp) (by (apply wrap64 <;> omega))).ends ?_
    exact rNum a ha t (i + 1) g2
theorem rNumbers_pure (a : List Int) (ha : a.length ≤ 1000) : Pure PP 16 [.ilst 1 (List.map avI a) false, .ilst 1 (List.map avI a) false] (.bool true) := by
  refine pure_at (by kernel_rfl) rfl rfl ?_
  exact (rNumbers_E_1 a a (by simp)).ends (rNum a ha a 0 rfl)
end Go.Hb

namespace Go.Hb
open Go.Proofs
/-! ## what a formed program's marks say -/
theorem marks_in {lo n : Int} : ∀ {ks : List Int} {u v : List Bool}, marks lo n ks u = some v → ∀ k ∈ ks, lo ≤ k ∧ k ≤ n - 1
  | [], _, _, _, k, hk => by cases hk
  | a :: ks, u, v, h, k, hk => by
    simp only [marks] at h
    split at h
    · rename_i g
      rcases List.mem_cons.1 hk with rfl | hk
      · exact inB_iff.1 g.1
      · exact marks_in h k hk
    · cases h
/-- what is marked stays; what is marked anew stands in the list, and was not marked -/
theorem marks_new {lo n : Int} : ∀ {ks : List Int} {u v : List Bool}, marks lo n ks u = some v → ∀ m : Nat, v[m]? = some true → u[m]? = some true ∨ ∃ k ∈ ks, k.toNat = m
  | [], u, v, h, m, hm => by simp only [marks, Option.some.injEq] at h; rw [h]; exact .inl hm
  | a :: ks, u, v, h, m, hm => by
    simp only [marks] at h
    split at h
    · rcases marks_new h m hm with g | ⟨k, hk, e⟩
      · by_cases e : a.toNat = m
        · exact .inr ⟨a, List.mem_cons_self .., e⟩
        · rw [List.getElem?_set_ne e] at g; exact .inl g
      · exact .inr ⟨k, List.mem_cons_of_mem _ hk, e⟩
    · cases h
theorem marks_stay {lo n : Int} : ∀ {ks : List Int} {u v : List Bool}, marks lo n ks u = some v → ∀ m : Nat, u[m]? = some true → v[m]? = some true
  | [], u, v, h, m, hm => by simp only [marks, Option.some.injEq] at h; rw [← h]; exact hm
  | a :: ks, u, v, h, m, hm => by
    simp only [marks] at h
    split at h
    · rename_i g
      refine marks_stay h m ?_
      by_cases e : a.toNat = m
      · subst e; rw [hm] at g; exact absurd g.2 (by simp)
      · rw [List.getElem?_set_ne e]; exact hm
    · cases h
/-- the first one of the list: it was not marked, and is now -/
theorem marks_cons {lo n k : Int} {ks : List Int} {u v : List Bool} (h : marks lo n (k :: ks) u = some v) : u[k.toNat]? = some false ∧ marks lo n ks (u.set k.toNat true) = some v := by
  simp only [marks] at h
  split at h
  · rename_i g; exact ⟨g.2, h⟩
  · cases h
theorem refNodes_cons {p : Prog} {i : Nat} {x : Node} {t : List Node} {u v : List Bool} (h : refNodes p i (x :: t) u = some v) : nodeOk p x = true ∧ ∃ w, marks ((i : Int) + 1) p.nodes.length x.kids u = some w ∧ refNodes p (i + 1) t w = some v := by
  simp only [refNodes] at h
  split at h
  · rename_i g
    split at h
    · rename_i w hw; exact ⟨g, w, hw, h⟩
    · cases h
  · cases h
/-- marks from node i on are behind i -/
theorem refNodes_low {p : Prog} : ∀ {t : List Node} {i : Nat} {u v : List Bool}, refNodes p i t u = some v → ∀ m : Nat, m ≤ i → v[m]? = some true → u[m]? = some true
  | [], i, u, v, h, m, _, hm => by simp only [refNodes, Option.some.injEq] at h; rw [h]; exact hm
  | x :: t, i, u, v, h, m, hi, hm => by
    obtain ⟨_, w, hw, h2⟩ := refNodes_cons h
    rcases marks_new hw m (refNodes_low h2 m (by omega) hm) with g | ⟨k, hk, e⟩
    · exact g
    · have := marks_in hw k hk; omega
theorem refNodes_len {p : Prog} : ∀ {t : List Node} {i : Nat} {u v : List Bool}, refNodes p i t u = some v → v.length = u.length
  | [], i, u, v, h => by simp only [refNodes, Option.some.injEq] at h; rw [h]
  | x :: t, i, u, v, h => by
    obtain ⟨_, w, hw, h2⟩ := refNodes_cons h
    rw [refNodes_len h2, marks_len hw]
theorem refNodes_all {p : Prog} : ∀ {t : List Node} {i : Nat} {u v : List Bool}, refNodes p i t u = some v → ∀ (j : Nat) (x : Node), t[j]? = some x → nodeOk p x = true ∧ ∀ k ∈ x.kids, ((i + j : Nat) : Int) < k ∧ k < p.nodes.length
  | [], i, u, v, h, j, x, hx => by simp at hx
  | y :: t, i, u, v, h, j, x, hx => by
    obtain ⟨g, w, hw, h2⟩ := refNodes_cons h
    cases j with
    | zero =>
      simp at hx; subst hx
      exact ⟨g, fun k hk => by have := marks_in hw k hk; omega⟩
    | succ j =>
      have := refNodes_all h2 j x (by simpa using hx)
      exact ⟨this.1, fun k hk => by have := this.2 k hk; omega⟩
theorem refNodes_new {p : Prog} : ∀ {t : List Node} {i : Nat} {u v : List Bool}, refNodes p i t u = some v → ∀ m : Nat, v[m]? = some true → u[m]? = some true ∨ ∃ (j : Nat) (x : Node) (k : Int), t[j]? = some x ∧ k ∈ x.kids ∧ k.toNat = m
  | [], i, u, v, h, m, hm => by simp only [refNodes, Option.some.injEq] at h; rw [h]; exact .inl hm
  | y :: t, i, u, v, h, m, hm => by
    obtain ⟨g, w, hw, h2⟩ := refNodes_cons h
    rcases refNodes_new h2 m hm with a | ⟨j, x, k, a1, a2, a3⟩
    · rcases marks_new hw m a with b | ⟨k, b1, b2⟩
      · exact .inl b
      · exact .inr ⟨0, y, k, rfl, b1, b2⟩
    · exact .inr ⟨j + 1, x, k, by simpa using a1, a2, a3⟩
/-! ## the reference's sizes stay once they are set -/
theorem rKidsS_stay {x : Node} {i : Nat} {lo n : Int} : ∀ {t : List Int} {j : Nat} {u v : List Bool} {l : List Int}, marks lo n t u = some v → ∀ m : Nat, u[m]? = some true → (rKidsS x i j t l)[m]? = l[m]?
  | [], _, _, _, _, _, _, _ => rfl
  | k :: t, j, u, v, l, h, m, hm => by
    obtain ⟨h1, h2⟩ := marks_cons h
    have hne : k.toNat ≠ m := fun e => by rw [e, hm] at h1; cases h1
    rw [rKidsS, rKidsS_stay h2 m (by rw [List.getElem?_set_ne hne]; exact hm), List.getElem?_set_ne hne]
theorem rNodesS_stay {p : Prog} : ∀ {t : List Node} {i : Nat} {u v : List Bool} {l : List Int}, refNodes p i t u = some v → ∀ m : Nat, u[m]? = some true → (rNodesS i t l)[m]? = l[m]?
  | [], _, _, _, _, _, _, _ => rfl
  | x :: t, i, u, v, l, h, m, hm => by
    obtain ⟨_, w, hw, h2⟩ := refNodes_cons h
    rw [rNodesS, rNodesS_stay h2 m (marks_stay hw m hm), rKidsS_stay hw m hm]
theorem rFunsS_stay {lo n : Int} : ∀ {t : List Int} {u v : List Bool} {l : List Int}, marks lo n t u = some v → ∀ m : Nat, u[m]? = some true → (rFunsS t l)[m]? = l[m]?
  | [], _, _, _, _, _, _ => rfl
  | k :: t, u, v, l, h, m, hm => by
    obtain ⟨h1, h2⟩ := marks_cons h
    have hne : k.toNat ≠ m := fun e => by rw [e, hm] at h1; cases h1
    rw [rFunsS, rFunsS_stay h2 m (by rw [List.getElem?_set_ne hne]; exact hm), List.getElem?_set_ne hne]
/-- a kid's size, once set, is its parent's and what is added -/
theorem rKidsS_kid {x : Node} {i : Nat} {lo n : Int} : ∀ {t : List Int} {j : Nat} {u v : List Bool} {l : List Int}, marks lo n t u = some v → u.length = l.length → u[i]? = some true → ∀ (d : Nat) (k : Int), t[d]? = some k → (rKidsS x i j t l)[k.toNat]? = some (l.getD i 0 + addsN x ((j + d : Nat) : Int))
  | [], _, _, _, _, _, _, _, d, k, hk => by simp at hk
  | a :: t, j, u, v, l, h, hul, hi, d, k, hk => by
    obtain ⟨h1, h2⟩ := marks_cons h
    have hai : a.toNat ≠ i := fun e => by rw [e, hi] at h1; cases h1
    have hal : a.toNat < u.length := (List.getElem?_eq_some_iff.1 h1).1
    rw [rKidsS]
    cases d with
    | zero =>
      simp at hk; subst hk
      rw [rKidsS_stay h2 _ (by rw [List.getElem?_set_self hal]), List.getElem?_set_self (by omega)]
      simp
    | succ d =>
      have := rKidsS_kid (x := x) (i := i) (j := j + 1) (l := l.set a.toNat (l.getD i 0 + addsN x j)) h2 (by simpa using hul) (by rw [List.getElem?_set_ne hai]; exact hi) d k (by simpa using hk)
      rw [this, List.getD_eq_getElem?_getD, List.getElem?_set_ne hai, ← List.getD_eq_getElem?_getD]
      congr 3; omega
theorem rNodesS_kid {p : Prog} : ∀ {t : List Node} {i : Nat} {u v : List Bool} {l : List Int}, refNodes p i t u = some v → (∀ m, m < v.length → v[m]? = some true) → u.length = l.length → i + t.length ≤ u.length → ∀ (j : Nat) (x : Node) (d : Nat) (k : Int), t[j]? = some x → x.kids[d]? = some k →
    ∃ s, (rNodesS i t l)[i + j]? = some s ∧ (rNodesS i t l)[k.toNat]? = some (s + addsN x d)
  | [], _, _, _, _, _, _, _, _, j, x, d, k, hx, _ => by simp at hx
  | y :: t, i, u, v, l, h, hv, hul, hil, j, x, d, k, hx, hk => by
    obtain ⟨_, w, hw, h2⟩ := refNodes_cons h
    have hwl := marks_len hw
    simp only [List.length_cons] at hil
    rw [rNodesS]
    cases j with
    | zero =>
      simp at hx; subst hx
      have hvl := refNodes_len h
      have hi : u[i]? = some true := refNodes_low h i (Nat.le_refl _) (hv i (by omega))
      have hk2 := rKidsS_kid (x := y) (i := i) (j := 0) (l := l) hw hul hi d k hk
      have hwk : w[k.toNat]? = some true := by
        have hkin := marks_in hw k (List.mem_of_getElem? hk)
        have all : ∀ {lo n : Int} {ks : List Int} {u v : List Bool}, marks lo n ks u = some v → ∀ k ∈ ks, v[k.toNat]? = some true := by
          intro lo n ks
          induction ks with
          | nil => intro u v _ k hk; cases hk
          | cons a ks ih =>
            intro u v h k hk
            obtain ⟨h1, h2⟩ := marks_cons h
            rcases List.mem_cons.1 hk with rfl | hk
            · exact marks_stay h2 _ (List.getElem?_set_self (List.getElem?_eq_some_iff.1 h1).1)
            · exact ih h2 k hk
        exact all hw k (List.mem_of_getElem? hk)
      refine ⟨l.getD i 0, ?_, ?_⟩
      · show (rNodesS (i + 1) t (rKidsS y i 0 y.kids l))[i]? = some (l.getD i 0)
        rw [rNodesS_stay h2 i (marks_stay hw i hi), rKidsS_stay hw i hi, List.getD_eq_getElem?_getD, List.getElem?_eq_getElem (by omega)]; rfl
      · rw [rNodesS_stay h2 _ hwk, hk2]; simp
    | succ j =>
      obtain ⟨s, a1, a2⟩ := rNodesS_kid (l := rKidsS y i 0 y.kids l) h2 hv (by rw [rKidsS_len, hwl, hul]) (by omega) j x d k (by simpa using hx) hk
      exact ⟨s, by rw [← a1]; congr 1; omega, a2⟩
/-- what the sizes of a formed program are -/
structure Sprop (p : Prog) (S : List Int) : Prop where
  len : S.length = p.nodes.length
  root : ∀ f ∈ p.funs, S[f.toNat]? = some 1
  kid : ∀ (i : Nat) (x : Node) (d : Nat) (k : Int), p.nodes[i]? = some x → x.kids[d]? = some k → ∃ s, S[i]? = some s ∧ S[k.toNat]? = some (s + addsN x d)
/-- each node is a function's, or a kid -/
def Covered (p : Prog) : Prop := ∀ m, m < p.nodes.length → (∃ f ∈ p.funs, f.toNat = m) ∨ ∃ (i : Nat) (x : Node) (k : Int), p.nodes[i]? = some x ∧ k ∈ x.kids ∧ k.toNat = m ∧ i < m
theorem rFunsS_root {lo n : Int} : ∀ {t : List Int} {u v : List Bool} {l : List Int}, marks lo n t u = some v → u.length = l.length → ∀ f ∈ t, (rFunsS t l)[f.toNat]? = some 1
  | [], _, _, _, _, _, f, hf => by cases hf
  | a :: t, u, v, l, h, hul, f, hf => by
    obtain ⟨h1, h2⟩ := marks_cons h
    have hal : a.toNat < u.length := (List.getElem?_eq_some_iff.1 h1).1
    rw [rFunsS]
    rcases List.mem_cons.1 hf with rfl | hf
    · rw [rFunsS_stay h2 _ (List.getElem?_set_self hal), List.getElem?_set_self (by omega)]
    · exact rFunsS_root h2 (by simpa using hul) f hf
theorem formed_facts {p : Prog} (hp : smallProg p = true) (hf : refFormed p = true) : FineP p ∧ Sprop p (sizesR p) ∧ Covered p := by
  have hs := hp
  simp only [smallProg, Bool.and_eq_true, decide_eq_true_eq] at hs
  obtain ⟨⟨⟨⟨s1, s2⟩, s3⟩, _⟩, s5⟩ := hs
  simp only [refFormed, Bool.and_eq_true] at hf
  obtain ⟨_, hf⟩ := hf
  split at hf
  · rename_i u hu
    unfold allT at hf
    split at hf
    · rename_i v hv
      have hul : u.length = p.nodes.length := by rw [marks_len hu]; simp
      have hvl : v.length = p.nodes.length := by rw [refNodes_len hv, hul]
      have hall : ∀ m, m < v.length → v[m]? = some true := fun m hm => by
        rw [List.getElem?_eq_getElem hm]
        have := List.all_eq_true.1 hf _ (List.getElem_mem hm)
        simpa using this
      have hnodes := refNodes_all hv
      refine ⟨⟨s1, s2, fun i x hx => ?_, fun f hf => ?_⟩, ⟨sizesR_len p, fun f hf => ?_, fun i x d k hx hk => ?_⟩, fun m hm => ?_⟩
      · have := hnodes i x hx
        have h10 := List.all_eq_true.1 s5 x (List.mem_of_getElem? hx)
        simp only [smallNode, Bool.and_eq_true, decide_eq_true_eq] at h10
        exact ⟨fine_of this.1, h10.1.1, fun k hk => by have := this.2 k hk; omega⟩
      · have := marks_in hu f hf; omega
      · rw [sizesR]
        have hfm : u[f.toNat]? = some true := by
          have all : ∀ {lo n : Int} {ks : List Int} {u v : List Bool}, marks lo n ks u = some v → ∀ k ∈ ks, v[k.toNat]? = some true := by
            intro lo n ks
            induction ks with
            | nil => intro u v _ k hk; cases hk
            | cons a ks ih =>
              intro u v h k hk
              obtain ⟨h1, h2⟩ := marks_cons h
              rcases List.mem_cons.1 hk with rfl | hk
              · exact marks_stay h2 _ (List.getElem?_set_self (List.getElem?_eq_some_iff.1 h1).1)
              · exact ih h2 k hk
          exact all hu f hf
        rw [rNodesS_stay hv _ hfm]
        exact rFunsS_root hu (by simp) f hf
      · obtain ⟨s, a1, a2⟩ := rNodesS_kid (l := rFunsS p.funs (List.replicate p.nodes.length 0)) hv hall (by rw [rFunsS_len, hul]; simp) (by omega) i x d k hx hk
        exact ⟨s, by rw [sizesR, ← a1]; congr 1; omega, a2⟩
      · rcases refNodes_new hv m (hall m (by omega)) with g | ⟨j, x, k, g1, g2, g3⟩
        · rcases marks_new hu m g with a | ⟨f, a1, a2⟩
          · rw [List.getElem?_replicate] at a; split at a <;> simp at a
          · exact .inl ⟨f, a1, a2⟩
        · have := (hnodes j x g1).2 k g2
          exact .inr ⟨j, x, k, g1, g2, g3, by omega⟩
    · cases hf
  · cases hf
end Go.Hb

namespace Go.Hb
open Go.Proofs
/-! ## the walk comes to every node, with its size -/
inductive Reach (p : Prog) : Nat → Nat → Prop where
  | refl (a : Nat) : Reach p a a
  | step {a i : Nat} {x : Node} {k : Int} : Reach p a i → p.nodes[i]? = some x → k ∈ x.kids → Reach p a k.toNat
theorem Reach.first {p : Prog} {a m : Nat} (h : Reach p a m) : m = a ∨ ∃ (x : Node) (k : Int), p.nodes[a]? = some x ∧ k ∈ x.kids ∧ Reach p k.toNat m := by
  induction h with
  | refl => exact .inl rfl
  | step h hx hk ih =>
    rename_i i x k
    rcases ih with rfl | ⟨y, q, h1, h2, h3⟩
    · exact .inr ⟨x, k, hx, hk, Reach.refl _⟩
    · exact .inr ⟨y, q, h1, h2, h3.step hx hk⟩
theorem covered_reach {p : Prog} (hc : Covered p) : ∀ m, m < p.nodes.length → ∃ f ∈ p.funs, Reach p f.toNat m := by
  intro m
  induction m using Nat.strongRecOn with
  | ind m ih =>
    intro hm
    rcases hc m hm with ⟨f, h1, h2⟩ | ⟨i, x, k, h1, h2, h3, h4⟩
    · exact ⟨f, h1, h2 ▸ Reach.refl _⟩
    · obtain ⟨f, g1, g2⟩ := ih i h4 (by omega)
      exact ⟨f, g1, h3 ▸ g2.step h1 h2⟩
theorem walk_agree {p : Prog} (hp : FineP p) {S : List Int} (hS : Sprop p S) : ∀ (f : Nat) (a : Nat) (s : Int) (l : List Int), a < p.nodes.length → p.nodes.length - a ≤ f → l.length = p.nodes.length → S[a]? = some s →
    (∀ m : Nat, l[m]? = S[m]? → (walkL p f (a : Int) s l)[m]? = S[m]?) ∧ ∀ m : Nat, Reach p a m → (walkL p f (a : Int) s l)[m]? = S[m]?
  | 0, a, s, l, ha, hf, _, _ => by omega
  | f + 1, a, s, l, ha, hf, hl, hs => by
    obtain ⟨x, hx⟩ : ∃ x, p.nodes[a]? = some x := ⟨_, List.getElem?_eq_getElem ha⟩
    obtain ⟨_, _, hks⟩ := hp.node a x hx
    have e : walkL p (f + 1) (a : Int) s l = foldK (walkL p f) x s 0 x.kids (l.set a s) := by
      rw [walkL]; simp only [Int.toNat_natCast, hx]
    -- the kids
    have fold : ∀ (t : List Int) (j : Nat) (l : List Int), l.length = p.nodes.length → x.kids.drop j = t →
        (∀ m : Nat, l[m]? = S[m]? → (foldK (walkL p f) x s j t l)[m]? = S[m]?) ∧ ∀ k ∈ t, ∀ m : Nat, Reach p k.toNat m → (foldK (walkL p f) x s j t l)[m]? = S[m]? := by
      intro t
      induction t with
      | nil => intro j l _ _; exact ⟨fun m h => h, fun k hk => (by cases hk)⟩
      | cons k t ih =>
        intro j l hl h
        obtain ⟨g1, g2, g3⟩ := dropC h
        have hk := hks k (List.mem_of_getElem? g1)
        obtain ⟨s', c1, c2⟩ := hS.kid a x j k hx g1
        rw [hs] at c1; cases c1
        have hkn : ((k.toNat : Nat) : Int) = k := by omega
        obtain ⟨w1, w2⟩ := walk_agree hp hS f k.toNat (s + addsN x j) l (by omega) (by omega) hl c2
        rw [hkn] at w1 w2
        obtain ⟨i1, i2⟩ := ih (j + 1) (walkL p f k (s + addsN x j) l) (by rw [walkL_len, hl]) g2
        rw [foldK]
        refine ⟨fun m hm => i1 m (w1 m hm), fun q hq m hr => ?_⟩
        rcases List.mem_cons.1 hq with rfl | hq
        · exact i1 m (w2 m hr)
        · exact i2 q hq m hr
    obtain ⟨f1, f2⟩ := fold x.kids 0 (l.set a s) (by simpa using hl) rfl
    have hself : (l.set a s)[a]? = S[a]? := by rw [List.getElem?_set_self (by omega), hs]
    rw [e]
    refine ⟨fun m hm => f1 m ?_, fun m hr => ?_⟩
    · by_cases h : a = m
      · subst h; exact hself
      · rw [List.getElem?_set_ne h]; exact hm
    · rcases hr.first with rfl | ⟨y, k, h1, h2, h3⟩
      · exact f1 _ hself
      · rw [hx] at h1; cases h1
        exact f2 k h2 m h3
theorem foldF_agree {p : Prog} (hp : FineP p) {S : List Int} (hS : Sprop p S) : ∀ (t : List Int) (l : List Int), l.length = p.nodes.length → (∀ f ∈ t, f ∈ p.funs) →
    (∀ m : Nat, l[m]? = S[m]? → (foldF p t l)[m]? = S[m]?) ∧ ∀ f ∈ t, ∀ m : Nat, Reach p f.toNat m → (foldF p t l)[m]? = S[m]?
  | [], l, _, _ => ⟨fun m h => h, fun f hf => (by cases hf)⟩
  | a :: t, l, hl, ht => by
    have ha := hp.funs a (ht a (List.mem_cons_self ..))
    have han : ((a.toNat : Nat) : Int) = a := by omega
    obtain ⟨w1, w2⟩ := walk_agree hp hS p.nodes.length a.toNat 1 l (by omega) (by omega) hl (hS.root a (ht a (List.mem_cons_self ..)))
    rw [han] at w1 w2
    obtain ⟨i1, i2⟩ := foldF_agree hp hS t (walkL p p.nodes.length a 1 l) (by rw [walkL_len, hl]) (fun f hf => ht f (List.mem_cons_of_mem _ hf))
    rw [foldF]
    refine ⟨fun m hm => i1 m (w1 m hm), fun f hf m hr => ?_⟩
    rcases List.mem_cons.1 hf with rfl | hf
    · exact i1 m (w2 m hr)
    · exact i2 f hf m hr
theorem foldF_sizes {p : Prog} (hp : FineP p) {S : List Int} (hS : Sprop p S) (hc : Covered p) {l : List Int} (hl : l.length = p.nodes.length) : foldF p p.funs l = S := by
  apply List.ext_getElem?
  intro m
  by_cases hm : m < p.nodes.length
  · obtain ⟨f, h1, h2⟩ := covered_reach hc m hm
    exact (foldF_agree hp hS p.funs l hl (fun f hf => hf)).2 f h1 m h2
  · rw [List.getElem?_eq_none (by rw [foldF_len, hl]; omega), List.getElem?_eq_none (by rw [hS.len]; omega)]
/-! ## and it finds what is outside -/
theorem walkC_iff {p : Prog} (hp : FineP p) {S : List Int} (hS : Sprop p S) : ∀ (f : Nat) (a : Nat) (s : Int), a < p.nodes.length → p.nodes.length - a ≤ f → S[a]? = some s →
    (walkC p f (a : Int) s = true ↔ ∀ m : Nat, Reach p a m → shutOk p S m = true)
  | 0, a, s, ha, hf, _ => by omega
  | f + 1, a, s, ha, hf, hs => by
    obtain ⟨x, hx⟩ : ∃ x, p.nodes[a]? = some x := ⟨_, List.getElem?_eq_getElem ha⟩
    obtain ⟨_, _, hks⟩ := hp.node a x hx
    have e : walkC p (f + 1) (a : Int) s = (if x.op = 4 ∧ x.n ≥ s then false else allK (walkC p f) x s 0 x.kids) := by
      rw [walkC]; simp only [Int.toNat_natCast, hx]
    have ok : shutOk p S a = true ↔ ¬ (x.op = 4 ∧ x.n ≥ s) := by
      unfold shutOk; rw [hx, hs]
      by_cases h4 : x.op = 4 <;> by_cases hn : x.n ≥ s <;> simp [h4, hn]
    have fold : ∀ (t : List Int) (j : Nat), x.kids.drop j = t → (allK (walkC p f) x s j t = true ↔ ∀ k ∈ t, ∀ m : Nat, Reach p k.toNat m → shutOk p S m = true) := by
      intro t
      induction t with
      | nil => intro j _; exact ⟨fun _ k hk => (by cases hk), fun _ => rfl⟩
      | cons k t ih =>
        intro j h
        obtain ⟨g1, g2, g3⟩ := dropC h
        have hk := hks k (List.mem_of_getElem? g1)
        obtain ⟨s', c1, c2⟩ := hS.kid a x j k hx g1
        rw [hs] at c1; cases c1
        have hkn : ((k.toNat : Nat) : Int) = k := by omega
        have w := walkC_iff hp hS f k.toNat (s + addsN x j) (by omega) (by omega) c2
        rw [hkn] at w
        rw [allK, Bool.and_eq_true, w, ih (j + 1) g2]
        constructor
        · intro ⟨h1, h2⟩ q hq
          rcases List.mem_cons.1 hq with rfl | hq
          · exact h1
          · exact h2 q hq
        · intro h
          exact ⟨h k (List.mem_cons_self ..), fun q hq => h q (List.mem_cons_of_mem _ hq)⟩
    rw [e]
    constructor
    · intro h m hr
      split at h
      · cases h
      · rename_i hno
        rcases hr.first with rfl | ⟨y, k, h1, h2, h3⟩
        · exact ok.2 hno
        · rw [hx] at h1; cases h1
          exact (fold x.kids 0 rfl).1 h k h2 m h3
    · intro h
      have h0 := ok.1 (h a (Reach.refl _))
      rw [if_neg h0]
      refine (fold x.kids 0 rfl).2 fun k hk m hr => h m ?_
      have all : ∀ {b m : Nat}, Reach p b m → ∀ {a : Nat} {x : Node} {k : Int}, p.nodes[a]? = some x → k ∈ x.kids → b = k.toNat → Reach p a m := by
        intro b m hr
        induction hr with
        | refl => intro a x k hx hk e; rw [e]; exact (Reach.refl a).step hx hk
        | step h hx' hk' ih => intro a x k hx hk e; exact (ih hx hk e).step hx' hk'
      exact all hr hx hk rfl
theorem allF_iff {p : Prog} (hp : FineP p) {S : List Int} (hS : Sprop p S) : ∀ (t : List Int), (∀ f ∈ t, f ∈ p.funs) → (allF p t = true ↔ ∀ f ∈ t, ∀ m : Nat, Reach p f.toNat m → shutOk p S m = true)
  | [], _ => ⟨fun _ f hf => (by cases hf), fun _ => rfl⟩
  | a :: t, ht => by
    have ha := hp.funs a (ht a (List.mem_cons_self ..))
    have han : ((a.toNat : Nat) : Int) = a := by omega
    have w := walkC_iff hp hS p.nodes.length a.toNat 1 (by omega) (by omega) (hS.root a (ht a (List.mem_cons_self ..)))
    rw [han] at w
    rw [allF, Bool.and_eq_true, w, allF_iff hp hS t (fun f hf => ht f (List.mem_cons_of_mem _ hf))]
    constructor
    · intro ⟨h1, h2⟩ q hq
      rcases List.mem_cons.1 hq with rfl | hq
      · exact h1
      · exact h2 q hq
    · intro h
      exact ⟨h a (List.mem_cons_self ..), fun q hq => h q (List.mem_cons_of_mem _ hq)⟩
theorem shutFrom_iff (p : Prog) (S : List Int) : ∀ (t : List Int) (i : Nat), shutFrom p S i t = true ↔ ∀ j, j < t.length → shutOk p S (i + j) = true
  | [], i => by simp [shutFrom]
  | a :: t, i => by
    rw [shutFrom, Bool.and_eq_true, shutFrom_iff p S t (i + 1)]
    constructor
    · intro ⟨h1, h2⟩ j hj
      cases j with
      | zero => exact h1
      | succ j => have := h2 j (by simpa using hj); rw [show i + (j + 1) = i + 1 + j by omega]; exact this
    · intro h
      refine ⟨h 0 (by simp), fun j hj => ?_⟩
      have := h (j + 1) (by simpa using hj)
      rw [show i + 1 + j = i + (j + 1) by omega]; exact this
theorem allF_shut {p : Prog} (hp : FineP p) {S : List Int} (hS : Sprop p S) (hc : Covered p) : allF p p.funs = shutFrom p S 0 S := by
  rw [Bool.eq_iff_iff, allF_iff hp hS p.funs (fun f hf => hf), shutFrom_iff]
  constructor
  · intro h j hj
    rw [hS.len] at hj
    obtain ⟨f, h1, h2⟩ := covered_reach hc j hj
    rw [Nat.zero_add]; exact h f h1 j h2
  · intro h f hf m hr
    by_cases hm : m < S.length
    · have := h m hm; rwa [Nat.zero_add] at this
    · unfold shutOk
      rw [List.getElem?_eq_none (by rw [hS.len] at hm; omega)]
/-! ## Depths, Closed: the program's, the reference's -/
def depthsOf (p : Prog) : List Int × Int := if refFormed p = true then (sizesR p, 0) else ([], 2)
def closedOf (p : Prog) : Bool × Int := if refFormed p = true then (shutFrom p (sizesR p) 0 (sizesR p), 0) else (false, 2)
theorem vr_tup {E : Emb} {e : Nat} {xs : List AV} {n : AV} {cv : Value} (h : VR E (.tup [.ilst e xs true, n]) cv) : VR E (.tup [.ilst e xs false, n]) cv := by
  simp only [VR] at h ⊢
  obtain ⟨us, h1, h2⟩ := h
  obtain ⟨u, us', rfl, h3, h4⟩ := h2.cons_inv
  exact ⟨_, h1, VRs.cons (vr_inexact h3) h4⟩
theorem check_of {p : Prog} (hs : smallProg p = true) : Pure PP 10 [Prog.av p] (.int .i64 (checkN (refFormed p))) := by
  have h2 := bCheck_pure p hs
  rw [formed_eq] at h2
  exact h2
theorem bDepths_pure {p : Prog} (hs : smallProg p = true) : Pure PP 12 [Prog.av p] (.tup [.ilst 1 (List.map avI (depthsOf p).1) false, .int .i64 (depthsOf p).2]) := by
  refine pure_at (by kernel_rfl) rfl rfl ?_
  have hc := check_of hs
  refine Ends.val ?_ (fun E cv => vr_tup)
  have e0 : (start PP 12 [Prog.av p]).as = (dep_s p).as := by kernel_rfl
  rw [e0]
  cases hf : refFormed p with
  | false =>
    rw [hf] at hc
    exact Ends.eqv (dep_E_0 p _ hc (by rfl)) (by simp [depthsOf, hf, checkN])
  | true =>
    rw [hf] at hc
    obtain ⟨q1, q2, q3⟩ := formed_facts hs hf
    have hn := q1.small
    refine (dep_E_1 p _ hc (by rfl) (by omega)).ends ?_
    exact Ends.eqv (dep_funs q1 p.funs 0 _ (by simp) rfl) (by rw [foldF_sizes q1 q2 q3 (by simp)]; simp [depthsOf, hf])
theorem bClosed_pure {p : Prog} (hs : smallProg p = true) : Pure PP 14 [Prog.av p] (.tup [.bool (closedOf p).1, .int .i64 (closedOf p).2]) := by
  refine pure_at (by kernel_rfl) rfl rfl ?_
  have hc := check_of hs
  have e0 : (start PP 14 [Prog.av p]).as = (clo_s p).as := by kernel_rfl
  rw [e0]
  cases hf : refFormed p with
  | false =>
    rw [hf] at hc
    exact Ends.eqv (clo_E_0 p _ hc (by rfl)) (by simp [closedOf, hf, checkN])
  | true =>
    rw [hf] at hc
    obtain ⟨q1, q2, q3⟩ := formed_facts hs hf
    refine (clo_E_1 p _ hc (by rfl)).ends ?_
    exact Ends.eqv (clo_funs q1 p.funs 0 rfl) (by rw [allF_shut q1 q2 q3]; simp [closedOf, hf])
theorem rDepths_pure {p : Prog} (hs : smallProg p = true) : Pure PP 13 [Prog.av p] (.tup [.ilst 1 (List.map avI (depthsOf p).1) false, .int .i64 (depthsOf p).2]) := by
  refine pure_at (by kernel_rfl) rfl rfl ?_
  have hc := rFormed_pure p hs
  cases hf : refFormed p with
  | false =>
    rw [hf] at hc
    exact Ends.val (Ends.eqv (rDepths_E_0 p _ hc (by rfl)) (by simp [depthsOf, hf] <;> rfl)) (fun E cv => vr_tup)
  | true =>
    rw [hf] at hc
    obtain ⟨q1, q2, q3⟩ := formed_facts hs hf
    exact Ends.eqv (rDepths_E_1 p _ _ hc (by rfl) (rSizes_pure q1)) (by simp [depthsOf, hf])
theorem rClosed_pure {p : Prog} (hs : smallProg p = true) : Pure PP 15 [Prog.av p] (.tup [.bool (closedOf p).1, .int .i64 (closedOf p).2]) := by
  refine pure_at (by kernel_rfl) rfl rfl ?_
  have hc := rFormed_pure p hs
  cases hf : refFormed p with
  | false =>
    rw [hf] at hc
    exact Ends.eqv (rClosed_E_0 p _ hc (by rfl)) (by simp [closedOf, hf])
  | true =>
    rw [hf] at hc
    obtain ⟨q1, q2, q3⟩ := formed_facts hs hf
    exact Ends.eqv (rClosed_E_1 p _ _ hc (by rfl) (rShut_pure q1)) (by simp [closedOf, hf])
end Go.Hb

