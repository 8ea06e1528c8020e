/-
  OWN WORK (the ways WRITTEN BY A PROGRAM): what the reference's Check answers.
-/
import Derived.Test.YtogkjcpighphfaaGreatHG1
set_option linter.unusedVariables false
set_option linter.unusedSimpArgs false
set_option linter.unusedSectionVars false
namespace Go.Hb
open Go.Proofs
noncomputable def rNode_c0 (p : Prog) (x : Node) (y1 : Bool) (args5 : Int) (i7 : Int) : TS :=
  { fr := { fn := 84, nt := 112, sl := [(2, (.ptr 0 0)), (3, (.ptr 1 0)), (4, (.bool false)), (5, (.int .i64 args5)), (6, (.bool y1)), (7, (.int .i64 i7))], todo := [.code (cd Tryz.f84 [1, 1, 1, 1, 1, 0, 1, 0, 0]), .inLoop (cd Tryz.f84 [1, 1, 1, 1, 1, 0, 1, 0, 0]), .inBlock 1, .code (cd Tryz.f84 [1, 1, 1, 1, 1, 1])] }, cs := [], hp := [(0, (.cells (putCells .leaf 0 [(.ilst 4 (List.map Node.av p.nodes) false), (.ilst 1 (List.map avI p.funs) false), (.int .i64 p.main), (.ilst 2 (List.map Con.av p.cons) false)]) 4 [] false), false), (1, (.cells (putCells .leaf 0 [(.int .i64 x.op), (.int .i64 x.n), (.ilst 1 (List.map avI x.kids) false), (.ilst 4 (Pats.av x.pats) false)]) 4 [] false), false)], nb := 2 }
theorem rNode_E_0 (p : Prog) (x : Node) (y0 : Bool) (y1 : Bool) (h0 : (x.op == (1 : Int)) = true) (h1 : Pure PP 82 [(.int .i64 x.n), (.int .i64 (-1000000000)), (.int .i64 1000000000)] (.bool y0)) (h2 : (x.op == (15 : Int)) = true) (h3 : y0 = true) (h4 : Pure PP 82 [(.int .i64 ((List.length x.pats : Nat) : Int)), (.int .i64 1), (.int .i64 5)] (.bool y1)) :
    LeadsM PP 0 (start PP 84 [(Prog.av p), (Node.av x)]).as (rNode_c0 p x y1 0 0).as :=
  wW 2 [0, 1] [ty h0, ty h1, ty h2, ty h3, ((List.length (Pats.av x.pats) : Nat) : Int) = ((List.length x.pats : Nat) : Int), ty h4] [.run 29, .b 13 true, .run 4, .pure (.bool y0), .run 10, .b 56 true, .run 4, .b 58 true, .run 2, .ans (.len ((List.length x.pats : Nat) : Int)), .pure (.bool y1), .run 10] (by kernel_rfl) (by kernel_rfl) trivial ⟨h0, h1, h2, h3, (len_iF pats_map _), h4⟩
theorem rNode_E_1 (p : Prog) (x : Node) (y0 : Bool) (h0 : (x.op == (1 : Int)) = true) (h1 : Pure PP 82 [(.int .i64 x.n), (.int .i64 (-1000000000)), (.int .i64 1000000000)] (.bool y0)) (h2 : (x.op == (15 : Int)) = true) (h3 : y0 = false) :
    LeadsM PP 0 (start PP 84 [(Prog.av p), (Node.av x)]).as (rNode_c0 p x false 0 0).as :=
  wW 2 [0, 1] [ty h0, ty h1, ty h2, ty h3] [.run 29, .b 13 true, .run 4, .pure (.bool y0), .run 10, .b 56 true, .run 4, .b 58 false, .run 14] (by kernel_rfl) (by kernel_rfl) trivial ⟨h0, h1, h2, h3⟩
theorem rNode_E_2 (p : Prog) (x : Node) (y0 : Bool) (h0 : (x.op == (1 : Int)) = true) (h1 : Pure PP 82 [(.int .i64 x.n), (.int .i64 (-1000000000)), (.int .i64 1000000000)] (.bool y0)) (h2 : (x.op == (15 : Int)) = false) (h3 : y0 = true) :
    LeadsM PP 0 (start PP 84 [(Prog.av p), (Node.av x)]).as (rNode_c0 p x (((List.length x.pats : Nat) : Int) == (0 : Int)) 0 0).as :=
  wW 2 [0, 1] [ty h0, ty h1, ty h2, ty h3, ((List.length (Pats.av x.pats) : Nat) : Int) = ((List.length x.pats : Nat) : Int)] [.run 29, .b 13 true, .run 4, .pure (.bool y0), .run 10, .b 56 false, .run 4, .b 65 true, .run 2, .ans (.len ((List.length x.pats : Nat) : Int)), .run 11] (by kernel_rfl) (by kernel_rfl) trivial ⟨h0, h1, h2, h3, (len_iF pats_map _)⟩
theorem rNode_E_3 (p : Prog) (x : Node) (y0 : Bool) (h0 : (x.op == (1 : Int)) = true) (h1 : Pure PP 82 [(.int .i64 x.n), (.int .i64 (-1000000000)), (.int .i64 1000000000)] (.bool y0)) (h2 : (x.op == (15 : Int)) = false) (h3 : y0 = false) :
    LeadsM PP 0 (start PP 84 [(Prog.av p), (Node.av x)]).as (rNode_c0 p x false 0 0).as :=
  wW 2 [0, 1] [ty h0, ty h1, ty h2, ty h3] [.run 29, .b 13 true, .run 4, .pure (.bool y0), .run 10, .b 56 false, .run 4, .b 65 false, .run 14] (by kernel_rfl) (by kernel_rfl) trivial ⟨h0, h1, h2, h3⟩
theorem rNode_E_4 (p : Prog) (x : Node) (y0 : Bool) (y1 : Bool) (h0 : (x.op == (1 : Int)) = false) (h1 : (x.op == (2 : Int)) = true) (h2 : Pure PP 82 [(.int .i64 x.n), (.int .i64 0), (.int .i64 1)] (.bool y0)) (h3 : (x.op == (15 : Int)) = true) (h4 : y0 = true) (h5 : Pure PP 82 [(.int .i64 ((List.length x.pats : Nat) : Int)), (.int .i64 1), (.int .i64 5)] (.bool y1)) :
    LeadsM PP 0 (start PP 84 [(Prog.av p), (Node.av x)]).as (rNode_c0 p x y1 0 0).as :=
  wW 2 [0, 1] [ty h0, ty h1, ty h2, ty h3, ty h4, ((List.length (Pats.av x.pats) : Nat) : Int) = ((List.length x.pats : Nat) : Int), ty h5] [.run 29, .b 13 false, .run 6, .b 18 true, .run 4, .pure (.bool y0), .run 10, .b 56 true, .run 4, .b 58 true, .run 2, .ans (.len ((List.length x.pats : Nat) : Int)), .pure (.bool y1), .run 10] (by kernel_rfl) (by kernel_rfl) trivial ⟨h0, h1, h2, h3, h4, (len_iF pats_map _), h5⟩
theorem rNode_E_5 (p : Prog) (x : Node) (y0 : Bool) (h0 : (x.op == (1 : Int)) = false) (h1 : (x.op == (2 : Int)) = true) (h2 : Pure PP 82 [(.int .i64 x.n), (.int .i64 0), (.int .i64 1)] (.bool y0)) (h3 : (x.op == (15 : Int)) = true) (h4 : y0 = false) :
    LeadsM PP 0 (start PP 84 [(Prog.av p), (Node.av x)]).as (rNode_c0 p x false 0 0).as :=
  wW 2 [0, 1] [ty h0, ty h1, ty h2, ty h3, ty h4] [.run 29, .b 13 false, .run 6, .b 18 true, .run 4, .pure (.bool y0), .run 10, .b 56 true, .run 4, .b 58 false, .run 14] (by kernel_rfl) (by kernel_rfl) trivial ⟨h0, h1, h2, h3, h4⟩
theorem rNode_E_6 (p : Prog) (x : Node) (y0 : Bool) (h0 : (x.op == (1 : Int)) = false) (h1 : (x.op == (2 : Int)) = true) (h2 : Pure PP 82 [(.int .i64 x.n), (.int .i64 0), (.int .i64 1)] (.bool y0)) (h3 : (x.op == (15 : Int)) = false) (h4 : y0 = true) :
    LeadsM PP 0 (start PP 84 [(Prog.av p), (Node.av x)]).as (rNode_c0 p x (((List.length x.pats : Nat) : Int) == (0 : Int)) 0 0).as :=
  wW 2 [0, 1] [ty h0, ty h1, ty h2, ty h3, ty h4, ((List.length (Pats.av x.pats) : Nat) : Int) = ((List.length x.pats : Nat) : Int)] [.run 29, .b 13 false, .run 6, .b 18 true, .run 4, .pure (.bool y0), .run 10, .b 56 false, .run 4, .b 65 true, .run 2, .ans (.len ((List.length x.pats : Nat) : Int)), .run 11] (by kernel_rfl) (by kernel_rfl) trivial ⟨h0, h1, h2, h3, h4, (len_iF pats_map _)⟩
theorem rNode_E_7 (p : Prog) (x : Node) (y0 : Bool) (h0 : (x.op == (1 : Int)) = false) (h1 : (x.op == (2 : Int)) = true) (h2 : Pure PP 82 [(.int .i64 x.n), (.int .i64 0), (.int .i64 1)] (.bool y0)) (h3 : (x.op == (15 : Int)) = false) (h4 : y0 = false) :
    LeadsM PP 0 (start PP 84 [(Prog.av p), (Node.av x)]).as (rNode_c0 p x false 0 0).as :=
  wW 2 [0, 1] [ty h0, ty h1, ty h2, ty h3, ty h4] [.run 29, .b 13 false, .run 6, .b 18 true, .run 4, .pure (.bool y0), .run 10, .b 56 false, .run 4, .b 65 false, .run 14] (by kernel_rfl) (by kernel_rfl) trivial ⟨h0, h1, h2, h3, h4⟩
theorem rNode_E_8 (p : Prog) (x : Node) (y0 : Bool) (y1 : Bool) (h0 : (x.op == (1 : Int)) = false) (h1 : (x.op == (2 : Int)) = false) (h2 : (x.op == (4 : Int)) = true) (h3 : (IntKind.i64.wrap (0 - ((List.length p.funs : Nat) : Int))) = (0 - ((List.length p.funs : Nat) : Int))) (h4 : Pure PP 82 [(.int .i64 x.n), (.int .i64 (0 - ((List.length p.funs : Nat) : Int))), (.int .i64 29)] (.bool y0)) (h5 : (x.op == (15 : Int)) = true) (h6 : y0 = true) (h7 : Pure PP 82 [(.int .i64 ((List.length x.pats : Nat) : Int)), (.int .i64 1), (.int .i64 5)] (.bool y1)) :
    LeadsM PP 0 (start PP 84 [(Prog.av p), (Node.av x)]).as (rNode_c0 p x y1 0 0).as :=
  wW 2 [0, 1] [ty h0, ty h1, ty h2, ((List.length (List.map avI p.funs) : Nat) : Int) = ((List.length p.funs : Nat) : Int), (AV.int .i64 (IntKind.i64.wrap (0 - ((List.length p.funs : Nat) : Int)))) = (.int .i64 (0 - ((List.length p.funs : Nat) : Int))), ty h4, ty h5, ty h6, ((List.length (Pats.av x.pats) : Nat) : Int) = ((List.length x.pats : Nat) : Int), ty h7] [.run 29, .b 13 false, .run 6, .b 18 false, .run 6, .b 23 true, .run 6, .ans (.len ((List.length p.funs : Nat) : Int)), .run 1, .set 30 (.int .i64 (0 - ((List.length p.funs : Nat) : Int))), .pure (.bool y0), .run 10, .b 56 true, .run 4, .b 58 true, .run 2, .ans (.len ((List.length x.pats : Nat) : Int)), .pure (.bool y1), .run 10] (by kernel_rfl) (by kernel_rfl) trivial ⟨h0, h1, h2, (len_i _ _), (congrArg (AV.int .i64) h3), h4, h5, h6, (len_iF pats_map _), h7⟩
theorem rNode_E_9 (p : Prog) (x : Node) (y0 : Bool) (h0 : (x.op == (1 : Int)) = false) (h1 : (x.op == (2 : Int)) = false) (h2 : (x.op == (4 : Int)) = true) (h3 : (IntKind.i64.wrap (0 - ((List.length p.funs : Nat) : Int))) = (0 - ((List.length p.funs : Nat) : Int))) (h4 : Pure PP 82 [(.int .i64 x.n), (.int .i64 (0 - ((List.length p.funs : Nat) : Int))), (.int .i64 29)] (.bool y0)) (h5 : (x.op == (15 : Int)) = true) (h6 : y0 = false) :
    LeadsM PP 0 (start PP 84 [(Prog.av p), (Node.av x)]).as (rNode_c0 p x false 0 0).as :=
  wW 2 [0, 1] [ty h0, ty h1, ty h2, ((List.length (List.map avI p.funs) : Nat) : Int) = ((List.length p.funs : Nat) : Int), (AV.int .i64 (IntKind.i64.wrap (0 - ((List.length p.funs : Nat) : Int)))) = (.int .i64 (0 - ((List.length p.funs : Nat) : Int))), ty h4, ty h5, ty h6] [.run 29, .b 13 false, .run 6, .b 18 false, .run 6, .b 23 true, .run 6, .ans (.len ((List.length p.funs : Nat) : Int)), .run 1, .set 30 (.int .i64 (0 - ((List.length p.funs : Nat) : Int))), .pure (.bool y0), .run 10, .b 56 true, .run 4, .b 58 false, .run 14] (by kernel_rfl) (by kernel_rfl) trivial ⟨h0, h1, h2, (len_i _ _), (congrArg (AV.int .i64) h3), h4, h5, h6⟩
theorem rNode_E_10 (p : Prog) (x : Node) (y0 : Bool) (h0 : (x.op == (1 : Int)) = false) (h1 : (x.op == (2 : Int)) = false) (h2 : (x.op == (4 : Int)) = true) (h3 : (IntKind.i64.wrap (0 - ((List.length p.funs : Nat) : Int))) = (0 - ((List.length p.funs : Nat) : Int))) (h4 : Pure PP 82 [(.int .i64 x.n), (.int .i64 (0 - ((List.length p.funs : Nat) : Int))), (.int .i64 29)] (.bool y0)) (h5 : (x.op == (15 : Int)) = false) (h6 : y0 = true) :
    LeadsM PP 0 (start PP 84 [(Prog.av p), (Node.av x)]).as (rNode_c0 p x (((List.length x.pats : Nat) : Int) == (0 : Int)) 0 0).as :=
  wW 2 [0, 1] [ty h0, ty h1, ty h2, ((List.length (List.map avI p.funs) : Nat) : Int) = ((List.length p.funs : Nat) : Int), (AV.int .i64 (IntKind.i64.wrap (0 - ((List.length p.funs : Nat) : Int)))) = (.int .i64 (0 - ((List.length p.funs : Nat) : Int))), ty h4, ty h5, ty h6, ((List.length (Pats.av x.pats) : Nat) : Int) = ((List.length x.pats : Nat) : Int)] [.run 29, .b 13 false, .run 6, .b 18 false, .run 6, .b 23 true, .run 6, .ans (.len ((List.length p.funs : Nat) : Int)), .run 1, .set 30 (.int .i64 (0 - ((List.length p.funs : Nat) : Int))), .pure (.bool y0), .run 10, .b 56 false, .run 4, .b 65 true, .run 2, .ans (.len ((List.length x.pats : Nat) : Int)), .run 11] (by kernel_rfl) (by kernel_rfl) trivial ⟨h0, h1, h2, (len_i _ _), (congrArg (AV.int .i64) h3), h4, h5, h6, (len_iF pats_map _)⟩
theorem rNode_E_11 (p : Prog) (x : Node) (y0 : Bool) (h0 : (x.op == (1 : Int)) = false) (h1 : (x.op == (2 : Int)) = false) (h2 : (x.op == (4 : Int)) = true) (h3 : (IntKind.i64.wrap (0 - ((List.length p.funs : Nat) : Int))) = (0 - ((List.length p.funs : Nat) : Int))) (h4 : Pure PP 82 [(.int .i64 x.n), (.int .i64 (0 - ((List.length p.funs : Nat) : Int))), (.int .i64 29)] (.bool y0)) (h5 : (x.op == (15 : Int)) = false) (h6 : y0 = false) :
    LeadsM PP 0 (start PP 84 [(Prog.av p), (Node.av x)]).as (rNode_c0 p x false 0 0).as :=
  wW 2 [0, 1] [ty h0, ty h1, ty h2, ((List.length (List.map avI p.funs) : Nat) : Int) = ((List.length p.funs : Nat) : Int), (AV.int .i64 (IntKind.i64.wrap (0 - ((List.length p.funs : Nat) : Int)))) = (.int .i64 (0 - ((List.length p.funs : Nat) : Int))), ty h4, ty h5, ty h6] [.run 29, .b 13 false, .run 6, .b 18 false, .run 6, .b 23 true, .run 6, .ans (.len ((List.length p.funs : Nat) : Int)), .run 1, .set 30 (.int .i64 (0 - ((List.length p.funs : Nat) : Int))), .pure (.bool y0), .run 10, .b 56 false, .run 4, .b 65 false, .run 14] (by kernel_rfl) (by kernel_rfl) trivial ⟨h0, h1, h2, (len_i _ _), (congrArg (AV.int .i64) h3), h4, h5, h6⟩
theorem rNode_E_12 (p : Prog) (x : Node) (y0 : Bool) (y1 : Bool) (h0 : (x.op == (1 : Int)) = false) (h1 : (x.op == (2 : Int)) = false) (h2 : (x.op == (4 : Int)) = false) (h3 : (x.op == (24 : Int)) = true) (h4 : Pure PP 82 [(.int .i64 x.n), (.int .i64 0), (.int .i64 3)] (.bool y0)) (h5 : (x.op == (15 : Int)) = true) (h6 : y0 = true) (h7 : Pure PP 82 [(.int .i64 ((List.length x.pats : Nat) : Int)), (.int .i64 1), (.int .i64 5)] (.bool y1)) :
    LeadsM PP 0 (start PP 84 [(Prog.av p), (Node.av x)]).as (rNode_c0 p x y1 0 0).as :=
  wW 2 [0, 1] [ty h0, ty h1, ty h2, ty h3, ty h4, ty h5, ty h6, ((List.length (Pats.av x.pats) : Nat) : Int) = ((List.length x.pats : Nat) : Int), ty h7] [.run 29, .b 13 false, .run 6, .b 18 false, .run 6, .b 23 false, .run 6, .b 32 true, .run 4, .pure (.bool y0), .run 10, .b 56 true, .run 4, .b 58 true, .run 2, .ans (.len ((List.length x.pats : Nat) : Int)), .pure (.bool y1), .run 10] (by kernel_rfl) (by kernel_rfl) trivial ⟨h0, h1, h2, h3, h4, h5, h6, (len_iF pats_map _), h7⟩
theorem rNode_E_13 (p : Prog) (x : Node) (y0 : Bool) (h0 : (x.op == (1 : Int)) = false) (h1 : (x.op == (2 : Int)) = false) (h2 : (x.op == (4 : Int)) = false) (h3 : (x.op == (24 : Int)) = true) (h4 : Pure PP 82 [(.int .i64 x.n), (.int .i64 0), (.int .i64 3)] (.bool y0)) (h5 : (x.op == (15 : Int)) = true) (h6 : y0 = false) :
    LeadsM PP 0 (start PP 84 [(Prog.av p), (Node.av x)]).as (rNode_c0 p x false 0 0).as :=
  wW 2 [0, 1] [ty h0, ty h1, ty h2, ty h3, ty h4, ty h5, ty h6] [.run 29, .b 13 false, .run 6, .b 18 false, .run 6, .b 23 false, .run 6, .b 32 true, .run 4, .pure (.bool y0), .run 10, .b 56 true, .run 4, .b 58 false, .run 14] (by kernel_rfl) (by kernel_rfl) trivial ⟨h0, h1, h2, h3, h4, h5, h6⟩
theorem rNode_E_14 (p : Prog) (x : Node) (y0 : Bool) (h0 : (x.op == (1 : Int)) = false) (h1 : (x.op == (2 : Int)) = false) (h2 : (x.op == (4 : Int)) = false) (h3 : (x.op == (24 : Int)) = true) (h4 : Pure PP 82 [(.int .i64 x.n), (.int .i64 0), (.int .i64 3)] (.bool y0)) (h5 : (x.op == (15 : Int)) = false) (h6 : y0 = true) :
    LeadsM PP 0 (start PP 84 [(Prog.av p), (Node.av x)]).as (rNode_c0 p x (((List.length x.pats : Nat) : Int) == (0 : Int)) 0 0).as :=
  wW 2 [0, 1] [ty h0, ty h1, ty h2, ty h3, ty h4, ty h5, ty h6, ((List.length (Pats.av x.pats) : Nat) : Int) = ((List.length x.pats : Nat) : Int)] [.run 29, .b 13 false, .run 6, .b 18 false, .run 6, .b 23 false, .run 6, .b 32 true, .run 4, .pure (.bool y0), .run 10, .b 56 false, .run 4, .b 65 true, .run 2, .ans (.len ((List.length x.pats : Nat) : Int)), .run 11] (by kernel_rfl) (by kernel_rfl) trivial ⟨h0, h1, h2, h3, h4, h5, h6, (len_iF pats_map _)⟩
theorem rNode_E_15 (p : Prog) (x : Node) (y0 : Bool) (h0 : (x.op == (1 : Int)) = false) (h1 : (x.op == (2 : Int)) = false) (h2 : (x.op == (4 : Int)) = false) (h3 : (x.op == (24 : Int)) = true) (h4 : Pure PP 82 [(.int .i64 x.n), (.int .i64 0), (.int .i64 3)] (.bool y0)) (h5 : (x.op == (15 : Int)) = false) (h6 : y0 = false) :
    LeadsM PP 0 (start PP 84 [(Prog.av p), (Node.av x)]).as (rNode_c0 p x false 0 0).as :=
  wW 2 [0, 1] [ty h0, ty h1, ty h2, ty h3, ty h4, ty h5, ty h6] [.run 29, .b 13 false, .run 6, .b 18 false, .run 6, .b 23 false, .run 6, .b 32 true, .run 4, .pure (.bool y0), .run 10, .b 56 false, .run 4, .b 65 false, .run 14] (by kernel_rfl) (by kernel_rfl) trivial ⟨h0, h1, h2, h3, h4, h5, h6⟩
theorem rNode_E_16 (p : Prog) (x : Node) (y0 : Bool) (y1 : Con) (y2 : Bool) (h0 : (x.op == (1 : Int)) = false) (h1 : (x.op == (2 : Int)) = false) (h2 : (x.op == (4 : Int)) = false) (h3 : (x.op == (24 : Int)) = false) (h4 : (x.op == (14 : Int)) = true) (h5 : (IntKind.i64.wrap (((List.length p.cons : Nat) : Int) - (1 : Int))) = (((List.length p.cons : Nat) : Int) - (1 : Int))) (h6 : Pure PP 82 [(.int .i64 x.n), (.int .i64 0), (.int .i64 (((List.length p.cons : Nat) : Int) - (1 : Int)))] (.bool y0)) (h7 : y0 = true) (h8 : 0 ≤ x.n) (h9 : ((p.cons)[x.n.toNat]?) = some y1) (h10 : (x.op == (15 : Int)) = true) (h11 : Pure PP 82 [(.int .i64 ((List.length x.pats : Nat) : Int)), (.int .i64 1), (.int .i64 5)] (.bool y2)) :
    LeadsM PP 0 (start PP 84 [(Prog.av p), (Node.av x)]).as (rNode_c0 p x y2 y1.args 0).as :=
  wW 2 [0, 1] [ty h0, ty h1, ty h2, ty h3, ty h4, ((List.length (List.map Con.av p.cons) : Nat) : Int) = ((List.length p.cons : Nat) : Int), (AV.int .i64 (IntKind.i64.wrap (((List.length p.cons : Nat) : Int) - (1 : Int)))) = (.int .i64 (((List.length p.cons : Nat) : Int) - (1 : Int))), ty h6, ty h7, 0 ≤ x.n, (List.map Con.av p.cons)[x.n.toNat]? = some (Con.av y1), ty h10, ty h7, ((List.length (Pats.av x.pats) : Nat) : Int) = ((List.length x.pats : Nat) : Int), ty h11] [.run 29, .b 13 false, .run 6, .b 18 false, .run 6, .b 23 false, .run 6, .b 32 false, .run 6, .b 37 true, .run 7, .ans (.len ((List.length p.cons : Nat) : Int)), .run 1, .set 44 (.int .i64 (((List.length p.cons : Nat) : Int) - (1 : Int))), .pure (.bool y0), .run 6, .b 46 true, .run 6, .ans (.idx (Con.av y1)), .run 12, .b 56 true, .run 4, .b 58 true, .run 2, .ans (.len ((List.length x.pats : Nat) : Int)), .pure (.bool y2), .run 10] (by kernel_rfl) (by kernel_rfl) trivial ⟨h0, h1, h2, h3, h4, (len_i _ _), (congrArg (AV.int .i64) h5), h6, h7, h8, (map_get h9), h10, h7, (len_iF pats_map _), h11⟩
theorem rNode_E_17 (p : Prog) (x : Node) (y0 : Bool) (y1 : Con) (h0 : (x.op == (1 : Int)) = false) (h1 : (x.op == (2 : Int)) = false) (h2 : (x.op == (4 : Int)) = false) (h3 : (x.op == (24 : Int)) = false) (h4 : (x.op == (14 : Int)) = true) (h5 : (IntKind.i64.wrap (((List.length p.cons : Nat) : Int) - (1 : Int))) = (((List.length p.cons : Nat) : Int) - (1 : Int))) (h6 : Pure PP 82 [(.int .i64 x.n), (.int .i64 0), (.int .i64 (((List.length p.cons : Nat) : Int) - (1 : Int)))] (.bool y0)) (h7 : y0 = true) (h8 : 0 ≤ x.n) (h9 : ((p.cons)[x.n.toNat]?) = some y1) (h10 : (x.op == (15 : Int)) = false) :
    LeadsM PP 0 (start PP 84 [(Prog.av p), (Node.av x)]).as (rNode_c0 p x (((List.length x.pats : Nat) : Int) == (0 : Int)) y1.args 0).as :=
  wW 2 [0, 1] [ty h0, ty h1, ty h2, ty h3, ty h4, ((List.length (List.map Con.av p.cons) : Nat) : Int) = ((List.length p.cons : Nat) : Int), (AV.int .i64 (IntKind.i64.wrap (((List.length p.cons : Nat) : Int) - (1 : Int)))) = (.int .i64 (((List.length p.cons : Nat) : Int) - (1 : Int))), ty h6, ty h7, 0 ≤ x.n, (List.map Con.av p.cons)[x.n.toNat]? = some (Con.av y1), ty h10, ty h7, ((List.length (Pats.av x.pats) : Nat) : Int) = ((List.length x.pats : Nat) : Int)] [.run 29, .b 13 false, .run 6, .b 18 false, .run 6, .b 23 false, .run 6, .b 32 false, .run 6, .b 37 true, .run 7, .ans (.len ((List.length p.cons : Nat) : Int)), .run 1, .set 44 (.int .i64 (((List.length p.cons : Nat) : Int) - (1 : Int))), .pure (.bool y0), .run 6, .b 46 true, .run 6, .ans (.idx (Con.av y1)), .run 12, .b 56 false, .run 4, .b 65 true, .run 2, .ans (.len ((List.length x.pats : Nat) : Int)), .run 11] (by kernel_rfl) (by kernel_rfl) trivial ⟨h0, h1, h2, h3, h4, (len_i _ _), (congrArg (AV.int .i64) h5), h6, h7, h8, (map_get h9), h10, h7, (len_iF pats_map _)⟩
theorem rNode_E_18 (p : Prog) (x : Node) (y0 : Bool) (h0 : (x.op == (1 : Int)) = false) (h1 : (x.op == (2 : Int)) = false) (h2 : (x.op == (4 : Int)) = false) (h3 : (x.op == (24 : Int)) = false) (h4 : (x.op == (14 : Int)) = true) (h5 : (IntKind.i64.wrap (((List.length p.cons : Nat) : Int) - (1 : Int))) = (((List.length p.cons : Nat) : Int) - (1 : Int))) (h6 : Pure PP 82 [(.int .i64 x.n), (.int .i64 0), (.int .i64 (((List.length p.cons : Nat) : Int) - (1 : Int)))] (.bool y0)) (h7 : y0 = false) (h8 : (x.op == (15 : Int)) = true) :
    LeadsM PP 0 (start PP 84 [(Prog.av p), (Node.av x)]).as (rNode_c0 p x false 0 0).as :=
  wW 2 [0, 1] [ty h0, ty h1, ty h2, ty h3, ty h4, ((List.length (List.map Con.av p.cons) : Nat) : Int) = ((List.length p.cons : Nat) : Int), (AV.int .i64 (IntKind.i64.wrap (((List.length p.cons : Nat) : Int) - (1 : Int)))) = (.int .i64 (((List.length p.cons : Nat) : Int) - (1 : Int))), ty h6, ty h7, ty h8, ty h7] [.run 29, .b 13 false, .run 6, .b 18 false, .run 6, .b 23 false, .run 6, .b 32 false, .run 6, .b 37 true, .run 7, .ans (.len ((List.length p.cons : Nat) : Int)), .run 1, .set 44 (.int .i64 (((List.length p.cons : Nat) : Int) - (1 : Int))), .pure (.bool y0), .run 6, .b 46 false, .run 10, .b 56 true, .run 4, .b 58 false, .run 14] (by kernel_rfl) (by kernel_rfl) trivial ⟨h0, h1, h2, h3, h4, (len_i _ _), (congrArg (AV.int .i64) h5), h6, h7, h8, h7⟩
theorem rNode_E_19 (p : Prog) (x : Node) (y0 : Bool) (h0 : (x.op == (1 : Int)) = false) (h1 : (x.op == (2 : Int)) = false) (h2 : (x.op == (4 : Int)) = false) (h3 : (x.op == (24 : Int)) = false) (h4 : (x.op == (14 : Int)) = true) (h5 : (IntKind.i64.wrap (((List.length p.cons : Nat) : Int) - (1 : Int))) = (((List.length p.cons : Nat) : Int) - (1 : Int))) (h6 : Pure PP 82 [(.int .i64 x.n), (.int .i64 0), (.int .i64 (((List.length p.cons : Nat) : Int) - (1 : Int)))] (.bool y0)) (h7 : y0 = false) (h8 : (x.op == (15 : Int)) = false) :
    LeadsM PP 0 (start PP 84 [(Prog.av p), (Node.av x)]).as (rNode_c0 p x false 0 0).as :=
  wW 2 [0, 1] [ty h0, ty h1, ty h2, ty h3, ty h4, ((List.length (List.map Con.av p.cons) : Nat) : Int) = ((List.length p.cons : Nat) : Int), (AV.int .i64 (IntKind.i64.wrap (((List.length p.cons : Nat) : Int) - (1 : Int)))) = (.int .i64 (((List.length p.cons : Nat) : Int) - (1 : Int))), ty h6, ty h7, ty h8, ty h7] [.run 29, .b 13 false, .run 6, .b 18 false, .run 6, .b 23 false, .run 6, .b 32 false, .run 6, .b 37 true, .run 7, .ans (.len ((List.length p.cons : Nat) : Int)), .run 1, .set 44 (.int .i64 (((List.length p.cons : Nat) : Int) - (1 : Int))), .pure (.bool y0), .run 6, .b 46 false, .run 10, .b 56 false, .run 4, .b 65 false, .run 14] (by kernel_rfl) (by kernel_rfl) trivial ⟨h0, h1, h2, h3, h4, (len_i _ _), (congrArg (AV.int .i64) h5), h6, h7, h8, h7⟩
theorem rNode_E_20 (p : Prog) (x : Node) (y0 : Bool) (h0 : (x.op == (1 : Int)) = false) (h1 : (x.op == (2 : Int)) = false) (h2 : (x.op == (4 : Int)) = false) (h3 : (x.op == (24 : Int)) = false) (h4 : (x.op == (14 : Int)) = false) (h5 : (x.op == (15 : Int)) = true) (h6 : (x.n == (0 : Int)) = true) (h7 : Pure PP 82 [(.int .i64 ((List.length x.pats : Nat) : Int)), (.int .i64 1), (.int .i64 5)] (.bool y0)) :
    LeadsM PP 0 (start PP 84 [(Prog.av p), (Node.av x)]).as (rNode_c0 p x y0 0 0).as :=
  wW 2 [0, 1] [ty h0, ty h1, ty h2, ty h3, ty h4, ty h5, ty h6, ((List.length (Pats.av x.pats) : Nat) : Int) = ((List.length x.pats : Nat) : Int), ty h7] [.run 29, .b 13 false, .run 6, .b 18 false, .run 6, .b 23 false, .run 6, .b 32 false, .run 6, .b 37 false, .run 10, .b 56 true, .run 4, .b 58 true, .run 2, .ans (.len ((List.length x.pats : Nat) : Int)), .pure (.bool y0), .run 10] (by kernel_rfl) (by kernel_rfl) trivial ⟨h0, h1, h2, h3, h4, h5, h6, (len_iF pats_map _), h7⟩
theorem rNode_E_21 (p : Prog) (x : Node) (h0 : (x.op == (1 : Int)) = false) (h1 : (x.op == (2 : Int)) = false) (h2 : (x.op == (4 : Int)) = false) (h3 : (x.op == (24 : Int)) = false) (h4 : (x.op == (14 : Int)) = false) (h5 : (x.op == (15 : Int)) = true) (h6 : (x.n == (0 : Int)) = false) :
    LeadsM PP 0 (start PP 84 [(Prog.av p), (Node.av x)]).as (rNode_c0 p x false 0 0).as :=
  wW 2 [0, 1] [ty h0, ty h1, ty h2, ty h3, ty h4, ty h5, ty h6] [.run 29, .b 13 false, .run 6, .b 18 false, .run 6, .b 23 false, .run 6, .b 32 false, .run 6, .b 37 false, .run 10, .b 56 true, .run 4, .b 58 false, .run 14] (by kernel_rfl) (by kernel_rfl) trivial ⟨h0, h1, h2, h3, h4, h5, h6⟩
theorem rNode_E_22 (p : Prog) (x : Node) (h0 : (x.op == (1 : Int)) = false) (h1 : (x.op == (2 : Int)) = false) (h2 : (x.op == (4 : Int)) = false) (h3 : (x.op == (24 : Int)) = false) (h4 : (x.op == (14 : Int)) = false) (h5 : (x.op == (15 : Int)) = false) (h6 : (x.n == (0 : Int)) = true) :
    LeadsM PP 0 (start PP 84 [(Prog.av p), (Node.av x)]).as (rNode_c0 p x (((List.length x.pats : Nat) : Int) == (0 : Int)) 0 0).as :=
  wW 2 [0, 1] [ty h0, ty h1, ty h2, ty h3, ty h4, ty h5, ty h6, ((List.length (Pats.av x.pats) : Nat) : Int) = ((List.length x.pats : Nat) : Int)] [.run 29, .b 13 false, .run 6, .b 18 false, .run 6, .b 23 false, .run 6, .b 32 false, .run 6, .b 37 false, .run 10, .b 56 false, .run 4, .b 65 true, .run 2, .ans (.len ((List.length x.pats : Nat) : Int)), .run 11] (by kernel_rfl) (by kernel_rfl) trivial ⟨h0, h1, h2, h3, h4, h5, h6, (len_iF pats_map _)⟩
theorem rNode_E_23 (p : Prog) (x : Node) (h0 : (x.op == (1 : Int)) = false) (h1 : (x.op == (2 : Int)) = false) (h2 : (x.op == (4 : Int)) = false) (h3 : (x.op == (24 : Int)) = false) (h4 : (x.op == (14 : Int)) = false) (h5 : (x.op == (15 : Int)) = false) (h6 : (x.n == (0 : Int)) = false) :
    LeadsM PP 0 (start PP 84 [(Prog.av p), (Node.av x)]).as (rNode_c0 p x false 0 0).as :=
  wW 2 [0, 1] [ty h0, ty h1, ty h2, ty h3, ty h4, ty h5, ty h6] [.run 29, .b 13 false, .run 6, .b 18 false, .run 6, .b 23 false, .run 6, .b 32 false, .run 6, .b 37 false, .run 10, .b 56 false, .run 4, .b 65 false, .run 14] (by kernel_rfl) (by kernel_rfl) trivial ⟨h0, h1, h2, h3, h4, h5, h6⟩
theorem rNode_0_0 (p : Prog) (x : Node) (y1 : Bool) (args5 : Int) (i7 : Int) (y_form0 : Int) (y_n1 : Int) (y_text2 : Str) (y_parts3 : (List Pat)) (y4 : Int) (y5 : Bool) (h0 : (decide (i7 < ((List.length x.pats : Nat) : Int))) = true) (h1 : y1 = true) (h2 : 0 ≤ i7) (h3 : ((x.pats)[i7.toNat]?) = some (Pat.mk y_form0 y_n1 y_text2 y_parts3)) (h4 : Pure PP 56 [(.agg [(.int .i64 y_form0), (.int .i64 y_n1), (avS y_text2), (.ilst 4 (Pats.av y_parts3) false)]), (.int .i64 12)] (.int .i64 y4)) (h5 : (decide (y4 ≥ (0 : Int))) = true) (h6 : Pure PP 140 [(.agg [(.int .i64 y_form0), (.int .i64 y_n1), (avS y_text2), (.ilst 4 (Pats.av y_parts3) false)]), (.ilst 2 (List.map Con.av p.cons) false)] (.bool y5)) (h7 : (IntKind.i64.wrap (i7 + (1 : Int))) = (i7 + (1 : Int))) :
    LeadsM PP 0 (rNode_c0 p x y1 args5 i7).as (rNode_c0 p x y5 args5 (i7 + (1 : Int))).as :=
  wW 2 [0, 1] [((List.length (Pats.av x.pats) : Nat) : Int) = ((List.length x.pats : Nat) : Int), ty h0, ty h1, 0 ≤ i7, (Pats.av x.pats)[i7.toNat]? = some (Pat.av (Pat.mk y_form0 y_n1 y_text2 y_parts3)), ty h4, ty h5, 0 ≤ i7, (Pats.av x.pats)[i7.toNat]? = some (Pat.av (Pat.mk y_form0 y_n1 y_text2 y_parts3)), ty h6, (AV.int .i64 (IntKind.i64.wrap (i7 + (1 : Int)))) = (.int .i64 (i7 + (1 : Int)))] [.run 6, .ans (.len ((List.length x.pats : Nat) : Int)), .run 2, .b 76 true, .run 3, .b 78 true, .run 4, .reg [.d, .d, .d, .ans (.idx (Pat.av (Pat.mk y_form0 y_n1 y_text2 y_parts3))), .d, .pure (.int .i64 y4), .d, .d, .b 88 true, .d, .d, .d, .ans (.idx (Pat.av (Pat.mk y_form0 y_n1 y_text2 y_parts3))), .d, .d, .d, .pure (.bool y5), .d, .d], .run 4, .set 80 (.int .i64 (i7 + (1 : Int))), .run 3] (by kernel_rfl) (by kernel_rfl) trivial ⟨(len_iF pats_map _), h0, h1, h2, (map_getF pats_map h3), h4, h5, h2, (map_getF pats_map h3), h6, (congrArg (AV.int .i64) h7)⟩
theorem rNode_0_1 (p : Prog) (x : Node) (y1 : Bool) (args5 : Int) (i7 : Int) (y_form0 : Int) (y_n1 : Int) (y_text2 : Str) (y_parts3 : (List Pat)) (y4 : Int) (h0 : (decide (i7 < ((List.length x.pats : Nat) : Int))) = true) (h1 : y1 = true) (h2 : 0 ≤ i7) (h3 : ((x.pats)[i7.toNat]?) = some (Pat.mk y_form0 y_n1 y_text2 y_parts3)) (h4 : Pure PP 56 [(.agg [(.int .i64 y_form0), (.int .i64 y_n1), (avS y_text2), (.ilst 4 (Pats.av y_parts3) false)]), (.int .i64 12)] (.int .i64 y4)) (h5 : (decide (y4 ≥ (0 : Int))) = false) (h6 : (IntKind.i64.wrap (i7 + (1 : Int))) = (i7 + (1 : Int))) :
    LeadsM PP 0 (rNode_c0 p x y1 args5 i7).as (rNode_c0 p x false args5 (i7 + (1 : Int))).as :=
  wW 2 [0, 1] [((List.length (Pats.av x.pats) : Nat) : Int) = ((List.length x.pats : Nat) : Int), ty h0, ty h1, 0 ≤ i7, (Pats.av x.pats)[i7.toNat]? = some (Pat.av (Pat.mk y_form0 y_n1 y_text2 y_parts3)), ty h4, ty h5, (AV.int .i64 (IntKind.i64.wrap (i7 + (1 : Int)))) = (.int .i64 (i7 + (1 : Int)))] [.run 6, .ans (.len ((List.length x.pats : Nat) : Int)), .run 2, .b 76 true, .run 3, .b 78 true, .run 4, .reg [.d, .d, .d, .ans (.idx (Pat.av (Pat.mk y_form0 y_n1 y_text2 y_parts3))), .d, .pure (.int .i64 y4), .d, .d, .b 88 false, .d, .d, .d, .d, .d, .d, .d, .d, .d, .d], .run 4, .set 80 (.int .i64 (i7 + (1 : Int))), .run 3] (by kernel_rfl) (by kernel_rfl) trivial ⟨(len_iF pats_map _), h0, h1, h2, (map_getF pats_map h3), h4, h5, (congrArg (AV.int .i64) h6)⟩
theorem rNode_0_2 (p : Prog) (x : Node) (y1 : Bool) (args5 : Int) (i7 : Int) (h0 : (decide (i7 < ((List.length x.pats : Nat) : Int))) = true) (h1 : y1 = false) :
    Ends PP 0 (rNode_c0 p x y1 args5 i7).as (.ret (.bool false)) (hpOf [] 0) :=
  wE 2 [((List.length (Pats.av x.pats) : Nat) : Int) = ((List.length x.pats : Nat) : Int), ty h0, ty h1, ty h1] [.run 6, .ans (.len ((List.length x.pats : Nat) : Int)), .run 2, .b 76 true, .run 3, .b 78 false, .run 3, .reg [.d, .d, .b 99 false, .d, .d, .d, .d, .d, .d, .d, .d, .d, .d, .d, .d, .d], .run 1] (by kernel_rfl) (by kernel_rfl) trivial ⟨(len_iF pats_map _), h0, h1, h1⟩
theorem rNode_0_3 (p : Prog) (x : Node) (y1 : Bool) (args5 : Int) (i7 : Int) (y0 : Int) (h0 : (decide (i7 < ((List.length x.pats : Nat) : Int))) = false) (h1 : y1 = true) (h2 : Pure PP 141 [(.int .i64 x.op), (.int .i64 ((List.length x.pats : Nat) : Int)), (.int .i64 args5)] (.int .i64 y0)) :
    Ends PP 0 (rNode_c0 p x y1 args5 i7).as (.ret (.bool (((List.length x.kids : Nat) : Int) == y0))) (hpOf [] 0) :=
  wE 2 [((List.length (Pats.av x.pats) : Nat) : Int) = ((List.length x.pats : Nat) : Int), ty h0, ty h1, ((List.length (List.map avI x.kids) : Nat) : Int) = ((List.length x.kids : Nat) : Int), ((List.length (Pats.av x.pats) : Nat) : Int) = ((List.length x.pats : Nat) : Int), ty h2, (AV.int .i64 ((List.length (List.map avI x.kids) : Nat) : Int)) = (AV.int .i64 ((List.length x.kids : Nat) : Int)), (AV.int .i64 ((List.length (List.map avI x.kids) : Nat) : Int)) = (AV.int .i64 ((List.length x.kids : Nat) : Int)), (AV.ilst 1 (List.map avI x.kids) false) = (AV.ilst 1 (List.map avI x.kids) false), (AV.ilst 1 (List.map avI x.kids) false) = (AV.ilst 1 (List.map avI x.kids) false)] [.run 6, .ans (.len ((List.length x.pats : Nat) : Int)), .run 2, .b 76 false, .run 6, .reg [.d, .d, .b 99 true, .d, .d, .ans (.len ((List.length x.kids : Nat) : Int)), .d, .d, .d, .d, .ans (.len ((List.length x.pats : Nat) : Int)), .d, .pure (.int .i64 y0), .d, .d, .d], .run 1] (by kernel_rfl) (by kernel_rfl) trivial ⟨(len_iF pats_map _), h0, h1, (len_i _ _), (len_iF pats_map _), h2, (congrArg (AV.int .i64) (len_i _ _)), (congrArg (AV.int .i64) (len_i _ _)), rfl, rfl⟩
theorem rNode_0_4 (p : Prog) (x : Node) (y1 : Bool) (args5 : Int) (i7 : Int) (h0 : (decide (i7 < ((List.length x.pats : Nat) : Int))) = false) (h1 : y1 = false) :
    Ends PP 0 (rNode_c0 p x y1 args5 i7).as (.ret (.bool false)) (hpOf [] 0) :=
  wE 2 [((List.length (Pats.av x.pats) : Nat) : Int) = ((List.length x.pats : Nat) : Int), ty h0, ty h1] [.run 6, .ans (.len ((List.length x.pats : Nat) : Int)), .run 2, .b 76 false, .run 6, .reg [.d, .d, .b 99 false, .d, .d, .d, .d, .d, .d, .d, .d, .d, .d, .d, .d, .d], .run 1] (by kernel_rfl) (by kernel_rfl) trivial ⟨(len_iF pats_map _), h0, h1⟩
noncomputable def rCons_c0 (l : (List Con)) (i4 : Int) (l0 : (List Str)) : TS :=
  { fr := { fn := 83, nt := 42, sl := [(0, (.ilst 2 (List.map Con.av l) false)), (2, (.bool false)), (3, (.gl 0 1 0 (List.length l0) false)), (4, (.int .i64 i4))], todo := [.code (cd Tryz.f83 [1, 1, 0, 1, 0, 0]), .inLoop (cd Tryz.f83 [1, 1, 0, 1, 0, 0]), .inBlock 0, .code (cd Tryz.f83 [1, 1, 1])] }, cs := [], hp := [(0, (.lst 1 (List.map avS l0)), true)], nb := 1 }
theorem rCons_E_0 (l : (List Con)) :
    LeadsM PP 0 (start PP 83 [(.ilst 2 (List.map Con.av l) false)]).as (rCons_c0 l 0 ([] : List Str)).as :=
  wW 1 [0] [([] : List AV) = (List.map avS ([] : List Str)), (AV.gl 0 1 0 0 false) = (.gl 0 1 0 (List.length ([] : List Str)) false)] [.run 15, .nilL 3 1, .lset 0 (List.map avS ([] : List Str)), .set 3 (.gl 0 1 0 (List.length ([] : List Str)) false)] (by kernel_rfl) (by kernel_rfl) ⟨(keylessL_map _ (fun _ => rfl) _), trivial⟩ ⟨rfl, rfl⟩
theorem rCons_0_0 (l : (List Con)) (i4 : Int) (l0 : (List Str)) (y0 : Con) (y1 : Bool) (h0 : (decide (i4 < ((List.length l : Nat) : Int))) = true) (h1 : 0 ≤ i4) (h2 : ((l)[i4.toNat]?) = some y0) (h3 : Pure PP 138 [(avS y0.name)] (.bool y1)) (h4 : (!y1) = true) :
    Ends PP 0 (rCons_c0 l i4 l0).as (.ret (.bool false)) (hpOf [] 0) :=
  wE 1 [((List.length (List.map Con.av l) : Nat) : Int) = ((List.length l : Nat) : Int), ty h0, 0 ≤ i4, (List.map Con.av l)[i4.toNat]? = some (Con.av y0), ty h3, ty h4] [.run 5, .ans (.len ((List.length l : Nat) : Int)), .run 2, .b 8 true, .run 9, .ans (.idx (Con.av y0)), .run 2, .pure (.bool y1), .run 2, .b 18 true, .run 15] (by kernel_rfl) (by kernel_rfl) trivial ⟨(len_i _ _), h0, h1, (map_get h2), h3, h4⟩
theorem rCons_0_1 (l : (List Con)) (i4 : Int) (l0 : (List Str)) (y0 : Con) (y1 : Bool) (y2 : Bool) (h0 : (decide (i4 < ((List.length l : Nat) : Int))) = true) (h1 : 0 ≤ i4) (h2 : ((l)[i4.toNat]?) = some y0) (h3 : Pure PP 138 [(avS y0.name)] (.bool y1)) (h4 : (!y1) = false) (h5 : Pure PP 82 [(.int .i64 y0.args), (.int .i64 0), (.int .i64 3)] (.bool y2)) (h6 : (!y2) = true) :
    Ends PP 0 (rCons_c0 l i4 l0).as (.ret (.bool false)) (hpOf [] 0) :=
  wE 1 [((List.length (List.map Con.av l) : Nat) : Int) = ((List.length l : Nat) : Int), ty h0, 0 ≤ i4, (List.map Con.av l)[i4.toNat]? = some (Con.av y0), ty h3, ty h4, 0 ≤ i4, (List.map Con.av l)[i4.toNat]? = some (Con.av y0), ty h5, ty h6] [.run 5, .ans (.len ((List.length l : Nat) : Int)), .run 2, .b 8 true, .run 9, .ans (.idx (Con.av y0)), .run 2, .pure (.bool y1), .run 2, .b 18 false, .run 2, .ans (.idx (Con.av y0)), .run 2, .pure (.bool y2), .run 3, .b 26 true, .run 6] (by kernel_rfl) (by kernel_rfl) trivial ⟨(len_i _ _), h0, h1, (map_get h2), h3, h4, h1, (map_get h2), h5, h6⟩
theorem rCons_0_2 (l : (List Con)) (i4 : Int) (l0 : (List Str)) (y0 : Con) (y1 : Bool) (y2 : Bool) (h0 : (decide (i4 < ((List.length l : Nat) : Int))) = true) (h1 : 0 ≤ i4) (h2 : ((l)[i4.toNat]?) = some y0) (h3 : Pure PP 138 [(avS y0.name)] (.bool y1)) (h4 : (!y1) = false) (h5 : Pure PP 82 [(.int .i64 y0.args), (.int .i64 0), (.int .i64 3)] (.bool y2)) (h6 : (!y2) = false) (h7 : List.length (l0 ++ [y0.name]) ≤ 1000000) (h8 : (IntKind.i64.wrap (i4 + (1 : Int))) = (i4 + (1 : Int))) :
    LeadsM PP 0 (rCons_c0 l i4 l0).as (rCons_c0 l (i4 + (1 : Int)) (l0 ++ [y0.name])).as :=
  wW 3 [2] [((List.length (List.map Con.av l) : Nat) : Int) = ((List.length l : Nat) : Int), ty h0, 0 ≤ i4, (List.map Con.av l)[i4.toNat]? = some (Con.av y0), ty h3, ty h4, 0 ≤ i4, (List.map Con.av l)[i4.toNat]? = some (Con.av y0), ty h5, ty h6, 0 ≤ i4, (List.map Con.av l)[i4.toNat]? = some (Con.av y0), 0 + (List.length l0) ≤ List.length (List.map avS l0), ty h7, List.take (List.length l0) (List.drop 0 (List.map avS l0)) ++ (List.map avS [y0.name]) = (List.map avS (l0 ++ [y0.name])), (List.length l0) + List.length (List.map avS [y0.name]) = List.length (l0 ++ [y0.name]), (AV.int .i64 (IntKind.i64.wrap (i4 + (1 : Int)))) = (.int .i64 (i4 + (1 : Int)))] [.run 5, .ans (.len ((List.length l : Nat) : Int)), .run 2, .b 8 true, .run 9, .ans (.idx (Con.av y0)), .run 2, .pure (.bool y1), .run 2, .b 18 false, .run 2, .ans (.idx (Con.av y0)), .run 2, .pure (.bool y2), .run 3, .b 26 false, .run 6, .ans (.idx (Con.av y0)), .run 3, .app (List.map avS (l0 ++ [y0.name])) (List.length (l0 ++ [y0.name])), .run 6, .set 10 (.int .i64 (i4 + (1 : Int))), .run 3] (by kernel_rfl) (by kernel_rfl) ⟨(keylessL_map _ (fun _ => rfl) _), trivial⟩ ⟨(len_i _ _), h0, h1, (map_get h2), h3, h4, h1, (map_get h2), h5, h6, h1, (map_get h2), (app_p1 _ _), h7, (app_p3 _ _ _), (app_p4 _ _ _), (congrArg (AV.int .i64) h8)⟩
theorem rCons_0_3 (l : (List Con)) (i4 : Int) (l0 : (List Str)) (y0 : Bool) (h0 : (decide (i4 < ((List.length l : Nat) : Int))) = false) (h1 : (decide (((List.length l : Nat) : Int) ≤ (20 : Int))) = true) (h2 : Pure PP 139 [(.ilst 1 (List.map avS l0) false)] (.bool y0)) :
    Ends PP 0 (rCons_c0 l i4 l0).as (.ret (.bool y0)) (hpOf [] 0) :=
  wE 1 [((List.length (List.map Con.av l) : Nat) : Int) = ((List.length l : Nat) : Int), ty h0, ((List.length (List.map Con.av l) : Nat) : Int) = ((List.length l : Nat) : Int), ty h1, AV.keylessL (List.map avS l0) = true, AV.frzOk 0 1 (List.map avS l0) (List.map avS l0) (.gl 0 1 0 (List.length l0) false), ty h2] [.run 5, .ans (.len ((List.length l : Nat) : Int)), .run 2, .b 8 false, .run 5, .ans (.len ((List.length l : Nat) : Int)), .run 2, .b 38 true, .run 1, .frz 39 0 (List.map avS l0), .pure (.bool y0), .run 4] (by kernel_rfl) (by kernel_rfl) trivial ⟨(len_i _ _), h0, (len_i _ _), h1, (keylessL_map _ (fun _ => rfl) _), (frz_whole _ _), h2⟩
theorem rCons_0_4 (l : (List Con)) (i4 : Int) (l0 : (List Str)) (h0 : (decide (i4 < ((List.length l : Nat) : Int))) = false) (h1 : (decide (((List.length l : Nat) : Int) ≤ (20 : Int))) = false) :
    Ends PP 0 (rCons_c0 l i4 l0).as (.ret (.bool false)) (hpOf [] 0) :=
  wE 1 [((List.length (List.map Con.av l) : Nat) : Int) = ((List.length l : Nat) : Int), ty h0, ((List.length (List.map Con.av l) : Nat) : Int) = ((List.length l : Nat) : Int), ty h1] [.run 5, .ans (.len ((List.length l : Nat) : Int)), .run 2, .b 8 false, .run 5, .ans (.len ((List.length l : Nat) : Int)), .run 2, .b 38 false, .run 6] (by kernel_rfl) (by kernel_rfl) trivial ⟨(len_i _ _), h0, (len_i _ _), h1⟩
noncomputable def rFormed_c0 (p : Prog) (i5 : Int) (l1 : (List Bool)) : TS :=
  { fr := { fn := 33, nt := 133, sl := [(1, (.ptr 0 0)), (2, (.bool false)), (3, (.int .i64 ((List.length p.nodes : Nat) : Int))), (4, (.gl 1 1 0 (List.length l1) true)), (5, (.int .i64 i5))], todo := [.code (cd Tryz.f33 [1, 1, 1, 1, 0, 1, 0, 0]), .inLoop (cd Tryz.f33 [1, 1, 1, 1, 0, 1, 0, 0]), .inBlock 0, .code (cd Tryz.f33 [1, 1, 1, 1, 1])] }, cs := [], hp := [(0, (.cells (putCells .leaf 0 [(.ilst 4 (List.map Node.av p.nodes) false), (.ilst 1 (List.map avI p.funs) false), (.int .i64 p.main), (.ilst 2 (List.map Con.av p.cons) false)]) 4 [] false), false), (1, (.lst 1 (List.map avB l1)), true)], nb := 2 }
noncomputable def rFormed_c1 (p : Prog) (l1 : (List Bool)) (i6 : Int) : TS :=
  { fr := { fn := 33, nt := 133, sl := [(1, (.ptr 0 0)), (2, (.bool false)), (3, (.int .i64 ((List.length p.nodes : Nat) : Int))), (4, (.gl 1 1 0 (List.length l1) true)), (6, (.int .i64 i6))], todo := [.code (cd Tryz.f33 [1, 1, 1, 1, 1, 0, 1, 0, 0]), .inLoop (cd Tryz.f33 [1, 1, 1, 1, 1, 0, 1, 0, 0]), .inBlock 2, .code (cd Tryz.f33 [1, 1, 1, 1, 1, 1])] }, cs := [], hp := [(0, (.cells (putCells .leaf 0 [(.ilst 4 (List.map Node.av p.nodes) false), (.ilst 1 (List.map avI p.funs) false), (.int .i64 p.main), (.ilst 2 (List.map Con.av p.cons) false)]) 4 [] false), false), (1, (.lst 1 (List.map avB l1)), true)], nb := 2 }
noncomputable def rFormed_c2 (p : Prog) (l1 : (List Bool)) (k7 : Int) (i6 : Int) : TS :=
  { fr := { fn := 33, nt := 133, sl := [(1, (.ptr 0 0)), (2, (.bool false)), (3, (.int .i64 ((List.length p.nodes : Nat) : Int))), (4, (.gl 1 1 0 (List.length l1) true)), (6, (.int .i64 i6)), (7, (.int .i64 k7))], todo := [.code (cd Tryz.f33 [1, 1, 1, 1, 1, 0, 1, 0, 0, 1, 0, 0, 1, 1, 0, 0]), .inLoop (cd Tryz.f33 [1, 1, 1, 1, 1, 0, 1, 0, 0, 1, 0, 0, 1, 1, 0, 0]), .inBlock 4, .inBlock 3, .code (cd Tryz.f33 [1, 1, 1, 1, 1, 0, 1, 0, 0, 1, 1]), .inLoop (cd Tryz.f33 [1, 1, 1, 1, 1, 0, 1, 0, 0]), .inBlock 2, .code (cd Tryz.f33 [1, 1, 1, 1, 1, 1])] }, cs := [], hp := [(0, (.cells (putCells .leaf 0 [(.ilst 4 (List.map Node.av p.nodes) false), (.ilst 1 (List.map avI p.funs) false), (.int .i64 p.main), (.ilst 2 (List.map Con.av p.cons) false)]) 4 [] false), false), (1, (.lst 1 (List.map avB l1)), true)], nb := 2 }
noncomputable def rFormed_c3 (p : Prog) (l1 : (List Bool)) (i9 : Int) : TS :=
  { fr := { fn := 33, nt := 133, sl := [(2, (.bool false)), (3, (.int .i64 ((List.length p.nodes : Nat) : Int))), (4, (.gl 0 1 0 (List.length l1) true)), (9, (.int .i64 i9))], todo := [.code (cd Tryz.f33 [1, 1, 1, 1, 1, 1, 0, 1, 0, 0]), .inLoop (cd Tryz.f33 [1, 1, 1, 1, 1, 1, 0, 1, 0, 0]), .inBlock 6, .code (cd Tryz.f33 [1, 1, 1, 1, 1, 1, 1])] }, cs := [], hp := [(0, (.lst 1 (List.map avB l1)), true)], nb := 1 }
theorem rFormed_E_0 (p : Prog) (h0 : (decide (((List.length p.nodes : Nat) : Int) > (300 : Int))) = true) :
    Ends PP 0 (start PP 33 [(Prog.av p)]).as (.ret (.bool false)) (hpOf [] 0) :=
  wE 1 [((List.length (List.map Node.av p.nodes) : Nat) : Int) = ((List.length p.nodes : Nat) : Int), ty h0] [.run 9, .ans (.len ((List.length p.nodes : Nat) : Int)), .run 8, .b 15 true, .run 30] (by kernel_rfl) (by kernel_rfl) trivial ⟨(len_i _ _), h0⟩
theorem rFormed_E_1 (p : Prog) (y0 : Bool) (h0 : (decide (((List.length p.nodes : Nat) : Int) > (300 : Int))) = false) (h1 : Pure PP 82 [(.int .i64 ((List.length p.funs : Nat) : Int)), (.int .i64 1), (.int .i64 ((List.length p.nodes : Nat) : Int))] (.bool y0)) (h2 : (!y0) = true) :
    Ends PP 0 (start PP 33 [(Prog.av p)]).as (.ret (.bool false)) (hpOf [] 0) :=
  wE 1 [((List.length (List.map Node.av p.nodes) : Nat) : Int) = ((List.length p.nodes : Nat) : Int), ty h0, ((List.length (List.map avI p.funs) : Nat) : Int) = ((List.length p.funs : Nat) : Int), ty h1, ty h2] [.run 9, .ans (.len ((List.length p.nodes : Nat) : Int)), .run 8, .b 15 false, .run 2, .ans (.len ((List.length p.funs : Nat) : Int)), .run 1, .pure (.bool y0), .run 3, .b 23 true, .run 22] (by kernel_rfl) (by kernel_rfl) trivial ⟨(len_i _ _), h0, (len_i _ _), h1, h2⟩
theorem rFormed_E_2 (p : Prog) (y0 : Bool) (y1 : Bool) (h0 : (decide (((List.length p.nodes : Nat) : Int) > (300 : Int))) = false) (h1 : Pure PP 82 [(.int .i64 ((List.length p.funs : Nat) : Int)), (.int .i64 1), (.int .i64 ((List.length p.nodes : Nat) : Int))] (.bool y0)) (h2 : (!y0) = false) (h3 : (IntKind.i64.wrap (((List.length p.funs : Nat) : Int) - (1 : Int))) = (((List.length p.funs : Nat) : Int) - (1 : Int))) (h4 : Pure PP 82 [(.int .i64 p.main), (.int .i64 0), (.int .i64 (((List.length p.funs : Nat) : Int) - (1 : Int)))] (.bool y1)) (h5 : (!y1) = true) :
    Ends PP 0 (start PP 33 [(Prog.av p)]).as (.ret (.bool false)) (hpOf [] 0) :=
  wE 1 [((List.length (List.map Node.av p.nodes) : Nat) : Int) = ((List.length p.nodes : Nat) : Int), ty h0, ((List.length (List.map avI p.funs) : Nat) : Int) = ((List.length p.funs : Nat) : Int), ty h1, ty h2, ((List.length (List.map avI p.funs) : Nat) : Int) = ((List.length p.funs : Nat) : Int), (AV.int .i64 (IntKind.i64.wrap (((List.length p.funs : Nat) : Int) - (1 : Int)))) = (.int .i64 (((List.length p.funs : Nat) : Int) - (1 : Int))), ty h4, ty h5] [.run 9, .ans (.len ((List.length p.nodes : Nat) : Int)), .run 8, .b 15 false, .run 2, .ans (.len ((List.length p.funs : Nat) : Int)), .run 1, .pure (.bool y0), .run 3, .b 23 false, .run 4, .ans (.len ((List.length p.funs : Nat) : Int)), .run 1, .set 29 (.int .i64 (((List.length p.funs : Nat) : Int) - (1 : Int))), .pure (.bool y1), .run 3, .b 33 true, .run 12] (by kernel_rfl) (by kernel_rfl) trivial ⟨(len_i _ _), h0, (len_i _ _), h1, h2, (len_i _ _), (congrArg (AV.int .i64) h3), h4, h5⟩
theorem rFormed_E_3 (p : Prog) (y0 : Bool) (y1 : Bool) (y2 : Bool) (h0 : (decide (((List.length p.nodes : Nat) : Int) > (300 : Int))) = false) (h1 : Pure PP 82 [(.int .i64 ((List.length p.funs : Nat) : Int)), (.int .i64 1), (.int .i64 ((List.length p.nodes : Nat) : Int))] (.bool y0)) (h2 : (!y0) = false) (h3 : (IntKind.i64.wrap (((List.length p.funs : Nat) : Int) - (1 : Int))) = (((List.length p.funs : Nat) : Int) - (1 : Int))) (h4 : Pure PP 82 [(.int .i64 p.main), (.int .i64 0), (.int .i64 (((List.length p.funs : Nat) : Int) - (1 : Int)))] (.bool y1)) (h5 : (!y1) = false) (h6 : Pure PP 83 [(.ilst 2 (List.map Con.av p.cons) false)] (.bool y2)) (h7 : (!y2) = true) :
    Ends PP 0 (start PP 33 [(Prog.av p)]).as (.ret (.bool false)) (hpOf [] 0) :=
  wE 1 [((List.length (List.map Node.av p.nodes) : Nat) : Int) = ((List.length p.nodes : Nat) : Int), ty h0, ((List.length (List.map avI p.funs) : Nat) : Int) = ((List.length p.funs : Nat) : Int), ty h1, ty h2, ((List.length (List.map avI p.funs) : Nat) : Int) = ((List.length p.funs : Nat) : Int), (AV.int .i64 (IntKind.i64.wrap (((List.length p.funs : Nat) : Int) - (1 : Int)))) = (.int .i64 (((List.length p.funs : Nat) : Int) - (1 : Int))), ty h4, ty h5, ty h6, ty h7] [.run 9, .ans (.len ((List.length p.nodes : Nat) : Int)), .run 8, .b 15 false, .run 2, .ans (.len ((List.length p.funs : Nat) : Int)), .run 1, .pure (.bool y0), .run 3, .b 23 false, .run 4, .ans (.len ((List.length p.funs : Nat) : Int)), .run 1, .set 29 (.int .i64 (((List.length p.funs : Nat) : Int) - (1 : Int))), .pure (.bool y1), .run 3, .b 33 false, .run 2, .pure (.bool y2), .run 3, .b 38 true, .run 6] (by kernel_rfl) (by kernel_rfl) trivial ⟨(len_i _ _), h0, (len_i _ _), h1, h2, (len_i _ _), (congrArg (AV.int .i64) h3), h4, h5, h6, h7⟩
theorem rFormed_E_4 (p : Prog) (y0 : Bool) (y1 : Bool) (y2 : Bool) (h0 : (decide (((List.length p.nodes : Nat) : Int) > (300 : Int))) = false) (h1 : Pure PP 82 [(.int .i64 ((List.length p.funs : Nat) : Int)), (.int .i64 1), (.int .i64 ((List.length p.nodes : Nat) : Int))] (.bool y0)) (h2 : (!y0) = false) (h3 : (IntKind.i64.wrap (((List.length p.funs : Nat) : Int) - (1 : Int))) = (((List.length p.funs : Nat) : Int) - (1 : Int))) (h4 : Pure PP 82 [(.int .i64 p.main), (.int .i64 0), (.int .i64 (((List.length p.funs : Nat) : Int) - (1 : Int)))] (.bool y1)) (h5 : (!y1) = false) (h6 : Pure PP 83 [(.ilst 2 (List.map Con.av p.cons) false)] (.bool y2)) (h7 : (!y2) = false) (h8 : (List.length p.nodes) < 100000) :
    LeadsM PP 0 (start PP 33 [(Prog.av p)]).as (rFormed_c0 p 0 (List.replicate (List.length p.nodes) false)).as :=
  wW 2 [0, 1] [((List.length (List.map Node.av p.nodes) : Nat) : Int) = ((List.length p.nodes : Nat) : Int), ty h0, ((List.length (List.map avI p.funs) : Nat) : Int) = ((List.length p.funs : Nat) : Int), ty h1, ty h2, ((List.length (List.map avI p.funs) : Nat) : Int) = ((List.length p.funs : Nat) : Int), (AV.int .i64 (IntKind.i64.wrap (((List.length p.funs : Nat) : Int) - (1 : Int)))) = (.int .i64 (((List.length p.funs : Nat) : Int) - (1 : Int))), ty h4, ty h5, ty h6, ty h7, ((List.length p.nodes : Nat) : Int) = (((List.length p.nodes) : Nat) : Int), ((List.length p.nodes : Nat) : Int) = (((List.length p.nodes) : Nat) : Int), ty h8, List.replicate (List.length p.nodes) (avB false) = (List.map avB (List.replicate (List.length p.nodes) false)), (AV.gl 1 1 0 (List.length p.nodes) true) = (.gl 1 1 0 (List.length (List.replicate (List.length p.nodes) false)) true)] [.run 9, .ans (.len ((List.length p.nodes : Nat) : Int)), .run 8, .b 15 false, .run 2, .ans (.len ((List.length p.funs : Nat) : Int)), .run 1, .pure (.bool y0), .run 3, .b 23 false, .run 4, .ans (.len ((List.length p.funs : Nat) : Int)), .run 1, .set 29 (.int .i64 (((List.length p.funs : Nat) : Int) - (1 : Int))), .pure (.bool y1), .run 3, .b 33 false, .run 2, .pure (.bool y2), .run 3, .b 38 false, .run 5, .mk (List.length p.nodes), .lset 1 (List.map avB (List.replicate (List.length p.nodes) false)), .set 40 (.gl 1 1 0 (List.length (List.replicate (List.length p.nodes) false)) true), .run 9] (by kernel_rfl) (by kernel_rfl) ⟨(keylessL_map _ (fun _ => rfl) _), trivial⟩ ⟨(len_i _ _), h0, (len_i _ _), h1, h2, (len_i _ _), (congrArg (AV.int .i64) h3), h4, h5, h6, h7, rfl, rfl, h8, (rep_map _ _ _), (gl_len (List.length_replicate ..).symm)⟩
theorem rFormed_0_0 (p : Prog) (i5 : Int) (l1 : (List Bool)) (y0 : Int) (y1 : Bool) (h0 : (decide (i5 < ((List.length p.funs : Nat) : Int))) = true) (h1 : 0 ≤ i5) (h2 : ((p.funs)[i5.toNat]?) = some y0) (h3 : (IntKind.i64.wrap (((List.length p.nodes : Nat) : Int) - (1 : Int))) = (((List.length p.nodes : Nat) : Int) - (1 : Int))) (h4 : Pure PP 82 [(.int .i64 y0), (.int .i64 0), (.int .i64 (((List.length p.nodes : Nat) : Int) - (1 : Int)))] (.bool y1)) (h5 : (!y1) = true) :
    Ends PP 0 (rFormed_c0 p i5 l1).as (.ret (.bool false)) (hpOf [] 0) :=
  wE 2 [((List.length (List.map avI p.funs) : Nat) : Int) = ((List.length p.funs : Nat) : Int), ty h0, 0 ≤ i5, (List.map avI p.funs)[i5.toNat]? = some (avI y0), (AV.int .i64 (IntKind.i64.wrap (((List.length p.nodes : Nat) : Int) - (1 : Int)))) = (.int .i64 (((List.length p.nodes : Nat) : Int) - (1 : Int))), ty h4, ty h5] [.run 6, .ans (.len ((List.length p.funs : Nat) : Int)), .run 2, .b 45 true, .run 10, .ans (.idx (avI y0)), .run 3, .set 54 (.int .i64 (((List.length p.nodes : Nat) : Int) - (1 : Int))), .pure (.bool y1), .run 2, .b 57 true, .run 16] (by kernel_rfl) (by kernel_rfl) trivial ⟨(len_i _ _), h0, h1, (map_get h2), (congrArg (AV.int .i64) h3), h4, h5⟩
theorem rFormed_0_1 (p : Prog) (i5 : Int) (l1 : (List Bool)) (y0 : Int) (y1 : Bool) (y2 : Bool) (h0 : (decide (i5 < ((List.length p.funs : Nat) : Int))) = true) (h1 : 0 ≤ i5) (h2 : ((p.funs)[i5.toNat]?) = some y0) (h3 : (IntKind.i64.wrap (((List.length p.nodes : Nat) : Int) - (1 : Int))) = (((List.length p.nodes : Nat) : Int) - (1 : Int))) (h4 : Pure PP 82 [(.int .i64 y0), (.int .i64 0), (.int .i64 (((List.length p.nodes : Nat) : Int) - (1 : Int)))] (.bool y1)) (h5 : (!y1) = false) (h6 : 0 ≤ y0) (h7 : y0 < (((List.length l1) : Nat) : Int)) (h8 : ((l1)[y0.toNat]?) = some y2) (h9 : y2 = true) :
    Ends PP 0 (rFormed_c0 p i5 l1).as (.ret (.bool false)) (hpOf [] 0) :=
  wE 2 [((List.length (List.map avI p.funs) : Nat) : Int) = ((List.length p.funs : Nat) : Int), ty h0, 0 ≤ i5, (List.map avI p.funs)[i5.toNat]? = some (avI y0), (AV.int .i64 (IntKind.i64.wrap (((List.length p.nodes : Nat) : Int) - (1 : Int)))) = (.int .i64 (((List.length p.nodes : Nat) : Int) - (1 : Int))), ty h4, ty h5, 0 ≤ i5, (List.map avI p.funs)[i5.toNat]? = some (avI y0), 0 ≤ y0, ty h7, (List.map avB l1)[(0 + y0.toNat)]? = some (avB y2), ty h9] [.run 6, .ans (.len ((List.length p.funs : Nat) : Int)), .run 2, .b 45 true, .run 10, .ans (.idx (avI y0)), .run 3, .set 54 (.int .i64 (((List.length p.nodes : Nat) : Int) - (1 : Int))), .pure (.bool y1), .run 2, .b 57 false, .run 4, .ans (.idx (avI y0)), .run 1, .ans (.ix), .ans (.idx (avB y2)), .run 2, .b 66 true, .run 6] (by kernel_rfl) (by kernel_rfl) trivial ⟨(len_i _ _), h0, h1, (map_get h2), (congrArg (AV.int .i64) h3), h4, h5, h1, (map_get h2), h6, h7, (map_get0 h8), h9⟩
theorem rFormed_0_2 (p : Prog) (i5 : Int) (l1 : (List Bool)) (y0 : Int) (y1 : Bool) (y2 : Bool) (h0 : (decide (i5 < ((List.length p.funs : Nat) : Int))) = true) (h1 : 0 ≤ i5) (h2 : ((p.funs)[i5.toNat]?) = some y0) (h3 : (IntKind.i64.wrap (((List.length p.nodes : Nat) : Int) - (1 : Int))) = (((List.length p.nodes : Nat) : Int) - (1 : Int))) (h4 : Pure PP 82 [(.int .i64 y0), (.int .i64 0), (.int .i64 (((List.length p.nodes : Nat) : Int) - (1 : Int)))] (.bool y1)) (h5 : (!y1) = false) (h6 : 0 ≤ y0) (h7 : y0 < (((List.length l1) : Nat) : Int)) (h8 : ((l1)[y0.toNat]?) = some y2) (h9 : y2 = false) (h10 : (IntKind.i64.wrap (i5 + (1 : Int))) = (i5 + (1 : Int))) :
    LeadsM PP 0 (rFormed_c0 p i5 l1).as (rFormed_c0 p (i5 + (1 : Int)) (List.set l1 y0.toNat true)).as :=
  wW 2 [0, 1] [((List.length (List.map avI p.funs) : Nat) : Int) = ((List.length p.funs : Nat) : Int), ty h0, 0 ≤ i5, (List.map avI p.funs)[i5.toNat]? = some (avI y0), (AV.int .i64 (IntKind.i64.wrap (((List.length p.nodes : Nat) : Int) - (1 : Int)))) = (.int .i64 (((List.length p.nodes : Nat) : Int) - (1 : Int))), ty h4, ty h5, 0 ≤ i5, (List.map avI p.funs)[i5.toNat]? = some (avI y0), 0 ≤ y0, ty h7, (List.map avB l1)[(0 + y0.toNat)]? = some (avB y2), ty h9, 0 ≤ i5, (List.map avI p.funs)[i5.toNat]? = some (avI y0), 0 ≤ y0, ty h7, (List.map avB l1)[(0 + y0.toNat)]? = some (avB y2), setElem (avB y2) 0 [(.bool true)] = some (avB true), (List.map avB l1).set (0 + y0.toNat) (avB true) = (List.map avB (List.set l1 y0.toNat true)), (AV.gl 1 1 0 (List.length l1) true) = (.gl 1 1 0 (List.length (List.set l1 y0.toNat true)) true), (AV.gl 1 1 0 (List.length l1) true) = (.gl 1 1 0 (List.length (List.set l1 y0.toNat true)) true), (AV.gl 1 1 0 (List.length l1) true) = (.gl 1 1 0 (List.length (List.set l1 y0.toNat true)) true), (AV.int .i64 (IntKind.i64.wrap (i5 + (1 : Int)))) = (.int .i64 (i5 + (1 : Int)))] [.run 6, .ans (.len ((List.length p.funs : Nat) : Int)), .run 2, .b 45 true, .run 10, .ans (.idx (avI y0)), .run 3, .set 54 (.int .i64 (((List.length p.nodes : Nat) : Int) - (1 : Int))), .pure (.bool y1), .run 2, .b 57 false, .run 4, .ans (.idx (avI y0)), .run 1, .ans (.ix), .ans (.idx (avB y2)), .run 2, .b 66 false, .run 7, .ans (.idx (avI y0)), .run 1, .ans (.ix), .st (avB y2) (avB true), .lset 1 (List.map avB (List.set l1 y0.toNat true)), .set 4 (.gl 1 1 0 (List.length (List.set l1 y0.toNat true)) true), .set 58 (.gl 1 1 0 (List.length (List.set l1 y0.toNat true)) true), .set 67 (.gl 1 1 0 (List.length (List.set l1 y0.toNat true)) true), .run 5, .set 47 (.int .i64 (i5 + (1 : Int))), .run 3] (by kernel_rfl) (by kernel_rfl) ⟨(keylessL_map _ (fun _ => rfl) _), trivial⟩ ⟨(len_i _ _), h0, h1, (map_get h2), (congrArg (AV.int .i64) h3), h4, h5, h1, (map_get h2), h6, h7, (map_get0 h8), h9, h1, (map_get h2), h6, h7, (map_get0 h8), rfl, (set_map0 _ _ _ _), (gl_len (List.length_set ..).symm), (gl_len (List.length_set ..).symm), (gl_len (List.length_set ..).symm), (congrArg (AV.int .i64) h10)⟩
theorem rFormed_0_3 (p : Prog) (i5 : Int) (l1 : (List Bool)) (h0 : (decide (i5 < ((List.length p.funs : Nat) : Int))) = false) :
    LeadsM PP 0 (rFormed_c0 p i5 l1).as (rFormed_c1 p l1 0).as :=
  wW 2 [0, 1] [((List.length (List.map avI p.funs) : Nat) : Int) = ((List.length p.funs : Nat) : Int), ty h0] [.run 6, .ans (.len ((List.length p.funs : Nat) : Int)), .run 2, .b 45 false, .run 9] (by kernel_rfl) (by kernel_rfl) ⟨(keylessL_map _ (fun _ => rfl) _), trivial⟩ ⟨(len_i _ _), h0⟩
theorem rFormed_1_0 (p : Prog) (l1 : (List Bool)) (i6 : Int) (y0 : Node) (y1 : Bool) (h0 : (decide (i6 < ((List.length p.nodes : Nat) : Int))) = true) (h1 : 0 ≤ i6) (h2 : ((p.nodes)[i6.toNat]?) = some y0) (h3 : Pure PP 84 [(Prog.av p), (Node.av y0)] (.bool y1)) (h4 : (!y1) = true) :
    Ends PP 0 (rFormed_c1 p l1 i6).as (.ret (.bool false)) (hpOf [] 0) :=
  wE 2 [ty h0, 0 ≤ i6, (List.map Node.av p.nodes)[i6.toNat]? = some (Node.av y0), ty h3, ty h4] [.run 7, .b 76 true, .run 6, .reg [.d, .d, .d, .d, .ans (.idx (Node.av y0)), .d, .pure (.bool y1), .d], .b 86 true, .run 6] (by kernel_rfl) (by kernel_rfl) trivial ⟨h0, h1, (map_get h2), h3, h4⟩
theorem rFormed_1_1 (p : Prog) (l1 : (List Bool)) (i6 : Int) (y0 : Node) (y1 : Bool) (h0 : (decide (i6 < ((List.length p.nodes : Nat) : Int))) = true) (h1 : 0 ≤ i6) (h2 : ((p.nodes)[i6.toNat]?) = some y0) (h3 : Pure PP 84 [(Prog.av p), (Node.av y0)] (.bool y1)) (h4 : (!y1) = false) :
    LeadsM PP 0 (rFormed_c1 p l1 i6).as (rFormed_c2 p l1 0 i6).as :=
  wW 2 [0, 1] [ty h0, 0 ≤ i6, (List.map Node.av p.nodes)[i6.toNat]? = some (Node.av y0), ty h3, ty h4] [.run 7, .b 76 true, .run 6, .reg [.d, .d, .d, .d, .ans (.idx (Node.av y0)), .d, .pure (.bool y1), .d], .b 86 false, .run 8] (by kernel_rfl) (by kernel_rfl) ⟨(keylessL_map _ (fun _ => rfl) _), trivial⟩ ⟨h0, h1, (map_get h2), h3, h4⟩
theorem rFormed_1_2 (p : Prog) (l1 : (List Bool)) (i6 : Int) (h0 : (decide (i6 < ((List.length p.nodes : Nat) : Int))) = false) :
    LeadsM PP 0 (rFormed_c1 p l1 i6).as (rFormed_c3 p l1 0).as :=
  wW 2 [1] [ty h0] [.run 7, .b 76 false, .run 9] (by kernel_rfl) (by kernel_rfl) ⟨(keylessL_map _ (fun _ => rfl) _), trivial⟩ h0
theorem rFormed_2_0 (p : Prog) (l1 : (List Bool)) (k7 : Int) (i6 : Int) (y0 : Node) (y1 : Int) (y2 : Bool) (h0 : 0 ≤ i6) (h1 : ((p.nodes)[i6.toNat]?) = some y0) (h2 : (decide (k7 < ((List.length y0.kids : Nat) : Int))) = true) (h3 : 0 ≤ k7) (h4 : ((y0.kids)[k7.toNat]?) = some y1) (h5 : (IntKind.i64.wrap (i6 + (1 : Int))) = (i6 + (1 : Int))) (h6 : (IntKind.i64.wrap (((List.length p.nodes : Nat) : Int) - (1 : Int))) = (((List.length p.nodes : Nat) : Int) - (1 : Int))) (h7 : Pure PP 82 [(.int .i64 y1), (.int .i64 (i6 + (1 : Int))), (.int .i64 (((List.length p.nodes : Nat) : Int) - (1 : Int)))] (.bool y2)) (h8 : (!y2) = true) :
    Ends PP 0 (rFormed_c2 p l1 k7 i6).as (.ret (.bool false)) (hpOf [] 0) :=
  wE 2 [0 ≤ i6, (List.map Node.av p.nodes)[i6.toNat]? = some (Node.av y0), ((List.length (List.map avI y0.kids) : Nat) : Int) = ((List.length y0.kids : Nat) : Int), ty h2, 0 ≤ i6, (List.map Node.av p.nodes)[i6.toNat]? = some (Node.av y0), 0 ≤ k7, (List.map avI y0.kids)[k7.toNat]? = some (avI y1), (AV.int .i64 (IntKind.i64.wrap (i6 + (1 : Int)))) = (.int .i64 (i6 + (1 : Int))), (AV.int .i64 (IntKind.i64.wrap (((List.length p.nodes : Nat) : Int) - (1 : Int)))) = (.int .i64 (((List.length p.nodes : Nat) : Int) - (1 : Int))), ty h7, ty h8] [.run 7, .ans (.idx (Node.av y0)), .run 2, .ans (.len ((List.length y0.kids : Nat) : Int)), .run 2, .b 95 true, .run 9, .ans (.idx (Node.av y0)), .run 3, .ans (.idx (avI y1)), .run 9, .set 109 (.int .i64 (i6 + (1 : Int))), .run 2, .set 111 (.int .i64 (((List.length p.nodes : Nat) : Int) - (1 : Int))), .pure (.bool y2), .run 2, .b 114 true, .run 12] (by kernel_rfl) (by kernel_rfl) trivial ⟨h0, (map_get h1), (len_i _ _), h2, h0, (map_get h1), h3, (map_get h4), (congrArg (AV.int .i64) h5), (congrArg (AV.int .i64) h6), h7, h8⟩
theorem rFormed_2_1 (p : Prog) (l1 : (List Bool)) (k7 : Int) (i6 : Int) (y0 : Node) (y1 : Int) (y2 : Bool) (y3 : Bool) (h0 : 0 ≤ i6) (h1 : ((p.nodes)[i6.toNat]?) = some y0) (h2 : (decide (k7 < ((List.length y0.kids : Nat) : Int))) = true) (h3 : 0 ≤ k7) (h4 : ((y0.kids)[k7.toNat]?) = some y1) (h5 : (IntKind.i64.wrap (i6 + (1 : Int))) = (i6 + (1 : Int))) (h6 : (IntKind.i64.wrap (((List.length p.nodes : Nat) : Int) - (1 : Int))) = (((List.length p.nodes : Nat) : Int) - (1 : Int))) (h7 : Pure PP 82 [(.int .i64 y1), (.int .i64 (i6 + (1 : Int))), (.int .i64 (((List.length p.nodes : Nat) : Int) - (1 : Int)))] (.bool y2)) (h8 : (!y2) = false) (h9 : 0 ≤ y1) (h10 : y1 < (((List.length l1) : Nat) : Int)) (h11 : ((l1)[y1.toNat]?) = some y3) (h12 : y3 = true) :
    Ends PP 0 (rFormed_c2 p l1 k7 i6).as (.ret (.bool false)) (hpOf [] 0) :=
  wE 2 [0 ≤ i6, (List.map Node.av p.nodes)[i6.toNat]? = some (Node.av y0), ((List.length (List.map avI y0.kids) : Nat) : Int) = ((List.length y0.kids : Nat) : Int), ty h2, 0 ≤ i6, (List.map Node.av p.nodes)[i6.toNat]? = some (Node.av y0), 0 ≤ k7, (List.map avI y0.kids)[k7.toNat]? = some (avI y1), (AV.int .i64 (IntKind.i64.wrap (i6 + (1 : Int)))) = (.int .i64 (i6 + (1 : Int))), (AV.int .i64 (IntKind.i64.wrap (((List.length p.nodes : Nat) : Int) - (1 : Int)))) = (.int .i64 (((List.length p.nodes : Nat) : Int) - (1 : Int))), ty h7, ty h8, 0 ≤ y1, ty h10, (List.map avB l1)[(0 + y1.toNat)]? = some (avB y3), ty h12] [.run 7, .ans (.idx (Node.av y0)), .run 2, .ans (.len ((List.length y0.kids : Nat) : Int)), .run 2, .b 95 true, .run 9, .ans (.idx (Node.av y0)), .run 3, .ans (.idx (avI y1)), .run 9, .set 109 (.int .i64 (i6 + (1 : Int))), .run 2, .set 111 (.int .i64 (((List.length p.nodes : Nat) : Int) - (1 : Int))), .pure (.bool y2), .run 2, .b 114 false, .run 2, .ans (.ix), .ans (.idx (avB y3)), .run 2, .b 119 true, .run 6] (by kernel_rfl) (by kernel_rfl) trivial ⟨h0, (map_get h1), (len_i _ _), h2, h0, (map_get h1), h3, (map_get h4), (congrArg (AV.int .i64) h5), (congrArg (AV.int .i64) h6), h7, h8, h9, h10, (map_get0 h11), h12⟩
theorem rFormed_2_2 (p : Prog) (l1 : (List Bool)) (k7 : Int) (i6 : Int) (y0 : Node) (y1 : Int) (y2 : Bool) (y3 : Bool) (h0 : 0 ≤ i6) (h1 : ((p.nodes)[i6.toNat]?) = some y0) (h2 : (decide (k7 < ((List.length y0.kids : Nat) : Int))) = true) (h3 : 0 ≤ k7) (h4 : ((y0.kids)[k7.toNat]?) = some y1) (h5 : (IntKind.i64.wrap (i6 + (1 : Int))) = (i6 + (1 : Int))) (h6 : (IntKind.i64.wrap (((List.length p.nodes : Nat) : Int) - (1 : Int))) = (((List.length p.nodes : Nat) : Int) - (1 : Int))) (h7 : Pure PP 82 [(.int .i64 y1), (.int .i64 (i6 + (1 : Int))), (.int .i64 (((List.length p.nodes : Nat) : Int) - (1 : Int)))] (.bool y2)) (h8 : (!y2) = false) (h9 : 0 ≤ y1) (h10 : y1 < (((List.length l1) : Nat) : Int)) (h11 : ((l1)[y1.toNat]?) = some y3) (h12 : y3 = false) (h13 : (IntKind.i64.wrap (k7 + (1 : Int))) = (k7 + (1 : Int))) :
    LeadsM PP 0 (rFormed_c2 p l1 k7 i6).as (rFormed_c2 p (List.set l1 y1.toNat true) (k7 + (1 : Int)) i6).as :=
  wW 2 [0, 1] [0 ≤ i6, (List.map Node.av p.nodes)[i6.toNat]? = some (Node.av y0), ((List.length (List.map avI y0.kids) : Nat) : Int) = ((List.length y0.kids : Nat) : Int), ty h2, 0 ≤ i6, (List.map Node.av p.nodes)[i6.toNat]? = some (Node.av y0), 0 ≤ k7, (List.map avI y0.kids)[k7.toNat]? = some (avI y1), (AV.int .i64 (IntKind.i64.wrap (i6 + (1 : Int)))) = (.int .i64 (i6 + (1 : Int))), (AV.int .i64 (IntKind.i64.wrap (((List.length p.nodes : Nat) : Int) - (1 : Int)))) = (.int .i64 (((List.length p.nodes : Nat) : Int) - (1 : Int))), ty h7, ty h8, 0 ≤ y1, ty h10, (List.map avB l1)[(0 + y1.toNat)]? = some (avB y3), ty h12, 0 ≤ y1, ty h10, (List.map avB l1)[(0 + y1.toNat)]? = some (avB y3), setElem (avB y3) 0 [(.bool true)] = some (avB true), (List.map avB l1).set (0 + y1.toNat) (avB true) = (List.map avB (List.set l1 y1.toNat true)), (AV.gl 1 1 0 (List.length l1) true) = (.gl 1 1 0 (List.length (List.set l1 y1.toNat true)) true), (AV.gl 1 1 0 (List.length l1) true) = (.gl 1 1 0 (List.length (List.set l1 y1.toNat true)) true), (AV.gl 1 1 0 (List.length l1) true) = (.gl 1 1 0 (List.length (List.set l1 y1.toNat true)) true), (AV.int .i64 (IntKind.i64.wrap (k7 + (1 : Int)))) = (.int .i64 (k7 + (1 : Int)))] [.run 7, .ans (.idx (Node.av y0)), .run 2, .ans (.len ((List.length y0.kids : Nat) : Int)), .run 2, .b 95 true, .run 9, .ans (.idx (Node.av y0)), .run 3, .ans (.idx (avI y1)), .run 9, .set 109 (.int .i64 (i6 + (1 : Int))), .run 2, .set 111 (.int .i64 (((List.length p.nodes : Nat) : Int) - (1 : Int))), .pure (.bool y2), .run 2, .b 114 false, .run 2, .ans (.ix), .ans (.idx (avB y3)), .run 2, .b 119 false, .run 5, .ans (.ix), .st (avB y3) (avB true), .lset 1 (List.map avB (List.set l1 y1.toNat true)), .set 4 (.gl 1 1 0 (List.length (List.set l1 y1.toNat true)) true), .set 115 (.gl 1 1 0 (List.length (List.set l1 y1.toNat true)) true), .set 120 (.gl 1 1 0 (List.length (List.set l1 y1.toNat true)) true), .run 5, .set 97 (.int .i64 (k7 + (1 : Int))), .run 3] (by kernel_rfl) (by kernel_rfl) ⟨(keylessL_map _ (fun _ => rfl) _), trivial⟩ ⟨h0, (map_get h1), (len_i _ _), h2, h0, (map_get h1), h3, (map_get h4), (congrArg (AV.int .i64) h5), (congrArg (AV.int .i64) h6), h7, h8, h9, h10, (map_get0 h11), h12, h9, h10, (map_get0 h11), rfl, (set_map0 _ _ _ _), (gl_len (List.length_set ..).symm), (gl_len (List.length_set ..).symm), (gl_len (List.length_set ..).symm), (congrArg (AV.int .i64) h13)⟩
theorem rFormed_2_3 (p : Prog) (l1 : (List Bool)) (k7 : Int) (i6 : Int) (y0 : Node) (h0 : 0 ≤ i6) (h1 : ((p.nodes)[i6.toNat]?) = some y0) (h2 : (decide (k7 < ((List.length y0.kids : Nat) : Int))) = false) (h3 : (IntKind.i64.wrap (i6 + (1 : Int))) = (i6 + (1 : Int))) :
    LeadsM PP 0 (rFormed_c2 p l1 k7 i6).as (rFormed_c1 p l1 (i6 + (1 : Int))).as :=
  wW 2 [0, 1] [0 ≤ i6, (List.map Node.av p.nodes)[i6.toNat]? = some (Node.av y0), ((List.length (List.map avI y0.kids) : Nat) : Int) = ((List.length y0.kids : Nat) : Int), ty h2, (AV.int .i64 (IntKind.i64.wrap (i6 + (1 : Int)))) = (.int .i64 (i6 + (1 : Int)))] [.run 7, .ans (.idx (Node.av y0)), .run 2, .ans (.len ((List.length y0.kids : Nat) : Int)), .run 2, .b 95 false, .run 6, .set 78 (.int .i64 (i6 + (1 : Int))), .run 3] (by kernel_rfl) (by kernel_rfl) ⟨(keylessL_map _ (fun _ => rfl) _), trivial⟩ ⟨h0, (map_get h1), (len_i _ _), h2, (congrArg (AV.int .i64) h3)⟩
theorem rFormed_3_0 (p : Prog) (l1 : (List Bool)) (i9 : Int) (y0 : Bool) (h0 : (decide (i9 < ((List.length p.nodes : Nat) : Int))) = true) (h1 : 0 ≤ i9) (h2 : i9 < (((List.length l1) : Nat) : Int)) (h3 : ((l1)[i9.toNat]?) = some y0) (h4 : (!y0) = true) :
    Ends PP 0 (rFormed_c3 p l1 i9).as (.ret (.bool false)) (hpOf [] 0) :=
  wE 1 [ty h0, 0 ≤ i9, ty h2, (List.map avB l1)[(0 + i9.toNat)]? = some (avB y0), ty h4] [.run 7, .b 125 true, .run 8, .ans (.ix), .ans (.idx (avB y0)), .run 2, .b 132 true, .run 6] (by kernel_rfl) (by kernel_rfl) trivial ⟨h0, h1, h2, (map_get0 h3), h4⟩
theorem rFormed_3_1 (p : Prog) (l1 : (List Bool)) (i9 : Int) (y0 : Bool) (h0 : (decide (i9 < ((List.length p.nodes : Nat) : Int))) = true) (h1 : 0 ≤ i9) (h2 : i9 < (((List.length l1) : Nat) : Int)) (h3 : ((l1)[i9.toNat]?) = some y0) (h4 : (!y0) = false) (h5 : (IntKind.i64.wrap (i9 + (1 : Int))) = (i9 + (1 : Int))) :
    LeadsM PP 0 (rFormed_c3 p l1 i9).as (rFormed_c3 p l1 (i9 + (1 : Int))).as :=
  wW 1 [0] [ty h0, 0 ≤ i9, ty h2, (List.map avB l1)[(0 + i9.toNat)]? = some (avB y0), ty h4, (AV.int .i64 (IntKind.i64.wrap (i9 + (1 : Int)))) = (.int .i64 (i9 + (1 : Int)))] [.run 7, .b 125 true, .run 8, .ans (.ix), .ans (.idx (avB y0)), .run 2, .b 132 false, .run 6, .set 127 (.int .i64 (i9 + (1 : Int))), .run 3] (by kernel_rfl) (by kernel_rfl) ⟨(keylessL_map _ (fun _ => rfl) _), trivial⟩ ⟨h0, h1, h2, (map_get0 h3), h4, (congrArg (AV.int .i64) h5)⟩
theorem rFormed_3_2 (p : Prog) (l1 : (List Bool)) (i9 : Int) (h0 : (decide (i9 < ((List.length p.nodes : Nat) : Int))) = false) :
    Ends PP 0 (rFormed_c3 p l1 i9).as (.ret (.bool true)) (hpOf [] 0) :=
  wE 1 [ty h0] [.run 7, .b 125 false, .run 7] (by kernel_rfl) (by kernel_rfl) trivial h0
end Go.Hb

namespace Go.Hb
open Go.Proofs
/-! ### nodes -/
def consOk1 (c : Con) : Bool := greatS c.name && inB c.args 0 3
def consNames (l : List Con) : List Str := l.map Con.name
def consOk (l : List Con) : Bool := l.all consOk1 && decide (l.length ≤ 20) && differS (consNames l)
def nodeHead1 (p : Prog) (op n : Int) : Bool :=
  if op = 1 then inB n (-1000000000) 1000000000
  else if op = 2 then inB n 0 1
  else if op = 4 then inB n (0 - (p.funs.length : Int)) 29
  else if op = 24 then inB n 0 3
  else if op = 14 then inB n 0 ((p.cons.length : Int) - 1)
  else decide (n = 0)
def nodeHead (p : Prog) (x : Node) : Bool :=
  nodeHead1 p x.op x.n && (if x.op = 15 then inB (x.pats.length : Int) 1 5 else decide (x.pats.length = 0))
def nodeArgs (p : Prog) (x : Node) : Int := if x.op = 14 ∧ inB x.n 0 ((p.cons.length : Int) - 1) = true then argsAt p.cons x.n else 0
def nodePat (cons : List Con) (q : Pat) : Bool := decide (psize q ≤ 12) && patOk cons q
def nodeOk (p : Prog) (x : Node) : Bool :=
  nodeHead p x && x.pats.all (nodePat p.cons) && decide ((x.kids.length : Int) = kidsN x.op x.pats.length (nodeArgs p x))
theorem len_beq {α : Type} (l : List α) : ((l.length : Int) == 0) = decide (l = []) := by cases l <;> simp; omega
set_option maxHeartbeats 2000000

theorem rNode_E (p : Prog) (x : Node) (hc : p.cons.length ≤ 1000) (hf : p.funs.length ≤ 1000) (b : Bool) (hk : ∀ (i : Bool) (a : Int), i = nodeHead p x → a = nodeArgs p x → Ends PP 0 (rNode_c0 p x i a 0).as (.ret (.bool b)) (hpOf [] 0)) :
    Ends PP 0 (start PP 84 [Prog.av p, Node.av x]).as (.ret (.bool b)) (hpOf [] 0) := by
  cases hb1 : (x.op == (1 : Int)) with
  | true =>
    cases hb2 : (x.op == (15 : Int)) with
    | true =>
      cases hb3 : (inB (x.n) (-1000000000) 1000000000) with
      | true =>
        exact LeadsM.ends (rNode_E_0 p x  (inB (x.n) (-1000000000) 1000000000) (inB ((List.length x.pats : Nat) : Int) 1 5) hb1 (rIn_pure (x.n) (-1000000000) 1000000000) hb2 hb3 (rIn_pure ((List.length x.pats : Nat) : Int) 1 5)) (hk _ _ (by clear hk; (simp_all [nodeHead, nodeHead1, nodeArgs, argsAt, len_beq])) (by clear hk; (simp_all [nodeHead, nodeHead1, nodeArgs, argsAt, len_beq])))
      | false =>
        exact LeadsM.ends (rNode_E_1 p x  (inB (x.n) (-1000000000) 1000000000) hb1 (rIn_pure (x.n) (-1000000000) 1000000000) hb2 hb3) (hk _ _ (by clear hk; (simp_all [nodeHead, nodeHead1, nodeArgs, argsAt, len_beq])) (by clear hk; (simp_all [nodeHead, nodeHead1, nodeArgs, argsAt, len_beq])))
    | false =>
      cases hb4 : (inB (x.n) (-1000000000) 1000000000) with
      | true =>
        exact LeadsM.ends (rNode_E_2 p x  (inB (x.n) (-1000000000) 1000000000) hb1 (rIn_pure (x.n) (-1000000000) 1000000000) hb2 hb4) (hk _ _ (by clear hk; (simp_all [nodeHead, nodeHead1, nodeArgs, argsAt, len_beq])) (by clear hk; (simp_all [nodeHead, nodeHead1, nodeArgs, argsAt, len_beq])))
      | false =>
        exact LeadsM.ends (rNode_E_3 p x  (inB (x.n) (-1000000000) 1000000000) hb1 (rIn_pure (x.n) (-1000000000) 1000000000) hb2 hb4) (hk _ _ (by clear hk; (simp_all [nodeHead, nodeHead1, nodeArgs, argsAt, len_beq])) (by clear hk; (simp_all [nodeHead, nodeHead1, nodeArgs, argsAt, len_beq])))
  | false =>
    cases hb5 : (x.op == (2 : Int)) with
    | true =>
      cases hb6 : (x.op == (15 : Int)) with
      | true =>
        cases hb7 : (inB (x.n) 0 1) with
        | true =>
          exact LeadsM.ends (rNode_E_4 p x  (inB (x.n) 0 1) (inB ((List.length x.pats : Nat) : Int) 1 5) hb1 hb5 (rIn_pure (x.n) 0 1) hb6 hb7 (rIn_pure ((List.length x.pats : Nat) : Int) 1 5)) (hk _ _ (by clear hk; (simp_all [nodeHead, nodeHead1, nodeArgs, argsAt, len_beq])) (by clear hk; (simp_all [nodeHead, nodeHead1, nodeArgs, argsAt, len_beq])))
        | false =>
          exact LeadsM.ends (rNode_E_5 p x  (inB (x.n) 0 1) hb1 hb5 (rIn_pure (x.n) 0 1) hb6 hb7) (hk _ _ (by clear hk; (simp_all [nodeHead, nodeHead1, nodeArgs, argsAt, len_beq])) (by clear hk; (simp_all [nodeHead, nodeHead1, nodeArgs, argsAt, len_beq])))
      | false =>
        cases hb8 : (inB (x.n) 0 1) with
        | true =>
          exact LeadsM.ends (rNode_E_6 p x  (inB (x.n) 0 1) hb1 hb5 (rIn_pure (x.n) 0 1) hb6 hb8) (hk _ _ (by clear hk; (simp_all [nodeHead, nodeHead1, nodeArgs, argsAt, len_beq])) (by clear hk; (simp_all [nodeHead, nodeHead1, nodeArgs, argsAt, len_beq])))
        | false =>
          exact LeadsM.ends (rNode_E_7 p x  (inB (x.n) 0 1) hb1 hb5 (rIn_pure (x.n) 0 1) hb6 hb8) (hk _ _ (by clear hk; (simp_all [nodeHead, nodeHead1, nodeArgs, argsAt, len_beq])) (by clear hk; (simp_all [nodeHead, nodeHead1, nodeArgs, argsAt, len_beq])))
    | false =>
      cases hb9 : (x.op == (4 : Int)) with
      | true =>
        cases hb10 : (x.op == (15 : Int)) with
        | true =>
          cases hb11 : (inB (x.n) (0 - ((List.length p.funs : Nat) : Int)) 29) with
          | true =>
            exact LeadsM.ends (rNode_E_8 p x  (inB (x.n) (0 - ((List.length p.funs : Nat) : Int)) 29) (inB ((List.length x.pats : Nat) : Int) 1 5) hb1 hb5 hb9 (by (first | (first | assumption | rfl | (simp only [Int.toNat_natCast]; assumption) | (simp only [decide_eq_true_eq, decide_eq_false_iff_not]; omega) | omega | (apply wrap64 <;> omega) | (simp_all; done)) | (simp only [inB_iff, inB_not, beq_iff_eq, decide_eq_true_eq, decide_eq_false_iff_not] at *; omega))) (rIn_pure (x.n) (0 - ((List.length p.funs : Nat) : Int)) 29) hb10 hb11 (rIn_pure ((List.length x.pats : Nat) : Int) 1 5)) (hk _ _ (by clear hk; (simp_all [nodeHead, nodeHead1, nodeArgs, argsAt, len_beq])) (by clear hk; (simp_all [nodeHead, nodeHead1, nodeArgs, argsAt, len_beq])))
          | false =>
            exact LeadsM.ends (rNode_E_9 p x  (inB (x.n) (0 - ((List.length p.funs : Nat) : Int)) 29) hb1 hb5 hb9 (by (first | (first | assumption | rfl | (simp only [Int.toNat_natCast]; assumption) | (simp only [decide_eq_true_eq, decide_eq_false_iff_not]; omega) | omega | (apply wrap64 <;> omega) | (simp_all; done)) | (simp only [inB_iff, inB_not, beq_iff_eq, decide_eq_true_eq, decide_eq_false_iff_not] at *; omega))) (rIn_pure (x.n) (0 - ((List.length p.funs : Nat) : Int)) 29) hb10 hb11) (hk _ _ (by clear hk; (simp_all [nodeHead, nodeHead1, nodeArgs, argsAt, len_beq])) (by clear hk; (simp_all [nodeHead, nodeHead1, nodeArgs, argsAt, len_beq])))
        | false =>
          cases hb12 : (inB (x.n) (0 - ((List.length p.funs : Nat) : Int)) 29) with
          | true =>
            exact LeadsM.ends (rNode_E_10 p x  (inB (x.n) (0 - ((List.length p.funs : Nat) : Int)) 29) hb1 hb5 hb9 (by (first | (first | assumption | rfl | (simp only [Int.toNat_natCast]; assumption) | (simp only [decide_eq_true_eq, decide_eq_false_iff_not]; omega) | omega | (apply wrap64 <;> omega) | (simp_all; done)) | (simp only [inB_iff, inB_not, beq_iff_eq, decide_eq_true_eq, decide_eq_false_iff_not] at *; omega))) (rIn_pure (x.n) (0 - ((List.length p.funs : Nat) : Int)) 29) hb10 hb12) (hk _ _ (by clear hk; (simp_all [nodeHead, nodeHead1, nodeArgs, argsAt, len_beq])) (by clear hk; (simp_all [nodeHead, nodeHead1, nodeArgs, argsAt, len_beq])))
          | false =>
            exact LeadsM.ends (rNode_E_11 p x  (inB (x.n) (0 - ((List.length p.funs : Nat) : Int)) 29) hb1 hb5 hb9 (by (first | (first | assumption | rfl | (simp only [Int.toNat_natCast]; assumption) | (simp only [decide_eq_true_eq, decide_eq_false_iff_not]; omega) | omega | (apply wrap64 <;> omega) | (simp_all; done)) | (simp only [inB_iff, inB_not, beq_iff_eq, decide_eq_true_eq, decide_eq_false_iff_not] at *; omega))) (rIn_pure (x.n) (0 - ((List.length p.funs : Nat) : Int)) 29) hb10 hb12) (hk _ _ (by clear hk; (simp_all [nodeHead, nodeHead1, nodeArgs, argsAt, len_beq])) (by clear hk; (simp_all [nodeHead, nodeHead1, nodeArgs, argsAt, len_beq])))
      | false =>
        cases hb13 : (x.op == (24 : Int)) with
        | true =>
          cases hb14 : (x.op == (15 : Int)) with
          | true =>
            cases hb15 : (inB (x.n) 0 3) with
            | true =>
              exact LeadsM.ends (rNode_E_12 p x  (inB (x.n) 0 3) (inB ((List.length x.pats : Nat) : Int) 1 5) hb1 hb5 hb9 hb13 (rIn_pure (x.n) 0 3) hb14 hb15 (rIn_pure ((List.length x.pats : Nat) : Int) 1 5)) (hk _ _ (by clear hk; (simp_all [nodeHead, nodeHead1, nodeArgs, argsAt, len_beq])) (by clear hk; (simp_all [nodeHead, nodeHead1, nodeArgs, argsAt, len_beq])))
            | false =>
              exact LeadsM.ends (rNode_E_13 p x  (inB (x.n) 0 3) hb1 hb5 hb9 hb13 (rIn_pure (x.n) 0 3) hb14 hb15) (hk _ _ (by clear hk; (simp_all [nodeHead, nodeHead1, nodeArgs, argsAt, len_beq])) (by clear hk; (simp_all [nodeHead, nodeHead1, nodeArgs, argsAt, len_beq])))
          | false =>
            cases hb16 : (inB (x.n) 0 3) with
            | true =>
              exact LeadsM.ends (rNode_E_14 p x  (inB (x.n) 0 3) hb1 hb5 hb9 hb13 (rIn_pure (x.n) 0 3) hb14 hb16) (hk _ _ (by clear hk; (simp_all [nodeHead, nodeHead1, nodeArgs, argsAt, len_beq])) (by clear hk; (simp_all [nodeHead, nodeHead1, nodeArgs, argsAt, len_beq])))
            | false =>
              exact LeadsM.ends (rNode_E_15 p x  (inB (x.n) 0 3) hb1 hb5 hb9 hb13 (rIn_pure (x.n) 0 3) hb14 hb16) (hk _ _ (by clear hk; (simp_all [nodeHead, nodeHead1, nodeArgs, argsAt, len_beq])) (by clear hk; (simp_all [nodeHead, nodeHead1, nodeArgs, argsAt, len_beq])))
        | false =>
          cases hb17 : (x.op == (14 : Int)) with
          | true =>
            cases hb18 : (inB (x.n) 0 (((List.length p.cons : Nat) : Int) - (1 : Int))) with
            | true =>
              obtain ⟨y1, hx19⟩ : ∃ y, ((p.cons)[x.n.toNat]?) = some y := by (exact ⟨_, List.getElem?_eq_getElem (by simp only [inB_iff, inB_not, beq_iff_eq, decide_eq_true_eq, decide_eq_false_iff_not] at *; omega)⟩)
              cases hb20 : (x.op == (15 : Int)) with
              | true =>
                exact LeadsM.ends (rNode_E_16 p x  (inB (x.n) 0 (((List.length p.cons : Nat) : Int) - (1 : Int))) y1 (inB ((List.length x.pats : Nat) : Int) 1 5) hb1 hb5 hb9 hb13 hb17 (by (first | (first | assumption | rfl | (simp only [Int.toNat_natCast]; assumption) | (simp only [decide_eq_true_eq, decide_eq_false_iff_not]; omega) | omega | (apply wrap64 <;> omega) | (simp_all; done)) | (simp only [inB_iff, inB_not, beq_iff_eq, decide_eq_true_eq, decide_eq_false_iff_not] at *; omega))) (rIn_pure (x.n) 0 (((List.length p.cons : Nat) : Int) - (1 : Int))) hb18 (by (first | (first | assumption | rfl | (simp only [Int.toNat_natCast]; assumption) | (simp only [decide_eq_true_eq, decide_eq_false_iff_not]; omega) | omega | (apply wrap64 <;> omega) | (simp_all; done)) | (simp only [inB_iff, inB_not, beq_iff_eq, decide_eq_true_eq, decide_eq_false_iff_not] at *; omega))) hx19 hb20 (rIn_pure ((List.length x.pats : Nat) : Int) 1 5)) (hk _ _ (by clear hk; (simp_all [nodeHead, nodeHead1, nodeArgs, argsAt, len_beq])) (by clear hk; (simp_all [nodeHead, nodeHead1, nodeArgs, argsAt, len_beq])))
              | false =>
                exact LeadsM.ends (rNode_E_17 p x  (inB (x.n) 0 (((List.length p.cons : Nat) : Int) - (1 : Int))) y1 hb1 hb5 hb9 hb13 hb17 (by (first | (first | assumption | rfl | (simp only [Int.toNat_natCast]; assumption) | (simp only [decide_eq_true_eq, decide_eq_false_iff_not]; omega) | omega | (apply wrap64 <;> omega) | (simp_all; done)) | (simp only [inB_iff, inB_not, beq_iff_eq, decide_eq_true_eq, decide_eq_false_iff_not] at *; omega))) (rIn_pure (x.n) 0 (((List.length p.cons : Nat) : Int) - (1 : Int))) hb18 (by (first | (first | assumption | rfl | (simp only [Int.toNat_natCast]; assumption) | (simp only [decide_eq_true_eq, decide_eq_false_iff_not]; omega) | omega | (apply wrap64 <;> omega) | (simp_all; done)) | (simp only [inB_iff, inB_not, beq_iff_eq, decide_eq_true_eq, decide_eq_false_iff_not] at *; omega))) hx19 hb20) (hk _ _ (by clear hk; (simp_all [nodeHead, nodeHead1, nodeArgs, argsAt, len_beq])) (by clear hk; (simp_all [nodeHead, nodeHead1, nodeArgs, argsAt, len_beq])))
            | false =>
              cases hb21 : (x.op == (15 : Int)) with
              | true =>
                exact LeadsM.ends (rNode_E_18 p x  (inB (x.n) 0 (((List.length p.cons : Nat) : Int) - (1 : Int))) hb1 hb5 hb9 hb13 hb17 (by (first | (first | assumption | rfl | (simp only [Int.toNat_natCast]; assumption) | (simp only [decide_eq_true_eq, decide_eq_false_iff_not]; omega) | omega | (apply wrap64 <;> omega) | (simp_all; done)) | (simp only [inB_iff, inB_not, beq_iff_eq, decide_eq_true_eq, decide_eq_false_iff_not] at *; omega))) (rIn_pure (x.n) 0 (((List.length p.cons : Nat) : Int) - (1 : Int))) hb18 hb21) (hk _ _ (by clear hk; (simp_all [nodeHead, nodeHead1, nodeArgs, argsAt, len_beq])) (by clear hk; (simp_all [nodeHead, nodeHead1, nodeArgs, argsAt, len_beq])))
              | false =>
                exact LeadsM.ends (rNode_E_19 p x  (inB (x.n) 0 (((List.length p.cons : Nat) : Int) - (1 : Int))) hb1 hb5 hb9 hb13 hb17 (by (first | (first | assumption | rfl | (simp only [Int.toNat_natCast]; assumption) | (simp only [decide_eq_true_eq, decide_eq_false_iff_not]; omega) | omega | (apply wrap64 <;> omega) | (simp_all; done)) | (simp only [inB_iff, inB_not, beq_iff_eq, decide_eq_true_eq, decide_eq_false_iff_not] at *; omega))) (rIn_pure (x.n) 0 (((List.length p.cons : Nat) : Int) - (1 : Int))) hb18 hb21) (hk _ _ (by clear hk; (simp_all [nodeHead, nodeHead1, nodeArgs, argsAt, len_beq])) (by clear hk; (simp_all [nodeHead, nodeHead1, nodeArgs, argsAt, len_beq])))
          | false =>
            cases hb22 : (x.op == (15 : Int)) with
            | true =>
              cases hb23 : (x.n == (0 : Int)) with
              | true =>
                exact LeadsM.ends (rNode_E_20 p x  (inB ((List.length x.pats : Nat) : Int) 1 5) hb1 hb5 hb9 hb13 hb17 hb22 hb23 (rIn_pure ((List.length x.pats : Nat) : Int) 1 5)) (hk _ _ (by clear hk; (simp_all [nodeHead, nodeHead1, nodeArgs, argsAt, len_beq])) (by clear hk; (simp_all [nodeHead, nodeHead1, nodeArgs, argsAt, len_beq])))
              | false =>
                exact LeadsM.ends (rNode_E_21 p x   hb1 hb5 hb9 hb13 hb17 hb22 hb23) (hk _ _ (by clear hk; (simp_all [nodeHead, nodeHead1, nodeArgs, argsAt, len_beq])) (by clear hk; (simp_all [nodeHead, nodeHead1, nodeArgs, argsAt, len_beq])))
            | false =>
              cases hb24 : (x.n == (0 : Int)) with
              | true =>
                exact LeadsM.ends (rNode_E_22 p x   hb1 hb5 hb9 hb13 hb17 hb22 hb24) (hk _ _ (by clear hk; (simp_all [nodeHead, nodeHead1, nodeArgs, argsAt, len_beq])) (by clear hk; (simp_all [nodeHead, nodeHead1, nodeArgs, argsAt, len_beq])))
              | false =>
                exact LeadsM.ends (rNode_E_23 p x   hb1 hb5 hb9 hb13 hb17 hb22 hb24) (hk _ _ (by clear hk; (simp_all [nodeHead, nodeHead1, nodeArgs, argsAt, len_beq])) (by clear hk; (simp_all [nodeHead, nodeHead1, nodeArgs, argsAt, len_beq])))
theorem rNode_loop (p : Prog) (x : Node) (hc : p.cons.length ≤ 1000) (hl : x.pats.length ≤ 10) (a : Int) :
    ∀ (t : List Pat) (i : Nat) (b : Bool), x.pats.drop i = t → Ends PP 0 (rNode_c0 p x b a (i : Int)).as (.ret (.bool (b && t.all (nodePat p.cons) && decide ((x.kids.length : Int) = kidsN x.op x.pats.length a)))) (hpOf [] 0)
  | [], i, b, h => by
    have := dropN h
    cases b with
    | false => exact Ends.eqv (rNode_0_4 p x false a i (by (simp only [decide_eq_true_eq, decide_eq_false_iff_not]; omega)) rfl) (by simp)
    | true =>
      refine Ends.eqv (rNode_0_3 p x true a i _ (by (simp only [decide_eq_true_eq, decide_eq_false_iff_not]; omega)) rfl (rKids_pure x.op x.pats.length a (by omega) (by omega))) ?_
      simp only [List.all_nil, Bool.true_and, AV.bool.injEq]; rfl
  | .mk f' n' s' ps' :: t, i, b, h => by
    obtain ⟨g1, g2, g3⟩ := dropC h
    cases b with
    | false => exact Ends.eqv (rNode_0_2 p x false a i (by (simp only [decide_eq_true_eq, decide_eq_false_iff_not]; omega)) rfl) (by simp)
    | true =>
      have hw := rWeigh_pure (.mk f' n' s' ps') 12 (by omega) (by omega)
      by_cases k : psize (.mk f' n' s' ps') ≤ 12
      · have hg : 0 ≤ weigh (.mk f' n' s' ps') 12 := (weigh_iff (.mk f' n' s' ps') 12).2 (by omega)
        refine (rNode_0_0 p x true a i f' n' s' ps' _ _ (by (simp only [decide_eq_true_eq, decide_eq_false_iff_not]; omega)) rfl (by omega) (by assumption) hw (decide_eq_true hg) (rPat_pure p.cons hc (.mk f' n' s' ps') (by omega)) (by (apply wrap64 <;> omega))).ends ?_
        exact Ends.eqv (rNode_loop p x hc hl a t (i + 1) _ g2) (by simp [nodePat, k])
      · have hg : ¬ weigh (.mk f' n' s' ps') 12 ≥ 0 := fun g => k (by have := (weigh_iff (.mk f' n' s' ps') 12).1 g; omega)
        refine (rNode_0_1 p x true a i f' n' s' ps' _ (by (simp only [decide_eq_true_eq, decide_eq_false_iff_not]; omega)) rfl (by omega) (by assumption) hw (decide_eq_false hg) (by (apply wrap64 <;> omega))).ends ?_
        exact Ends.eqv (rNode_loop p x hc hl a t (i + 1) _ g2) (by simp [nodePat, k])
theorem rNode_pure (p : Prog) (x : Node) (hc : p.cons.length ≤ 1000) (hf : p.funs.length ≤ 1000) (hl : x.pats.length ≤ 10) : Pure PP 84 [Prog.av p, Node.av x] (.bool (nodeOk p x)) := by
  refine pure_at (by kernel_rfl) rfl rfl (rNode_E p x hc hf _ fun i a hi ha => ?_)
  subst hi ha
  exact rNode_loop p x hc hl _ x.pats 0 _ rfl
/-! ### constructors -/
theorem rCons_loop (l : List Con) (hl : l.length ≤ 1000) : ∀ (t : List Con) (i : Nat), l.drop i = t → Ends PP 0 (rCons_c0 l (i : Int) (consNames (l.take i))).as (.ret (.bool (t.all consOk1 && decide (l.length ≤ 20) && differS (consNames l)))) (hpOf [] 0)
  | [], i, h => by
    have hi := dropN h
    have e : consNames (l.take i) = consNames l := by rw [List.take_of_length_le hi]
    rw [e]
    by_cases k : l.length ≤ 20
    · exact Ends.eqv (rCons_0_3 l i _ _ (by (simp only [decide_eq_true_eq, decide_eq_false_iff_not]; omega)) (by (simp only [decide_eq_true_eq, decide_eq_false_iff_not]; omega)) (rDiffer_pure (consNames l) (by simp [consNames]; omega))) (by simp [k])
    · exact Ends.eqv (rCons_0_4 l i _ (by (simp only [decide_eq_true_eq, decide_eq_false_iff_not]; omega)) (by (simp only [decide_eq_true_eq, decide_eq_false_iff_not]; omega))) (by simp [k])
  | c :: t, i, h => by
    obtain ⟨g1, g2, g3⟩ := dropC h
    have hg := rGreat_pure c.name
    cases k1 : greatS c.name with
    | false =>
      rw [k1] at hg
      exact Ends.eqv (rCons_0_0 l i _ c false (by (simp only [decide_eq_true_eq, decide_eq_false_iff_not]; omega)) (by omega) (by assumption) hg rfl) (by simp [consOk1, k1])
    | true =>
      rw [k1] at hg
      have hi := rIn_pure c.args 0 3
      cases k2 : inB c.args 0 3 with
      | false =>
        rw [k2] at hi
        exact Ends.eqv (rCons_0_1 l i _ c true false (by (simp only [decide_eq_true_eq, decide_eq_false_iff_not]; omega)) (by omega) (by assumption) hg rfl hi rfl) (by simp [consOk1, k1, k2])
      | true =>
        rw [k2] at hi
        have e : consNames (l.take i) ++ [c.name] = consNames (l.take (i + 1)) := by
          rw [List.take_add_one, g1]; simp [consNames]
        refine (rCons_0_2 l i (consNames (l.take i)) c true true (by (simp only [decide_eq_true_eq, decide_eq_false_iff_not]; omega)) (by omega) (by assumption) hg rfl hi rfl (by simp [consNames]; omega) (by (apply wrap64 <;> omega))).ends ?_
        rw [e]
        exact Ends.eqv (rCons_loop l hl t (i + 1) g2) (by simp [consOk1, k1, k2])
theorem rCons_pure (l : List Con) (hl : l.length ≤ 1000) : Pure PP 83 [.ilst 2 (List.map Con.av l) false] (.bool (consOk l)) :=
  pure_at (by kernel_rfl) rfl rfl ((rCons_E_0 l).ends (rCons_loop l hl l 0 rfl))
/-! ### formed -/
/-- marks numbers, each of them once -/
def marks (lo n : Int) : List Int → List Bool → Option (List Bool)
  | [], u => some u
  | k :: ks, u => if inB k lo (n - 1) = true ∧ u[k.toNat]? = some false then marks lo n ks (u.set k.toNat true) else none
theorem marks_len {lo n : Int} : ∀ {ks : List Int} {u v : List Bool}, marks lo n ks u = some v → v.length = u.length
  | [], u, v, h => by simp only [marks, Option.some.injEq] at h; rw [h]
  | k :: ks, u, v, h => by
    simp only [marks] at h
    split at h
    · have := marks_len h; simpa using this
    · cases h
def refNodes (p : Prog) : Nat → List Node → List Bool → Option (List Bool)
  | _, [], u => some u
  | i, x :: t, u => if nodeOk p x = true then match marks ((i : Int) + 1) (p.nodes.length : Int) x.kids u with
      | some v => refNodes p (i + 1) t v
      | none => none
    else none
def allT : Option (List Bool) → Bool
  | some u => u.all fun b => b
  | none => false
def progHead (p : Prog) : Bool := decide (p.nodes.length ≤ 300) && inB (p.funs.length : Int) 1 (p.nodes.length : Int) && inB p.main 0 ((p.funs.length : Int) - 1)
def refFormed (p : Prog) : Bool :=
  progHead p && consOk p.cons && (match marks 0 (p.nodes.length : Int) p.funs (List.replicate p.nodes.length false) with
    | some u => allT (refNodes p 0 p.nodes u)
    | none => false)
theorem rF3 (p : Prog) (u : List Bool) (hn : p.nodes.length ≤ 1000) (hu : u.length = p.nodes.length) : ∀ (t : List Bool) (i : Nat), u.drop i = t → Ends PP 0 (rFormed_c3 p u (i : Int)).as (.ret (.bool (t.all fun b => b))) (hpOf [] 0)
  | [], i, h => by
    have := dropN h
    exact rFormed_3_2 p u i (by (simp only [decide_eq_true_eq, decide_eq_false_iff_not]; omega))
  | b :: t, i, h => by
    obtain ⟨g1, g2, g3⟩ := dropC h
    cases b with
    | false => exact Ends.eqv (rFormed_3_0 p u i false (by (simp only [decide_eq_true_eq, decide_eq_false_iff_not]; omega)) (by omega) (by omega) (by assumption) rfl) (by simp)
    | true =>
      refine (rFormed_3_1 p u i true (by (simp only [decide_eq_true_eq, decide_eq_false_iff_not]; omega)) (by omega) (by omega) (by assumption) rfl (by (apply wrap64 <;> omega))).ends ?_
      exact Ends.eqv (rF3 p u hn hu t (i + 1) g2) (by simp)
/-- the kids of a node, then what comes -/
theorem rF2' (p : Prog) (x : Node) (i : Nat) (hx : p.nodes[i]? = some x) (hn : p.nodes.length ≤ 1000) (hk : x.kids.length ≤ 1000) (K : List Bool → Bool)
    (hb : ∀ v : List Bool, v.length = p.nodes.length → Ends PP 0 (rFormed_c1 p v ((i : Int) + 1)).as (.ret (.bool (K v))) (hpOf [] 0)) :
    ∀ (t : List Int) (k : Nat) (u : List Bool), u.length = p.nodes.length → x.kids.drop k = t → Ends PP 0 (rFormed_c2 p u (k : Int) (i : Int)).as (.ret (.bool (match marks ((i : Int) + 1) p.nodes.length t u with | some v => K v | none => false))) (hpOf [] 0)
  | [], k, u, hu, h => by
    have := dropN h
    have hi := (List.getElem?_eq_some_iff.1 hx).1
    refine (rFormed_2_3 p u k i x (by omega) (by assumption) (by (simp only [decide_eq_true_eq, decide_eq_false_iff_not]; omega)) (by (apply wrap64 <;> omega))).ends ?_
    exact hb u hu
  | y :: t, k, u, hu, h => by
    obtain ⟨g1, g2, g3⟩ := dropC h
    have hi := (List.getElem?_eq_some_iff.1 hx).1
    have hin := rIn_pure y ((i : Int) + 1) ((p.nodes.length : Int) - 1)
    cases k1 : inB y ((i : Int) + 1) ((p.nodes.length : Int) - 1) with
    | false =>
      rw [k1] at hin
      exact Ends.eqv (rFormed_2_0 p u k i x y false (by omega) (by assumption) (by (simp only [decide_eq_true_eq, decide_eq_false_iff_not]; omega)) (by omega) (by assumption) (by (apply wrap64 <;> omega)) (by (apply wrap64 <;> omega)) hin rfl) (by simp [marks, k1])
    | true =>
      rw [k1] at hin
      have hy := inB_iff.1 k1
      obtain ⟨z, hz⟩ : ∃ z, u[y.toNat]? = some z := ⟨_, List.getElem?_eq_getElem (by omega)⟩
      cases z with
      | true =>
        exact Ends.eqv (rFormed_2_1 p u k i x y true true (by omega) (by assumption) (by (simp only [decide_eq_true_eq, decide_eq_false_iff_not]; omega)) (by omega) (by assumption) (by (apply wrap64 <;> omega)) (by (apply wrap64 <;> omega)) hin rfl (by omega) (by omega) hz rfl) (by simp [marks, hz])
      | false =>
        refine (rFormed_2_2 p u k i x y true false (by omega) (by assumption) (by (simp only [decide_eq_true_eq, decide_eq_false_iff_not]; omega)) (by omega) (by assumption) (by (apply wrap64 <;> omega)) (by (apply wrap64 <;> omega)) hin rfl (by omega) (by omega) hz rfl (by (apply wrap64 <;> omega))).ends ?_
        exact Ends.eqv (rF2' p x i hx hn hk K hb t (k + 1) (u.set y.toNat true) (by simpa using hu) g2) (by simp [marks, k1, hz])
theorem rF1 (p : Prog) (hp : smallProg p = true) (hn : p.nodes.length ≤ 1000) (hc : p.cons.length ≤ 1000) (hf : p.funs.length ≤ 1000) : ∀ (t : List Node) (i : Nat) (u : List Bool), u.length = p.nodes.length → p.nodes.drop i = t →
    Ends PP 0 (rFormed_c1 p u (i : Int)).as (.ret (.bool (allT (refNodes p i t u)))) (hpOf [] 0)
  | [], i, u, hu, h => by
    have := dropN h
    refine (rFormed_1_2 p u i (by (simp only [decide_eq_true_eq, decide_eq_false_iff_not]; omega))).ends ?_
    exact rF3 p u hn hu u 0 rfl
  | x :: t, i, u, hu, h => by
    obtain ⟨g1, g2, g3⟩ := dropC h
    have hx : smallNode x = true := by
      simp only [smallProg, Bool.and_eq_true] at hp
      exact List.all_eq_true.1 hp.2 x (List.mem_of_getElem? g1)
    simp only [smallNode, Bool.and_eq_true, decide_eq_true_eq] at hx
    have ho := rNode_pure p x hc hf hx.1.2
    cases k : nodeOk p x with
    | false =>
      rw [k] at ho
      exact Ends.eqv (rFormed_1_0 p u i x false (by (simp only [decide_eq_true_eq, decide_eq_false_iff_not]; omega)) (by omega) (by assumption) ho rfl) (by simp [refNodes, k, allT])
    | true =>
      rw [k] at ho
      refine (rFormed_1_1 p u i x true (by (simp only [decide_eq_true_eq, decide_eq_false_iff_not]; omega)) (by omega) (by assumption) ho rfl).ends ?_
      refine Ends.eqv (rF2' p x i g1 hn (by omega) (fun v => allT (refNodes p (i + 1) t v)) (fun v hv => rF1 p hp hn hc hf t (i + 1) v hv g2) x.kids 0 u hu rfl) ?_
      simp only [refNodes, k, if_true]
      cases marks ((i : Int) + 1) (p.nodes.length : Int) x.kids u <;> rfl
theorem rF0 (p : Prog) (hp : smallProg p = true) (hn : p.nodes.length ≤ 1000) (hc : p.cons.length ≤ 1000) (hf : p.funs.length ≤ 1000) : ∀ (t : List Int) (i : Nat) (u : List Bool), u.length = p.nodes.length → p.funs.drop i = t →
    Ends PP 0 (rFormed_c0 p (i : Int) u).as (.ret (.bool (match marks 0 p.nodes.length t u with | some v => allT (refNodes p 0 p.nodes v) | none => false))) (hpOf [] 0)
  | [], i, u, hu, h => by
    have := dropN h
    refine (rFormed_0_3 p i u (by (simp only [decide_eq_true_eq, decide_eq_false_iff_not]; omega))).ends ?_
    exact rF1 p hp hn hc hf p.nodes 0 u hu rfl
  | y :: t, i, u, hu, h => by
    obtain ⟨g1, g2, g3⟩ := dropC h
    have hin := rIn_pure y 0 ((p.nodes.length : Int) - 1)
    cases k1 : inB y 0 ((p.nodes.length : Int) - 1) with
    | false =>
      rw [k1] at hin
      exact Ends.eqv (rFormed_0_0 p i u y false (by (simp only [decide_eq_true_eq, decide_eq_false_iff_not]; omega)) (by omega) (by assumption) (by (apply wrap64 <;> omega)) hin rfl) (by simp [marks, k1])
    | true =>
      rw [k1] at hin
      have hy := inB_iff.1 k1
      obtain ⟨z, hz⟩ : ∃ z, u[y.toNat]? = some z := ⟨_, List.getElem?_eq_getElem (by omega)⟩
      cases z with
      | true =>
        exact Ends.eqv (rFormed_0_1 p i u y true true (by (simp only [decide_eq_true_eq, decide_eq_false_iff_not]; omega)) (by omega) (by assumption) (by (apply wrap64 <;> omega)) hin rfl (by omega) (by omega) hz rfl) (by simp [marks, hz])
      | false =>
        refine (rFormed_0_2 p i u y true false (by (simp only [decide_eq_true_eq, decide_eq_false_iff_not]; omega)) (by omega) (by assumption) (by (apply wrap64 <;> omega)) hin rfl (by omega) (by omega) hz rfl (by (apply wrap64 <;> omega))).ends ?_
        exact Ends.eqv (rF0 p hp hn hc hf t (i + 1) (u.set y.toNat true) (by simpa using hu) g2) (by simp [marks, k1, hz])
theorem rFormed_pure (p : Prog) (hp : smallProg p = true) : Pure PP 33 [Prog.av p] (.bool (refFormed p)) := by
  refine pure_at (by kernel_rfl) rfl rfl ?_
  have hs := hp
  simp only [smallProg, Bool.and_eq_true, decide_eq_true_eq] at hs
  obtain ⟨⟨⟨⟨s1, s2⟩, s3⟩, _⟩, _⟩ := hs
  by_cases k0 : p.nodes.length ≤ 300
  · have hi1 := rIn_pure (p.funs.length : Int) 1 (p.nodes.length : Int)
    cases k1 : inB (p.funs.length : Int) 1 (p.nodes.length : Int) with
    | false =>
      rw [k1] at hi1
      exact Ends.eqv (rFormed_E_1 p false (by (simp only [decide_eq_true_eq, decide_eq_false_iff_not]; omega)) hi1 rfl) (by simp [refFormed, progHead, k1])
    | true =>
      rw [k1] at hi1
      have hi2 := rIn_pure p.main 0 ((p.funs.length : Int) - 1)
      cases k2 : inB p.main 0 ((p.funs.length : Int) - 1) with
      | false =>
        rw [k2] at hi2
        exact Ends.eqv (rFormed_E_2 p true false (by (simp only [decide_eq_true_eq, decide_eq_false_iff_not]; omega)) hi1 rfl (by (apply wrap64 <;> omega)) hi2 rfl) (by simp [refFormed, progHead, k2])
      | true =>
        rw [k2] at hi2
        have hco := rCons_pure p.cons (by omega)
        cases k3 : consOk p.cons with
        | false =>
          rw [k3] at hco
          exact Ends.eqv (rFormed_E_3 p true true false (by (simp only [decide_eq_true_eq, decide_eq_false_iff_not]; omega)) hi1 rfl (by (apply wrap64 <;> omega)) hi2 rfl hco rfl) (by simp [refFormed, k3])
        | true =>
          rw [k3] at hco
          refine (rFormed_E_4 p true true true (by (simp only [decide_eq_true_eq, decide_eq_false_iff_not]; omega)) hi1 rfl (by (apply wrap64 <;> omega)) hi2 rfl hco rfl (by omega)).ends ?_
          refine Ends.eqv (rF0 p hp (by omega) (by omega) (by omega) p.funs 0 _ (by simp) rfl) ?_
          have e : progHead p = true := by simp [progHead, k0, k1, k2]
          simp only [refFormed, e, k3, Bool.true_and]
  · exact Ends.eqv (rFormed_E_0 p (by (simp only [decide_eq_true_eq, decide_eq_false_iff_not]; omega))) (by simp [refFormed, progHead, k0])
def checkN (b : Bool) : Int := if b = true then 0 else 2
end Go.Hb

