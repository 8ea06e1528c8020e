/-
  OWN WORK (the ways WRITTEN BY A PROGRAM): small laws of the program's functions.
-/
import Derived.Test.YtogkjcpighphfaaGreatHG2
set_option linter.unusedVariables false
set_option linter.unusedSimpArgs false
set_option linter.unusedSectionVars false
namespace Go.Hb
open Go.Proofs
theorem bIn_E_0 (n : Int) (lo : Int) (hi : Int) (h0 : (decide (n ≥ lo)) = true) :
    Ends PP 0 (start PP 65 [(.int .i64 n), (.int .i64 lo), (.int .i64 hi)]).as (.ret (.bool (decide (n ≤ hi)))) (hpOf [] 0) :=
  wE 0 [ty h0] [.run 10, .b 10 true, .run 7] (by kernel_rfl) (by kernel_rfl) trivial h0
theorem bIn_E_1 (n : Int) (lo : Int) (hi : Int) (h0 : (decide (n ≥ lo)) = false) :
    Ends PP 0 (start PP 65 [(.int .i64 n), (.int .i64 lo), (.int .i64 hi)]).as (.ret (.bool false)) (hpOf [] 0) :=
  wE 0 [ty h0] [.run 10, .b 10 false, .run 7] (by kernel_rfl) (by kernel_rfl) trivial h0
theorem bInt_E_0 (n : Int) (y0 : Bool) (h0 : Pure PP 65 [(.int .i64 n), (.int .i64 (-1000000000)), (.int .i64 1000000000)] (.bool y0)) :
    Ends PP 0 (start PP 180 [(.int .i64 n)]).as (.ret (.bool y0)) (hpOf [] 0) :=
  wE 0 [ty h0] [.run 7, .pure (.bool y0), .run 3] (by kernel_rfl) (by kernel_rfl) trivial h0
noncomputable def bSmall_c0 (s : Str) (p0 : Nat) : TS :=
  { fr := { fn := 148, nt := 16, sl := [(2, (.bool false)), (6, (.ptr 0 0))], todo := [.code (cd Tryz.f148 [1, 0, 1, 0, 0]), .inLoop (cd Tryz.f148 [1, 0, 1, 0, 0]), .inBlock 0, .code (cd Tryz.f148 [1, 1])] }, cs := [], hp := [(0, (.siter (List.length s) (bytesNat s) p0), false)], nb := 1 }
theorem bSmall_E_0 (s : Str) :
    LeadsM PP 0 (start PP 148 [(avS s)]).as (bSmall_c0 s 0).as :=
  wW 1 [0] [] [.run 12] (by kernel_rfl) (by kernel_rfl) trivial trivial
theorem bSmall_0_0 (s : Str) (p0 : Nat) (c0 : Nat) (d1 : Nat) (h0 : p0 < (List.length s)) (h1 : adec (List.length s) (bytesNat s) p0 = some (c0, d1)) (h2 : (decide (((c0 : Nat) : Int) < (97 : Int))) = true) :
    Ends PP 0 (bSmall_c0 s p0).as (.ret (.bool false)) (hpOf [] 0) :=
  wE 1 [ty h0, ty h1, ty h2] [.run 2, .nxt c0 d1, .run 16, .b 12 true, .run 10] (by kernel_rfl) (by kernel_rfl) trivial ⟨h0, h1, h2⟩
theorem bSmall_0_1 (s : Str) (p0 : Nat) (c0 : Nat) (d1 : Nat) (h0 : p0 < (List.length s)) (h1 : adec (List.length s) (bytesNat s) p0 = some (c0, d1)) (h2 : (decide (((c0 : Nat) : Int) < (97 : Int))) = false) (h3 : (decide (((c0 : Nat) : Int) > (122 : Int))) = true) :
    Ends PP 0 (bSmall_c0 s p0).as (.ret (.bool false)) (hpOf [] 0) :=
  wE 1 [ty h0, ty h1, ty h2, ty h3] [.run 2, .nxt c0 d1, .run 16, .b 12 false, .run 4, .b 15 true, .run 6] (by kernel_rfl) (by kernel_rfl) trivial ⟨h0, h1, h2, h3⟩
theorem bSmall_0_2 (s : Str) (p0 : Nat) (c0 : Nat) (d1 : Nat) (h0 : p0 < (List.length s)) (h1 : adec (List.length s) (bytesNat s) p0 = some (c0, d1)) (h2 : (decide (((c0 : Nat) : Int) < (97 : Int))) = false) (h3 : (decide (((c0 : Nat) : Int) > (122 : Int))) = false) :
    LeadsM PP 0 (bSmall_c0 s p0).as (bSmall_c0 s (Nat.add p0 d1)).as :=
  wW 1 [0] [ty h0, ty h1, ty h2, ty h3] [.run 2, .nxt c0 d1, .run 16, .b 12 false, .run 4, .b 15 false, .run 4] (by kernel_rfl) (by kernel_rfl) trivial ⟨h0, h1, h2, h3⟩
theorem bSmall_0_3 (s : Str) (p0 : Nat) (h0 : (List.length s) ≤ p0) :
    Ends PP 0 (bSmall_c0 s p0).as (.ret (.bool true)) (hpOf [] 0) :=
  wE 1 [ty h0] [.run 2, .nxtE, .run 10] (by kernel_rfl) (by kernel_rfl) trivial h0
theorem bGreat_E_0 (s : Str) (y0 : UInt8) (y1 : Bool) (h0 : (!(strEq (List.length s) (bytesNat s) 0 0)) = true) (h1 : (decide (((List.length s : Nat) : Int) ≤ (8 : Int))) = true) (h2 : (s)[0]? = some y0) (h3 : (decide (((y0.toNat : Nat) : Int) ≥ (65 : Int))) = true) (h4 : (decide (((y0.toNat : Nat) : Int) ≤ (90 : Int))) = true) (h5 : 1 ≤ List.length s) (h6 : Pure PP 148 [(avS (List.drop 1 s))] (.bool y1)) :
    Ends PP 0 (start PP 128 [(avS s)]).as (.ret (.bool y1)) (hpOf [] 0) :=
  wE 0 [ty h0, ty h1, 0 ≤ (0 : Int), (0 : Int) < ((List.length s : Nat) : Int), AV.int .u8 ((Nat.mod (Nat.div (bytesNat s) (Nat.pow 256 (0 : Int).toNat)) 256 : Nat) : Int) = (.int .u8 ((y0.toNat : Nat) : Int)), ty h3, 0 ≤ (0 : Int), (0 : Int) < ((List.length s : Nat) : Int), AV.int .u8 ((Nat.mod (Nat.div (bytesNat s) (Nat.pow 256 (0 : Int).toNat)) 256 : Nat) : Int) = (.int .u8 ((y0.toNat : Nat) : Int)), ty h4, SlOk PP 9 (avS s) (some (.int .i64 1)) none (avS (List.drop 1 s)), ty h6] [.run 9, .b 5 true, .run 5, .b 10 true, .run 1, .ans (.ev (.int .u8 ((y0.toNat : Nat) : Int))), .run 3, .b 15 true, .run 1, .ans (.ev (.int .u8 ((y0.toNat : Nat) : Int))), .run 3, .b 20 true, .run 1, .ans (.ev (avS (List.drop 1 s))), .pure (.bool y1), .run 4] (by kernel_rfl) (by kernel_rfl) trivial ⟨h0, h1, (by decide), (str_lt (k := (0 : Int)) (by decide) h2), (str_at (k := (0 : Int)) h2), h3, (by decide), (str_lt (k := (0 : Int)) (by decide) h2), (str_at (k := (0 : Int)) h2), h4, (sl_str_from (k := (1 : Int)) (by kernel_rfl) (by decide) h5), h6⟩
theorem bGreat_E_1 (s : Str) (y0 : UInt8) (h0 : (!(strEq (List.length s) (bytesNat s) 0 0)) = true) (h1 : (decide (((List.length s : Nat) : Int) ≤ (8 : Int))) = true) (h2 : (s)[0]? = some y0) (h3 : (decide (((y0.toNat : Nat) : Int) ≥ (65 : Int))) = true) (h4 : (decide (((y0.toNat : Nat) : Int) ≤ (90 : Int))) = false) :
    Ends PP 0 (start PP 128 [(avS s)]).as (.ret (.bool false)) (hpOf [] 0) :=
  wE 0 [ty h0, ty h1, 0 ≤ (0 : Int), (0 : Int) < ((List.length s : Nat) : Int), AV.int .u8 ((Nat.mod (Nat.div (bytesNat s) (Nat.pow 256 (0 : Int).toNat)) 256 : Nat) : Int) = (.int .u8 ((y0.toNat : Nat) : Int)), ty h3, 0 ≤ (0 : Int), (0 : Int) < ((List.length s : Nat) : Int), AV.int .u8 ((Nat.mod (Nat.div (bytesNat s) (Nat.pow 256 (0 : Int).toNat)) 256 : Nat) : Int) = (.int .u8 ((y0.toNat : Nat) : Int)), ty h4] [.run 9, .b 5 true, .run 5, .b 10 true, .run 1, .ans (.ev (.int .u8 ((y0.toNat : Nat) : Int))), .run 3, .b 15 true, .run 1, .ans (.ev (.int .u8 ((y0.toNat : Nat) : Int))), .run 3, .b 20 false, .run 7] (by kernel_rfl) (by kernel_rfl) trivial ⟨h0, h1, (by decide), (str_lt (k := (0 : Int)) (by decide) h2), (str_at (k := (0 : Int)) h2), h3, (by decide), (str_lt (k := (0 : Int)) (by decide) h2), (str_at (k := (0 : Int)) h2), h4⟩
theorem bGreat_E_2 (s : Str) (y0 : UInt8) (h0 : (!(strEq (List.length s) (bytesNat s) 0 0)) = true) (h1 : (decide (((List.length s : Nat) : Int) ≤ (8 : Int))) = true) (h2 : (s)[0]? = some y0) (h3 : (decide (((y0.toNat : Nat) : Int) ≥ (65 : Int))) = false) :
    Ends PP 0 (start PP 128 [(avS s)]).as (.ret (.bool false)) (hpOf [] 0) :=
  wE 0 [ty h0, ty h1, 0 ≤ (0 : Int), (0 : Int) < ((List.length s : Nat) : Int), AV.int .u8 ((Nat.mod (Nat.div (bytesNat s) (Nat.pow 256 (0 : Int).toNat)) 256 : Nat) : Int) = (.int .u8 ((y0.toNat : Nat) : Int)), ty h3] [.run 9, .b 5 true, .run 5, .b 10 true, .run 1, .ans (.ev (.int .u8 ((y0.toNat : Nat) : Int))), .run 3, .b 15 false, .run 12] (by kernel_rfl) (by kernel_rfl) trivial ⟨h0, h1, (by decide), (str_lt (k := (0 : Int)) (by decide) h2), (str_at (k := (0 : Int)) h2), h3⟩
theorem bGreat_E_3 (s : Str) (h0 : (!(strEq (List.length s) (bytesNat s) 0 0)) = true) (h1 : (decide (((List.length s : Nat) : Int) ≤ (8 : Int))) = false) :
    Ends PP 0 (start PP 128 [(avS s)]).as (.ret (.bool false)) (hpOf [] 0) :=
  wE 0 [ty h0, ty h1] [.run 9, .b 5 true, .run 5, .b 10 false, .run 17] (by kernel_rfl) (by kernel_rfl) trivial ⟨h0, h1⟩
theorem bGreat_E_4 (s : Str) (h0 : (!(strEq (List.length s) (bytesNat s) 0 0)) = false) :
    Ends PP 0 (start PP 128 [(avS s)]).as (.ret (.bool false)) (hpOf [] 0) :=
  wE 0 [ty h0] [.run 9, .b 5 false, .run 22] (by kernel_rfl) (by kernel_rfl) trivial h0
theorem bCon_E_0 (c : Con) (y0 : Bool) (y1 : Bool) (h0 : Pure PP 128 [(avS c.name)] (.bool y0)) (h1 : y0 = true) (h2 : Pure PP 65 [(.int .i64 c.args), (.int .i64 0), (.int .i64 3)] (.bool y1)) :
    Ends PP 0 (start PP 74 [(.agg [(avS c.name), (.int .i64 c.args)])]).as (.ret (.bool y1)) (hpOf [] 0) :=
  wE 1 [ty h0, ty h1, ty h2] [.run 9, .pure (.bool y0), .run 1, .b 6 true, .run 2, .pure (.bool y1), .run 4] (by kernel_rfl) (by kernel_rfl) trivial ⟨h0, h1, h2⟩
theorem bCon_E_1 (c : Con) (y0 : Bool) (h0 : Pure PP 128 [(avS c.name)] (.bool y0)) (h1 : y0 = false) :
    Ends PP 0 (start PP 74 [(.agg [(avS c.name), (.int .i64 c.args)])]).as (.ret (.bool false)) (hpOf [] 0) :=
  wE 1 [ty h0, ty h1] [.run 9, .pure (.bool y0), .run 1, .b 6 false, .run 7] (by kernel_rfl) (by kernel_rfl) trivial ⟨h0, h1⟩
theorem bNumber_E_0 (p : Prog) (x : Node) (y0 : Bool) (h0 : (x.op == (1 : Int)) = true) (h1 : Pure PP 180 [(.int .i64 x.n)] (.bool y0)) :
    Ends PP 0 (start PP 134 [(Prog.av p), (Node.av x)]).as (.ret (.bool y0)) (hpOf [] 0) :=
  wE 2 [ty h0, ty h1] [.run 18, .b 7 true, .run 5, .pure (.bool y0), .run 3] (by kernel_rfl) (by kernel_rfl) trivial ⟨h0, h1⟩
theorem bNumber_E_1 (p : Prog) (x : Node) (y0 : Bool) (h0 : (x.op == (1 : Int)) = false) (h1 : (x.op == (2 : Int)) = true) (h2 : Pure PP 65 [(.int .i64 x.n), (.int .i64 0), (.int .i64 1)] (.bool y0)) :
    Ends PP 0 (start PP 134 [(Prog.av p), (Node.av x)]).as (.ret (.bool y0)) (hpOf [] 0) :=
  wE 2 [ty h0, ty h1, ty h2] [.run 18, .b 7 false, .run 6, .b 12 true, .run 5, .pure (.bool y0), .run 3] (by kernel_rfl) (by kernel_rfl) trivial ⟨h0, h1, h2⟩
theorem bNumber_E_2 (p : Prog) (x : Node) (y0 : Bool) (h0 : (x.op == (1 : Int)) = false) (h1 : (x.op == (2 : Int)) = false) (h2 : (x.op == (24 : Int)) = true) (h3 : Pure PP 65 [(.int .i64 x.n), (.int .i64 0), (.int .i64 3)] (.bool y0)) :
    Ends PP 0 (start PP 134 [(Prog.av p), (Node.av x)]).as (.ret (.bool y0)) (hpOf [] 0) :=
  wE 2 [ty h0, ty h1, ty h2, ty h3] [.run 18, .b 7 false, .run 6, .b 12 false, .run 6, .b 17 true, .run 5, .pure (.bool y0), .run 3] (by kernel_rfl) (by kernel_rfl) trivial ⟨h0, h1, h2, h3⟩
theorem bNumber_E_3 (p : Prog) (x : Node) (y0 : Bool) (h0 : (x.op == (1 : Int)) = false) (h1 : (x.op == (2 : Int)) = false) (h2 : (x.op == (24 : Int)) = false) (h3 : (x.op == (4 : Int)) = true) (h4 : (IntKind.i64.wrap (0 - ((List.length p.funs : Nat) : Int))) = (0 - ((List.length p.funs : Nat) : Int))) (h5 : Pure PP 65 [(.int .i64 x.n), (.int .i64 (0 - ((List.length p.funs : Nat) : Int))), (.int .i64 29)] (.bool y0)) :
    Ends PP 0 (start PP 134 [(Prog.av p), (Node.av x)]).as (.ret (.bool y0)) (hpOf [] 0) :=
  wE 2 [ty h0, ty h1, ty h2, ty h3, ((List.length (List.map avI p.funs) : Nat) : Int) = ((List.length p.funs : Nat) : Int), (AV.int .i64 (IntKind.i64.wrap (0 - ((List.length p.funs : Nat) : Int)))) = (.int .i64 (0 - ((List.length p.funs : Nat) : Int))), ty h5] [.run 18, .b 7 false, .run 6, .b 12 false, .run 6, .b 17 false, .run 6, .b 22 true, .run 8, .ans (.len ((List.length p.funs : Nat) : Int)), .run 1, .set 30 (.int .i64 (0 - ((List.length p.funs : Nat) : Int))), .pure (.bool y0), .run 3] (by kernel_rfl) (by kernel_rfl) trivial ⟨h0, h1, h2, h3, (len_i _ _), (congrArg (AV.int .i64) h4), h5⟩
theorem bNumber_E_4 (p : Prog) (x : Node) (h0 : (x.op == (1 : Int)) = false) (h1 : (x.op == (2 : Int)) = false) (h2 : (x.op == (24 : Int)) = false) (h3 : (x.op == (4 : Int)) = false) (h4 : (x.op == (14 : Int)) = true) :
    Ends PP 0 (start PP 134 [(Prog.av p), (Node.av x)]).as (.ret (.bool true)) (hpOf [] 0) :=
  wE 2 [ty h0, ty h1, ty h2, ty h3, ty h4] [.run 18, .b 7 false, .run 6, .b 12 false, .run 6, .b 17 false, .run 6, .b 22 false, .run 6, .b 32 true, .run 6] (by kernel_rfl) (by kernel_rfl) trivial ⟨h0, h1, h2, h3, h4⟩
theorem bNumber_E_5 (p : Prog) (x : Node) (h0 : (x.op == (1 : Int)) = false) (h1 : (x.op == (2 : Int)) = false) (h2 : (x.op == (24 : Int)) = false) (h3 : (x.op == (4 : Int)) = false) (h4 : (x.op == (14 : Int)) = false) :
    Ends PP 0 (start PP 134 [(Prog.av p), (Node.av x)]).as (.ret (.bool (x.n == (0 : Int)))) (hpOf [] 0) :=
  wE 2 [ty h0, ty h1, ty h2, ty h3, ty h4] [.run 18, .b 7 false, .run 6, .b 12 false, .run 6, .b 17 false, .run 6, .b 22 false, .run 6, .b 32 false, .run 11] (by kernel_rfl) (by kernel_rfl) trivial ⟨h0, h1, h2, h3, h4⟩
noncomputable def bSize_c0 (p_form : Int) (p_n : Int) (p_text : Str) (p_parts : (List Pat)) (most : Int) (n5 : Int) (t11 : Int) : TS :=
  { fr := { fn := 132, nt := 27, sl := [(1, (.int .i64 most)), (4, (.int .i64 0)), (5, (.int .i64 n5)), (9, (.ilst 4 (Pats.av p_parts) false)), (10, (.int .i64 ((List.length p_parts : Nat) : Int))), (11, (.int .i64 t11))], todo := [.code (cd Tryz.f132 [1, 1, 0, 1, 0, 0]), .inLoop (cd Tryz.f132 [1, 1, 0, 1, 0, 0]), .inBlock 0, .code (cd Tryz.f132 [1, 1, 1])] }, cs := [], hp := [], nb := 0 }
theorem bSize_E_0 (p_form : Int) (p_n : Int) (p_text : Str) (p_parts : (List Pat)) (most : Int) :
    LeadsM PP 0 (start PP 132 [(.agg [(.int .i64 p_form), (.int .i64 p_n), (avS p_text), (.ilst 4 (Pats.av p_parts) false)]), (.int .i64 most)]).as (bSize_c0 p_form p_n p_text p_parts most 1 0).as :=
  wW 1 [] [((List.length (Pats.av p_parts) : Nat) : Int) = ((List.length p_parts : Nat) : Int)] [.run 14, .ans (.len ((List.length p_parts : Nat) : Int)), .run 4] (by kernel_rfl) (by kernel_rfl) trivial (len_iF pats_map _)
theorem bSize_0_0 (p_form : Int) (p_n : Int) (p_text : Str) (p_parts : (List Pat)) (most : Int) (n5 : Int) (t11 : Int) (y_form0 : Int) (y_n1 : Int) (y_text2 : Str) (y_parts3 : (List Pat)) (h0 : (decide (t11 < ((List.length p_parts : Nat) : Int))) = true) (h1 : 0 ≤ t11) (h2 : ((p_parts)[t11.toNat]?) = some (Pat.mk y_form0 y_n1 y_text2 y_parts3)) (h3 : (decide (n5 > most)) = true) :
    Ends PP 0 (bSize_c0 p_form p_n p_text p_parts most n5 t11).as (.ret (.int .i64 n5)) (hpOf [] 0) :=
  wE 1 [ty h0, 0 ≤ t11, (Pats.av p_parts)[t11.toNat]? = some (Pat.av (Pat.mk y_form0 y_n1 y_text2 y_parts3)), ty h3] [.run 5, .b 12 true, .run 6, .ans (.idx (Pat.av (Pat.mk y_form0 y_n1 y_text2 y_parts3))), .run 11, .b 17 true, .run 8] (by kernel_rfl) (by kernel_rfl) trivial ⟨h0, h1, (map_getF pats_map h2), h3⟩
theorem bSize_0_1 (p_form : Int) (p_n : Int) (p_text : Str) (p_parts : (List Pat)) (most : Int) (n5 : Int) (t11 : Int) (y_form0 : Int) (y_n1 : Int) (y_text2 : Str) (y_parts3 : (List Pat)) (y4 : Int) (h0 : (decide (t11 < ((List.length p_parts : Nat) : Int))) = true) (h1 : 0 ≤ t11) (h2 : ((p_parts)[t11.toNat]?) = some (Pat.mk y_form0 y_n1 y_text2 y_parts3)) (h3 : (decide (n5 > most)) = false) (h4 : (IntKind.i64.wrap (most - n5)) = (most - n5)) (h5 : Pure PP 132 [(.agg [(.int .i64 y_form0), (.int .i64 y_n1), (avS y_text2), (.ilst 4 (Pats.av y_parts3) false)]), (.int .i64 (most - n5))] (.int .i64 y4)) (h6 : (IntKind.i64.wrap (n5 + y4)) = (n5 + y4)) (h7 : (IntKind.i64.wrap (t11 + (1 : Int))) = (t11 + (1 : Int))) :
    LeadsM PP 0 (bSize_c0 p_form p_n p_text p_parts most n5 t11).as (bSize_c0 p_form p_n p_text p_parts most (n5 + y4) (t11 + (1 : Int))).as :=
  wW 1 [] [ty h0, 0 ≤ t11, (Pats.av p_parts)[t11.toNat]? = some (Pat.av (Pat.mk y_form0 y_n1 y_text2 y_parts3)), ty h3, (AV.int .i64 (IntKind.i64.wrap (most - n5))) = (.int .i64 (most - n5)), ty h5, (AV.int .i64 (IntKind.i64.wrap (n5 + y4))) = (.int .i64 (n5 + y4)), (AV.int .i64 (IntKind.i64.wrap (t11 + (1 : Int)))) = (.int .i64 (t11 + (1 : Int)))] [.run 5, .b 12 true, .run 6, .ans (.idx (Pat.av (Pat.mk y_form0 y_n1 y_text2 y_parts3))), .run 11, .b 17 false, .run 8, .set 22 (.int .i64 (most - n5)), .pure (.int .i64 y4), .run 1, .set 24 (.int .i64 (n5 + y4)), .run 5, .set 25 (.int .i64 (t11 + (1 : Int))), .run 3] (by kernel_rfl) (by kernel_rfl) trivial ⟨h0, h1, (map_getF pats_map h2), h3, (congrArg (AV.int .i64) h4), h5, (congrArg (AV.int .i64) h6), (congrArg (AV.int .i64) h7)⟩
theorem bSize_0_2 (p_form : Int) (p_n : Int) (p_text : Str) (p_parts : (List Pat)) (most : Int) (n5 : Int) (t11 : Int) (h0 : (decide (t11 < ((List.length p_parts : Nat) : Int))) = false) :
    Ends PP 0 (bSize_c0 p_form p_n p_text p_parts most n5 t11).as (.ret (.int .i64 n5)) (hpOf [] 0) :=
  wE 0 [ty h0] [.run 5, .b 12 false, .run 8] (by kernel_rfl) (by kernel_rfl) trivial h0
theorem bPat_E_0 (p : Prog) (q_form : Int) (q_n : Int) (q_text : Str) (q_parts : (List Pat)) (h0 : (!(strEq (List.length q_text) (bytesNat q_text) 0 0)) = true) :
    Ends PP 0 (start PP 133 [(Prog.av p), (.agg [(.int .i64 q_form), (.int .i64 q_n), (avS q_text), (.ilst 4 (Pats.av q_parts) false)])]).as (.ret (.bool false)) (hpOf [] 0) :=
  wE 2 [ty h0] [.run 13, .b 8 true, .run 14] (by kernel_rfl) (by kernel_rfl) trivial h0
theorem bPat_E_1 (p : Prog) (q_form : Int) (q_n : Int) (q_text : Str) (q_parts : (List Pat)) (y0 : Bool) (h0 : (!(strEq (List.length q_text) (bytesNat q_text) 0 0)) = false) (h1 : Pure PP 135 [(.ilst 4 (Pats.av q_parts) false), (.func 133 [(Prog.av p)] [])] (.bool y0)) (h2 : (!y0) = true) :
    Ends PP 0 (start PP 133 [(Prog.av p), (.agg [(.int .i64 q_form), (.int .i64 q_n), (avS q_text), (.ilst 4 (Pats.av q_parts) false)])]).as (.ret (.bool false)) (hpOf [] 0) :=
  wE 2 [ty h0, ty h1, ty h2] [.run 13, .b 8 false, .run 4, .pure (.bool y0), .run 3, .b 15 true, .run 6] (by kernel_rfl) (by kernel_rfl) trivial ⟨h0, h1, h2⟩
theorem bPat_E_2 (p : Prog) (q_form : Int) (q_n : Int) (q_text : Str) (q_parts : (List Pat)) (y0 : Bool) (h0 : (!(strEq (List.length q_text) (bytesNat q_text) 0 0)) = false) (h1 : Pure PP 135 [(.ilst 4 (Pats.av q_parts) false), (.func 133 [(Prog.av p)] [])] (.bool y0)) (h2 : (!y0) = false) (h3 : (q_form == (1 : Int)) = true) (h4 : (q_n == (0 : Int)) = true) :
    Ends PP 0 (start PP 133 [(Prog.av p), (.agg [(.int .i64 q_form), (.int .i64 q_n), (avS q_text), (.ilst 4 (Pats.av q_parts) false)])]).as (.ret (.bool (((List.length q_parts : Nat) : Int) == (0 : Int)))) (hpOf [] 0) :=
  wE 2 [ty h0, ty h1, ty h2, ty h3, ty h4, ((List.length (Pats.av q_parts) : Nat) : Int) = ((List.length q_parts : Nat) : Int)] [.run 13, .b 8 false, .run 4, .pure (.bool y0), .run 3, .b 15 false, .run 15, .b 18 true, .run 9, .b 25 true, .run 2, .ans (.len ((List.length q_parts : Nat) : Int)), .run 5] (by kernel_rfl) (by kernel_rfl) trivial ⟨h0, h1, h2, h3, h4, (len_iF pats_map _)⟩
theorem bPat_E_3 (p : Prog) (q_form : Int) (q_n : Int) (q_text : Str) (q_parts : (List Pat)) (y0 : Bool) (h0 : (!(strEq (List.length q_text) (bytesNat q_text) 0 0)) = false) (h1 : Pure PP 135 [(.ilst 4 (Pats.av q_parts) false), (.func 133 [(Prog.av p)] [])] (.bool y0)) (h2 : (!y0) = false) (h3 : (q_form == (1 : Int)) = true) (h4 : (q_n == (0 : Int)) = false) :
    Ends PP 0 (start PP 133 [(Prog.av p), (.agg [(.int .i64 q_form), (.int .i64 q_n), (avS q_text), (.ilst 4 (Pats.av q_parts) false)])]).as (.ret (.bool false)) (hpOf [] 0) :=
  wE 2 [ty h0, ty h1, ty h2, ty h3, ty h4] [.run 13, .b 8 false, .run 4, .pure (.bool y0), .run 3, .b 15 false, .run 15, .b 18 true, .run 9, .b 25 false, .run 8] (by kernel_rfl) (by kernel_rfl) trivial ⟨h0, h1, h2, h3, h4⟩
theorem bPat_E_4 (p : Prog) (q_form : Int) (q_n : Int) (q_text : Str) (q_parts : (List Pat)) (y0 : Bool) (h0 : (!(strEq (List.length q_text) (bytesNat q_text) 0 0)) = false) (h1 : Pure PP 135 [(.ilst 4 (Pats.av q_parts) false), (.func 133 [(Prog.av p)] [])] (.bool y0)) (h2 : (!y0) = false) (h3 : (q_form == (1 : Int)) = false) (h4 : (q_form == (2 : Int)) = true) (h5 : (q_n == (0 : Int)) = true) :
    Ends PP 0 (start PP 133 [(Prog.av p), (.agg [(.int .i64 q_form), (.int .i64 q_n), (avS q_text), (.ilst 4 (Pats.av q_parts) false)])]).as (.ret (.bool (((List.length q_parts : Nat) : Int) == (0 : Int)))) (hpOf [] 0) :=
  wE 2 [ty h0, ty h1, ty h2, ty h3, ty h4, ty h5, ((List.length (Pats.av q_parts) : Nat) : Int) = ((List.length q_parts : Nat) : Int)] [.run 13, .b 8 false, .run 4, .pure (.bool y0), .run 3, .b 15 false, .run 15, .b 18 false, .run 6, .b 18 true, .run 9, .b 25 true, .run 2, .ans (.len ((List.length q_parts : Nat) : Int)), .run 5] (by kernel_rfl) (by kernel_rfl) trivial ⟨h0, h1, h2, h3, h4, h5, (len_iF pats_map _)⟩
theorem bPat_E_5 (p : Prog) (q_form : Int) (q_n : Int) (q_text : Str) (q_parts : (List Pat)) (y0 : Bool) (h0 : (!(strEq (List.length q_text) (bytesNat q_text) 0 0)) = false) (h1 : Pure PP 135 [(.ilst 4 (Pats.av q_parts) false), (.func 133 [(Prog.av p)] [])] (.bool y0)) (h2 : (!y0) = false) (h3 : (q_form == (1 : Int)) = false) (h4 : (q_form == (2 : Int)) = true) (h5 : (q_n == (0 : Int)) = false) :
    Ends PP 0 (start PP 133 [(Prog.av p), (.agg [(.int .i64 q_form), (.int .i64 q_n), (avS q_text), (.ilst 4 (Pats.av q_parts) false)])]).as (.ret (.bool false)) (hpOf [] 0) :=
  wE 2 [ty h0, ty h1, ty h2, ty h3, ty h4, ty h5] [.run 13, .b 8 false, .run 4, .pure (.bool y0), .run 3, .b 15 false, .run 15, .b 18 false, .run 6, .b 18 true, .run 9, .b 25 false, .run 8] (by kernel_rfl) (by kernel_rfl) trivial ⟨h0, h1, h2, h3, h4, h5⟩
theorem bPat_E_6 (p : Prog) (q_form : Int) (q_n : Int) (q_text : Str) (q_parts : (List Pat)) (y0 : Bool) (h0 : (!(strEq (List.length q_text) (bytesNat q_text) 0 0)) = false) (h1 : Pure PP 135 [(.ilst 4 (Pats.av q_parts) false), (.func 133 [(Prog.av p)] [])] (.bool y0)) (h2 : (!y0) = false) (h3 : (q_form == (1 : Int)) = false) (h4 : (q_form == (2 : Int)) = false) (h5 : (q_form == (5 : Int)) = true) (h6 : (q_n == (0 : Int)) = true) :
    Ends PP 0 (start PP 133 [(Prog.av p), (.agg [(.int .i64 q_form), (.int .i64 q_n), (avS q_text), (.ilst 4 (Pats.av q_parts) false)])]).as (.ret (.bool (((List.length q_parts : Nat) : Int) == (0 : Int)))) (hpOf [] 0) :=
  wE 2 [ty h0, ty h1, ty h2, ty h3, ty h4, ty h5, ty h6, ((List.length (Pats.av q_parts) : Nat) : Int) = ((List.length q_parts : Nat) : Int)] [.run 13, .b 8 false, .run 4, .pure (.bool y0), .run 3, .b 15 false, .run 15, .b 18 false, .run 6, .b 18 false, .run 5, .b 18 true, .run 7, .b 25 true, .run 2, .ans (.len ((List.length q_parts : Nat) : Int)), .run 5] (by kernel_rfl) (by kernel_rfl) trivial ⟨h0, h1, h2, h3, h4, h5, h6, (len_iF pats_map _)⟩
theorem bPat_E_7 (p : Prog) (q_form : Int) (q_n : Int) (q_text : Str) (q_parts : (List Pat)) (y0 : Bool) (h0 : (!(strEq (List.length q_text) (bytesNat q_text) 0 0)) = false) (h1 : Pure PP 135 [(.ilst 4 (Pats.av q_parts) false), (.func 133 [(Prog.av p)] [])] (.bool y0)) (h2 : (!y0) = false) (h3 : (q_form == (1 : Int)) = false) (h4 : (q_form == (2 : Int)) = false) (h5 : (q_form == (5 : Int)) = true) (h6 : (q_n == (0 : Int)) = false) :
    Ends PP 0 (start PP 133 [(Prog.av p), (.agg [(.int .i64 q_form), (.int .i64 q_n), (avS q_text), (.ilst 4 (Pats.av q_parts) false)])]).as (.ret (.bool false)) (hpOf [] 0) :=
  wE 2 [ty h0, ty h1, ty h2, ty h3, ty h4, ty h5, ty h6] [.run 13, .b 8 false, .run 4, .pure (.bool y0), .run 3, .b 15 false, .run 15, .b 18 false, .run 6, .b 18 false, .run 5, .b 18 true, .run 7, .b 25 false, .run 8] (by kernel_rfl) (by kernel_rfl) trivial ⟨h0, h1, h2, h3, h4, h5, h6⟩
theorem bPat_E_8 (p : Prog) (q_form : Int) (q_n : Int) (q_text : Str) (q_parts : (List Pat)) (y0 : Bool) (y1 : Bool) (h0 : (!(strEq (List.length q_text) (bytesNat q_text) 0 0)) = false) (h1 : Pure PP 135 [(.ilst 4 (Pats.av q_parts) false), (.func 133 [(Prog.av p)] [])] (.bool y0)) (h2 : (!y0) = false) (h3 : (q_form == (1 : Int)) = false) (h4 : (q_form == (2 : Int)) = false) (h5 : (q_form == (5 : Int)) = false) (h6 : (q_form == (3 : Int)) = true) (h7 : Pure PP 180 [(.int .i64 q_n)] (.bool y1)) (h8 : y1 = true) :
    Ends PP 0 (start PP 133 [(Prog.av p), (.agg [(.int .i64 q_form), (.int .i64 q_n), (avS q_text), (.ilst 4 (Pats.av q_parts) false)])]).as (.ret (.bool (((List.length q_parts : Nat) : Int) == (0 : Int)))) (hpOf [] 0) :=
  wE 2 [ty h0, ty h1, ty h2, ty h3, ty h4, ty h5, ty h6, ty h7, ty h8, ((List.length (Pats.av q_parts) : Nat) : Int) = ((List.length q_parts : Nat) : Int)] [.run 13, .b 8 false, .run 4, .pure (.bool y0), .run 3, .b 15 false, .run 15, .b 18 false, .run 6, .b 18 false, .run 5, .b 18 false, .run 6, .b 31 true, .run 5, .pure (.bool y1), .run 1, .b 36 true, .run 2, .ans (.len ((List.length q_parts : Nat) : Int)), .run 5] (by kernel_rfl) (by kernel_rfl) trivial ⟨h0, h1, h2, h3, h4, h5, h6, h7, h8, (len_iF pats_map _)⟩
theorem bPat_E_9 (p : Prog) (q_form : Int) (q_n : Int) (q_text : Str) (q_parts : (List Pat)) (y0 : Bool) (y1 : Bool) (h0 : (!(strEq (List.length q_text) (bytesNat q_text) 0 0)) = false) (h1 : Pure PP 135 [(.ilst 4 (Pats.av q_parts) false), (.func 133 [(Prog.av p)] [])] (.bool y0)) (h2 : (!y0) = false) (h3 : (q_form == (1 : Int)) = false) (h4 : (q_form == (2 : Int)) = false) (h5 : (q_form == (5 : Int)) = false) (h6 : (q_form == (3 : Int)) = true) (h7 : Pure PP 180 [(.int .i64 q_n)] (.bool y1)) (h8 : y1 = false) :
    Ends PP 0 (start PP 133 [(Prog.av p), (.agg [(.int .i64 q_form), (.int .i64 q_n), (avS q_text), (.ilst 4 (Pats.av q_parts) false)])]).as (.ret (.bool false)) (hpOf [] 0) :=
  wE 2 [ty h0, ty h1, ty h2, ty h3, ty h4, ty h5, ty h6, ty h7, ty h8] [.run 13, .b 8 false, .run 4, .pure (.bool y0), .run 3, .b 15 false, .run 15, .b 18 false, .run 6, .b 18 false, .run 5, .b 18 false, .run 6, .b 31 true, .run 5, .pure (.bool y1), .run 1, .b 36 false, .run 8] (by kernel_rfl) (by kernel_rfl) trivial ⟨h0, h1, h2, h3, h4, h5, h6, h7, h8⟩
theorem bPat_E_10 (p : Prog) (q_form : Int) (q_n : Int) (q_text : Str) (q_parts : (List Pat)) (y0 : Bool) (y1 : Bool) (h0 : (!(strEq (List.length q_text) (bytesNat q_text) 0 0)) = false) (h1 : Pure PP 135 [(.ilst 4 (Pats.av q_parts) false), (.func 133 [(Prog.av p)] [])] (.bool y0)) (h2 : (!y0) = false) (h3 : (q_form == (1 : Int)) = false) (h4 : (q_form == (2 : Int)) = false) (h5 : (q_form == (5 : Int)) = false) (h6 : (q_form == (3 : Int)) = false) (h7 : (q_form == (4 : Int)) = true) (h8 : Pure PP 65 [(.int .i64 q_n), (.int .i64 0), (.int .i64 1)] (.bool y1)) (h9 : y1 = true) :
    Ends PP 0 (start PP 133 [(Prog.av p), (.agg [(.int .i64 q_form), (.int .i64 q_n), (avS q_text), (.ilst 4 (Pats.av q_parts) false)])]).as (.ret (.bool (((List.length q_parts : Nat) : Int) == (0 : Int)))) (hpOf [] 0) :=
  wE 2 [ty h0, ty h1, ty h2, ty h3, ty h4, ty h5, ty h6, ty h7, ty h8, ty h9, ((List.length (Pats.av q_parts) : Nat) : Int) = ((List.length q_parts : Nat) : Int)] [.run 13, .b 8 false, .run 4, .pure (.bool y0), .run 3, .b 15 false, .run 15, .b 18 false, .run 6, .b 18 false, .run 5, .b 18 false, .run 6, .b 31 false, .run 6, .b 42 true, .run 5, .pure (.bool y1), .run 1, .b 47 true, .run 2, .ans (.len ((List.length q_parts : Nat) : Int)), .run 5] (by kernel_rfl) (by kernel_rfl) trivial ⟨h0, h1, h2, h3, h4, h5, h6, h7, h8, h9, (len_iF pats_map _)⟩
theorem bPat_E_11 (p : Prog) (q_form : Int) (q_n : Int) (q_text : Str) (q_parts : (List Pat)) (y0 : Bool) (y1 : Bool) (h0 : (!(strEq (List.length q_text) (bytesNat q_text) 0 0)) = false) (h1 : Pure PP 135 [(.ilst 4 (Pats.av q_parts) false), (.func 133 [(Prog.av p)] [])] (.bool y0)) (h2 : (!y0) = false) (h3 : (q_form == (1 : Int)) = false) (h4 : (q_form == (2 : Int)) = false) (h5 : (q_form == (5 : Int)) = false) (h6 : (q_form == (3 : Int)) = false) (h7 : (q_form == (4 : Int)) = true) (h8 : Pure PP 65 [(.int .i64 q_n), (.int .i64 0), (.int .i64 1)] (.bool y1)) (h9 : y1 = false) :
    Ends PP 0 (start PP 133 [(Prog.av p), (.agg [(.int .i64 q_form), (.int .i64 q_n), (avS q_text), (.ilst 4 (Pats.av q_parts) false)])]).as (.ret (.bool false)) (hpOf [] 0) :=
  wE 2 [ty h0, ty h1, ty h2, ty h3, ty h4, ty h5, ty h6, ty h7, ty h8, ty h9] [.run 13, .b 8 false, .run 4, .pure (.bool y0), .run 3, .b 15 false, .run 15, .b 18 false, .run 6, .b 18 false, .run 5, .b 18 false, .run 6, .b 31 false, .run 6, .b 42 true, .run 5, .pure (.bool y1), .run 1, .b 47 false, .run 8] (by kernel_rfl) (by kernel_rfl) trivial ⟨h0, h1, h2, h3, h4, h5, h6, h7, h8, h9⟩
theorem bPat_E_12 (p : Prog) (q_form : Int) (q_n : Int) (q_text : Str) (q_parts : (List Pat)) (y0 : Bool) (y1 : Bool) (y2 : Con) (h0 : (!(strEq (List.length q_text) (bytesNat q_text) 0 0)) = false) (h1 : Pure PP 135 [(.ilst 4 (Pats.av q_parts) false), (.func 133 [(Prog.av p)] [])] (.bool y0)) (h2 : (!y0) = false) (h3 : (q_form == (1 : Int)) = false) (h4 : (q_form == (2 : Int)) = false) (h5 : (q_form == (5 : Int)) = false) (h6 : (q_form == (3 : Int)) = false) (h7 : (q_form == (4 : Int)) = false) (h8 : (q_form == (6 : Int)) = true) (h9 : Pure PP 65 [(.int .i64 q_n), (.int .i64 0), (.int .i64 (IntKind.i64.wrap (((List.length p.cons : Nat) : Int) - (1 : Int))))] (.bool y1)) (h10 : y1 = true) (h11 : 0 ≤ q_n) (h12 : ((p.cons)[q_n.toNat]?) = some y2) :
    Ends PP 0 (start PP 133 [(Prog.av p), (.agg [(.int .i64 q_form), (.int .i64 q_n), (avS q_text), (.ilst 4 (Pats.av q_parts) false)])]).as (.ret (.bool (((List.length q_parts : Nat) : Int) == y2.args))) (hpOf [] 0) :=
  wE 2 [ty h0, ty h1, ty h2, ty h3, ty h4, ty h5, ty h6, ty h7, ty h8, ((List.length (List.map Con.av p.cons) : Nat) : Int) = ((List.length p.cons : Nat) : Int), ty h9, ty h10, ((List.length (Pats.av q_parts) : Nat) : Int) = ((List.length q_parts : Nat) : Int), 0 ≤ q_n, (List.map Con.av p.cons)[q_n.toNat]? = some (Con.av y2)] [.run 13, .b 8 false, .run 4, .pure (.bool y0), .run 3, .b 15 false, .run 15, .b 18 false, .run 6, .b 18 false, .run 5, .b 18 false, .run 6, .b 31 false, .run 6, .b 42 false, .run 6, .b 53 true, .run 2, .reg [.d, .d, .d, .d, .d, .ans (.len ((List.length p.cons : Nat) : Int)), .d, .pure (.bool y1), .d, .b 63 true, .d, .d, .ans (.len ((List.length q_parts : Nat) : Int)), .d, .d, .d, .d, .d, .ans (.idx (Con.av y2)), .d, .d, .d, .d, .d], .run 1] (by kernel_rfl) (by kernel_rfl) trivial ⟨h0, h1, h2, h3, h4, h5, h6, h7, h8, (len_i _ _), h9, h10, (len_iF pats_map _), h11, (map_get h12)⟩
theorem bPat_E_13 (p : Prog) (q_form : Int) (q_n : Int) (q_text : Str) (q_parts : (List Pat)) (y0 : Bool) (y1 : Bool) (h0 : (!(strEq (List.length q_text) (bytesNat q_text) 0 0)) = false) (h1 : Pure PP 135 [(.ilst 4 (Pats.av q_parts) false), (.func 133 [(Prog.av p)] [])] (.bool y0)) (h2 : (!y0) = false) (h3 : (q_form == (1 : Int)) = false) (h4 : (q_form == (2 : Int)) = false) (h5 : (q_form == (5 : Int)) = false) (h6 : (q_form == (3 : Int)) = false) (h7 : (q_form == (4 : Int)) = false) (h8 : (q_form == (6 : Int)) = true) (h9 : Pure PP 65 [(.int .i64 q_n), (.int .i64 0), (.int .i64 (IntKind.i64.wrap (((List.length p.cons : Nat) : Int) - (1 : Int))))] (.bool y1)) (h10 : y1 = false) :
    Ends PP 0 (start PP 133 [(Prog.av p), (.agg [(.int .i64 q_form), (.int .i64 q_n), (avS q_text), (.ilst 4 (Pats.av q_parts) false)])]).as (.ret (.bool false)) (hpOf [] 0) :=
  wE 2 [ty h0, ty h1, ty h2, ty h3, ty h4, ty h5, ty h6, ty h7, ty h8, ((List.length (List.map Con.av p.cons) : Nat) : Int) = ((List.length p.cons : Nat) : Int), ty h9, ty h10] [.run 13, .b 8 false, .run 4, .pure (.bool y0), .run 3, .b 15 false, .run 15, .b 18 false, .run 6, .b 18 false, .run 5, .b 18 false, .run 6, .b 31 false, .run 6, .b 42 false, .run 6, .b 53 true, .run 2, .reg [.d, .d, .d, .d, .d, .ans (.len ((List.length p.cons : Nat) : Int)), .d, .pure (.bool y1), .d, .b 63 false, .d, .d, .d, .d, .d, .d, .d, .d, .d, .d, .d, .d, .d, .d], .run 1] (by kernel_rfl) (by kernel_rfl) trivial ⟨h0, h1, h2, h3, h4, h5, h6, h7, h8, (len_i _ _), h9, h10⟩
theorem bPat_E_14 (p : Prog) (q_form : Int) (q_n : Int) (q_text : Str) (q_parts : (List Pat)) (y0 : Bool) (h0 : (!(strEq (List.length q_text) (bytesNat q_text) 0 0)) = false) (h1 : Pure PP 135 [(.ilst 4 (Pats.av q_parts) false), (.func 133 [(Prog.av p)] [])] (.bool y0)) (h2 : (!y0) = false) (h3 : (q_form == (1 : Int)) = false) (h4 : (q_form == (2 : Int)) = false) (h5 : (q_form == (5 : Int)) = false) (h6 : (q_form == (3 : Int)) = false) (h7 : (q_form == (4 : Int)) = false) (h8 : (q_form == (6 : Int)) = false) :
    Ends PP 0 (start PP 133 [(Prog.av p), (.agg [(.int .i64 q_form), (.int .i64 q_n), (avS q_text), (.ilst 4 (Pats.av q_parts) false)])]).as (.ret (.bool false)) (hpOf [] 0) :=
  wE 2 [ty h0, ty h1, ty h2, ty h3, ty h4, ty h5, ty h6, ty h7, ty h8] [.run 13, .b 8 false, .run 4, .pure (.bool y0), .run 3, .b 15 false, .run 15, .b 18 false, .run 6, .b 18 false, .run 5, .b 18 false, .run 6, .b 31 false, .run 6, .b 42 false, .run 6, .b 53 false, .run 8] (by kernel_rfl) (by kernel_rfl) trivial ⟨h0, h1, h2, h3, h4, h5, h6, h7, h8⟩
theorem bKidsOf_E_0 (op : Int) (h0 : (op == (1 : Int)) = true) :
    Ends PP 0 (start PP 130 [(.int .i64 op)]).as (.ret (.iface 231 (.int .i64 0))) (hpOf [] 0) :=
  wE 0 [ty h0] [.run 16, .b 4 true, .run 9] (by kernel_rfl) (by kernel_rfl) trivial h0
theorem bKidsOf_E_1 (op : Int) (h0 : (op == (1 : Int)) = false) (h1 : (op == (2 : Int)) = true) :
    Ends PP 0 (start PP 130 [(.int .i64 op)]).as (.ret (.iface 231 (.int .i64 0))) (hpOf [] 0) :=
  wE 0 [ty h0, ty h1] [.run 16, .b 4 false, .run 6, .b 4 true, .run 9] (by kernel_rfl) (by kernel_rfl) trivial ⟨h0, h1⟩
theorem bKidsOf_E_2 (op : Int) (h0 : (op == (1 : Int)) = false) (h1 : (op == (2 : Int)) = false) (h2 : (op == (3 : Int)) = true) :
    Ends PP 0 (start PP 130 [(.int .i64 op)]).as (.ret (.iface 231 (.int .i64 0))) (hpOf [] 0) :=
  wE 0 [ty h0, ty h1, ty h2] [.run 16, .b 4 false, .run 6, .b 4 false, .run 6, .b 4 true, .run 9] (by kernel_rfl) (by kernel_rfl) trivial ⟨h0, h1, h2⟩
theorem bKidsOf_E_3 (op : Int) (h0 : (op == (1 : Int)) = false) (h1 : (op == (2 : Int)) = false) (h2 : (op == (3 : Int)) = false) (h3 : (op == (4 : Int)) = true) :
    Ends PP 0 (start PP 130 [(.int .i64 op)]).as (.ret (.iface 231 (.int .i64 0))) (hpOf [] 0) :=
  wE 0 [ty h0, ty h1, ty h2, ty h3] [.run 16, .b 4 false, .run 6, .b 4 false, .run 6, .b 4 false, .run 6, .b 4 true, .run 9] (by kernel_rfl) (by kernel_rfl) trivial ⟨h0, h1, h2, h3⟩
theorem bKidsOf_E_4 (op : Int) (h0 : (op == (1 : Int)) = false) (h1 : (op == (2 : Int)) = false) (h2 : (op == (3 : Int)) = false) (h3 : (op == (4 : Int)) = false) (h4 : (op == (21 : Int)) = true) :
    Ends PP 0 (start PP 130 [(.int .i64 op)]).as (.ret (.iface 231 (.int .i64 0))) (hpOf [] 0) :=
  wE 0 [ty h0, ty h1, ty h2, ty h3, ty h4] [.run 16, .b 4 false, .run 6, .b 4 false, .run 6, .b 4 false, .run 6, .b 4 false, .run 6, .b 4 true, .run 9] (by kernel_rfl) (by kernel_rfl) trivial ⟨h0, h1, h2, h3, h4⟩
theorem bKidsOf_E_5 (op : Int) (h0 : (op == (1 : Int)) = false) (h1 : (op == (2 : Int)) = false) (h2 : (op == (3 : Int)) = false) (h3 : (op == (4 : Int)) = false) (h4 : (op == (21 : Int)) = false) (h5 : (op == (25 : Int)) = true) :
    Ends PP 0 (start PP 130 [(.int .i64 op)]).as (.ret (.iface 231 (.int .i64 0))) (hpOf [] 0) :=
  wE 0 [ty h0, ty h1, ty h2, ty h3, ty h4, ty h5] [.run 16, .b 4 false, .run 6, .b 4 false, .run 6, .b 4 false, .run 6, .b 4 false, .run 6, .b 4 false, .run 6, .b 4 true, .run 9] (by kernel_rfl) (by kernel_rfl) trivial ⟨h0, h1, h2, h3, h4, h5⟩
theorem bKidsOf_E_6 (op : Int) (h0 : (op == (1 : Int)) = false) (h1 : (op == (2 : Int)) = false) (h2 : (op == (3 : Int)) = false) (h3 : (op == (4 : Int)) = false) (h4 : (op == (21 : Int)) = false) (h5 : (op == (25 : Int)) = false) (h6 : (op == (28 : Int)) = true) :
    Ends PP 0 (start PP 130 [(.int .i64 op)]).as (.ret (.iface 231 (.int .i64 0))) (hpOf [] 0) :=
  wE 0 [ty h0, ty h1, ty h2, ty h3, ty h4, ty h5, ty h6] [.run 16, .b 4 false, .run 6, .b 4 false, .run 6, .b 4 false, .run 6, .b 4 false, .run 6, .b 4 false, .run 6, .b 4 false, .run 5, .b 4 true, .run 7] (by kernel_rfl) (by kernel_rfl) trivial ⟨h0, h1, h2, h3, h4, h5, h6⟩
theorem bKidsOf_E_7 (op : Int) (h0 : (op == (1 : Int)) = false) (h1 : (op == (2 : Int)) = false) (h2 : (op == (3 : Int)) = false) (h3 : (op == (4 : Int)) = false) (h4 : (op == (21 : Int)) = false) (h5 : (op == (25 : Int)) = false) (h6 : (op == (28 : Int)) = false) (h7 : (op == (5 : Int)) = true) :
    Ends PP 0 (start PP 130 [(.int .i64 op)]).as (.ret (.iface 231 (.int .i64 1))) (hpOf [] 0) :=
  wE 0 [ty h0, ty h1, ty h2, ty h3, ty h4, ty h5, ty h6, ty h7] [.run 16, .b 4 false, .run 6, .b 4 false, .run 6, .b 4 false, .run 6, .b 4 false, .run 6, .b 4 false, .run 6, .b 4 false, .run 5, .b 4 false, .run 7, .b 13 true, .run 9] (by kernel_rfl) (by kernel_rfl) trivial ⟨h0, h1, h2, h3, h4, h5, h6, h7⟩
theorem bKidsOf_E_8 (op : Int) (h0 : (op == (1 : Int)) = false) (h1 : (op == (2 : Int)) = false) (h2 : (op == (3 : Int)) = false) (h3 : (op == (4 : Int)) = false) (h4 : (op == (21 : Int)) = false) (h5 : (op == (25 : Int)) = false) (h6 : (op == (28 : Int)) = false) (h7 : (op == (5 : Int)) = false) (h8 : (op == (27 : Int)) = true) :
    Ends PP 0 (start PP 130 [(.int .i64 op)]).as (.ret (.iface 231 (.int .i64 1))) (hpOf [] 0) :=
  wE 0 [ty h0, ty h1, ty h2, ty h3, ty h4, ty h5, ty h6, ty h7, ty h8] [.run 16, .b 4 false, .run 6, .b 4 false, .run 6, .b 4 false, .run 6, .b 4 false, .run 6, .b 4 false, .run 6, .b 4 false, .run 5, .b 4 false, .run 7, .b 13 false, .run 6, .b 13 true, .run 9] (by kernel_rfl) (by kernel_rfl) trivial ⟨h0, h1, h2, h3, h4, h5, h6, h7, h8⟩
theorem bKidsOf_E_9 (op : Int) (h0 : (op == (1 : Int)) = false) (h1 : (op == (2 : Int)) = false) (h2 : (op == (3 : Int)) = false) (h3 : (op == (4 : Int)) = false) (h4 : (op == (21 : Int)) = false) (h5 : (op == (25 : Int)) = false) (h6 : (op == (28 : Int)) = false) (h7 : (op == (5 : Int)) = false) (h8 : (op == (27 : Int)) = false) (h9 : (op == (16 : Int)) = true) :
    Ends PP 0 (start PP 130 [(.int .i64 op)]).as (.ret (.iface 231 (.int .i64 1))) (hpOf [] 0) :=
  wE 0 [ty h0, ty h1, ty h2, ty h3, ty h4, ty h5, ty h6, ty h7, ty h8, ty h9] [.run 16, .b 4 false, .run 6, .b 4 false, .run 6, .b 4 false, .run 6, .b 4 false, .run 6, .b 4 false, .run 6, .b 4 false, .run 5, .b 4 false, .run 7, .b 13 false, .run 6, .b 13 false, .run 6, .b 13 true, .run 9] (by kernel_rfl) (by kernel_rfl) trivial ⟨h0, h1, h2, h3, h4, h5, h6, h7, h8, h9⟩
theorem bKidsOf_E_10 (op : Int) (h0 : (op == (1 : Int)) = false) (h1 : (op == (2 : Int)) = false) (h2 : (op == (3 : Int)) = false) (h3 : (op == (4 : Int)) = false) (h4 : (op == (21 : Int)) = false) (h5 : (op == (25 : Int)) = false) (h6 : (op == (28 : Int)) = false) (h7 : (op == (5 : Int)) = false) (h8 : (op == (27 : Int)) = false) (h9 : (op == (16 : Int)) = false) (h10 : (op == (17 : Int)) = true) :
    Ends PP 0 (start PP 130 [(.int .i64 op)]).as (.ret (.iface 231 (.int .i64 1))) (hpOf [] 0) :=
  wE 0 [ty h0, ty h1, ty h2, ty h3, ty h4, ty h5, ty h6, ty h7, ty h8, ty h9, ty h10] [.run 16, .b 4 false, .run 6, .b 4 false, .run 6, .b 4 false, .run 6, .b 4 false, .run 6, .b 4 false, .run 6, .b 4 false, .run 5, .b 4 false, .run 7, .b 13 false, .run 6, .b 13 false, .run 6, .b 13 false, .run 6, .b 13 true, .run 9] (by kernel_rfl) (by kernel_rfl) trivial ⟨h0, h1, h2, h3, h4, h5, h6, h7, h8, h9, h10⟩
theorem bKidsOf_E_11 (op : Int) (h0 : (op == (1 : Int)) = false) (h1 : (op == (2 : Int)) = false) (h2 : (op == (3 : Int)) = false) (h3 : (op == (4 : Int)) = false) (h4 : (op == (21 : Int)) = false) (h5 : (op == (25 : Int)) = false) (h6 : (op == (28 : Int)) = false) (h7 : (op == (5 : Int)) = false) (h8 : (op == (27 : Int)) = false) (h9 : (op == (16 : Int)) = false) (h10 : (op == (17 : Int)) = false) (h11 : (op == (19 : Int)) = true) :
    Ends PP 0 (start PP 130 [(.int .i64 op)]).as (.ret (.iface 231 (.int .i64 1))) (hpOf [] 0) :=
  wE 0 [ty h0, ty h1, ty h2, ty h3, ty h4, ty h5, ty h6, ty h7, ty h8, ty h9, ty h10, ty h11] [.run 16, .b 4 false, .run 6, .b 4 false, .run 6, .b 4 false, .run 6, .b 4 false, .run 6, .b 4 false, .run 6, .b 4 false, .run 5, .b 4 false, .run 7, .b 13 false, .run 6, .b 13 false, .run 6, .b 13 false, .run 6, .b 13 false, .run 6, .b 13 true, .run 9] (by kernel_rfl) (by kernel_rfl) trivial ⟨h0, h1, h2, h3, h4, h5, h6, h7, h8, h9, h10, h11⟩
theorem bKidsOf_E_12 (op : Int) (h0 : (op == (1 : Int)) = false) (h1 : (op == (2 : Int)) = false) (h2 : (op == (3 : Int)) = false) (h3 : (op == (4 : Int)) = false) (h4 : (op == (21 : Int)) = false) (h5 : (op == (25 : Int)) = false) (h6 : (op == (28 : Int)) = false) (h7 : (op == (5 : Int)) = false) (h8 : (op == (27 : Int)) = false) (h9 : (op == (16 : Int)) = false) (h10 : (op == (17 : Int)) = false) (h11 : (op == (19 : Int)) = false) (h12 : (op == (20 : Int)) = true) :
    Ends PP 0 (start PP 130 [(.int .i64 op)]).as (.ret (.iface 231 (.int .i64 1))) (hpOf [] 0) :=
  wE 0 [ty h0, ty h1, ty h2, ty h3, ty h4, ty h5, ty h6, ty h7, ty h8, ty h9, ty h10, ty h11, ty h12] [.run 16, .b 4 false, .run 6, .b 4 false, .run 6, .b 4 false, .run 6, .b 4 false, .run 6, .b 4 false, .run 6, .b 4 false, .run 5, .b 4 false, .run 7, .b 13 false, .run 6, .b 13 false, .run 6, .b 13 false, .run 6, .b 13 false, .run 6, .b 13 false, .run 6, .b 13 true, .run 9] (by kernel_rfl) (by kernel_rfl) trivial ⟨h0, h1, h2, h3, h4, h5, h6, h7, h8, h9, h10, h11, h12⟩
theorem bKidsOf_E_13 (op : Int) (h0 : (op == (1 : Int)) = false) (h1 : (op == (2 : Int)) = false) (h2 : (op == (3 : Int)) = false) (h3 : (op == (4 : Int)) = false) (h4 : (op == (21 : Int)) = false) (h5 : (op == (25 : Int)) = false) (h6 : (op == (28 : Int)) = false) (h7 : (op == (5 : Int)) = false) (h8 : (op == (27 : Int)) = false) (h9 : (op == (16 : Int)) = false) (h10 : (op == (17 : Int)) = false) (h11 : (op == (19 : Int)) = false) (h12 : (op == (20 : Int)) = false) (h13 : (op == (23 : Int)) = true) :
    Ends PP 0 (start PP 130 [(.int .i64 op)]).as (.ret (.iface 231 (.int .i64 1))) (hpOf [] 0) :=
  wE 0 [ty h0, ty h1, ty h2, ty h3, ty h4, ty h5, ty h6, ty h7, ty h8, ty h9, ty h10, ty h11, ty h12, ty h13] [.run 16, .b 4 false, .run 6, .b 4 false, .run 6, .b 4 false, .run 6, .b 4 false, .run 6, .b 4 false, .run 6, .b 4 false, .run 5, .b 4 false, .run 7, .b 13 false, .run 6, .b 13 false, .run 6, .b 13 false, .run 6, .b 13 false, .run 6, .b 13 false, .run 6, .b 13 false, .run 6, .b 13 true, .run 9] (by kernel_rfl) (by kernel_rfl) trivial ⟨h0, h1, h2, h3, h4, h5, h6, h7, h8, h9, h10, h11, h12, h13⟩
theorem bKidsOf_E_14 (op : Int) (h0 : (op == (1 : Int)) = false) (h1 : (op == (2 : Int)) = false) (h2 : (op == (3 : Int)) = false) (h3 : (op == (4 : Int)) = false) (h4 : (op == (21 : Int)) = false) (h5 : (op == (25 : Int)) = false) (h6 : (op == (28 : Int)) = false) (h7 : (op == (5 : Int)) = false) (h8 : (op == (27 : Int)) = false) (h9 : (op == (16 : Int)) = false) (h10 : (op == (17 : Int)) = false) (h11 : (op == (19 : Int)) = false) (h12 : (op == (20 : Int)) = false) (h13 : (op == (23 : Int)) = false) (h14 : (op == (24 : Int)) = true) :
    Ends PP 0 (start PP 130 [(.int .i64 op)]).as (.ret (.iface 231 (.int .i64 1))) (hpOf [] 0) :=
  wE 0 [ty h0, ty h1, ty h2, ty h3, ty h4, ty h5, ty h6, ty h7, ty h8, ty h9, ty h10, ty h11, ty h12, ty h13, ty h14] [.run 16, .b 4 false, .run 6, .b 4 false, .run 6, .b 4 false, .run 6, .b 4 false, .run 6, .b 4 false, .run 6, .b 4 false, .run 5, .b 4 false, .run 7, .b 13 false, .run 6, .b 13 false, .run 6, .b 13 false, .run 6, .b 13 false, .run 6, .b 13 false, .run 6, .b 13 false, .run 6, .b 13 false, .run 6, .b 13 true, .run 9] (by kernel_rfl) (by kernel_rfl) trivial ⟨h0, h1, h2, h3, h4, h5, h6, h7, h8, h9, h10, h11, h12, h13, h14⟩
theorem bKidsOf_E_15 (op : Int) (h0 : (op == (1 : Int)) = false) (h1 : (op == (2 : Int)) = false) (h2 : (op == (3 : Int)) = false) (h3 : (op == (4 : Int)) = false) (h4 : (op == (21 : Int)) = false) (h5 : (op == (25 : Int)) = false) (h6 : (op == (28 : Int)) = false) (h7 : (op == (5 : Int)) = false) (h8 : (op == (27 : Int)) = false) (h9 : (op == (16 : Int)) = false) (h10 : (op == (17 : Int)) = false) (h11 : (op == (19 : Int)) = false) (h12 : (op == (20 : Int)) = false) (h13 : (op == (23 : Int)) = false) (h14 : (op == (24 : Int)) = false) (h15 : (op == (26 : Int)) = true) :
    Ends PP 0 (start PP 130 [(.int .i64 op)]).as (.ret (.iface 231 (.int .i64 1))) (hpOf [] 0) :=
  wE 0 [ty h0, ty h1, ty h2, ty h3, ty h4, ty h5, ty h6, ty h7, ty h8, ty h9, ty h10, ty h11, ty h12, ty h13, ty h14, ty h15] [.run 16, .b 4 false, .run 6, .b 4 false, .run 6, .b 4 false, .run 6, .b 4 false, .run 6, .b 4 false, .run 6, .b 4 false, .run 5, .b 4 false, .run 7, .b 13 false, .run 6, .b 13 false, .run 6, .b 13 false, .run 6, .b 13 false, .run 6, .b 13 false, .run 6, .b 13 false, .run 6, .b 13 false, .run 6, .b 13 false, .run 5, .b 13 true, .run 7] (by kernel_rfl) (by kernel_rfl) trivial ⟨h0, h1, h2, h3, h4, h5, h6, h7, h8, h9, h10, h11, h12, h13, h14, h15⟩
theorem bKidsOf_E_16 (op : Int) (h0 : (op == (1 : Int)) = false) (h1 : (op == (2 : Int)) = false) (h2 : (op == (3 : Int)) = false) (h3 : (op == (4 : Int)) = false) (h4 : (op == (21 : Int)) = false) (h5 : (op == (25 : Int)) = false) (h6 : (op == (28 : Int)) = false) (h7 : (op == (5 : Int)) = false) (h8 : (op == (27 : Int)) = false) (h9 : (op == (16 : Int)) = false) (h10 : (op == (17 : Int)) = false) (h11 : (op == (19 : Int)) = false) (h12 : (op == (20 : Int)) = false) (h13 : (op == (23 : Int)) = false) (h14 : (op == (24 : Int)) = false) (h15 : (op == (26 : Int)) = false) (h16 : (op == (6 : Int)) = true) :
    Ends PP 0 (start PP 130 [(.int .i64 op)]).as (.ret (.iface 231 (.int .i64 2))) (hpOf [] 0) :=
  wE 0 [ty h0, ty h1, ty h2, ty h3, ty h4, ty h5, ty h6, ty h7, ty h8, ty h9, ty h10, ty h11, ty h12, ty h13, ty h14, ty h15, ty h16] [.run 16, .b 4 false, .run 6, .b 4 false, .run 6, .b 4 false, .run 6, .b 4 false, .run 6, .b 4 false, .run 6, .b 4 false, .run 5, .b 4 false, .run 7, .b 13 false, .run 6, .b 13 false, .run 6, .b 13 false, .run 6, .b 13 false, .run 6, .b 13 false, .run 6, .b 13 false, .run 6, .b 13 false, .run 6, .b 13 false, .run 5, .b 13 false, .run 7, .b 24 true, .run 9] (by kernel_rfl) (by kernel_rfl) trivial ⟨h0, h1, h2, h3, h4, h5, h6, h7, h8, h9, h10, h11, h12, h13, h14, h15, h16⟩
theorem bKidsOf_E_17 (op : Int) (h0 : (op == (1 : Int)) = false) (h1 : (op == (2 : Int)) = false) (h2 : (op == (3 : Int)) = false) (h3 : (op == (4 : Int)) = false) (h4 : (op == (21 : Int)) = false) (h5 : (op == (25 : Int)) = false) (h6 : (op == (28 : Int)) = false) (h7 : (op == (5 : Int)) = false) (h8 : (op == (27 : Int)) = false) (h9 : (op == (16 : Int)) = false) (h10 : (op == (17 : Int)) = false) (h11 : (op == (19 : Int)) = false) (h12 : (op == (20 : Int)) = false) (h13 : (op == (23 : Int)) = false) (h14 : (op == (24 : Int)) = false) (h15 : (op == (26 : Int)) = false) (h16 : (op == (6 : Int)) = false) (h17 : (op == (7 : Int)) = true) :
    Ends PP 0 (start PP 130 [(.int .i64 op)]).as (.ret (.iface 231 (.int .i64 2))) (hpOf [] 0) :=
  wE 0 [ty h0, ty h1, ty h2, ty h3, ty h4, ty h5, ty h6, ty h7, ty h8, ty h9, ty h10, ty h11, ty h12, ty h13, ty h14, ty h15, ty h16, ty h17] [.run 16, .b 4 false, .run 6, .b 4 false, .run 6, .b 4 false, .run 6, .b 4 false, .run 6, .b 4 false, .run 6, .b 4 false, .run 5, .b 4 false, .run 7, .b 13 false, .run 6, .b 13 false, .run 6, .b 13 false, .run 6, .b 13 false, .run 6, .b 13 false, .run 6, .b 13 false, .run 6, .b 13 false, .run 6, .b 13 false, .run 5, .b 13 false, .run 7, .b 24 false, .run 6, .b 24 true, .run 9] (by kernel_rfl) (by kernel_rfl) trivial ⟨h0, h1, h2, h3, h4, h5, h6, h7, h8, h9, h10, h11, h12, h13, h14, h15, h16, h17⟩
theorem bKidsOf_E_18 (op : Int) (h0 : (op == (1 : Int)) = false) (h1 : (op == (2 : Int)) = false) (h2 : (op == (3 : Int)) = false) (h3 : (op == (4 : Int)) = false) (h4 : (op == (21 : Int)) = false) (h5 : (op == (25 : Int)) = false) (h6 : (op == (28 : Int)) = false) (h7 : (op == (5 : Int)) = false) (h8 : (op == (27 : Int)) = false) (h9 : (op == (16 : Int)) = false) (h10 : (op == (17 : Int)) = false) (h11 : (op == (19 : Int)) = false) (h12 : (op == (20 : Int)) = false) (h13 : (op == (23 : Int)) = false) (h14 : (op == (24 : Int)) = false) (h15 : (op == (26 : Int)) = false) (h16 : (op == (6 : Int)) = false) (h17 : (op == (7 : Int)) = false) (h18 : (op == (9 : Int)) = true) :
    Ends PP 0 (start PP 130 [(.int .i64 op)]).as (.ret (.iface 231 (.int .i64 2))) (hpOf [] 0) :=
  wE 0 [ty h0, ty h1, ty h2, ty h3, ty h4, ty h5, ty h6, ty h7, ty h8, ty h9, ty h10, ty h11, ty h12, ty h13, ty h14, ty h15, ty h16, ty h17, ty h18] [.run 16, .b 4 false, .run 6, .b 4 false, .run 6, .b 4 false, .run 6, .b 4 false, .run 6, .b 4 false, .run 6, .b 4 false, .run 5, .b 4 false, .run 7, .b 13 false, .run 6, .b 13 false, .run 6, .b 13 false, .run 6, .b 13 false, .run 6, .b 13 false, .run 6, .b 13 false, .run 6, .b 13 false, .run 6, .b 13 false, .run 5, .b 13 false, .run 7, .b 24 false, .run 6, .b 24 false, .run 6, .b 24 true, .run 9] (by kernel_rfl) (by kernel_rfl) trivial ⟨h0, h1, h2, h3, h4, h5, h6, h7, h8, h9, h10, h11, h12, h13, h14, h15, h16, h17, h18⟩
theorem bKidsOf_E_19 (op : Int) (h0 : (op == (1 : Int)) = false) (h1 : (op == (2 : Int)) = false) (h2 : (op == (3 : Int)) = false) (h3 : (op == (4 : Int)) = false) (h4 : (op == (21 : Int)) = false) (h5 : (op == (25 : Int)) = false) (h6 : (op == (28 : Int)) = false) (h7 : (op == (5 : Int)) = false) (h8 : (op == (27 : Int)) = false) (h9 : (op == (16 : Int)) = false) (h10 : (op == (17 : Int)) = false) (h11 : (op == (19 : Int)) = false) (h12 : (op == (20 : Int)) = false) (h13 : (op == (23 : Int)) = false) (h14 : (op == (24 : Int)) = false) (h15 : (op == (26 : Int)) = false) (h16 : (op == (6 : Int)) = false) (h17 : (op == (7 : Int)) = false) (h18 : (op == (9 : Int)) = false) (h19 : (op == (10 : Int)) = true) :
    Ends PP 0 (start PP 130 [(.int .i64 op)]).as (.ret (.iface 231 (.int .i64 2))) (hpOf [] 0) :=
  wE 0 [ty h0, ty h1, ty h2, ty h3, ty h4, ty h5, ty h6, ty h7, ty h8, ty h9, ty h10, ty h11, ty h12, ty h13, ty h14, ty h15, ty h16, ty h17, ty h18, ty h19] [.run 16, .b 4 false, .run 6, .b 4 false, .run 6, .b 4 false, .run 6, .b 4 false, .run 6, .b 4 false, .run 6, .b 4 false, .run 5, .b 4 false, .run 7, .b 13 false, .run 6, .b 13 false, .run 6, .b 13 false, .run 6, .b 13 false, .run 6, .b 13 false, .run 6, .b 13 false, .run 6, .b 13 false, .run 6, .b 13 false, .run 5, .b 13 false, .run 7, .b 24 false, .run 6, .b 24 false, .run 6, .b 24 false, .run 6, .b 24 true, .run 9] (by kernel_rfl) (by kernel_rfl) trivial ⟨h0, h1, h2, h3, h4, h5, h6, h7, h8, h9, h10, h11, h12, h13, h14, h15, h16, h17, h18, h19⟩
theorem bKidsOf_E_20 (op : Int) (h0 : (op == (1 : Int)) = false) (h1 : (op == (2 : Int)) = false) (h2 : (op == (3 : Int)) = false) (h3 : (op == (4 : Int)) = false) (h4 : (op == (21 : Int)) = false) (h5 : (op == (25 : Int)) = false) (h6 : (op == (28 : Int)) = false) (h7 : (op == (5 : Int)) = false) (h8 : (op == (27 : Int)) = false) (h9 : (op == (16 : Int)) = false) (h10 : (op == (17 : Int)) = false) (h11 : (op == (19 : Int)) = false) (h12 : (op == (20 : Int)) = false) (h13 : (op == (23 : Int)) = false) (h14 : (op == (24 : Int)) = false) (h15 : (op == (26 : Int)) = false) (h16 : (op == (6 : Int)) = false) (h17 : (op == (7 : Int)) = false) (h18 : (op == (9 : Int)) = false) (h19 : (op == (10 : Int)) = false) (h20 : (op == (11 : Int)) = true) :
    Ends PP 0 (start PP 130 [(.int .i64 op)]).as (.ret (.iface 231 (.int .i64 2))) (hpOf [] 0) :=
  wE 0 [ty h0, ty h1, ty h2, ty h3, ty h4, ty h5, ty h6, ty h7, ty h8, ty h9, ty h10, ty h11, ty h12, ty h13, ty h14, ty h15, ty h16, ty h17, ty h18, ty h19, ty h20] [.run 16, .b 4 false, .run 6, .b 4 false, .run 6, .b 4 false, .run 6, .b 4 false, .run 6, .b 4 false, .run 6, .b 4 false, .run 5, .b 4 false, .run 7, .b 13 false, .run 6, .b 13 false, .run 6, .b 13 false, .run 6, .b 13 false, .run 6, .b 13 false, .run 6, .b 13 false, .run 6, .b 13 false, .run 6, .b 13 false, .run 5, .b 13 false, .run 7, .b 24 false, .run 6, .b 24 false, .run 6, .b 24 false, .run 6, .b 24 false, .run 6, .b 24 true, .run 9] (by kernel_rfl) (by kernel_rfl) trivial ⟨h0, h1, h2, h3, h4, h5, h6, h7, h8, h9, h10, h11, h12, h13, h14, h15, h16, h17, h18, h19, h20⟩
theorem bKidsOf_E_21 (op : Int) (h0 : (op == (1 : Int)) = false) (h1 : (op == (2 : Int)) = false) (h2 : (op == (3 : Int)) = false) (h3 : (op == (4 : Int)) = false) (h4 : (op == (21 : Int)) = false) (h5 : (op == (25 : Int)) = false) (h6 : (op == (28 : Int)) = false) (h7 : (op == (5 : Int)) = false) (h8 : (op == (27 : Int)) = false) (h9 : (op == (16 : Int)) = false) (h10 : (op == (17 : Int)) = false) (h11 : (op == (19 : Int)) = false) (h12 : (op == (20 : Int)) = false) (h13 : (op == (23 : Int)) = false) (h14 : (op == (24 : Int)) = false) (h15 : (op == (26 : Int)) = false) (h16 : (op == (6 : Int)) = false) (h17 : (op == (7 : Int)) = false) (h18 : (op == (9 : Int)) = false) (h19 : (op == (10 : Int)) = false) (h20 : (op == (11 : Int)) = false) (h21 : (op == (12 : Int)) = true) :
    Ends PP 0 (start PP 130 [(.int .i64 op)]).as (.ret (.iface 231 (.int .i64 2))) (hpOf [] 0) :=
  wE 0 [ty h0, ty h1, ty h2, ty h3, ty h4, ty h5, ty h6, ty h7, ty h8, ty h9, ty h10, ty h11, ty h12, ty h13, ty h14, ty h15, ty h16, ty h17, ty h18, ty h19, ty h20, ty h21] [.run 16, .b 4 false, .run 6, .b 4 false, .run 6, .b 4 false, .run 6, .b 4 false, .run 6, .b 4 false, .run 6, .b 4 false, .run 5, .b 4 false, .run 7, .b 13 false, .run 6, .b 13 false, .run 6, .b 13 false, .run 6, .b 13 false, .run 6, .b 13 false, .run 6, .b 13 false, .run 6, .b 13 false, .run 6, .b 13 false, .run 5, .b 13 false, .run 7, .b 24 false, .run 6, .b 24 false, .run 6, .b 24 false, .run 6, .b 24 false, .run 6, .b 24 false, .run 6, .b 24 true, .run 9] (by kernel_rfl) (by kernel_rfl) trivial ⟨h0, h1, h2, h3, h4, h5, h6, h7, h8, h9, h10, h11, h12, h13, h14, h15, h16, h17, h18, h19, h20, h21⟩
theorem bKidsOf_E_22 (op : Int) (h0 : (op == (1 : Int)) = false) (h1 : (op == (2 : Int)) = false) (h2 : (op == (3 : Int)) = false) (h3 : (op == (4 : Int)) = false) (h4 : (op == (21 : Int)) = false) (h5 : (op == (25 : Int)) = false) (h6 : (op == (28 : Int)) = false) (h7 : (op == (5 : Int)) = false) (h8 : (op == (27 : Int)) = false) (h9 : (op == (16 : Int)) = false) (h10 : (op == (17 : Int)) = false) (h11 : (op == (19 : Int)) = false) (h12 : (op == (20 : Int)) = false) (h13 : (op == (23 : Int)) = false) (h14 : (op == (24 : Int)) = false) (h15 : (op == (26 : Int)) = false) (h16 : (op == (6 : Int)) = false) (h17 : (op == (7 : Int)) = false) (h18 : (op == (9 : Int)) = false) (h19 : (op == (10 : Int)) = false) (h20 : (op == (11 : Int)) = false) (h21 : (op == (12 : Int)) = false) (h22 : (op == (13 : Int)) = true) :
    Ends PP 0 (start PP 130 [(.int .i64 op)]).as (.ret (.iface 231 (.int .i64 2))) (hpOf [] 0) :=
  wE 0 [ty h0, ty h1, ty h2, ty h3, ty h4, ty h5, ty h6, ty h7, ty h8, ty h9, ty h10, ty h11, ty h12, ty h13, ty h14, ty h15, ty h16, ty h17, ty h18, ty h19, ty h20, ty h21, ty h22] [.run 16, .b 4 false, .run 6, .b 4 false, .run 6, .b 4 false, .run 6, .b 4 false, .run 6, .b 4 false, .run 6, .b 4 false, .run 5, .b 4 false, .run 7, .b 13 false, .run 6, .b 13 false, .run 6, .b 13 false, .run 6, .b 13 false, .run 6, .b 13 false, .run 6, .b 13 false, .run 6, .b 13 false, .run 6, .b 13 false, .run 5, .b 13 false, .run 7, .b 24 false, .run 6, .b 24 false, .run 6, .b 24 false, .run 6, .b 24 false, .run 6, .b 24 false, .run 6, .b 24 false, .run 6, .b 24 true, .run 9] (by kernel_rfl) (by kernel_rfl) trivial ⟨h0, h1, h2, h3, h4, h5, h6, h7, h8, h9, h10, h11, h12, h13, h14, h15, h16, h17, h18, h19, h20, h21, h22⟩
theorem bKidsOf_E_23 (op : Int) (h0 : (op == (1 : Int)) = false) (h1 : (op == (2 : Int)) = false) (h2 : (op == (3 : Int)) = false) (h3 : (op == (4 : Int)) = false) (h4 : (op == (21 : Int)) = false) (h5 : (op == (25 : Int)) = false) (h6 : (op == (28 : Int)) = false) (h7 : (op == (5 : Int)) = false) (h8 : (op == (27 : Int)) = false) (h9 : (op == (16 : Int)) = false) (h10 : (op == (17 : Int)) = false) (h11 : (op == (19 : Int)) = false) (h12 : (op == (20 : Int)) = false) (h13 : (op == (23 : Int)) = false) (h14 : (op == (24 : Int)) = false) (h15 : (op == (26 : Int)) = false) (h16 : (op == (6 : Int)) = false) (h17 : (op == (7 : Int)) = false) (h18 : (op == (9 : Int)) = false) (h19 : (op == (10 : Int)) = false) (h20 : (op == (11 : Int)) = false) (h21 : (op == (12 : Int)) = false) (h22 : (op == (13 : Int)) = false) (h23 : (op == (18 : Int)) = true) :
    Ends PP 0 (start PP 130 [(.int .i64 op)]).as (.ret (.iface 231 (.int .i64 2))) (hpOf [] 0) :=
  wE 0 [ty h0, ty h1, ty h2, ty h3, ty h4, ty h5, ty h6, ty h7, ty h8, ty h9, ty h10, ty h11, ty h12, ty h13, ty h14, ty h15, ty h16, ty h17, ty h18, ty h19, ty h20, ty h21, ty h22, ty h23] [.run 16, .b 4 false, .run 6, .b 4 false, .run 6, .b 4 false, .run 6, .b 4 false, .run 6, .b 4 false, .run 6, .b 4 false, .run 5, .b 4 false, .run 7, .b 13 false, .run 6, .b 13 false, .run 6, .b 13 false, .run 6, .b 13 false, .run 6, .b 13 false, .run 6, .b 13 false, .run 6, .b 13 false, .run 6, .b 13 false, .run 5, .b 13 false, .run 7, .b 24 false, .run 6, .b 24 false, .run 6, .b 24 false, .run 6, .b 24 false, .run 6, .b 24 false, .run 6, .b 24 false, .run 6, .b 24 false, .run 6, .b 24 true, .run 9] (by kernel_rfl) (by kernel_rfl) trivial ⟨h0, h1, h2, h3, h4, h5, h6, h7, h8, h9, h10, h11, h12, h13, h14, h15, h16, h17, h18, h19, h20, h21, h22, h23⟩
theorem bKidsOf_E_24 (op : Int) (h0 : (op == (1 : Int)) = false) (h1 : (op == (2 : Int)) = false) (h2 : (op == (3 : Int)) = false) (h3 : (op == (4 : Int)) = false) (h4 : (op == (21 : Int)) = false) (h5 : (op == (25 : Int)) = false) (h6 : (op == (28 : Int)) = false) (h7 : (op == (5 : Int)) = false) (h8 : (op == (27 : Int)) = false) (h9 : (op == (16 : Int)) = false) (h10 : (op == (17 : Int)) = false) (h11 : (op == (19 : Int)) = false) (h12 : (op == (20 : Int)) = false) (h13 : (op == (23 : Int)) = false) (h14 : (op == (24 : Int)) = false) (h15 : (op == (26 : Int)) = false) (h16 : (op == (6 : Int)) = false) (h17 : (op == (7 : Int)) = false) (h18 : (op == (9 : Int)) = false) (h19 : (op == (10 : Int)) = false) (h20 : (op == (11 : Int)) = false) (h21 : (op == (12 : Int)) = false) (h22 : (op == (13 : Int)) = false) (h23 : (op == (18 : Int)) = false) (h24 : (op == (22 : Int)) = true) :
    Ends PP 0 (start PP 130 [(.int .i64 op)]).as (.ret (.iface 231 (.int .i64 2))) (hpOf [] 0) :=
  wE 0 [ty h0, ty h1, ty h2, ty h3, ty h4, ty h5, ty h6, ty h7, ty h8, ty h9, ty h10, ty h11, ty h12, ty h13, ty h14, ty h15, ty h16, ty h17, ty h18, ty h19, ty h20, ty h21, ty h22, ty h23, ty h24] [.run 16, .b 4 false, .run 6, .b 4 false, .run 6, .b 4 false, .run 6, .b 4 false, .run 6, .b 4 false, .run 6, .b 4 false, .run 5, .b 4 false, .run 7, .b 13 false, .run 6, .b 13 false, .run 6, .b 13 false, .run 6, .b 13 false, .run 6, .b 13 false, .run 6, .b 13 false, .run 6, .b 13 false, .run 6, .b 13 false, .run 5, .b 13 false, .run 7, .b 24 false, .run 6, .b 24 false, .run 6, .b 24 false, .run 6, .b 24 false, .run 6, .b 24 false, .run 6, .b 24 false, .run 6, .b 24 false, .run 6, .b 24 false, .run 5, .b 24 true, .run 7] (by kernel_rfl) (by kernel_rfl) trivial ⟨h0, h1, h2, h3, h4, h5, h6, h7, h8, h9, h10, h11, h12, h13, h14, h15, h16, h17, h18, h19, h20, h21, h22, h23, h24⟩
theorem bKidsOf_E_25 (op : Int) (h0 : (op == (1 : Int)) = false) (h1 : (op == (2 : Int)) = false) (h2 : (op == (3 : Int)) = false) (h3 : (op == (4 : Int)) = false) (h4 : (op == (21 : Int)) = false) (h5 : (op == (25 : Int)) = false) (h6 : (op == (28 : Int)) = false) (h7 : (op == (5 : Int)) = false) (h8 : (op == (27 : Int)) = false) (h9 : (op == (16 : Int)) = false) (h10 : (op == (17 : Int)) = false) (h11 : (op == (19 : Int)) = false) (h12 : (op == (20 : Int)) = false) (h13 : (op == (23 : Int)) = false) (h14 : (op == (24 : Int)) = false) (h15 : (op == (26 : Int)) = false) (h16 : (op == (6 : Int)) = false) (h17 : (op == (7 : Int)) = false) (h18 : (op == (9 : Int)) = false) (h19 : (op == (10 : Int)) = false) (h20 : (op == (11 : Int)) = false) (h21 : (op == (12 : Int)) = false) (h22 : (op == (13 : Int)) = false) (h23 : (op == (18 : Int)) = false) (h24 : (op == (22 : Int)) = false) (h25 : (op == (8 : Int)) = true) :
    Ends PP 0 (start PP 130 [(.int .i64 op)]).as (.ret (.iface 231 (.int .i64 3))) (hpOf [] 0) :=
  wE 0 [ty h0, ty h1, ty h2, ty h3, ty h4, ty h5, ty h6, ty h7, ty h8, ty h9, ty h10, ty h11, ty h12, ty h13, ty h14, ty h15, ty h16, ty h17, ty h18, ty h19, ty h20, ty h21, ty h22, ty h23, ty h24, ty h25] [.run 16, .b 4 false, .run 6, .b 4 false, .run 6, .b 4 false, .run 6, .b 4 false, .run 6, .b 4 false, .run 6, .b 4 false, .run 5, .b 4 false, .run 7, .b 13 false, .run 6, .b 13 false, .run 6, .b 13 false, .run 6, .b 13 false, .run 6, .b 13 false, .run 6, .b 13 false, .run 6, .b 13 false, .run 6, .b 13 false, .run 5, .b 13 false, .run 7, .b 24 false, .run 6, .b 24 false, .run 6, .b 24 false, .run 6, .b 24 false, .run 6, .b 24 false, .run 6, .b 24 false, .run 6, .b 24 false, .run 6, .b 24 false, .run 5, .b 24 false, .run 6, .b 35 true, .run 7] (by kernel_rfl) (by kernel_rfl) trivial ⟨h0, h1, h2, h3, h4, h5, h6, h7, h8, h9, h10, h11, h12, h13, h14, h15, h16, h17, h18, h19, h20, h21, h22, h23, h24, h25⟩
theorem bKidsOf_E_26 (op : Int) (h0 : (op == (1 : Int)) = false) (h1 : (op == (2 : Int)) = false) (h2 : (op == (3 : Int)) = false) (h3 : (op == (4 : Int)) = false) (h4 : (op == (21 : Int)) = false) (h5 : (op == (25 : Int)) = false) (h6 : (op == (28 : Int)) = false) (h7 : (op == (5 : Int)) = false) (h8 : (op == (27 : Int)) = false) (h9 : (op == (16 : Int)) = false) (h10 : (op == (17 : Int)) = false) (h11 : (op == (19 : Int)) = false) (h12 : (op == (20 : Int)) = false) (h13 : (op == (23 : Int)) = false) (h14 : (op == (24 : Int)) = false) (h15 : (op == (26 : Int)) = false) (h16 : (op == (6 : Int)) = false) (h17 : (op == (7 : Int)) = false) (h18 : (op == (9 : Int)) = false) (h19 : (op == (10 : Int)) = false) (h20 : (op == (11 : Int)) = false) (h21 : (op == (12 : Int)) = false) (h22 : (op == (13 : Int)) = false) (h23 : (op == (18 : Int)) = false) (h24 : (op == (22 : Int)) = false) (h25 : (op == (8 : Int)) = false) (h26 : (op == (14 : Int)) = true) :
    Ends PP 0 (start PP 130 [(.int .i64 op)]).as (.ret (.iface 232 (.agg []))) (hpOf [] 0) :=
  wE 0 [ty h0, ty h1, ty h2, ty h3, ty h4, ty h5, ty h6, ty h7, ty h8, ty h9, ty h10, ty h11, ty h12, ty h13, ty h14, ty h15, ty h16, ty h17, ty h18, ty h19, ty h20, ty h21, ty h22, ty h23, ty h24, ty h25, ty h26] [.run 16, .b 4 false, .run 6, .b 4 false, .run 6, .b 4 false, .run 6, .b 4 false, .run 6, .b 4 false, .run 6, .b 4 false, .run 5, .b 4 false, .run 7, .b 13 false, .run 6, .b 13 false, .run 6, .b 13 false, .run 6, .b 13 false, .run 6, .b 13 false, .run 6, .b 13 false, .run 6, .b 13 false, .run 6, .b 13 false, .run 5, .b 13 false, .run 7, .b 24 false, .run 6, .b 24 false, .run 6, .b 24 false, .run 6, .b 24 false, .run 6, .b 24 false, .run 6, .b 24 false, .run 6, .b 24 false, .run 6, .b 24 false, .run 5, .b 24 false, .run 6, .b 35 false, .run 6, .b 38 true, .run 8] (by kernel_rfl) (by kernel_rfl) trivial ⟨h0, h1, h2, h3, h4, h5, h6, h7, h8, h9, h10, h11, h12, h13, h14, h15, h16, h17, h18, h19, h20, h21, h22, h23, h24, h25, h26⟩
theorem bKidsOf_E_27 (op : Int) (h0 : (op == (1 : Int)) = false) (h1 : (op == (2 : Int)) = false) (h2 : (op == (3 : Int)) = false) (h3 : (op == (4 : Int)) = false) (h4 : (op == (21 : Int)) = false) (h5 : (op == (25 : Int)) = false) (h6 : (op == (28 : Int)) = false) (h7 : (op == (5 : Int)) = false) (h8 : (op == (27 : Int)) = false) (h9 : (op == (16 : Int)) = false) (h10 : (op == (17 : Int)) = false) (h11 : (op == (19 : Int)) = false) (h12 : (op == (20 : Int)) = false) (h13 : (op == (23 : Int)) = false) (h14 : (op == (24 : Int)) = false) (h15 : (op == (26 : Int)) = false) (h16 : (op == (6 : Int)) = false) (h17 : (op == (7 : Int)) = false) (h18 : (op == (9 : Int)) = false) (h19 : (op == (10 : Int)) = false) (h20 : (op == (11 : Int)) = false) (h21 : (op == (12 : Int)) = false) (h22 : (op == (13 : Int)) = false) (h23 : (op == (18 : Int)) = false) (h24 : (op == (22 : Int)) = false) (h25 : (op == (8 : Int)) = false) (h26 : (op == (14 : Int)) = false) (h27 : (op == (15 : Int)) = true) :
    Ends PP 0 (start PP 130 [(.int .i64 op)]).as (.ret (.iface 189 (.agg []))) (hpOf [] 0) :=
  wE 0 [ty h0, ty h1, ty h2, ty h3, ty h4, ty h5, ty h6, ty h7, ty h8, ty h9, ty h10, ty h11, ty h12, ty h13, ty h14, ty h15, ty h16, ty h17, ty h18, ty h19, ty h20, ty h21, ty h22, ty h23, ty h24, ty h25, ty h26, ty h27] [.run 16, .b 4 false, .run 6, .b 4 false, .run 6, .b 4 false, .run 6, .b 4 false, .run 6, .b 4 false, .run 6, .b 4 false, .run 5, .b 4 false, .run 7, .b 13 false, .run 6, .b 13 false, .run 6, .b 13 false, .run 6, .b 13 false, .run 6, .b 13 false, .run 6, .b 13 false, .run 6, .b 13 false, .run 6, .b 13 false, .run 5, .b 13 false, .run 7, .b 24 false, .run 6, .b 24 false, .run 6, .b 24 false, .run 6, .b 24 false, .run 6, .b 24 false, .run 6, .b 24 false, .run 6, .b 24 false, .run 6, .b 24 false, .run 5, .b 24 false, .run 6, .b 35 false, .run 6, .b 38 false, .run 6, .b 42 true, .run 8] (by kernel_rfl) (by kernel_rfl) trivial ⟨h0, h1, h2, h3, h4, h5, h6, h7, h8, h9, h10, h11, h12, h13, h14, h15, h16, h17, h18, h19, h20, h21, h22, h23, h24, h25, h26, h27⟩
theorem bKidsOf_E_28 (op : Int) (h0 : (op == (1 : Int)) = false) (h1 : (op == (2 : Int)) = false) (h2 : (op == (3 : Int)) = false) (h3 : (op == (4 : Int)) = false) (h4 : (op == (21 : Int)) = false) (h5 : (op == (25 : Int)) = false) (h6 : (op == (28 : Int)) = false) (h7 : (op == (5 : Int)) = false) (h8 : (op == (27 : Int)) = false) (h9 : (op == (16 : Int)) = false) (h10 : (op == (17 : Int)) = false) (h11 : (op == (19 : Int)) = false) (h12 : (op == (20 : Int)) = false) (h13 : (op == (23 : Int)) = false) (h14 : (op == (24 : Int)) = false) (h15 : (op == (26 : Int)) = false) (h16 : (op == (6 : Int)) = false) (h17 : (op == (7 : Int)) = false) (h18 : (op == (9 : Int)) = false) (h19 : (op == (10 : Int)) = false) (h20 : (op == (11 : Int)) = false) (h21 : (op == (12 : Int)) = false) (h22 : (op == (13 : Int)) = false) (h23 : (op == (18 : Int)) = false) (h24 : (op == (22 : Int)) = false) (h25 : (op == (8 : Int)) = false) (h26 : (op == (14 : Int)) = false) (h27 : (op == (15 : Int)) = false) :
    Ends PP 0 (start PP 130 [(.int .i64 op)]).as (.ret .nili) (hpOf [] 0) :=
  wE 0 [ty h0, ty h1, ty h2, ty h3, ty h4, ty h5, ty h6, ty h7, ty h8, ty h9, ty h10, ty h11, ty h12, ty h13, ty h14, ty h15, ty h16, ty h17, ty h18, ty h19, ty h20, ty h21, ty h22, ty h23, ty h24, ty h25, ty h26, ty h27] [.run 16, .b 4 false, .run 6, .b 4 false, .run 6, .b 4 false, .run 6, .b 4 false, .run 6, .b 4 false, .run 6, .b 4 false, .run 5, .b 4 false, .run 7, .b 13 false, .run 6, .b 13 false, .run 6, .b 13 false, .run 6, .b 13 false, .run 6, .b 13 false, .run 6, .b 13 false, .run 6, .b 13 false, .run 6, .b 13 false, .run 5, .b 13 false, .run 7, .b 24 false, .run 6, .b 24 false, .run 6, .b 24 false, .run 6, .b 24 false, .run 6, .b 24 false, .run 6, .b 24 false, .run 6, .b 24 false, .run 6, .b 24 false, .run 5, .b 24 false, .run 6, .b 35 false, .run 6, .b 38 false, .run 6, .b 42 false, .run 8] (by kernel_rfl) (by kernel_rfl) trivial ⟨h0, h1, h2, h3, h4, h5, h6, h7, h8, h9, h10, h11, h12, h13, h14, h15, h16, h17, h18, h19, h20, h21, h22, h23, h24, h25, h26, h27⟩
end Go.Hb

namespace Go.Hb
open Go.Proofs
theorem bIn_pure (n lo hi : Int) : Pure PP 65 [.int .i64 n, .int .i64 lo, .int .i64 hi] (.bool (inB n lo hi)) := by
  refine pure_at (by kernel_rfl) rfl rfl ?_
  by_cases h : n ≥ lo
  · have e : inB n lo hi = decide (n ≤ hi) := by unfold inB; rw [decide_eq_true (show lo ≤ n from h), Bool.true_and]
    rw [e]; exact bIn_E_0 n lo hi (decide_eq_true h)
  · have e : inB n lo hi = false := by unfold inB; rw [decide_eq_false (show ¬ lo ≤ n from h), Bool.false_and]
    rw [e]; exact bIn_E_1 n lo hi (decide_eq_false h)
theorem bInt_pure (n : Int) : Pure PP 180 [.int .i64 n] (.bool (inB n (-1000000000) 1000000000)) :=
  pure_at (by kernel_rfl) rfl rfl (bInt_E_0 n _ (bIn_pure n _ _))
/-! ### small strings, by runes -/
theorem decode_hi (b : ByteArray) (i : Nat) (h : 128 ≤ (b.get! i).toNat) : 128 ≤ (Utf8.decode b i).1 := by
  unfold Utf8.decode Utf8.runeError
  simp only [Nat.add_zero]
  rw [if_neg (show ¬ (b.get! i).toNat < 0x80 by omega)]
  repeat' split
  all_goals first
    | assumption
    | (simp_all; done)
    | (rename_i q; simp only [Bool.and_eq_true, decide_eq_true_eq, ge_iff_le] at q; simp only; omega)
theorem adec_of {s : Str} {i : Nat} {c : UInt8} (h : s[i]? = some c) : ∃ r d, adec (List.length s) (bytesNat s) i = some (r, d) ∧ (c.toNat < 128 → r = c.toNat ∧ d = 1) ∧ (128 ≤ c.toNat → 128 ≤ r) := by
  have hi := (List.getElem?_eq_some_iff.1 h).1
  have hb := byte_at h
  unfold adec
  have e1 : Nat.blt i (List.length s) = true := by rw [blt_dec]; exact decide_eq_true hi
  have e2 : Nat.mod (Nat.div (bytesNat s) (Nat.pow 256 i)) 256 = c.toNat := hb
  rw [e1, e2]
  simp only [cond]
  by_cases k : c.toNat < 128
  · have e3 : Nat.blt c.toNat 128 = true := by rw [blt_dec]; exact decide_eq_true k
    rw [e3]
    exact ⟨_, _, rfl, fun _ => ⟨rfl, rfl⟩, fun g => by omega⟩
  · have e3 : Nat.blt c.toNat 128 = false := by rw [blt_dec]; exact decide_eq_false k
    rw [e3]
    refine ⟨_, _, rfl, fun g => by omega, fun _ => ?_⟩
    have hn : natBytes (List.length s) (bytesNat s) = s := natBytes_bytesNat s
    rw [hn]
    have hg : ((⟨⟨s⟩⟩ : ByteArray).get! (i + 0)).toNat = c.toNat := by
      simp only [Nat.add_zero, ByteArray.get!]
      have : (⟨s⟩ : Array UInt8)[i]! = c := by
        rw [Array.getElem!_eq_getD, Array.getD_eq_getD_getElem?, show (⟨s⟩ : Array UInt8) = s.toArray from rfl, List.getElem?_toArray, h]; rfl
      rw [this]
    exact decode_hi _ _ (by rw [Nat.add_zero] at hg; rw [hg]; omega)
theorem bSmall_loop (s : Str) : ∀ (t : Str) (i : Nat), s.drop i = t → Ends PP 0 (bSmall_c0 s i).as (.ret (.bool (smallS t))) (hpOf [] 0)
  | [], i, h => bSmall_0_3 s i (dropN h)
  | c :: t, i, h => by
    obtain ⟨h1, h2, h3⟩ := dropC h
    obtain ⟨r, d, q1, q2, q3⟩ := adec_of h1
    by_cases g1 : c.toNat < 97
    · have := (q2 (by omega)).1
      exact Ends.eqv (bSmall_0_0 s i r d h3 q1 (by (simp only [decide_eq_true_eq, decide_eq_false_iff_not]; omega))) (by simp [smallS, smallC]; omega)
    · by_cases g2 : 122 < c.toNat
      · have hr : 122 < r := by
          by_cases k : c.toNat < 128
          · have := (q2 k).1; omega
          · have := q3 (by omega); omega
        exact Ends.eqv (bSmall_0_1 s i r d h3 q1 (by (simp only [decide_eq_true_eq, decide_eq_false_iff_not]; omega)) (by (simp only [decide_eq_true_eq, decide_eq_false_iff_not]; omega))) (by simp [smallS, smallC]; omega)
      · obtain ⟨rfl, rfl⟩ := q2 (by omega)
        refine (bSmall_0_2 s i _ _ h3 q1 (by (simp only [decide_eq_true_eq, decide_eq_false_iff_not]; omega)) (by (simp only [decide_eq_true_eq, decide_eq_false_iff_not]; omega))).ends ?_
        have e : smallC c = true := by simp [smallC]; omega
        exact Ends.eqv (bSmall_loop s t (i + 1) h2) (by simp [smallS, e])
theorem bSmall_pure (s : Str) : Pure PP 148 [avS s] (.bool (smallS s)) :=
  pure_at (by kernel_rfl) rfl rfl ((bSmall_E_0 s).ends (bSmall_loop s s 0 rfl))
theorem bGreat_pure (s : Str) : Pure PP 128 [avS s] (.bool (greatS s)) := by
  refine pure_at (by kernel_rfl) rfl rfl ?_
  match s with
  | [] => exact bGreat_E_4 [] rfl
  | c :: t =>
    have h0 : (!(strEq (List.length (c :: t)) (bytesNat (c :: t)) 0 0)) = true := by rw [strEq_nil]; rfl
    by_cases g0 : (c :: t).length ≤ 8
    · have g0' : (decide (((List.length (c :: t) : Nat) : Int) ≤ (8 : Int))) = true := by (simp only [decide_eq_true_eq, decide_eq_false_iff_not]; omega)
      by_cases g1 : 65 ≤ c.toNat
      · by_cases g2 : c.toNat ≤ 90
        · exact Ends.eqv (bGreat_E_0 (c :: t) c _ h0 g0' rfl (by (simp only [decide_eq_true_eq, decide_eq_false_iff_not]; omega)) (by (simp only [decide_eq_true_eq, decide_eq_false_iff_not]; omega)) (by simp) (bSmall_pure t)) (by simp only [greatS, decide_eq_true g0, decide_eq_true g1, decide_eq_true g2, Bool.true_and])
        · exact Ends.eqv (bGreat_E_1 (c :: t) c h0 g0' rfl (by (simp only [decide_eq_true_eq, decide_eq_false_iff_not]; omega)) (by (simp only [decide_eq_true_eq, decide_eq_false_iff_not]; omega))) (by simp only [greatS, decide_eq_false g2, Bool.and_false, Bool.false_and])
      · exact Ends.eqv (bGreat_E_2 (c :: t) c h0 g0' rfl (by (simp only [decide_eq_true_eq, decide_eq_false_iff_not]; omega))) (by simp only [greatS, decide_eq_false g1, Bool.and_false, Bool.false_and])
    · exact Ends.eqv (bGreat_E_3 (c :: t) h0 (by (simp only [decide_eq_true_eq, decide_eq_false_iff_not]; omega))) (by simp only [greatS, decide_eq_false g0, Bool.false_and])
theorem bCon_pure (c : Con) : Pure PP 74 [Con.av c] (.bool (consOk1 c)) := by
  refine pure_at (by kernel_rfl) rfl rfl ?_
  have hg := bGreat_pure c.name
  cases k : greatS c.name with
  | false => rw [k] at hg; exact Ends.eqv (bCon_E_1 c false hg rfl) (by simp [consOk1, k])
  | true => rw [k] at hg; exact Ends.eqv (bCon_E_0 c true _ hg rfl (bIn_pure _ _ _)) (by simp [consOk1, k])
/-! ### the number of a node -/
def numOk (p : Prog) (x : Node) : Bool := if x.op = 14 then true else nodeHead1 p x.op x.n

theorem bNumber_E (p : Prog) (x : Node) (hf : p.funs.length ≤ 1000) : Ends PP 0 (start PP 134 [Prog.av p, Node.av x]).as (.ret (.bool (numOk p x))) (hpOf [] 0) := by
  cases hb1 : (x.op == (1 : Int)) with
  | true =>
    exact Ends.eqv (bNumber_E_0 p x  (inB (x.n) (-1000000000) 1000000000) hb1 (bInt_pure (x.n))) (by simp_all [numOk, nodeHead1] <;> rfl)
  | false =>
    cases hb2 : (x.op == (2 : Int)) with
    | true =>
      exact Ends.eqv (bNumber_E_1 p x  (inB (x.n) 0 1) hb1 hb2 (bIn_pure (x.n) 0 1)) (by simp_all [numOk, nodeHead1] <;> rfl)
    | false =>
      cases hb3 : (x.op == (24 : Int)) with
      | true =>
        exact Ends.eqv (bNumber_E_2 p x  (inB (x.n) 0 3) hb1 hb2 hb3 (bIn_pure (x.n) 0 3)) (by simp_all [numOk, nodeHead1] <;> rfl)
      | false =>
        cases hb4 : (x.op == (4 : Int)) with
        | true =>
          exact Ends.eqv (bNumber_E_3 p x  (inB (x.n) (0 - ((List.length p.funs : Nat) : Int)) 29) hb1 hb2 hb3 hb4 (by (first | (first | assumption | rfl | (simp only [Int.toNat_natCast]; assumption) | (simp only [decide_eq_true_eq, decide_eq_false_iff_not]; omega) | omega | (apply wrap64 <;> omega) | (simp_all; done)) | (simp only [inB_iff, inB_not, beq_iff_eq, decide_eq_true_eq, decide_eq_false_iff_not] at *; omega))) (bIn_pure (x.n) (0 - ((List.length p.funs : Nat) : Int)) 29)) (by simp_all [numOk, nodeHead1] <;> rfl)
        | false =>
          cases hb5 : (x.op == (14 : Int)) with
          | true =>
            exact Ends.eqv (bNumber_E_4 p x   hb1 hb2 hb3 hb4 hb5) (by simp_all [numOk, nodeHead1] <;> rfl)
          | false =>
            exact Ends.eqv (bNumber_E_5 p x   hb1 hb2 hb3 hb4 hb5) (by simp_all [numOk, nodeHead1] <;> rfl)
theorem bNumber_pure (p : Prog) (x : Node) (hf : p.funs.length ≤ 1000) : Pure PP 134 [Prog.av p, Node.av x] (.bool (numOk p x)) :=
  pure_at (by kernel_rfl) rfl rfl (bNumber_E p x hf)
/-! ### the size of a pattern -/
mutual
def bsize : Pat → Int → Int
  | .mk _ _ _ ps, most => bsizes ps most 1
def bsizes : List Pat → Int → Int → Int
  | [], _, n => n
  | p :: ps, most, n => if n > most then n else bsizes ps most (n + bsize p (most - n))
end
mutual
theorem bsize_le : ∀ (p : Pat) (m : Int), 0 ≤ m → 1 ≤ bsize p m ∧ bsize p m ≤ m + 1
  | .mk _ _ _ ps, m, h => by rw [bsize]; exact bsizes_le ps m 1 (by omega) (by omega)
theorem bsizes_le : ∀ (ps : List Pat) (m n : Int), 1 ≤ n → n ≤ m + 1 → 1 ≤ bsizes ps m n ∧ bsizes ps m n ≤ m + 1
  | [], m, n, h1, h2 => by rw [bsizes]; omega
  | p :: ps, m, n, h1, h2 => by
    rw [bsizes]
    split
    · omega
    · have a := bsize_le p (m - n) (by omega)
      exact bsizes_le ps m _ (by omega) (by omega)
end
mutual
theorem bsize_ok : ∀ (p : Pat) (m : Int), 0 ≤ m → ((psize p : Int) ≤ m → bsize p m = psize p) ∧ (m < psize p → m < bsize p m)
  | .mk _ _ _ ps, m, h => by
    have := bsizes_ok ps m 1 (by omega)
    simp only [bsize, psize]
    constructor
    · intro g; have := this.1 (by omega); omega
    · intro g; exact this.2 (by omega)
theorem bsizes_ok : ∀ (ps : List Pat) (m n : Int), n ≤ m + 1 → (n + psizes ps ≤ m → bsizes ps m n = n + psizes ps) ∧ (m < n + psizes ps → m < bsizes ps m n)
  | [], m, n, h => by simp only [bsizes, psizes]; omega
  | p :: ps, m, n, h => by
    simp only [bsizes, psizes]
    split
    · omega
    · rename_i k
      have a := bsize_ok p (m - n) (by omega)
      have l := bsize_le p (m - n) (by omega)
      have b := bsizes_ok ps m (n + bsize p (m - n)) (by omega)
      constructor
      · intro g
        have := a.1 (by omega)
        have := b.1 (by omega)
        omega
      · intro g
        refine b.2 ?_
        by_cases q : (psize p : Int) ≤ m - n
        · have := a.1 q; omega
        · have := a.2 (by omega); omega
end
theorem bsize_iff (p : Pat) (m : Int) (h : 0 ≤ m) : bsize p m ≤ m ↔ (psize p : Int) ≤ m := by
  have := bsize_ok p m h
  constructor
  · intro g; by_cases k : (psize p : Int) ≤ m
    · exact k
    · have := this.2 (by omega); omega
  · intro g; have := this.1 g; omega
theorem bSize_loop (f n : Int) (s : Str) (ps : List Pat) (m : Int) (hm : m ≤ 1000) (ih : ∀ p ∈ ps, ∀ m : Int, 0 ≤ m → m ≤ 1000 → Pure PP 132 [Pat.av p, .int .i64 m] (.int .i64 (bsize p m))) :
    ∀ (t : List Pat) (i : Nat) (k : Int), ps.drop i = t → (i : Int) + 1 ≤ k → k ≤ m + 1 → Ends PP 0 (bSize_c0 f n s ps m k (i : Int)).as (.ret (.int .i64 (bsizes t m k))) (hpOf [] 0)
  | [], i, k, h, h1, h2 => by
    have := dropN h
    rw [bsizes]
    exact bSize_0_2 f n s ps m k i (by (simp only [decide_eq_true_eq, decide_eq_false_iff_not]; omega))
  | .mk f' n' s' ps' :: t, i, k, h, h1, h2 => by
    obtain ⟨g1, g2, g3⟩ := dropC h
    rw [bsizes]
    split
    · exact bSize_0_0 f n s ps m k i f' n' s' ps' (by (simp only [decide_eq_true_eq, decide_eq_false_iff_not]; omega)) (by omega) (by assumption) (by (simp only [decide_eq_true_eq, decide_eq_false_iff_not]; omega))
    · rename_i hk
      have l := bsize_le (.mk f' n' s' ps') (m - k) (by omega)
      refine (bSize_0_1 f n s ps m k i f' n' s' ps' _ (by (simp only [decide_eq_true_eq, decide_eq_false_iff_not]; omega)) (by omega) (by assumption) (by (simp only [decide_eq_true_eq, decide_eq_false_iff_not]; omega)) (by (apply wrap64 <;> omega)) (ih (.mk f' n' s' ps') (List.mem_of_getElem? g1) (m - k) (by omega) (by omega)) (by (apply wrap64 <;> omega)) (by (apply wrap64 <;> omega))).ends ?_
      exact bSize_loop f n s ps m hm ih t (i + 1) _ g2 (by omega) (by omega)
mutual
theorem bSize_pure : ∀ (p : Pat) (m : Int), 0 ≤ m → m ≤ 1000 → Pure PP 132 [Pat.av p, .int .i64 m] (.int .i64 (bsize p m))
  | .mk f n s ps, m, h0, h1 => by
    refine pure_at (by kernel_rfl) (by simp [AV.keylessL, pat_kl, AV.keyless]) rfl ?_
    rw [bsize]
    refine (bSize_E_0 f n s ps m).ends ?_
    exact bSize_loop f n s ps m h1 (bSize_all ps) ps 0 1 rfl (by omega) (by omega)
theorem bSize_all : ∀ (ps : List Pat), ∀ p ∈ ps, ∀ m : Int, 0 ≤ m → m ≤ 1000 → Pure PP 132 [Pat.av p, .int .i64 m] (.int .i64 (bsize p m))
  | [], p, hp, _, _, _ => by cases hp
  | q :: ps, p, hp, m, h0, h1 => by
    rcases List.mem_cons.1 hp with e | hp
    · rw [e]; exact bSize_pure q m h0 h1
    · exact bSize_all ps p hp m h0 h1
end
end Go.Hb

