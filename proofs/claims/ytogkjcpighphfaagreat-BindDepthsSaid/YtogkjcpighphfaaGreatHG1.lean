/-
  OWN WORK (the ways WRITTEN BY A PROGRAM): the reference's kids and patterns.
-/
import Derived.Test.YtogkjcpighphfaaGreatHG0
set_option linter.unusedVariables false
set_option linter.unusedSimpArgs false
set_option linter.unusedSectionVars false
namespace Go.Hb
open Go.Proofs
noncomputable def rPat_c0 (q_form : Int) (q_n : Int) (q_text : Str) (q_parts : (List Pat)) (cons : (List Con)) (is5 : Bool) (i7 : Int) : TS :=
  { fr := { fn := 140, nt := 82, sl := [(1, (.ilst 2 (List.map Con.av cons) false)), (2, (.ptr 0 0)), (4, (.bool false)), (5, (.bool is5)), (6, (.int .i64 ((List.length q_parts : Nat) : Int))), (7, (.int .i64 i7))], todo := [.code (cd Tryz.f140 [1, 1, 1, 1, 1, 0, 1, 0, 0]), .inLoop (cd Tryz.f140 [1, 1, 1, 1, 1, 0, 1, 0, 0]), .inBlock 1, .code (cd Tryz.f140 [1, 1, 1, 1, 1, 1])] }, cs := [], hp := [(0, (.cells (putCells .leaf 0 [(.int .i64 q_form), (.int .i64 q_n), (avS q_text), (.ilst 4 (Pats.av q_parts) false)]) 4 [] false), false)], nb := 1 }
theorem rPat_E_0 (q_form : Int) (q_n : Int) (q_text : Str) (q_parts : (List Pat)) (cons : (List Con)) (h0 : (q_form == (1 : Int)) = true) (h1 : (((List.length q_parts : Nat) : Int) == (0 : Int)) = true) (h2 : (q_n == (0 : Int)) = true) :
    LeadsM PP 0 (start PP 140 [(.agg [(.int .i64 q_form), (.int .i64 q_n), (avS q_text), (.ilst 4 (Pats.av q_parts) false)]), (.ilst 2 (List.map Con.av cons) false)]).as (rPat_c0 q_form q_n q_text q_parts cons (strEq (List.length q_text) (bytesNat q_text) 0 0) 0).as :=
  wW 1 [0] [((List.length (Pats.av q_parts) : Nat) : Int) = ((List.length q_parts : Nat) : Int), ty h0, ty h1, ty h2] [.run 13, .ans (.len ((List.length q_parts : Nat) : Int)), .run 15, .b 13 true, .run 7, .b 19 true, .run 11, .b 61 true, .run 13] (by kernel_rfl) (by kernel_rfl) trivial ⟨(len_iF pats_map _), h0, h1, h2⟩
theorem rPat_E_1 (q_form : Int) (q_n : Int) (q_text : Str) (q_parts : (List Pat)) (cons : (List Con)) (h0 : (q_form == (1 : Int)) = true) (h1 : (((List.length q_parts : Nat) : Int) == (0 : Int)) = true) (h2 : (q_n == (0 : Int)) = false) :
    LeadsM PP 0 (start PP 140 [(.agg [(.int .i64 q_form), (.int .i64 q_n), (avS q_text), (.ilst 4 (Pats.av q_parts) false)]), (.ilst 2 (List.map Con.av cons) false)]).as (rPat_c0 q_form q_n q_text q_parts cons false 0).as :=
  wW 1 [0] [((List.length (Pats.av q_parts) : Nat) : Int) = ((List.length q_parts : Nat) : Int), ty h0, ty h1, ty h2] [.run 13, .ans (.len ((List.length q_parts : Nat) : Int)), .run 15, .b 13 true, .run 7, .b 19 true, .run 11, .b 61 false, .run 13] (by kernel_rfl) (by kernel_rfl) trivial ⟨(len_iF pats_map _), h0, h1, h2⟩
theorem rPat_E_2 (q_form : Int) (q_n : Int) (q_text : Str) (q_parts : (List Pat)) (cons : (List Con)) (h0 : (q_form == (1 : Int)) = true) (h1 : (((List.length q_parts : Nat) : Int) == (0 : Int)) = false) :
    LeadsM PP 0 (start PP 140 [(.agg [(.int .i64 q_form), (.int .i64 q_n), (avS q_text), (.ilst 4 (Pats.av q_parts) false)]), (.ilst 2 (List.map Con.av cons) false)]).as (rPat_c0 q_form q_n q_text q_parts cons false 0).as :=
  wW 1 [0] [((List.length (Pats.av q_parts) : Nat) : Int) = ((List.length q_parts : Nat) : Int), ty h0, ty h1] [.run 13, .ans (.len ((List.length q_parts : Nat) : Int)), .run 15, .b 13 true, .run 7, .b 19 false, .run 24] (by kernel_rfl) (by kernel_rfl) trivial ⟨(len_iF pats_map _), h0, h1⟩
theorem rPat_E_3 (q_form : Int) (q_n : Int) (q_text : Str) (q_parts : (List Pat)) (cons : (List Con)) (h0 : (q_form == (1 : Int)) = false) (h1 : (q_form == (2 : Int)) = true) (h2 : (((List.length q_parts : Nat) : Int) == (0 : Int)) = true) (h3 : (q_n == (0 : Int)) = true) :
    LeadsM PP 0 (start PP 140 [(.agg [(.int .i64 q_form), (.int .i64 q_n), (avS q_text), (.ilst 4 (Pats.av q_parts) false)]), (.ilst 2 (List.map Con.av cons) false)]).as (rPat_c0 q_form q_n q_text q_parts cons (strEq (List.length q_text) (bytesNat q_text) 0 0) 0).as :=
  wW 1 [0] [((List.length (Pats.av q_parts) : Nat) : Int) = ((List.length q_parts : Nat) : Int), ty h0, ty h1, ty h2, ty h3] [.run 13, .ans (.len ((List.length q_parts : Nat) : Int)), .run 15, .b 13 false, .run 6, .b 13 true, .run 7, .b 19 true, .run 11, .b 61 true, .run 13] (by kernel_rfl) (by kernel_rfl) trivial ⟨(len_iF pats_map _), h0, h1, h2, h3⟩
theorem rPat_E_4 (q_form : Int) (q_n : Int) (q_text : Str) (q_parts : (List Pat)) (cons : (List Con)) (h0 : (q_form == (1 : Int)) = false) (h1 : (q_form == (2 : Int)) = true) (h2 : (((List.length q_parts : Nat) : Int) == (0 : Int)) = true) (h3 : (q_n == (0 : Int)) = false) :
    LeadsM PP 0 (start PP 140 [(.agg [(.int .i64 q_form), (.int .i64 q_n), (avS q_text), (.ilst 4 (Pats.av q_parts) false)]), (.ilst 2 (List.map Con.av cons) false)]).as (rPat_c0 q_form q_n q_text q_parts cons false 0).as :=
  wW 1 [0] [((List.length (Pats.av q_parts) : Nat) : Int) = ((List.length q_parts : Nat) : Int), ty h0, ty h1, ty h2, ty h3] [.run 13, .ans (.len ((List.length q_parts : Nat) : Int)), .run 15, .b 13 false, .run 6, .b 13 true, .run 7, .b 19 true, .run 11, .b 61 false, .run 13] (by kernel_rfl) (by kernel_rfl) trivial ⟨(len_iF pats_map _), h0, h1, h2, h3⟩
theorem rPat_E_5 (q_form : Int) (q_n : Int) (q_text : Str) (q_parts : (List Pat)) (cons : (List Con)) (h0 : (q_form == (1 : Int)) = false) (h1 : (q_form == (2 : Int)) = true) (h2 : (((List.length q_parts : Nat) : Int) == (0 : Int)) = false) :
    LeadsM PP 0 (start PP 140 [(.agg [(.int .i64 q_form), (.int .i64 q_n), (avS q_text), (.ilst 4 (Pats.av q_parts) false)]), (.ilst 2 (List.map Con.av cons) false)]).as (rPat_c0 q_form q_n q_text q_parts cons false 0).as :=
  wW 1 [0] [((List.length (Pats.av q_parts) : Nat) : Int) = ((List.length q_parts : Nat) : Int), ty h0, ty h1, ty h2] [.run 13, .ans (.len ((List.length q_parts : Nat) : Int)), .run 15, .b 13 false, .run 6, .b 13 true, .run 7, .b 19 false, .run 24] (by kernel_rfl) (by kernel_rfl) trivial ⟨(len_iF pats_map _), h0, h1, h2⟩
theorem rPat_E_6 (q_form : Int) (q_n : Int) (q_text : Str) (q_parts : (List Pat)) (cons : (List Con)) (h0 : (q_form == (1 : Int)) = false) (h1 : (q_form == (2 : Int)) = false) (h2 : (q_form == (5 : Int)) = true) (h3 : (((List.length q_parts : Nat) : Int) == (0 : Int)) = true) (h4 : (q_n == (0 : Int)) = true) :
    LeadsM PP 0 (start PP 140 [(.agg [(.int .i64 q_form), (.int .i64 q_n), (avS q_text), (.ilst 4 (Pats.av q_parts) false)]), (.ilst 2 (List.map Con.av cons) false)]).as (rPat_c0 q_form q_n q_text q_parts cons (strEq (List.length q_text) (bytesNat q_text) 0 0) 0).as :=
  wW 1 [0] [((List.length (Pats.av q_parts) : Nat) : Int) = ((List.length q_parts : Nat) : Int), ty h0, ty h1, ty h2, ty h3, ty h4] [.run 13, .ans (.len ((List.length q_parts : Nat) : Int)), .run 15, .b 13 false, .run 6, .b 13 false, .run 5, .b 13 true, .run 5, .b 19 true, .run 11, .b 61 true, .run 13] (by kernel_rfl) (by kernel_rfl) trivial ⟨(len_iF pats_map _), h0, h1, h2, h3, h4⟩
theorem rPat_E_7 (q_form : Int) (q_n : Int) (q_text : Str) (q_parts : (List Pat)) (cons : (List Con)) (h0 : (q_form == (1 : Int)) = false) (h1 : (q_form == (2 : Int)) = false) (h2 : (q_form == (5 : Int)) = true) (h3 : (((List.length q_parts : Nat) : Int) == (0 : Int)) = true) (h4 : (q_n == (0 : Int)) = false) :
    LeadsM PP 0 (start PP 140 [(.agg [(.int .i64 q_form), (.int .i64 q_n), (avS q_text), (.ilst 4 (Pats.av q_parts) false)]), (.ilst 2 (List.map Con.av cons) false)]).as (rPat_c0 q_form q_n q_text q_parts cons false 0).as :=
  wW 1 [0] [((List.length (Pats.av q_parts) : Nat) : Int) = ((List.length q_parts : Nat) : Int), ty h0, ty h1, ty h2, ty h3, ty h4] [.run 13, .ans (.len ((List.length q_parts : Nat) : Int)), .run 15, .b 13 false, .run 6, .b 13 false, .run 5, .b 13 true, .run 5, .b 19 true, .run 11, .b 61 false, .run 13] (by kernel_rfl) (by kernel_rfl) trivial ⟨(len_iF pats_map _), h0, h1, h2, h3, h4⟩
theorem rPat_E_8 (q_form : Int) (q_n : Int) (q_text : Str) (q_parts : (List Pat)) (cons : (List Con)) (h0 : (q_form == (1 : Int)) = false) (h1 : (q_form == (2 : Int)) = false) (h2 : (q_form == (5 : Int)) = true) (h3 : (((List.length q_parts : Nat) : Int) == (0 : Int)) = false) :
    LeadsM PP 0 (start PP 140 [(.agg [(.int .i64 q_form), (.int .i64 q_n), (avS q_text), (.ilst 4 (Pats.av q_parts) false)]), (.ilst 2 (List.map Con.av cons) false)]).as (rPat_c0 q_form q_n q_text q_parts cons false 0).as :=
  wW 1 [0] [((List.length (Pats.av q_parts) : Nat) : Int) = ((List.length q_parts : Nat) : Int), ty h0, ty h1, ty h2, ty h3] [.run 13, .ans (.len ((List.length q_parts : Nat) : Int)), .run 15, .b 13 false, .run 6, .b 13 false, .run 5, .b 13 true, .run 5, .b 19 false, .run 24] (by kernel_rfl) (by kernel_rfl) trivial ⟨(len_iF pats_map _), h0, h1, h2, h3⟩
theorem rPat_E_9 (q_form : Int) (q_n : Int) (q_text : Str) (q_parts : (List Pat)) (cons : (List Con)) (y0 : Bool) (h0 : (q_form == (1 : Int)) = false) (h1 : (q_form == (2 : Int)) = false) (h2 : (q_form == (5 : Int)) = false) (h3 : (q_form == (3 : Int)) = true) (h4 : (((List.length q_parts : Nat) : Int) == (0 : Int)) = true) (h5 : Pure PP 82 [(.int .i64 q_n), (.int .i64 (-1000000000)), (.int .i64 1000000000)] (.bool y0)) (h6 : y0 = true) :
    LeadsM PP 0 (start PP 140 [(.agg [(.int .i64 q_form), (.int .i64 q_n), (avS q_text), (.ilst 4 (Pats.av q_parts) false)]), (.ilst 2 (List.map Con.av cons) false)]).as (rPat_c0 q_form q_n q_text q_parts cons (strEq (List.length q_text) (bytesNat q_text) 0 0) 0).as :=
  wW 1 [0] [((List.length (Pats.av q_parts) : Nat) : Int) = ((List.length q_parts : Nat) : Int), ty h0, ty h1, ty h2, ty h3, ty h4, ty h5, ty h6] [.run 13, .ans (.len ((List.length q_parts : Nat) : Int)), .run 15, .b 13 false, .run 6, .b 13 false, .run 5, .b 13 false, .run 6, .b 24 true, .run 5, .b 28 true, .run 2, .pure (.bool y0), .run 8, .b 61 true, .run 13] (by kernel_rfl) (by kernel_rfl) trivial ⟨(len_iF pats_map _), h0, h1, h2, h3, h4, h5, h6⟩
theorem rPat_E_10 (q_form : Int) (q_n : Int) (q_text : Str) (q_parts : (List Pat)) (cons : (List Con)) (y0 : Bool) (h0 : (q_form == (1 : Int)) = false) (h1 : (q_form == (2 : Int)) = false) (h2 : (q_form == (5 : Int)) = false) (h3 : (q_form == (3 : Int)) = true) (h4 : (((List.length q_parts : Nat) : Int) == (0 : Int)) = true) (h5 : Pure PP 82 [(.int .i64 q_n), (.int .i64 (-1000000000)), (.int .i64 1000000000)] (.bool y0)) (h6 : y0 = false) :
    LeadsM PP 0 (start PP 140 [(.agg [(.int .i64 q_form), (.int .i64 q_n), (avS q_text), (.ilst 4 (Pats.av q_parts) false)]), (.ilst 2 (List.map Con.av cons) false)]).as (rPat_c0 q_form q_n q_text q_parts cons false 0).as :=
  wW 1 [0] [((List.length (Pats.av q_parts) : Nat) : Int) = ((List.length q_parts : Nat) : Int), ty h0, ty h1, ty h2, ty h3, ty h4, ty h5, ty h6] [.run 13, .ans (.len ((List.length q_parts : Nat) : Int)), .run 15, .b 13 false, .run 6, .b 13 false, .run 5, .b 13 false, .run 6, .b 24 true, .run 5, .b 28 true, .run 2, .pure (.bool y0), .run 8, .b 61 false, .run 13] (by kernel_rfl) (by kernel_rfl) trivial ⟨(len_iF pats_map _), h0, h1, h2, h3, h4, h5, h6⟩
theorem rPat_E_11 (q_form : Int) (q_n : Int) (q_text : Str) (q_parts : (List Pat)) (cons : (List Con)) (h0 : (q_form == (1 : Int)) = false) (h1 : (q_form == (2 : Int)) = false) (h2 : (q_form == (5 : Int)) = false) (h3 : (q_form == (3 : Int)) = true) (h4 : (((List.length q_parts : Nat) : Int) == (0 : Int)) = false) :
    LeadsM PP 0 (start PP 140 [(.agg [(.int .i64 q_form), (.int .i64 q_n), (avS q_text), (.ilst 4 (Pats.av q_parts) false)]), (.ilst 2 (List.map Con.av cons) false)]).as (rPat_c0 q_form q_n q_text q_parts cons false 0).as :=
  wW 1 [0] [((List.length (Pats.av q_parts) : Nat) : Int) = ((List.length q_parts : Nat) : Int), ty h0, ty h1, ty h2, ty h3, ty h4] [.run 13, .ans (.len ((List.length q_parts : Nat) : Int)), .run 15, .b 13 false, .run 6, .b 13 false, .run 5, .b 13 false, .run 6, .b 24 true, .run 5, .b 28 false, .run 24] (by kernel_rfl) (by kernel_rfl) trivial ⟨(len_iF pats_map _), h0, h1, h2, h3, h4⟩
theorem rPat_E_12 (q_form : Int) (q_n : Int) (q_text : Str) (q_parts : (List Pat)) (cons : (List Con)) (y0 : Bool) (h0 : (q_form == (1 : Int)) = false) (h1 : (q_form == (2 : Int)) = false) (h2 : (q_form == (5 : Int)) = false) (h3 : (q_form == (3 : Int)) = false) (h4 : (q_form == (4 : Int)) = true) (h5 : (((List.length q_parts : Nat) : Int) == (0 : Int)) = true) (h6 : Pure PP 82 [(.int .i64 q_n), (.int .i64 0), (.int .i64 1)] (.bool y0)) (h7 : y0 = true) :
    LeadsM PP 0 (start PP 140 [(.agg [(.int .i64 q_form), (.int .i64 q_n), (avS q_text), (.ilst 4 (Pats.av q_parts) false)]), (.ilst 2 (List.map Con.av cons) false)]).as (rPat_c0 q_form q_n q_text q_parts cons (strEq (List.length q_text) (bytesNat q_text) 0 0) 0).as :=
  wW 1 [0] [((List.length (Pats.av q_parts) : Nat) : Int) = ((List.length q_parts : Nat) : Int), ty h0, ty h1, ty h2, ty h3, ty h4, ty h5, ty h6, ty h7] [.run 13, .ans (.len ((List.length q_parts : Nat) : Int)), .run 15, .b 13 false, .run 6, .b 13 false, .run 5, .b 13 false, .run 6, .b 24 false, .run 6, .b 33 true, .run 5, .b 37 true, .run 2, .pure (.bool y0), .run 8, .b 61 true, .run 13] (by kernel_rfl) (by kernel_rfl) trivial ⟨(len_iF pats_map _), h0, h1, h2, h3, h4, h5, h6, h7⟩
theorem rPat_E_13 (q_form : Int) (q_n : Int) (q_text : Str) (q_parts : (List Pat)) (cons : (List Con)) (y0 : Bool) (h0 : (q_form == (1 : Int)) = false) (h1 : (q_form == (2 : Int)) = false) (h2 : (q_form == (5 : Int)) = false) (h3 : (q_form == (3 : Int)) = false) (h4 : (q_form == (4 : Int)) = true) (h5 : (((List.length q_parts : Nat) : Int) == (0 : Int)) = true) (h6 : Pure PP 82 [(.int .i64 q_n), (.int .i64 0), (.int .i64 1)] (.bool y0)) (h7 : y0 = false) :
    LeadsM PP 0 (start PP 140 [(.agg [(.int .i64 q_form), (.int .i64 q_n), (avS q_text), (.ilst 4 (Pats.av q_parts) false)]), (.ilst 2 (List.map Con.av cons) false)]).as (rPat_c0 q_form q_n q_text q_parts cons false 0).as :=
  wW 1 [0] [((List.length (Pats.av q_parts) : Nat) : Int) = ((List.length q_parts : Nat) : Int), ty h0, ty h1, ty h2, ty h3, ty h4, ty h5, ty h6, ty h7] [.run 13, .ans (.len ((List.length q_parts : Nat) : Int)), .run 15, .b 13 false, .run 6, .b 13 false, .run 5, .b 13 false, .run 6, .b 24 false, .run 6, .b 33 true, .run 5, .b 37 true, .run 2, .pure (.bool y0), .run 8, .b 61 false, .run 13] (by kernel_rfl) (by kernel_rfl) trivial ⟨(len_iF pats_map _), h0, h1, h2, h3, h4, h5, h6, h7⟩
theorem rPat_E_14 (q_form : Int) (q_n : Int) (q_text : Str) (q_parts : (List Pat)) (cons : (List Con)) (h0 : (q_form == (1 : Int)) = false) (h1 : (q_form == (2 : Int)) = false) (h2 : (q_form == (5 : Int)) = false) (h3 : (q_form == (3 : Int)) = false) (h4 : (q_form == (4 : Int)) = true) (h5 : (((List.length q_parts : Nat) : Int) == (0 : Int)) = false) :
    LeadsM PP 0 (start PP 140 [(.agg [(.int .i64 q_form), (.int .i64 q_n), (avS q_text), (.ilst 4 (Pats.av q_parts) false)]), (.ilst 2 (List.map Con.av cons) false)]).as (rPat_c0 q_form q_n q_text q_parts cons false 0).as :=
  wW 1 [0] [((List.length (Pats.av q_parts) : Nat) : Int) = ((List.length q_parts : Nat) : Int), ty h0, ty h1, ty h2, ty h3, ty h4, ty h5] [.run 13, .ans (.len ((List.length q_parts : Nat) : Int)), .run 15, .b 13 false, .run 6, .b 13 false, .run 5, .b 13 false, .run 6, .b 24 false, .run 6, .b 33 true, .run 5, .b 37 false, .run 24] (by kernel_rfl) (by kernel_rfl) trivial ⟨(len_iF pats_map _), h0, h1, h2, h3, h4, h5⟩
theorem rPat_E_15 (q_form : Int) (q_n : Int) (q_text : Str) (q_parts : (List Pat)) (cons : (List Con)) (y0 : Bool) (y1 : Con) (h0 : (q_form == (1 : Int)) = false) (h1 : (q_form == (2 : Int)) = false) (h2 : (q_form == (5 : Int)) = false) (h3 : (q_form == (3 : Int)) = false) (h4 : (q_form == (4 : Int)) = false) (h5 : (q_form == (6 : Int)) = true) (h6 : (IntKind.i64.wrap (((List.length cons : Nat) : Int) - (1 : Int))) = (((List.length cons : Nat) : Int) - (1 : Int))) (h7 : Pure PP 82 [(.int .i64 q_n), (.int .i64 0), (.int .i64 (((List.length cons : Nat) : Int) - (1 : Int)))] (.bool y0)) (h8 : y0 = true) (h9 : 0 ≤ q_n) (h10 : ((cons)[q_n.toNat]?) = some y1) (h11 : (((List.length q_parts : Nat) : Int) == y1.args) = true) :
    LeadsM PP 0 (start PP 140 [(.agg [(.int .i64 q_form), (.int .i64 q_n), (avS q_text), (.ilst 4 (Pats.av q_parts) false)]), (.ilst 2 (List.map Con.av cons) false)]).as (rPat_c0 q_form q_n q_text q_parts cons (strEq (List.length q_text) (bytesNat q_text) 0 0) 0).as :=
  wW 1 [0] [((List.length (Pats.av q_parts) : Nat) : Int) = ((List.length q_parts : Nat) : Int), ty h0, ty h1, ty h2, ty h3, ty h4, ty h5, ((List.length (List.map Con.av cons) : Nat) : Int) = ((List.length cons : Nat) : Int), (AV.int .i64 (IntKind.i64.wrap (((List.length cons : Nat) : Int) - (1 : Int)))) = (.int .i64 (((List.length cons : Nat) : Int) - (1 : Int))), ty h7, ty h8, 0 ≤ q_n, (List.map Con.av cons)[q_n.toNat]? = some (Con.av y1), ty h11] [.run 13, .ans (.len ((List.length q_parts : Nat) : Int)), .run 15, .b 13 false, .run 6, .b 13 false, .run 5, .b 13 false, .run 6, .b 24 false, .run 6, .b 33 false, .run 6, .b 42 true, .run 5, .ans (.len ((List.length cons : Nat) : Int)), .run 1, .set 48 (.int .i64 (((List.length cons : Nat) : Int) - (1 : Int))), .pure (.bool y0), .run 1, .b 50 true, .run 4, .ans (.idx (Con.av y1)), .run 11, .b 61 true, .run 13] (by kernel_rfl) (by kernel_rfl) trivial ⟨(len_iF pats_map _), h0, h1, h2, h3, h4, h5, (len_i _ _), (congrArg (AV.int .i64) h6), h7, h8, h9, (map_get h10), h11⟩
theorem rPat_E_16 (q_form : Int) (q_n : Int) (q_text : Str) (q_parts : (List Pat)) (cons : (List Con)) (y0 : Bool) (y1 : Con) (h0 : (q_form == (1 : Int)) = false) (h1 : (q_form == (2 : Int)) = false) (h2 : (q_form == (5 : Int)) = false) (h3 : (q_form == (3 : Int)) = false) (h4 : (q_form == (4 : Int)) = false) (h5 : (q_form == (6 : Int)) = true) (h6 : (IntKind.i64.wrap (((List.length cons : Nat) : Int) - (1 : Int))) = (((List.length cons : Nat) : Int) - (1 : Int))) (h7 : Pure PP 82 [(.int .i64 q_n), (.int .i64 0), (.int .i64 (((List.length cons : Nat) : Int) - (1 : Int)))] (.bool y0)) (h8 : y0 = true) (h9 : 0 ≤ q_n) (h10 : ((cons)[q_n.toNat]?) = some y1) (h11 : (((List.length q_parts : Nat) : Int) == y1.args) = false) :
    LeadsM PP 0 (start PP 140 [(.agg [(.int .i64 q_form), (.int .i64 q_n), (avS q_text), (.ilst 4 (Pats.av q_parts) false)]), (.ilst 2 (List.map Con.av cons) false)]).as (rPat_c0 q_form q_n q_text q_parts cons false 0).as :=
  wW 1 [0] [((List.length (Pats.av q_parts) : Nat) : Int) = ((List.length q_parts : Nat) : Int), ty h0, ty h1, ty h2, ty h3, ty h4, ty h5, ((List.length (List.map Con.av cons) : Nat) : Int) = ((List.length cons : Nat) : Int), (AV.int .i64 (IntKind.i64.wrap (((List.length cons : Nat) : Int) - (1 : Int)))) = (.int .i64 (((List.length cons : Nat) : Int) - (1 : Int))), ty h7, ty h8, 0 ≤ q_n, (List.map Con.av cons)[q_n.toNat]? = some (Con.av y1), ty h11] [.run 13, .ans (.len ((List.length q_parts : Nat) : Int)), .run 15, .b 13 false, .run 6, .b 13 false, .run 5, .b 13 false, .run 6, .b 24 false, .run 6, .b 33 false, .run 6, .b 42 true, .run 5, .ans (.len ((List.length cons : Nat) : Int)), .run 1, .set 48 (.int .i64 (((List.length cons : Nat) : Int) - (1 : Int))), .pure (.bool y0), .run 1, .b 50 true, .run 4, .ans (.idx (Con.av y1)), .run 11, .b 61 false, .run 13] (by kernel_rfl) (by kernel_rfl) trivial ⟨(len_iF pats_map _), h0, h1, h2, h3, h4, h5, (len_i _ _), (congrArg (AV.int .i64) h6), h7, h8, h9, (map_get h10), h11⟩
theorem rPat_E_17 (q_form : Int) (q_n : Int) (q_text : Str) (q_parts : (List Pat)) (cons : (List Con)) (y0 : Bool) (h0 : (q_form == (1 : Int)) = false) (h1 : (q_form == (2 : Int)) = false) (h2 : (q_form == (5 : Int)) = false) (h3 : (q_form == (3 : Int)) = false) (h4 : (q_form == (4 : Int)) = false) (h5 : (q_form == (6 : Int)) = true) (h6 : (IntKind.i64.wrap (((List.length cons : Nat) : Int) - (1 : Int))) = (((List.length cons : Nat) : Int) - (1 : Int))) (h7 : Pure PP 82 [(.int .i64 q_n), (.int .i64 0), (.int .i64 (((List.length cons : Nat) : Int) - (1 : Int)))] (.bool y0)) (h8 : y0 = false) :
    LeadsM PP 0 (start PP 140 [(.agg [(.int .i64 q_form), (.int .i64 q_n), (avS q_text), (.ilst 4 (Pats.av q_parts) false)]), (.ilst 2 (List.map Con.av cons) false)]).as (rPat_c0 q_form q_n q_text q_parts cons false 0).as :=
  wW 1 [0] [((List.length (Pats.av q_parts) : Nat) : Int) = ((List.length q_parts : Nat) : Int), ty h0, ty h1, ty h2, ty h3, ty h4, ty h5, ((List.length (List.map Con.av cons) : Nat) : Int) = ((List.length cons : Nat) : Int), (AV.int .i64 (IntKind.i64.wrap (((List.length cons : Nat) : Int) - (1 : Int)))) = (.int .i64 (((List.length cons : Nat) : Int) - (1 : Int))), ty h7, ty h8] [.run 13, .ans (.len ((List.length q_parts : Nat) : Int)), .run 15, .b 13 false, .run 6, .b 13 false, .run 5, .b 13 false, .run 6, .b 24 false, .run 6, .b 33 false, .run 6, .b 42 true, .run 5, .ans (.len ((List.length cons : Nat) : Int)), .run 1, .set 48 (.int .i64 (((List.length cons : Nat) : Int) - (1 : Int))), .pure (.bool y0), .run 1, .b 50 false, .run 29] (by kernel_rfl) (by kernel_rfl) trivial ⟨(len_iF pats_map _), h0, h1, h2, h3, h4, h5, (len_i _ _), (congrArg (AV.int .i64) h6), h7, h8⟩
theorem rPat_E_18 (q_form : Int) (q_n : Int) (q_text : Str) (q_parts : (List Pat)) (cons : (List Con)) (h0 : (q_form == (1 : Int)) = false) (h1 : (q_form == (2 : Int)) = false) (h2 : (q_form == (5 : Int)) = false) (h3 : (q_form == (3 : Int)) = false) (h4 : (q_form == (4 : Int)) = false) (h5 : (q_form == (6 : Int)) = false) :
    LeadsM PP 0 (start PP 140 [(.agg [(.int .i64 q_form), (.int .i64 q_n), (avS q_text), (.ilst 4 (Pats.av q_parts) false)]), (.ilst 2 (List.map Con.av cons) false)]).as (rPat_c0 q_form q_n q_text q_parts cons false 0).as :=
  wW 1 [0] [((List.length (Pats.av q_parts) : Nat) : Int) = ((List.length q_parts : Nat) : Int), ty h0, ty h1, ty h2, ty h3, ty h4, ty h5] [.run 13, .ans (.len ((List.length q_parts : Nat) : Int)), .run 15, .b 13 false, .run 6, .b 13 false, .run 5, .b 13 false, .run 6, .b 24 false, .run 6, .b 33 false, .run 6, .b 42 false, .run 20] (by kernel_rfl) (by kernel_rfl) trivial ⟨(len_iF pats_map _), h0, h1, h2, h3, h4, h5⟩
theorem rPat_0_0 (q_form : Int) (q_n : Int) (q_text : Str) (q_parts : (List Pat)) (cons : (List Con)) (is5 : Bool) (i7 : Int) (y_form0 : Int) (y_n1 : Int) (y_text2 : Str) (y_parts3 : (List Pat)) (y4 : Bool) (h0 : (decide (i7 < ((List.length q_parts : Nat) : Int))) = true) (h1 : is5 = true) (h2 : 0 ≤ i7) (h3 : ((q_parts)[i7.toNat]?) = some (Pat.mk y_form0 y_n1 y_text2 y_parts3)) (h4 : Pure PP 140 [(.agg [(.int .i64 y_form0), (.int .i64 y_n1), (avS y_text2), (.ilst 4 (Pats.av y_parts3) false)]), (.ilst 2 (List.map Con.av cons) false)] (.bool y4)) (h5 : (IntKind.i64.wrap (i7 + (1 : Int))) = (i7 + (1 : Int))) :
    LeadsM PP 0 (rPat_c0 q_form q_n q_text q_parts cons is5 i7).as (rPat_c0 q_form q_n q_text q_parts cons y4 (i7 + (1 : Int))).as :=
  wW 1 [0] [ty h0, ty h1, 0 ≤ i7, (Pats.av q_parts)[i7.toNat]? = some (Pat.av (Pat.mk y_form0 y_n1 y_text2 y_parts3)), ty h4, (AV.int .i64 (IntKind.i64.wrap (i7 + (1 : Int)))) = (.int .i64 (i7 + (1 : Int)))] [.run 7, .b 69 true, .run 3, .b 71 true, .run 8, .ans (.idx (Pat.av (Pat.mk y_form0 y_n1 y_text2 y_parts3))), .run 2, .pure (.bool y4), .run 6, .set 73 (.int .i64 (i7 + (1 : Int))), .run 3] (by kernel_rfl) (by kernel_rfl) trivial ⟨h0, h1, h2, (map_getF pats_map h3), h4, (congrArg (AV.int .i64) h5)⟩
theorem rPat_0_1 (q_form : Int) (q_n : Int) (q_text : Str) (q_parts : (List Pat)) (cons : (List Con)) (is5 : Bool) (i7 : Int) (h0 : (decide (i7 < ((List.length q_parts : Nat) : Int))) = true) (h1 : is5 = false) :
    Ends PP 0 (rPat_c0 q_form q_n q_text q_parts cons is5 i7).as (.ret (.bool is5)) (hpOf [] 0) :=
  wE 1 [ty h0, ty h1] [.run 7, .b 69 true, .run 3, .b 71 false, .run 8] (by kernel_rfl) (by kernel_rfl) trivial ⟨h0, h1⟩
theorem rPat_0_2 (q_form : Int) (q_n : Int) (q_text : Str) (q_parts : (List Pat)) (cons : (List Con)) (is5 : Bool) (i7 : Int) (h0 : (decide (i7 < ((List.length q_parts : Nat) : Int))) = false) :
    Ends PP 0 (rPat_c0 q_form q_n q_text q_parts cons is5 i7).as (.ret (.bool is5)) (hpOf [] 0) :=
  wE 1 [ty h0] [.run 7, .b 69 false, .run 11] (by kernel_rfl) (by kernel_rfl) trivial h0
theorem rKids_E_0 (op : Int) (pats : Int) (args : Int) (h0 : (op == (1 : Int)) = true) :
    Ends PP 0 (start PP 141 [(.int .i64 op), (.int .i64 pats), (.int .i64 args)]).as (.ret (.int .i64 0)) (hpOf [] 0) :=
  wE 0 [ty h0] [.run 16, .b 8 true, .run 8] (by kernel_rfl) (by kernel_rfl) trivial h0
theorem rKids_E_1 (op : Int) (pats : Int) (args : Int) (h0 : (op == (1 : Int)) = false) (h1 : (op == (2 : Int)) = true) :
    Ends PP 0 (start PP 141 [(.int .i64 op), (.int .i64 pats), (.int .i64 args)]).as (.ret (.int .i64 0)) (hpOf [] 0) :=
  wE 0 [ty h0, ty h1] [.run 16, .b 8 false, .run 6, .b 8 true, .run 8] (by kernel_rfl) (by kernel_rfl) trivial ⟨h0, h1⟩
theorem rKids_E_2 (op : Int) (pats : Int) (args : Int) (h0 : (op == (1 : Int)) = false) (h1 : (op == (2 : Int)) = false) (h2 : (op == (3 : Int)) = true) :
    Ends PP 0 (start PP 141 [(.int .i64 op), (.int .i64 pats), (.int .i64 args)]).as (.ret (.int .i64 0)) (hpOf [] 0) :=
  wE 0 [ty h0, ty h1, ty h2] [.run 16, .b 8 false, .run 6, .b 8 false, .run 6, .b 8 true, .run 8] (by kernel_rfl) (by kernel_rfl) trivial ⟨h0, h1, h2⟩
theorem rKids_E_3 (op : Int) (pats : Int) (args : Int) (h0 : (op == (1 : Int)) = false) (h1 : (op == (2 : Int)) = false) (h2 : (op == (3 : Int)) = false) (h3 : (op == (4 : Int)) = true) :
    Ends PP 0 (start PP 141 [(.int .i64 op), (.int .i64 pats), (.int .i64 args)]).as (.ret (.int .i64 0)) (hpOf [] 0) :=
  wE 0 [ty h0, ty h1, ty h2, ty h3] [.run 16, .b 8 false, .run 6, .b 8 false, .run 6, .b 8 false, .run 6, .b 8 true, .run 8] (by kernel_rfl) (by kernel_rfl) trivial ⟨h0, h1, h2, h3⟩
theorem rKids_E_4 (op : Int) (pats : Int) (args : Int) (h0 : (op == (1 : Int)) = false) (h1 : (op == (2 : Int)) = false) (h2 : (op == (3 : Int)) = false) (h3 : (op == (4 : Int)) = false) (h4 : (op == (21 : Int)) = true) :
    Ends PP 0 (start PP 141 [(.int .i64 op), (.int .i64 pats), (.int .i64 args)]).as (.ret (.int .i64 0)) (hpOf [] 0) :=
  wE 0 [ty h0, ty h1, ty h2, ty h3, ty h4] [.run 16, .b 8 false, .run 6, .b 8 false, .run 6, .b 8 false, .run 6, .b 8 false, .run 6, .b 8 true, .run 8] (by kernel_rfl) (by kernel_rfl) trivial ⟨h0, h1, h2, h3, h4⟩
theorem rKids_E_5 (op : Int) (pats : Int) (args : Int) (h0 : (op == (1 : Int)) = false) (h1 : (op == (2 : Int)) = false) (h2 : (op == (3 : Int)) = false) (h3 : (op == (4 : Int)) = false) (h4 : (op == (21 : Int)) = false) (h5 : (op == (25 : Int)) = true) :
    Ends PP 0 (start PP 141 [(.int .i64 op), (.int .i64 pats), (.int .i64 args)]).as (.ret (.int .i64 0)) (hpOf [] 0) :=
  wE 0 [ty h0, ty h1, ty h2, ty h3, ty h4, ty h5] [.run 16, .b 8 false, .run 6, .b 8 false, .run 6, .b 8 false, .run 6, .b 8 false, .run 6, .b 8 false, .run 6, .b 8 true, .run 8] (by kernel_rfl) (by kernel_rfl) trivial ⟨h0, h1, h2, h3, h4, h5⟩
theorem rKids_E_6 (op : Int) (pats : Int) (args : Int) (h0 : (op == (1 : Int)) = false) (h1 : (op == (2 : Int)) = false) (h2 : (op == (3 : Int)) = false) (h3 : (op == (4 : Int)) = false) (h4 : (op == (21 : Int)) = false) (h5 : (op == (25 : Int)) = false) (h6 : (op == (28 : Int)) = true) :
    Ends PP 0 (start PP 141 [(.int .i64 op), (.int .i64 pats), (.int .i64 args)]).as (.ret (.int .i64 0)) (hpOf [] 0) :=
  wE 0 [ty h0, ty h1, ty h2, ty h3, ty h4, ty h5, ty h6] [.run 16, .b 8 false, .run 6, .b 8 false, .run 6, .b 8 false, .run 6, .b 8 false, .run 6, .b 8 false, .run 6, .b 8 false, .run 5, .b 8 true, .run 6] (by kernel_rfl) (by kernel_rfl) trivial ⟨h0, h1, h2, h3, h4, h5, h6⟩
theorem rKids_E_7 (op : Int) (pats : Int) (args : Int) (h0 : (op == (1 : Int)) = false) (h1 : (op == (2 : Int)) = false) (h2 : (op == (3 : Int)) = false) (h3 : (op == (4 : Int)) = false) (h4 : (op == (21 : Int)) = false) (h5 : (op == (25 : Int)) = false) (h6 : (op == (28 : Int)) = false) (h7 : (op == (5 : Int)) = true) :
    Ends PP 0 (start PP 141 [(.int .i64 op), (.int .i64 pats), (.int .i64 args)]).as (.ret (.int .i64 1)) (hpOf [] 0) :=
  wE 0 [ty h0, ty h1, ty h2, ty h3, ty h4, ty h5, ty h6, ty h7] [.run 16, .b 8 false, .run 6, .b 8 false, .run 6, .b 8 false, .run 6, .b 8 false, .run 6, .b 8 false, .run 6, .b 8 false, .run 5, .b 8 false, .run 7, .b 16 true, .run 8] (by kernel_rfl) (by kernel_rfl) trivial ⟨h0, h1, h2, h3, h4, h5, h6, h7⟩
theorem rKids_E_8 (op : Int) (pats : Int) (args : Int) (h0 : (op == (1 : Int)) = false) (h1 : (op == (2 : Int)) = false) (h2 : (op == (3 : Int)) = false) (h3 : (op == (4 : Int)) = false) (h4 : (op == (21 : Int)) = false) (h5 : (op == (25 : Int)) = false) (h6 : (op == (28 : Int)) = false) (h7 : (op == (5 : Int)) = false) (h8 : (op == (27 : Int)) = true) :
    Ends PP 0 (start PP 141 [(.int .i64 op), (.int .i64 pats), (.int .i64 args)]).as (.ret (.int .i64 1)) (hpOf [] 0) :=
  wE 0 [ty h0, ty h1, ty h2, ty h3, ty h4, ty h5, ty h6, ty h7, ty h8] [.run 16, .b 8 false, .run 6, .b 8 false, .run 6, .b 8 false, .run 6, .b 8 false, .run 6, .b 8 false, .run 6, .b 8 false, .run 5, .b 8 false, .run 7, .b 16 false, .run 6, .b 16 true, .run 8] (by kernel_rfl) (by kernel_rfl) trivial ⟨h0, h1, h2, h3, h4, h5, h6, h7, h8⟩
theorem rKids_E_9 (op : Int) (pats : Int) (args : Int) (h0 : (op == (1 : Int)) = false) (h1 : (op == (2 : Int)) = false) (h2 : (op == (3 : Int)) = false) (h3 : (op == (4 : Int)) = false) (h4 : (op == (21 : Int)) = false) (h5 : (op == (25 : Int)) = false) (h6 : (op == (28 : Int)) = false) (h7 : (op == (5 : Int)) = false) (h8 : (op == (27 : Int)) = false) (h9 : (op == (16 : Int)) = true) :
    Ends PP 0 (start PP 141 [(.int .i64 op), (.int .i64 pats), (.int .i64 args)]).as (.ret (.int .i64 1)) (hpOf [] 0) :=
  wE 0 [ty h0, ty h1, ty h2, ty h3, ty h4, ty h5, ty h6, ty h7, ty h8, ty h9] [.run 16, .b 8 false, .run 6, .b 8 false, .run 6, .b 8 false, .run 6, .b 8 false, .run 6, .b 8 false, .run 6, .b 8 false, .run 5, .b 8 false, .run 7, .b 16 false, .run 6, .b 16 false, .run 6, .b 16 true, .run 8] (by kernel_rfl) (by kernel_rfl) trivial ⟨h0, h1, h2, h3, h4, h5, h6, h7, h8, h9⟩
theorem rKids_E_10 (op : Int) (pats : Int) (args : Int) (h0 : (op == (1 : Int)) = false) (h1 : (op == (2 : Int)) = false) (h2 : (op == (3 : Int)) = false) (h3 : (op == (4 : Int)) = false) (h4 : (op == (21 : Int)) = false) (h5 : (op == (25 : Int)) = false) (h6 : (op == (28 : Int)) = false) (h7 : (op == (5 : Int)) = false) (h8 : (op == (27 : Int)) = false) (h9 : (op == (16 : Int)) = false) (h10 : (op == (17 : Int)) = true) :
    Ends PP 0 (start PP 141 [(.int .i64 op), (.int .i64 pats), (.int .i64 args)]).as (.ret (.int .i64 1)) (hpOf [] 0) :=
  wE 0 [ty h0, ty h1, ty h2, ty h3, ty h4, ty h5, ty h6, ty h7, ty h8, ty h9, ty h10] [.run 16, .b 8 false, .run 6, .b 8 false, .run 6, .b 8 false, .run 6, .b 8 false, .run 6, .b 8 false, .run 6, .b 8 false, .run 5, .b 8 false, .run 7, .b 16 false, .run 6, .b 16 false, .run 6, .b 16 false, .run 6, .b 16 true, .run 8] (by kernel_rfl) (by kernel_rfl) trivial ⟨h0, h1, h2, h3, h4, h5, h6, h7, h8, h9, h10⟩
theorem rKids_E_11 (op : Int) (pats : Int) (args : Int) (h0 : (op == (1 : Int)) = false) (h1 : (op == (2 : Int)) = false) (h2 : (op == (3 : Int)) = false) (h3 : (op == (4 : Int)) = false) (h4 : (op == (21 : Int)) = false) (h5 : (op == (25 : Int)) = false) (h6 : (op == (28 : Int)) = false) (h7 : (op == (5 : Int)) = false) (h8 : (op == (27 : Int)) = false) (h9 : (op == (16 : Int)) = false) (h10 : (op == (17 : Int)) = false) (h11 : (op == (19 : Int)) = true) :
    Ends PP 0 (start PP 141 [(.int .i64 op), (.int .i64 pats), (.int .i64 args)]).as (.ret (.int .i64 1)) (hpOf [] 0) :=
  wE 0 [ty h0, ty h1, ty h2, ty h3, ty h4, ty h5, ty h6, ty h7, ty h8, ty h9, ty h10, ty h11] [.run 16, .b 8 false, .run 6, .b 8 false, .run 6, .b 8 false, .run 6, .b 8 false, .run 6, .b 8 false, .run 6, .b 8 false, .run 5, .b 8 false, .run 7, .b 16 false, .run 6, .b 16 false, .run 6, .b 16 false, .run 6, .b 16 false, .run 6, .b 16 true, .run 8] (by kernel_rfl) (by kernel_rfl) trivial ⟨h0, h1, h2, h3, h4, h5, h6, h7, h8, h9, h10, h11⟩
theorem rKids_E_12 (op : Int) (pats : Int) (args : Int) (h0 : (op == (1 : Int)) = false) (h1 : (op == (2 : Int)) = false) (h2 : (op == (3 : Int)) = false) (h3 : (op == (4 : Int)) = false) (h4 : (op == (21 : Int)) = false) (h5 : (op == (25 : Int)) = false) (h6 : (op == (28 : Int)) = false) (h7 : (op == (5 : Int)) = false) (h8 : (op == (27 : Int)) = false) (h9 : (op == (16 : Int)) = false) (h10 : (op == (17 : Int)) = false) (h11 : (op == (19 : Int)) = false) (h12 : (op == (20 : Int)) = true) :
    Ends PP 0 (start PP 141 [(.int .i64 op), (.int .i64 pats), (.int .i64 args)]).as (.ret (.int .i64 1)) (hpOf [] 0) :=
  wE 0 [ty h0, ty h1, ty h2, ty h3, ty h4, ty h5, ty h6, ty h7, ty h8, ty h9, ty h10, ty h11, ty h12] [.run 16, .b 8 false, .run 6, .b 8 false, .run 6, .b 8 false, .run 6, .b 8 false, .run 6, .b 8 false, .run 6, .b 8 false, .run 5, .b 8 false, .run 7, .b 16 false, .run 6, .b 16 false, .run 6, .b 16 false, .run 6, .b 16 false, .run 6, .b 16 false, .run 6, .b 16 true, .run 8] (by kernel_rfl) (by kernel_rfl) trivial ⟨h0, h1, h2, h3, h4, h5, h6, h7, h8, h9, h10, h11, h12⟩
theorem rKids_E_13 (op : Int) (pats : Int) (args : Int) (h0 : (op == (1 : Int)) = false) (h1 : (op == (2 : Int)) = false) (h2 : (op == (3 : Int)) = false) (h3 : (op == (4 : Int)) = false) (h4 : (op == (21 : Int)) = false) (h5 : (op == (25 : Int)) = false) (h6 : (op == (28 : Int)) = false) (h7 : (op == (5 : Int)) = false) (h8 : (op == (27 : Int)) = false) (h9 : (op == (16 : Int)) = false) (h10 : (op == (17 : Int)) = false) (h11 : (op == (19 : Int)) = false) (h12 : (op == (20 : Int)) = false) (h13 : (op == (23 : Int)) = true) :
    Ends PP 0 (start PP 141 [(.int .i64 op), (.int .i64 pats), (.int .i64 args)]).as (.ret (.int .i64 1)) (hpOf [] 0) :=
  wE 0 [ty h0, ty h1, ty h2, ty h3, ty h4, ty h5, ty h6, ty h7, ty h8, ty h9, ty h10, ty h11, ty h12, ty h13] [.run 16, .b 8 false, .run 6, .b 8 false, .run 6, .b 8 false, .run 6, .b 8 false, .run 6, .b 8 false, .run 6, .b 8 false, .run 5, .b 8 false, .run 7, .b 16 false, .run 6, .b 16 false, .run 6, .b 16 false, .run 6, .b 16 false, .run 6, .b 16 false, .run 6, .b 16 false, .run 6, .b 16 true, .run 8] (by kernel_rfl) (by kernel_rfl) trivial ⟨h0, h1, h2, h3, h4, h5, h6, h7, h8, h9, h10, h11, h12, h13⟩
theorem rKids_E_14 (op : Int) (pats : Int) (args : Int) (h0 : (op == (1 : Int)) = false) (h1 : (op == (2 : Int)) = false) (h2 : (op == (3 : Int)) = false) (h3 : (op == (4 : Int)) = false) (h4 : (op == (21 : Int)) = false) (h5 : (op == (25 : Int)) = false) (h6 : (op == (28 : Int)) = false) (h7 : (op == (5 : Int)) = false) (h8 : (op == (27 : Int)) = false) (h9 : (op == (16 : Int)) = false) (h10 : (op == (17 : Int)) = false) (h11 : (op == (19 : Int)) = false) (h12 : (op == (20 : Int)) = false) (h13 : (op == (23 : Int)) = false) (h14 : (op == (26 : Int)) = true) :
    Ends PP 0 (start PP 141 [(.int .i64 op), (.int .i64 pats), (.int .i64 args)]).as (.ret (.int .i64 1)) (hpOf [] 0) :=
  wE 0 [ty h0, ty h1, ty h2, ty h3, ty h4, ty h5, ty h6, ty h7, ty h8, ty h9, ty h10, ty h11, ty h12, ty h13, ty h14] [.run 16, .b 8 false, .run 6, .b 8 false, .run 6, .b 8 false, .run 6, .b 8 false, .run 6, .b 8 false, .run 6, .b 8 false, .run 5, .b 8 false, .run 7, .b 16 false, .run 6, .b 16 false, .run 6, .b 16 false, .run 6, .b 16 false, .run 6, .b 16 false, .run 6, .b 16 false, .run 6, .b 16 false, .run 6, .b 16 true, .run 8] (by kernel_rfl) (by kernel_rfl) trivial ⟨h0, h1, h2, h3, h4, h5, h6, h7, h8, h9, h10, h11, h12, h13, h14⟩
theorem rKids_E_15 (op : Int) (pats : Int) (args : Int) (h0 : (op == (1 : Int)) = false) (h1 : (op == (2 : Int)) = false) (h2 : (op == (3 : Int)) = false) (h3 : (op == (4 : Int)) = false) (h4 : (op == (21 : Int)) = false) (h5 : (op == (25 : Int)) = false) (h6 : (op == (28 : Int)) = false) (h7 : (op == (5 : Int)) = false) (h8 : (op == (27 : Int)) = false) (h9 : (op == (16 : Int)) = false) (h10 : (op == (17 : Int)) = false) (h11 : (op == (19 : Int)) = false) (h12 : (op == (20 : Int)) = false) (h13 : (op == (23 : Int)) = false) (h14 : (op == (26 : Int)) = false) (h15 : (op == (24 : Int)) = true) :
    Ends PP 0 (start PP 141 [(.int .i64 op), (.int .i64 pats), (.int .i64 args)]).as (.ret (.int .i64 1)) (hpOf [] 0) :=
  wE 0 [ty h0, ty h1, ty h2, ty h3, ty h4, ty h5, ty h6, ty h7, ty h8, ty h9, ty h10, ty h11, ty h12, ty h13, ty h14, ty h15] [.run 16, .b 8 false, .run 6, .b 8 false, .run 6, .b 8 false, .run 6, .b 8 false, .run 6, .b 8 false, .run 6, .b 8 false, .run 5, .b 8 false, .run 7, .b 16 false, .run 6, .b 16 false, .run 6, .b 16 false, .run 6, .b 16 false, .run 6, .b 16 false, .run 6, .b 16 false, .run 6, .b 16 false, .run 6, .b 16 false, .run 5, .b 16 true, .run 6] (by kernel_rfl) (by kernel_rfl) trivial ⟨h0, h1, h2, h3, h4, h5, h6, h7, h8, h9, h10, h11, h12, h13, h14, h15⟩
theorem rKids_E_16 (op : Int) (pats : Int) (args : Int) (h0 : (op == (1 : Int)) = false) (h1 : (op == (2 : Int)) = false) (h2 : (op == (3 : Int)) = false) (h3 : (op == (4 : Int)) = false) (h4 : (op == (21 : Int)) = false) (h5 : (op == (25 : Int)) = false) (h6 : (op == (28 : Int)) = false) (h7 : (op == (5 : Int)) = false) (h8 : (op == (27 : Int)) = false) (h9 : (op == (16 : Int)) = false) (h10 : (op == (17 : Int)) = false) (h11 : (op == (19 : Int)) = false) (h12 : (op == (20 : Int)) = false) (h13 : (op == (23 : Int)) = false) (h14 : (op == (26 : Int)) = false) (h15 : (op == (24 : Int)) = false) (h16 : (op == (6 : Int)) = true) :
    Ends PP 0 (start PP 141 [(.int .i64 op), (.int .i64 pats), (.int .i64 args)]).as (.ret (.int .i64 2)) (hpOf [] 0) :=
  wE 0 [ty h0, ty h1, ty h2, ty h3, ty h4, ty h5, ty h6, ty h7, ty h8, ty h9, ty h10, ty h11, ty h12, ty h13, ty h14, ty h15, ty h16] [.run 16, .b 8 false, .run 6, .b 8 false, .run 6, .b 8 false, .run 6, .b 8 false, .run 6, .b 8 false, .run 6, .b 8 false, .run 5, .b 8 false, .run 7, .b 16 false, .run 6, .b 16 false, .run 6, .b 16 false, .run 6, .b 16 false, .run 6, .b 16 false, .run 6, .b 16 false, .run 6, .b 16 false, .run 6, .b 16 false, .run 5, .b 16 false, .run 7, .b 26 true, .run 8] (by kernel_rfl) (by kernel_rfl) trivial ⟨h0, h1, h2, h3, h4, h5, h6, h7, h8, h9, h10, h11, h12, h13, h14, h15, h16⟩
theorem rKids_E_17 (op : Int) (pats : Int) (args : Int) (h0 : (op == (1 : Int)) = false) (h1 : (op == (2 : Int)) = false) (h2 : (op == (3 : Int)) = false) (h3 : (op == (4 : Int)) = false) (h4 : (op == (21 : Int)) = false) (h5 : (op == (25 : Int)) = false) (h6 : (op == (28 : Int)) = false) (h7 : (op == (5 : Int)) = false) (h8 : (op == (27 : Int)) = false) (h9 : (op == (16 : Int)) = false) (h10 : (op == (17 : Int)) = false) (h11 : (op == (19 : Int)) = false) (h12 : (op == (20 : Int)) = false) (h13 : (op == (23 : Int)) = false) (h14 : (op == (26 : Int)) = false) (h15 : (op == (24 : Int)) = false) (h16 : (op == (6 : Int)) = false) (h17 : (op == (7 : Int)) = true) :
    Ends PP 0 (start PP 141 [(.int .i64 op), (.int .i64 pats), (.int .i64 args)]).as (.ret (.int .i64 2)) (hpOf [] 0) :=
  wE 0 [ty h0, ty h1, ty h2, ty h3, ty h4, ty h5, ty h6, ty h7, ty h8, ty h9, ty h10, ty h11, ty h12, ty h13, ty h14, ty h15, ty h16, ty h17] [.run 16, .b 8 false, .run 6, .b 8 false, .run 6, .b 8 false, .run 6, .b 8 false, .run 6, .b 8 false, .run 6, .b 8 false, .run 5, .b 8 false, .run 7, .b 16 false, .run 6, .b 16 false, .run 6, .b 16 false, .run 6, .b 16 false, .run 6, .b 16 false, .run 6, .b 16 false, .run 6, .b 16 false, .run 6, .b 16 false, .run 5, .b 16 false, .run 7, .b 26 false, .run 6, .b 26 true, .run 8] (by kernel_rfl) (by kernel_rfl) trivial ⟨h0, h1, h2, h3, h4, h5, h6, h7, h8, h9, h10, h11, h12, h13, h14, h15, h16, h17⟩
theorem rKids_E_18 (op : Int) (pats : Int) (args : Int) (h0 : (op == (1 : Int)) = false) (h1 : (op == (2 : Int)) = false) (h2 : (op == (3 : Int)) = false) (h3 : (op == (4 : Int)) = false) (h4 : (op == (21 : Int)) = false) (h5 : (op == (25 : Int)) = false) (h6 : (op == (28 : Int)) = false) (h7 : (op == (5 : Int)) = false) (h8 : (op == (27 : Int)) = false) (h9 : (op == (16 : Int)) = false) (h10 : (op == (17 : Int)) = false) (h11 : (op == (19 : Int)) = false) (h12 : (op == (20 : Int)) = false) (h13 : (op == (23 : Int)) = false) (h14 : (op == (26 : Int)) = false) (h15 : (op == (24 : Int)) = false) (h16 : (op == (6 : Int)) = false) (h17 : (op == (7 : Int)) = false) (h18 : (op == (9 : Int)) = true) :
    Ends PP 0 (start PP 141 [(.int .i64 op), (.int .i64 pats), (.int .i64 args)]).as (.ret (.int .i64 2)) (hpOf [] 0) :=
  wE 0 [ty h0, ty h1, ty h2, ty h3, ty h4, ty h5, ty h6, ty h7, ty h8, ty h9, ty h10, ty h11, ty h12, ty h13, ty h14, ty h15, ty h16, ty h17, ty h18] [.run 16, .b 8 false, .run 6, .b 8 false, .run 6, .b 8 false, .run 6, .b 8 false, .run 6, .b 8 false, .run 6, .b 8 false, .run 5, .b 8 false, .run 7, .b 16 false, .run 6, .b 16 false, .run 6, .b 16 false, .run 6, .b 16 false, .run 6, .b 16 false, .run 6, .b 16 false, .run 6, .b 16 false, .run 6, .b 16 false, .run 5, .b 16 false, .run 7, .b 26 false, .run 6, .b 26 false, .run 6, .b 26 true, .run 8] (by kernel_rfl) (by kernel_rfl) trivial ⟨h0, h1, h2, h3, h4, h5, h6, h7, h8, h9, h10, h11, h12, h13, h14, h15, h16, h17, h18⟩
theorem rKids_E_19 (op : Int) (pats : Int) (args : Int) (h0 : (op == (1 : Int)) = false) (h1 : (op == (2 : Int)) = false) (h2 : (op == (3 : Int)) = false) (h3 : (op == (4 : Int)) = false) (h4 : (op == (21 : Int)) = false) (h5 : (op == (25 : Int)) = false) (h6 : (op == (28 : Int)) = false) (h7 : (op == (5 : Int)) = false) (h8 : (op == (27 : Int)) = false) (h9 : (op == (16 : Int)) = false) (h10 : (op == (17 : Int)) = false) (h11 : (op == (19 : Int)) = false) (h12 : (op == (20 : Int)) = false) (h13 : (op == (23 : Int)) = false) (h14 : (op == (26 : Int)) = false) (h15 : (op == (24 : Int)) = false) (h16 : (op == (6 : Int)) = false) (h17 : (op == (7 : Int)) = false) (h18 : (op == (9 : Int)) = false) (h19 : (op == (10 : Int)) = true) :
    Ends PP 0 (start PP 141 [(.int .i64 op), (.int .i64 pats), (.int .i64 args)]).as (.ret (.int .i64 2)) (hpOf [] 0) :=
  wE 0 [ty h0, ty h1, ty h2, ty h3, ty h4, ty h5, ty h6, ty h7, ty h8, ty h9, ty h10, ty h11, ty h12, ty h13, ty h14, ty h15, ty h16, ty h17, ty h18, ty h19] [.run 16, .b 8 false, .run 6, .b 8 false, .run 6, .b 8 false, .run 6, .b 8 false, .run 6, .b 8 false, .run 6, .b 8 false, .run 5, .b 8 false, .run 7, .b 16 false, .run 6, .b 16 false, .run 6, .b 16 false, .run 6, .b 16 false, .run 6, .b 16 false, .run 6, .b 16 false, .run 6, .b 16 false, .run 6, .b 16 false, .run 5, .b 16 false, .run 7, .b 26 false, .run 6, .b 26 false, .run 6, .b 26 false, .run 6, .b 26 true, .run 8] (by kernel_rfl) (by kernel_rfl) trivial ⟨h0, h1, h2, h3, h4, h5, h6, h7, h8, h9, h10, h11, h12, h13, h14, h15, h16, h17, h18, h19⟩
theorem rKids_E_20 (op : Int) (pats : Int) (args : Int) (h0 : (op == (1 : Int)) = false) (h1 : (op == (2 : Int)) = false) (h2 : (op == (3 : Int)) = false) (h3 : (op == (4 : Int)) = false) (h4 : (op == (21 : Int)) = false) (h5 : (op == (25 : Int)) = false) (h6 : (op == (28 : Int)) = false) (h7 : (op == (5 : Int)) = false) (h8 : (op == (27 : Int)) = false) (h9 : (op == (16 : Int)) = false) (h10 : (op == (17 : Int)) = false) (h11 : (op == (19 : Int)) = false) (h12 : (op == (20 : Int)) = false) (h13 : (op == (23 : Int)) = false) (h14 : (op == (26 : Int)) = false) (h15 : (op == (24 : Int)) = false) (h16 : (op == (6 : Int)) = false) (h17 : (op == (7 : Int)) = false) (h18 : (op == (9 : Int)) = false) (h19 : (op == (10 : Int)) = false) (h20 : (op == (11 : Int)) = true) :
    Ends PP 0 (start PP 141 [(.int .i64 op), (.int .i64 pats), (.int .i64 args)]).as (.ret (.int .i64 2)) (hpOf [] 0) :=
  wE 0 [ty h0, ty h1, ty h2, ty h3, ty h4, ty h5, ty h6, ty h7, ty h8, ty h9, ty h10, ty h11, ty h12, ty h13, ty h14, ty h15, ty h16, ty h17, ty h18, ty h19, ty h20] [.run 16, .b 8 false, .run 6, .b 8 false, .run 6, .b 8 false, .run 6, .b 8 false, .run 6, .b 8 false, .run 6, .b 8 false, .run 5, .b 8 false, .run 7, .b 16 false, .run 6, .b 16 false, .run 6, .b 16 false, .run 6, .b 16 false, .run 6, .b 16 false, .run 6, .b 16 false, .run 6, .b 16 false, .run 6, .b 16 false, .run 5, .b 16 false, .run 7, .b 26 false, .run 6, .b 26 false, .run 6, .b 26 false, .run 6, .b 26 false, .run 6, .b 26 true, .run 8] (by kernel_rfl) (by kernel_rfl) trivial ⟨h0, h1, h2, h3, h4, h5, h6, h7, h8, h9, h10, h11, h12, h13, h14, h15, h16, h17, h18, h19, h20⟩
theorem rKids_E_21 (op : Int) (pats : Int) (args : Int) (h0 : (op == (1 : Int)) = false) (h1 : (op == (2 : Int)) = false) (h2 : (op == (3 : Int)) = false) (h3 : (op == (4 : Int)) = false) (h4 : (op == (21 : Int)) = false) (h5 : (op == (25 : Int)) = false) (h6 : (op == (28 : Int)) = false) (h7 : (op == (5 : Int)) = false) (h8 : (op == (27 : Int)) = false) (h9 : (op == (16 : Int)) = false) (h10 : (op == (17 : Int)) = false) (h11 : (op == (19 : Int)) = false) (h12 : (op == (20 : Int)) = false) (h13 : (op == (23 : Int)) = false) (h14 : (op == (26 : Int)) = false) (h15 : (op == (24 : Int)) = false) (h16 : (op == (6 : Int)) = false) (h17 : (op == (7 : Int)) = false) (h18 : (op == (9 : Int)) = false) (h19 : (op == (10 : Int)) = false) (h20 : (op == (11 : Int)) = false) (h21 : (op == (12 : Int)) = true) :
    Ends PP 0 (start PP 141 [(.int .i64 op), (.int .i64 pats), (.int .i64 args)]).as (.ret (.int .i64 2)) (hpOf [] 0) :=
  wE 0 [ty h0, ty h1, ty h2, ty h3, ty h4, ty h5, ty h6, ty h7, ty h8, ty h9, ty h10, ty h11, ty h12, ty h13, ty h14, ty h15, ty h16, ty h17, ty h18, ty h19, ty h20, ty h21] [.run 16, .b 8 false, .run 6, .b 8 false, .run 6, .b 8 false, .run 6, .b 8 false, .run 6, .b 8 false, .run 6, .b 8 false, .run 5, .b 8 false, .run 7, .b 16 false, .run 6, .b 16 false, .run 6, .b 16 false, .run 6, .b 16 false, .run 6, .b 16 false, .run 6, .b 16 false, .run 6, .b 16 false, .run 6, .b 16 false, .run 5, .b 16 false, .run 7, .b 26 false, .run 6, .b 26 false, .run 6, .b 26 false, .run 6, .b 26 false, .run 6, .b 26 false, .run 6, .b 26 true, .run 8] (by kernel_rfl) (by kernel_rfl) trivial ⟨h0, h1, h2, h3, h4, h5, h6, h7, h8, h9, h10, h11, h12, h13, h14, h15, h16, h17, h18, h19, h20, h21⟩
theorem rKids_E_22 (op : Int) (pats : Int) (args : Int) (h0 : (op == (1 : Int)) = false) (h1 : (op == (2 : Int)) = false) (h2 : (op == (3 : Int)) = false) (h3 : (op == (4 : Int)) = false) (h4 : (op == (21 : Int)) = false) (h5 : (op == (25 : Int)) = false) (h6 : (op == (28 : Int)) = false) (h7 : (op == (5 : Int)) = false) (h8 : (op == (27 : Int)) = false) (h9 : (op == (16 : Int)) = false) (h10 : (op == (17 : Int)) = false) (h11 : (op == (19 : Int)) = false) (h12 : (op == (20 : Int)) = false) (h13 : (op == (23 : Int)) = false) (h14 : (op == (26 : Int)) = false) (h15 : (op == (24 : Int)) = false) (h16 : (op == (6 : Int)) = false) (h17 : (op == (7 : Int)) = false) (h18 : (op == (9 : Int)) = false) (h19 : (op == (10 : Int)) = false) (h20 : (op == (11 : Int)) = false) (h21 : (op == (12 : Int)) = false) (h22 : (op == (13 : Int)) = true) :
    Ends PP 0 (start PP 141 [(.int .i64 op), (.int .i64 pats), (.int .i64 args)]).as (.ret (.int .i64 2)) (hpOf [] 0) :=
  wE 0 [ty h0, ty h1, ty h2, ty h3, ty h4, ty h5, ty h6, ty h7, ty h8, ty h9, ty h10, ty h11, ty h12, ty h13, ty h14, ty h15, ty h16, ty h17, ty h18, ty h19, ty h20, ty h21, ty h22] [.run 16, .b 8 false, .run 6, .b 8 false, .run 6, .b 8 false, .run 6, .b 8 false, .run 6, .b 8 false, .run 6, .b 8 false, .run 5, .b 8 false, .run 7, .b 16 false, .run 6, .b 16 false, .run 6, .b 16 false, .run 6, .b 16 false, .run 6, .b 16 false, .run 6, .b 16 false, .run 6, .b 16 false, .run 6, .b 16 false, .run 5, .b 16 false, .run 7, .b 26 false, .run 6, .b 26 false, .run 6, .b 26 false, .run 6, .b 26 false, .run 6, .b 26 false, .run 6, .b 26 false, .run 6, .b 26 true, .run 8] (by kernel_rfl) (by kernel_rfl) trivial ⟨h0, h1, h2, h3, h4, h5, h6, h7, h8, h9, h10, h11, h12, h13, h14, h15, h16, h17, h18, h19, h20, h21, h22⟩
theorem rKids_E_23 (op : Int) (pats : Int) (args : Int) (h0 : (op == (1 : Int)) = false) (h1 : (op == (2 : Int)) = false) (h2 : (op == (3 : Int)) = false) (h3 : (op == (4 : Int)) = false) (h4 : (op == (21 : Int)) = false) (h5 : (op == (25 : Int)) = false) (h6 : (op == (28 : Int)) = false) (h7 : (op == (5 : Int)) = false) (h8 : (op == (27 : Int)) = false) (h9 : (op == (16 : Int)) = false) (h10 : (op == (17 : Int)) = false) (h11 : (op == (19 : Int)) = false) (h12 : (op == (20 : Int)) = false) (h13 : (op == (23 : Int)) = false) (h14 : (op == (26 : Int)) = false) (h15 : (op == (24 : Int)) = false) (h16 : (op == (6 : Int)) = false) (h17 : (op == (7 : Int)) = false) (h18 : (op == (9 : Int)) = false) (h19 : (op == (10 : Int)) = false) (h20 : (op == (11 : Int)) = false) (h21 : (op == (12 : Int)) = false) (h22 : (op == (13 : Int)) = false) (h23 : (op == (18 : Int)) = true) :
    Ends PP 0 (start PP 141 [(.int .i64 op), (.int .i64 pats), (.int .i64 args)]).as (.ret (.int .i64 2)) (hpOf [] 0) :=
  wE 0 [ty h0, ty h1, ty h2, ty h3, ty h4, ty h5, ty h6, ty h7, ty h8, ty h9, ty h10, ty h11, ty h12, ty h13, ty h14, ty h15, ty h16, ty h17, ty h18, ty h19, ty h20, ty h21, ty h22, ty h23] [.run 16, .b 8 false, .run 6, .b 8 false, .run 6, .b 8 false, .run 6, .b 8 false, .run 6, .b 8 false, .run 6, .b 8 false, .run 5, .b 8 false, .run 7, .b 16 false, .run 6, .b 16 false, .run 6, .b 16 false, .run 6, .b 16 false, .run 6, .b 16 false, .run 6, .b 16 false, .run 6, .b 16 false, .run 6, .b 16 false, .run 5, .b 16 false, .run 7, .b 26 false, .run 6, .b 26 false, .run 6, .b 26 false, .run 6, .b 26 false, .run 6, .b 26 false, .run 6, .b 26 false, .run 6, .b 26 false, .run 6, .b 26 true, .run 8] (by kernel_rfl) (by kernel_rfl) trivial ⟨h0, h1, h2, h3, h4, h5, h6, h7, h8, h9, h10, h11, h12, h13, h14, h15, h16, h17, h18, h19, h20, h21, h22, h23⟩
theorem rKids_E_24 (op : Int) (pats : Int) (args : Int) (h0 : (op == (1 : Int)) = false) (h1 : (op == (2 : Int)) = false) (h2 : (op == (3 : Int)) = false) (h3 : (op == (4 : Int)) = false) (h4 : (op == (21 : Int)) = false) (h5 : (op == (25 : Int)) = false) (h6 : (op == (28 : Int)) = false) (h7 : (op == (5 : Int)) = false) (h8 : (op == (27 : Int)) = false) (h9 : (op == (16 : Int)) = false) (h10 : (op == (17 : Int)) = false) (h11 : (op == (19 : Int)) = false) (h12 : (op == (20 : Int)) = false) (h13 : (op == (23 : Int)) = false) (h14 : (op == (26 : Int)) = false) (h15 : (op == (24 : Int)) = false) (h16 : (op == (6 : Int)) = false) (h17 : (op == (7 : Int)) = false) (h18 : (op == (9 : Int)) = false) (h19 : (op == (10 : Int)) = false) (h20 : (op == (11 : Int)) = false) (h21 : (op == (12 : Int)) = false) (h22 : (op == (13 : Int)) = false) (h23 : (op == (18 : Int)) = false) (h24 : (op == (22 : Int)) = true) :
    Ends PP 0 (start PP 141 [(.int .i64 op), (.int .i64 pats), (.int .i64 args)]).as (.ret (.int .i64 2)) (hpOf [] 0) :=
  wE 0 [ty h0, ty h1, ty h2, ty h3, ty h4, ty h5, ty h6, ty h7, ty h8, ty h9, ty h10, ty h11, ty h12, ty h13, ty h14, ty h15, ty h16, ty h17, ty h18, ty h19, ty h20, ty h21, ty h22, ty h23, ty h24] [.run 16, .b 8 false, .run 6, .b 8 false, .run 6, .b 8 false, .run 6, .b 8 false, .run 6, .b 8 false, .run 6, .b 8 false, .run 5, .b 8 false, .run 7, .b 16 false, .run 6, .b 16 false, .run 6, .b 16 false, .run 6, .b 16 false, .run 6, .b 16 false, .run 6, .b 16 false, .run 6, .b 16 false, .run 6, .b 16 false, .run 5, .b 16 false, .run 7, .b 26 false, .run 6, .b 26 false, .run 6, .b 26 false, .run 6, .b 26 false, .run 6, .b 26 false, .run 6, .b 26 false, .run 6, .b 26 false, .run 6, .b 26 false, .run 5, .b 26 true, .run 6] (by kernel_rfl) (by kernel_rfl) trivial ⟨h0, h1, h2, h3, h4, h5, h6, h7, h8, h9, h10, h11, h12, h13, h14, h15, h16, h17, h18, h19, h20, h21, h22, h23, h24⟩
theorem rKids_E_25 (op : Int) (pats : Int) (args : Int) (h0 : (op == (1 : Int)) = false) (h1 : (op == (2 : Int)) = false) (h2 : (op == (3 : Int)) = false) (h3 : (op == (4 : Int)) = false) (h4 : (op == (21 : Int)) = false) (h5 : (op == (25 : Int)) = false) (h6 : (op == (28 : Int)) = false) (h7 : (op == (5 : Int)) = false) (h8 : (op == (27 : Int)) = false) (h9 : (op == (16 : Int)) = false) (h10 : (op == (17 : Int)) = false) (h11 : (op == (19 : Int)) = false) (h12 : (op == (20 : Int)) = false) (h13 : (op == (23 : Int)) = false) (h14 : (op == (26 : Int)) = false) (h15 : (op == (24 : Int)) = false) (h16 : (op == (6 : Int)) = false) (h17 : (op == (7 : Int)) = false) (h18 : (op == (9 : Int)) = false) (h19 : (op == (10 : Int)) = false) (h20 : (op == (11 : Int)) = false) (h21 : (op == (12 : Int)) = false) (h22 : (op == (13 : Int)) = false) (h23 : (op == (18 : Int)) = false) (h24 : (op == (22 : Int)) = false) (h25 : (op == (8 : Int)) = true) :
    Ends PP 0 (start PP 141 [(.int .i64 op), (.int .i64 pats), (.int .i64 args)]).as (.ret (.int .i64 3)) (hpOf [] 0) :=
  wE 0 [ty h0, ty h1, ty h2, ty h3, ty h4, ty h5, ty h6, ty h7, ty h8, ty h9, ty h10, ty h11, ty h12, ty h13, ty h14, ty h15, ty h16, ty h17, ty h18, ty h19, ty h20, ty h21, ty h22, ty h23, ty h24, ty h25] [.run 16, .b 8 false, .run 6, .b 8 false, .run 6, .b 8 false, .run 6, .b 8 false, .run 6, .b 8 false, .run 6, .b 8 false, .run 5, .b 8 false, .run 7, .b 16 false, .run 6, .b 16 false, .run 6, .b 16 false, .run 6, .b 16 false, .run 6, .b 16 false, .run 6, .b 16 false, .run 6, .b 16 false, .run 6, .b 16 false, .run 5, .b 16 false, .run 7, .b 26 false, .run 6, .b 26 false, .run 6, .b 26 false, .run 6, .b 26 false, .run 6, .b 26 false, .run 6, .b 26 false, .run 6, .b 26 false, .run 6, .b 26 false, .run 5, .b 26 false, .run 6, .b 36 true, .run 6] (by kernel_rfl) (by kernel_rfl) trivial ⟨h0, h1, h2, h3, h4, h5, h6, h7, h8, h9, h10, h11, h12, h13, h14, h15, h16, h17, h18, h19, h20, h21, h22, h23, h24, h25⟩
theorem rKids_E_26 (op : Int) (pats : Int) (args : Int) (h0 : (op == (1 : Int)) = false) (h1 : (op == (2 : Int)) = false) (h2 : (op == (3 : Int)) = false) (h3 : (op == (4 : Int)) = false) (h4 : (op == (21 : Int)) = false) (h5 : (op == (25 : Int)) = false) (h6 : (op == (28 : Int)) = false) (h7 : (op == (5 : Int)) = false) (h8 : (op == (27 : Int)) = false) (h9 : (op == (16 : Int)) = false) (h10 : (op == (17 : Int)) = false) (h11 : (op == (19 : Int)) = false) (h12 : (op == (20 : Int)) = false) (h13 : (op == (23 : Int)) = false) (h14 : (op == (26 : Int)) = false) (h15 : (op == (24 : Int)) = false) (h16 : (op == (6 : Int)) = false) (h17 : (op == (7 : Int)) = false) (h18 : (op == (9 : Int)) = false) (h19 : (op == (10 : Int)) = false) (h20 : (op == (11 : Int)) = false) (h21 : (op == (12 : Int)) = false) (h22 : (op == (13 : Int)) = false) (h23 : (op == (18 : Int)) = false) (h24 : (op == (22 : Int)) = false) (h25 : (op == (8 : Int)) = false) (h26 : (op == (15 : Int)) = true) (h27 : (IntKind.i64.wrap ((1 : Int) + pats)) = ((1 : Int) + pats)) :
    Ends PP 0 (start PP 141 [(.int .i64 op), (.int .i64 pats), (.int .i64 args)]).as (.ret (.int .i64 ((1 : Int) + pats))) (hpOf [] 0) :=
  wE 0 [ty h0, ty h1, ty h2, ty h3, ty h4, ty h5, ty h6, ty h7, ty h8, ty h9, ty h10, ty h11, ty h12, ty h13, ty h14, ty h15, ty h16, ty h17, ty h18, ty h19, ty h20, ty h21, ty h22, ty h23, ty h24, ty h25, ty h26, (AV.int .i64 (IntKind.i64.wrap ((1 : Int) + pats))) = (.int .i64 ((1 : Int) + pats))] [.run 16, .b 8 false, .run 6, .b 8 false, .run 6, .b 8 false, .run 6, .b 8 false, .run 6, .b 8 false, .run 6, .b 8 false, .run 5, .b 8 false, .run 7, .b 16 false, .run 6, .b 16 false, .run 6, .b 16 false, .run 6, .b 16 false, .run 6, .b 16 false, .run 6, .b 16 false, .run 6, .b 16 false, .run 6, .b 16 false, .run 5, .b 16 false, .run 7, .b 26 false, .run 6, .b 26 false, .run 6, .b 26 false, .run 6, .b 26 false, .run 6, .b 26 false, .run 6, .b 26 false, .run 6, .b 26 false, .run 6, .b 26 false, .run 5, .b 26 false, .run 6, .b 36 false, .run 6, .b 38 true, .run 5, .set 41 (.int .i64 ((1 : Int) + pats)), .run 3] (by kernel_rfl) (by kernel_rfl) trivial ⟨h0, h1, h2, h3, h4, h5, h6, h7, h8, h9, h10, h11, h12, h13, h14, h15, h16, h17, h18, h19, h20, h21, h22, h23, h24, h25, h26, (congrArg (AV.int .i64) h27)⟩
theorem rKids_E_27 (op : Int) (pats : Int) (args : Int) (h0 : (op == (1 : Int)) = false) (h1 : (op == (2 : Int)) = false) (h2 : (op == (3 : Int)) = false) (h3 : (op == (4 : Int)) = false) (h4 : (op == (21 : Int)) = false) (h5 : (op == (25 : Int)) = false) (h6 : (op == (28 : Int)) = false) (h7 : (op == (5 : Int)) = false) (h8 : (op == (27 : Int)) = false) (h9 : (op == (16 : Int)) = false) (h10 : (op == (17 : Int)) = false) (h11 : (op == (19 : Int)) = false) (h12 : (op == (20 : Int)) = false) (h13 : (op == (23 : Int)) = false) (h14 : (op == (26 : Int)) = false) (h15 : (op == (24 : Int)) = false) (h16 : (op == (6 : Int)) = false) (h17 : (op == (7 : Int)) = false) (h18 : (op == (9 : Int)) = false) (h19 : (op == (10 : Int)) = false) (h20 : (op == (11 : Int)) = false) (h21 : (op == (12 : Int)) = false) (h22 : (op == (13 : Int)) = false) (h23 : (op == (18 : Int)) = false) (h24 : (op == (22 : Int)) = false) (h25 : (op == (8 : Int)) = false) (h26 : (op == (15 : Int)) = false) (h27 : (op == (14 : Int)) = true) :
    Ends PP 0 (start PP 141 [(.int .i64 op), (.int .i64 pats), (.int .i64 args)]).as (.ret (.int .i64 args)) (hpOf [] 0) :=
  wE 0 [ty h0, ty h1, ty h2, ty h3, ty h4, ty h5, ty h6, ty h7, ty h8, ty h9, ty h10, ty h11, ty h12, ty h13, ty h14, ty h15, ty h16, ty h17, ty h18, ty h19, ty h20, ty h21, ty h22, ty h23, ty h24, ty h25, ty h26, ty h27] [.run 16, .b 8 false, .run 6, .b 8 false, .run 6, .b 8 false, .run 6, .b 8 false, .run 6, .b 8 false, .run 6, .b 8 false, .run 5, .b 8 false, .run 7, .b 16 false, .run 6, .b 16 false, .run 6, .b 16 false, .run 6, .b 16 false, .run 6, .b 16 false, .run 6, .b 16 false, .run 6, .b 16 false, .run 6, .b 16 false, .run 5, .b 16 false, .run 7, .b 26 false, .run 6, .b 26 false, .run 6, .b 26 false, .run 6, .b 26 false, .run 6, .b 26 false, .run 6, .b 26 false, .run 6, .b 26 false, .run 6, .b 26 false, .run 5, .b 26 false, .run 6, .b 36 false, .run 6, .b 38 false, .run 6, .b 42 true, .run 7] (by kernel_rfl) (by kernel_rfl) trivial ⟨h0, h1, h2, h3, h4, h5, h6, h7, h8, h9, h10, h11, h12, h13, h14, h15, h16, h17, h18, h19, h20, h21, h22, h23, h24, h25, h26, h27⟩
theorem rKids_E_28 (op : Int) (pats : Int) (args : Int) (h0 : (op == (1 : Int)) = false) (h1 : (op == (2 : Int)) = false) (h2 : (op == (3 : Int)) = false) (h3 : (op == (4 : Int)) = false) (h4 : (op == (21 : Int)) = false) (h5 : (op == (25 : Int)) = false) (h6 : (op == (28 : Int)) = false) (h7 : (op == (5 : Int)) = false) (h8 : (op == (27 : Int)) = false) (h9 : (op == (16 : Int)) = false) (h10 : (op == (17 : Int)) = false) (h11 : (op == (19 : Int)) = false) (h12 : (op == (20 : Int)) = false) (h13 : (op == (23 : Int)) = false) (h14 : (op == (26 : Int)) = false) (h15 : (op == (24 : Int)) = false) (h16 : (op == (6 : Int)) = false) (h17 : (op == (7 : Int)) = false) (h18 : (op == (9 : Int)) = false) (h19 : (op == (10 : Int)) = false) (h20 : (op == (11 : Int)) = false) (h21 : (op == (12 : Int)) = false) (h22 : (op == (13 : Int)) = false) (h23 : (op == (18 : Int)) = false) (h24 : (op == (22 : Int)) = false) (h25 : (op == (8 : Int)) = false) (h26 : (op == (15 : Int)) = false) (h27 : (op == (14 : Int)) = false) :
    Ends PP 0 (start PP 141 [(.int .i64 op), (.int .i64 pats), (.int .i64 args)]).as (.ret (.int .i64 (-1))) (hpOf [] 0) :=
  wE 0 [ty h0, ty h1, ty h2, ty h3, ty h4, ty h5, ty h6, ty h7, ty h8, ty h9, ty h10, ty h11, ty h12, ty h13, ty h14, ty h15, ty h16, ty h17, ty h18, ty h19, ty h20, ty h21, ty h22, ty h23, ty h24, ty h25, ty h26, ty h27] [.run 16, .b 8 false, .run 6, .b 8 false, .run 6, .b 8 false, .run 6, .b 8 false, .run 6, .b 8 false, .run 6, .b 8 false, .run 5, .b 8 false, .run 7, .b 16 false, .run 6, .b 16 false, .run 6, .b 16 false, .run 6, .b 16 false, .run 6, .b 16 false, .run 6, .b 16 false, .run 6, .b 16 false, .run 6, .b 16 false, .run 5, .b 16 false, .run 7, .b 26 false, .run 6, .b 26 false, .run 6, .b 26 false, .run 6, .b 26 false, .run 6, .b 26 false, .run 6, .b 26 false, .run 6, .b 26 false, .run 6, .b 26 false, .run 5, .b 26 false, .run 6, .b 36 false, .run 6, .b 38 false, .run 6, .b 42 false, .run 8] (by kernel_rfl) (by kernel_rfl) trivial ⟨h0, h1, h2, h3, h4, h5, h6, h7, h8, h9, h10, h11, h12, h13, h14, h15, h16, h17, h18, h19, h20, h21, h22, h23, h24, h25, h26, h27⟩
end Go.Hb

namespace Go.Hb
open Go.Proofs
theorem Ends.eqv {P : Program} {m : Nat} {s : AS} {v v' : AV} {h' : Hp} (h : Ends P m s (.ret v) h') (e : v = v') : Ends P m s (.ret v') h' := e ▸ h
theorem inB_iff {n lo hi : Int} : inB n lo hi = true ↔ lo ≤ n ∧ n ≤ hi := by simp [inB]
theorem inB_not {n lo hi : Int} : inB n lo hi = false ↔ ¬ (lo ≤ n ∧ n ≤ hi) := by simp [inB]
/-! ### kids -/
def kidsN (op pats args : Int) : Int :=
  if op = 1 ∨ op = 2 ∨ op = 3 ∨ op = 4 ∨ op = 21 ∨ op = 25 ∨ op = 28 then 0
  else if op = 5 ∨ op = 27 ∨ op = 16 ∨ op = 17 ∨ op = 19 ∨ op = 20 ∨ op = 23 ∨ op = 26 ∨ op = 24 then 1
  else if op = 6 ∨ op = 7 ∨ op = 9 ∨ op = 10 ∨ op = 11 ∨ op = 12 ∨ op = 13 ∨ op = 18 ∨ op = 22 then 2
  else if op = 8 then 3 else if op = 15 then 1 + pats else if op = 14 then args else -1

theorem rKids_E (op pats args : Int) (hp : 0 ≤ pats) (hp2 : pats ≤ 1000) : Ends PP 0 (start PP 141 [.int .i64 op, .int .i64 pats, .int .i64 args]).as (.ret (.int .i64 (kidsN op pats args))) (hpOf [] 0) := by
  cases hb1 : (op == (1 : Int)) with
  | true =>
    exact Ends.eqv (rKids_E_0 op pats args   hb1) (by simp_all [kidsN])
  | false =>
    cases hb2 : (op == (2 : Int)) with
    | true =>
      exact Ends.eqv (rKids_E_1 op pats args   hb1 hb2) (by simp_all [kidsN])
    | false =>
      cases hb3 : (op == (3 : Int)) with
      | true =>
        exact Ends.eqv (rKids_E_2 op pats args   hb1 hb2 hb3) (by simp_all [kidsN])
      | false =>
        cases hb4 : (op == (4 : Int)) with
        | true =>
          exact Ends.eqv (rKids_E_3 op pats args   hb1 hb2 hb3 hb4) (by simp_all [kidsN])
        | false =>
          cases hb5 : (op == (21 : Int)) with
          | true =>
            exact Ends.eqv (rKids_E_4 op pats args   hb1 hb2 hb3 hb4 hb5) (by simp_all [kidsN])
          | false =>
            cases hb6 : (op == (25 : Int)) with
            | true =>
              exact Ends.eqv (rKids_E_5 op pats args   hb1 hb2 hb3 hb4 hb5 hb6) (by simp_all [kidsN])
            | false =>
              cases hb7 : (op == (28 : Int)) with
              | true =>
                exact Ends.eqv (rKids_E_6 op pats args   hb1 hb2 hb3 hb4 hb5 hb6 hb7) (by simp_all [kidsN])
              | false =>
                cases hb8 : (op == (5 : Int)) with
                | true =>
                  exact Ends.eqv (rKids_E_7 op pats args   hb1 hb2 hb3 hb4 hb5 hb6 hb7 hb8) (by simp_all [kidsN])
                | false =>
                  cases hb9 : (op == (27 : Int)) with
                  | true =>
                    exact Ends.eqv (rKids_E_8 op pats args   hb1 hb2 hb3 hb4 hb5 hb6 hb7 hb8 hb9) (by simp_all [kidsN])
                  | false =>
                    cases hb10 : (op == (16 : Int)) with
                    | true =>
                      exact Ends.eqv (rKids_E_9 op pats args   hb1 hb2 hb3 hb4 hb5 hb6 hb7 hb8 hb9 hb10) (by simp_all [kidsN])
                    | false =>
                      cases hb11 : (op == (17 : Int)) with
                      | true =>
                        exact Ends.eqv (rKids_E_10 op pats args   hb1 hb2 hb3 hb4 hb5 hb6 hb7 hb8 hb9 hb10 hb11) (by simp_all [kidsN])
                      | false =>
                        cases hb12 : (op == (19 : Int)) with
                        | true =>
                          exact Ends.eqv (rKids_E_11 op pats args   hb1 hb2 hb3 hb4 hb5 hb6 hb7 hb8 hb9 hb10 hb11 hb12) (by simp_all [kidsN])
                        | false =>
                          cases hb13 : (op == (20 : Int)) with
                          | true =>
                            exact Ends.eqv (rKids_E_12 op pats args   hb1 hb2 hb3 hb4 hb5 hb6 hb7 hb8 hb9 hb10 hb11 hb12 hb13) (by simp_all [kidsN])
                          | false =>
                            cases hb14 : (op == (23 : Int)) with
                            | true =>
                              exact Ends.eqv (rKids_E_13 op pats args   hb1 hb2 hb3 hb4 hb5 hb6 hb7 hb8 hb9 hb10 hb11 hb12 hb13 hb14) (by simp_all [kidsN])
                            | false =>
                              cases hb15 : (op == (26 : Int)) with
                              | true =>
                                exact Ends.eqv (rKids_E_14 op pats args   hb1 hb2 hb3 hb4 hb5 hb6 hb7 hb8 hb9 hb10 hb11 hb12 hb13 hb14 hb15) (by simp_all [kidsN])
                              | false =>
                                cases hb16 : (op == (24 : Int)) with
                                | true =>
                                  exact Ends.eqv (rKids_E_15 op pats args   hb1 hb2 hb3 hb4 hb5 hb6 hb7 hb8 hb9 hb10 hb11 hb12 hb13 hb14 hb15 hb16) (by simp_all [kidsN])
                                | false =>
                                  cases hb17 : (op == (6 : Int)) with
                                  | true =>
                                    exact Ends.eqv (rKids_E_16 op pats args   hb1 hb2 hb3 hb4 hb5 hb6 hb7 hb8 hb9 hb10 hb11 hb12 hb13 hb14 hb15 hb16 hb17) (by simp_all [kidsN])
                                  | false =>
                                    cases hb18 : (op == (7 : Int)) with
                                    | true =>
                                      exact Ends.eqv (rKids_E_17 op pats args   hb1 hb2 hb3 hb4 hb5 hb6 hb7 hb8 hb9 hb10 hb11 hb12 hb13 hb14 hb15 hb16 hb17 hb18) (by simp_all [kidsN])
                                    | false =>
                                      cases hb19 : (op == (9 : Int)) with
                                      | true =>
                                        exact Ends.eqv (rKids_E_18 op pats args   hb1 hb2 hb3 hb4 hb5 hb6 hb7 hb8 hb9 hb10 hb11 hb12 hb13 hb14 hb15 hb16 hb17 hb18 hb19) (by simp_all [kidsN])
                                      | false =>
                                        cases hb20 : (op == (10 : Int)) with
                                        | true =>
                                          exact Ends.eqv (rKids_E_19 op pats args   hb1 hb2 hb3 hb4 hb5 hb6 hb7 hb8 hb9 hb10 hb11 hb12 hb13 hb14 hb15 hb16 hb17 hb18 hb19 hb20) (by simp_all [kidsN])
                                        | false =>
                                          cases hb21 : (op == (11 : Int)) with
                                          | true =>
                                            exact Ends.eqv (rKids_E_20 op pats args   hb1 hb2 hb3 hb4 hb5 hb6 hb7 hb8 hb9 hb10 hb11 hb12 hb13 hb14 hb15 hb16 hb17 hb18 hb19 hb20 hb21) (by simp_all [kidsN])
                                          | false =>
                                            cases hb22 : (op == (12 : Int)) with
                                            | true =>
                                              exact Ends.eqv (rKids_E_21 op pats args   hb1 hb2 hb3 hb4 hb5 hb6 hb7 hb8 hb9 hb10 hb11 hb12 hb13 hb14 hb15 hb16 hb17 hb18 hb19 hb20 hb21 hb22) (by simp_all [kidsN])
                                            | false =>
                                              cases hb23 : (op == (13 : Int)) with
                                              | true =>
                                                exact Ends.eqv (rKids_E_22 op pats args   hb1 hb2 hb3 hb4 hb5 hb6 hb7 hb8 hb9 hb10 hb11 hb12 hb13 hb14 hb15 hb16 hb17 hb18 hb19 hb20 hb21 hb22 hb23) (by simp_all [kidsN])
                                              | false =>
                                                cases hb24 : (op == (18 : Int)) with
                                                | true =>
                                                  exact Ends.eqv (rKids_E_23 op pats args   hb1 hb2 hb3 hb4 hb5 hb6 hb7 hb8 hb9 hb10 hb11 hb12 hb13 hb14 hb15 hb16 hb17 hb18 hb19 hb20 hb21 hb22 hb23 hb24) (by simp_all [kidsN])
                                                | false =>
                                                  cases hb25 : (op == (22 : Int)) with
                                                  | true =>
                                                    exact Ends.eqv (rKids_E_24 op pats args   hb1 hb2 hb3 hb4 hb5 hb6 hb7 hb8 hb9 hb10 hb11 hb12 hb13 hb14 hb15 hb16 hb17 hb18 hb19 hb20 hb21 hb22 hb23 hb24 hb25) (by simp_all [kidsN])
                                                  | false =>
                                                    cases hb26 : (op == (8 : Int)) with
                                                    | true =>
                                                      exact Ends.eqv (rKids_E_25 op pats args   hb1 hb2 hb3 hb4 hb5 hb6 hb7 hb8 hb9 hb10 hb11 hb12 hb13 hb14 hb15 hb16 hb17 hb18 hb19 hb20 hb21 hb22 hb23 hb24 hb25 hb26) (by simp_all [kidsN])
                                                    | false =>
                                                      cases hb27 : (op == (15 : Int)) with
                                                      | true =>
                                                        exact Ends.eqv (rKids_E_26 op pats args   hb1 hb2 hb3 hb4 hb5 hb6 hb7 hb8 hb9 hb10 hb11 hb12 hb13 hb14 hb15 hb16 hb17 hb18 hb19 hb20 hb21 hb22 hb23 hb24 hb25 hb26 hb27 (by (first | (first | assumption | rfl | (simp only [Int.toNat_natCast]; assumption) | (simp only [decide_eq_true_eq, decide_eq_false_iff_not]; omega) | omega | (apply wrap64 <;> omega) | (simp_all; done)) | (simp only [inB_iff, inB_not, beq_iff_eq, decide_eq_true_eq, decide_eq_false_iff_not] at *; omega)))) (by simp_all [kidsN])
                                                      | false =>
                                                        cases hb28 : (op == (14 : Int)) with
                                                        | true =>
                                                          exact Ends.eqv (rKids_E_27 op pats args   hb1 hb2 hb3 hb4 hb5 hb6 hb7 hb8 hb9 hb10 hb11 hb12 hb13 hb14 hb15 hb16 hb17 hb18 hb19 hb20 hb21 hb22 hb23 hb24 hb25 hb26 hb27 hb28) (by simp_all [kidsN])
                                                        | false =>
                                                          exact Ends.eqv (rKids_E_28 op pats args   hb1 hb2 hb3 hb4 hb5 hb6 hb7 hb8 hb9 hb10 hb11 hb12 hb13 hb14 hb15 hb16 hb17 hb18 hb19 hb20 hb21 hb22 hb23 hb24 hb25 hb26 hb27 hb28) (by simp_all [kidsN])
theorem rKids_pure (op pats args : Int) (hp : 0 ≤ pats) (hp2 : pats ≤ 1000) : Pure PP 141 [.int .i64 op, .int .i64 pats, .int .i64 args] (.int .i64 (kidsN op pats args)) :=
  pure_at (by kernel_rfl) rfl rfl (rKids_E op pats args hp hp2)
/-! ### patterns of a program -/
def argsAt (cons : List Con) (n : Int) : Int := match cons[n.toNat]? with
  | some c => c.args
  | none => -1
/-- .. but for its parts -/
def patHead (cons : List Con) (f n : Int) (s : Str) (k : Nat) : Bool :=
  (if f = 1 ∨ f = 2 ∨ f = 5 then decide (k = 0) && decide (n = 0)
  else if f = 3 then decide (k = 0) && inB n (-1000000000) 1000000000
  else if f = 4 then decide (k = 0) && inB n 0 1
  else if f = 6 then inB n 0 ((cons.length : Int) - 1) && decide ((k : Int) = argsAt cons n)
  else false) && decide (s = [])
mutual
def patOk (cons : List Con) : Pat → Bool
  | .mk f n s ps => patHead cons f n s ps.length && patsOk cons ps
def patsOk (cons : List Con) : List Pat → Bool
  | [] => true
  | p :: ps => patOk cons p && patsOk cons ps
end
theorem rPat_E (q_form q_n : Int) (q_text : Str) (q_parts : List Pat) (cons : List Con) (hc : cons.length ≤ 1000) (b : Bool) (hk : ∀ i : Bool, i = patHead cons q_form q_n q_text q_parts.length → Ends PP 0 (rPat_c0 q_form q_n q_text q_parts cons i 0).as (.ret (.bool b)) (hpOf [] 0)) :
    Ends PP 0 (start PP 140 [Pat.av (.mk q_form q_n q_text q_parts), .ilst 2 (List.map Con.av cons) false]).as (.ret (.bool b)) (hpOf [] 0) := by
  cases hb1 : (q_form == (1 : Int)) with
  | true =>
    cases hb2 : (((List.length q_parts : Nat) : Int) == (0 : Int)) with
    | true =>
      cases hb3 : (q_n == (0 : Int)) with
      | true =>
        exact LeadsM.ends (rPat_E_0 q_form q_n q_text q_parts cons   hb1 hb2 hb3) (hk _ (by clear hk; (simp_all [patHead, argsAt, strEq_nil])))
      | false =>
        exact LeadsM.ends (rPat_E_1 q_form q_n q_text q_parts cons   hb1 hb2 hb3) (hk _ (by clear hk; (simp_all [patHead, argsAt, strEq_nil])))
    | false =>
      exact LeadsM.ends (rPat_E_2 q_form q_n q_text q_parts cons   hb1 hb2) (hk _ (by clear hk; (simp_all [patHead, argsAt, strEq_nil])))
  | false =>
    cases hb4 : (q_form == (2 : Int)) with
    | true =>
      cases hb5 : (((List.length q_parts : Nat) : Int) == (0 : Int)) with
      | true =>
        cases hb6 : (q_n == (0 : Int)) with
        | true =>
          exact LeadsM.ends (rPat_E_3 q_form q_n q_text q_parts cons   hb1 hb4 hb5 hb6) (hk _ (by clear hk; (simp_all [patHead, argsAt, strEq_nil])))
        | false =>
          exact LeadsM.ends (rPat_E_4 q_form q_n q_text q_parts cons   hb1 hb4 hb5 hb6) (hk _ (by clear hk; (simp_all [patHead, argsAt, strEq_nil])))
      | false =>
        exact LeadsM.ends (rPat_E_5 q_form q_n q_text q_parts cons   hb1 hb4 hb5) (hk _ (by clear hk; (simp_all [patHead, argsAt, strEq_nil])))
    | false =>
      cases hb7 : (q_form == (5 : Int)) with
      | true =>
        cases hb8 : (((List.length q_parts : Nat) : Int) == (0 : Int)) with
        | true =>
          cases hb9 : (q_n == (0 : Int)) with
          | true =>
            exact LeadsM.ends (rPat_E_6 q_form q_n q_text q_parts cons   hb1 hb4 hb7 hb8 hb9) (hk _ (by clear hk; (simp_all [patHead, argsAt, strEq_nil])))
          | false =>
            exact LeadsM.ends (rPat_E_7 q_form q_n q_text q_parts cons   hb1 hb4 hb7 hb8 hb9) (hk _ (by clear hk; (simp_all [patHead, argsAt, strEq_nil])))
        | false =>
          exact LeadsM.ends (rPat_E_8 q_form q_n q_text q_parts cons   hb1 hb4 hb7 hb8) (hk _ (by clear hk; (simp_all [patHead, argsAt, strEq_nil])))
      | false =>
        cases hb10 : (q_form == (3 : Int)) with
        | true =>
          cases hb11 : (((List.length q_parts : Nat) : Int) == (0 : Int)) with
          | true =>
            cases hb12 : (inB q_n (-1000000000) 1000000000) with
            | true =>
              exact LeadsM.ends (rPat_E_9 q_form q_n q_text q_parts cons  (inB q_n (-1000000000) 1000000000) hb1 hb4 hb7 hb10 hb11 (rIn_pure q_n (-1000000000) 1000000000) hb12) (hk _ (by clear hk; (simp_all [patHead, argsAt, strEq_nil])))
            | false =>
              exact LeadsM.ends (rPat_E_10 q_form q_n q_text q_parts cons  (inB q_n (-1000000000) 1000000000) hb1 hb4 hb7 hb10 hb11 (rIn_pure q_n (-1000000000) 1000000000) hb12) (hk _ (by clear hk; (simp_all [patHead, argsAt, strEq_nil])))
          | false =>
            exact LeadsM.ends (rPat_E_11 q_form q_n q_text q_parts cons   hb1 hb4 hb7 hb10 hb11) (hk _ (by clear hk; (simp_all [patHead, argsAt, strEq_nil])))
        | false =>
          cases hb13 : (q_form == (4 : Int)) with
          | true =>
            cases hb14 : (((List.length q_parts : Nat) : Int) == (0 : Int)) with
            | true =>
              cases hb15 : (inB q_n 0 1) with
              | true =>
                exact LeadsM.ends (rPat_E_12 q_form q_n q_text q_parts cons  (inB q_n 0 1) hb1 hb4 hb7 hb10 hb13 hb14 (rIn_pure q_n 0 1) hb15) (hk _ (by clear hk; (simp_all [patHead, argsAt, strEq_nil])))
              | false =>
                exact LeadsM.ends (rPat_E_13 q_form q_n q_text q_parts cons  (inB q_n 0 1) hb1 hb4 hb7 hb10 hb13 hb14 (rIn_pure q_n 0 1) hb15) (hk _ (by clear hk; (simp_all [patHead, argsAt, strEq_nil])))
            | false =>
              exact LeadsM.ends (rPat_E_14 q_form q_n q_text q_parts cons   hb1 hb4 hb7 hb10 hb13 hb14) (hk _ (by clear hk; (simp_all [patHead, argsAt, strEq_nil])))
          | false =>
            cases hb16 : (q_form == (6 : Int)) with
            | true =>
              cases hb17 : (inB q_n 0 (((List.length cons : Nat) : Int) - (1 : Int))) with
              | true =>
                obtain ⟨y1, hx18⟩ : ∃ y, ((cons)[q_n.toNat]?) = some y := by (exact ⟨_, List.getElem?_eq_getElem (by simp only [inB_iff, inB_not, beq_iff_eq, decide_eq_true_eq, decide_eq_false_iff_not] at *; omega)⟩)
                cases hb19 : (((List.length q_parts : Nat) : Int) == y1.args) with
                | true =>
                  exact LeadsM.ends (rPat_E_15 q_form q_n q_text q_parts cons  (inB q_n 0 (((List.length cons : Nat) : Int) - (1 : Int))) y1 hb1 hb4 hb7 hb10 hb13 hb16 (by (first | (first | assumption | rfl | (simp only [Int.toNat_natCast]; assumption) | (simp only [decide_eq_true_eq, decide_eq_false_iff_not]; omega) | omega | (apply wrap64 <;> omega) | (simp_all; done)) | (simp only [inB_iff, inB_not, beq_iff_eq, decide_eq_true_eq, decide_eq_false_iff_not] at *; omega))) (rIn_pure q_n 0 (((List.length cons : Nat) : Int) - (1 : Int))) hb17 (by (first | (first | assumption | rfl | (simp only [Int.toNat_natCast]; assumption) | (simp only [decide_eq_true_eq, decide_eq_false_iff_not]; omega) | omega | (apply wrap64 <;> omega) | (simp_all; done)) | (simp only [inB_iff, inB_not, beq_iff_eq, decide_eq_true_eq, decide_eq_false_iff_not] at *; omega))) hx18 hb19) (hk _ (by clear hk; (simp_all [patHead, argsAt, strEq_nil])))
                | false =>
                  exact LeadsM.ends (rPat_E_16 q_form q_n q_text q_parts cons  (inB q_n 0 (((List.length cons : Nat) : Int) - (1 : Int))) y1 hb1 hb4 hb7 hb10 hb13 hb16 (by (first | (first | assumption | rfl | (simp only [Int.toNat_natCast]; assumption) | (simp only [decide_eq_true_eq, decide_eq_false_iff_not]; omega) | omega | (apply wrap64 <;> omega) | (simp_all; done)) | (simp only [inB_iff, inB_not, beq_iff_eq, decide_eq_true_eq, decide_eq_false_iff_not] at *; omega))) (rIn_pure q_n 0 (((List.length cons : Nat) : Int) - (1 : Int))) hb17 (by (first | (first | assumption | rfl | (simp only [Int.toNat_natCast]; assumption) | (simp only [decide_eq_true_eq, decide_eq_false_iff_not]; omega) | omega | (apply wrap64 <;> omega) | (simp_all; done)) | (simp only [inB_iff, inB_not, beq_iff_eq, decide_eq_true_eq, decide_eq_false_iff_not] at *; omega))) hx18 hb19) (hk _ (by clear hk; (simp_all [patHead, argsAt, strEq_nil])))
              | false =>
                exact LeadsM.ends (rPat_E_17 q_form q_n q_text q_parts cons  (inB q_n 0 (((List.length cons : Nat) : Int) - (1 : Int))) hb1 hb4 hb7 hb10 hb13 hb16 (by (first | (first | assumption | rfl | (simp only [Int.toNat_natCast]; assumption) | (simp only [decide_eq_true_eq, decide_eq_false_iff_not]; omega) | omega | (apply wrap64 <;> omega) | (simp_all; done)) | (simp only [inB_iff, inB_not, beq_iff_eq, decide_eq_true_eq, decide_eq_false_iff_not] at *; omega))) (rIn_pure q_n 0 (((List.length cons : Nat) : Int) - (1 : Int))) hb17) (hk _ (by clear hk; (simp_all [patHead, argsAt, strEq_nil])))
            | false =>
              exact LeadsM.ends (rPat_E_18 q_form q_n q_text q_parts cons   hb1 hb4 hb7 hb10 hb13 hb16) (hk _ (by clear hk; (simp_all [patHead, argsAt, strEq_nil])))
theorem rPat_loop (f n : Int) (s : Str) (ps : List Pat) (cons : List Con) (hl : ps.length < 1000000) (ih : ∀ p ∈ ps, Pure PP 140 [Pat.av p, .ilst 2 (List.map Con.av cons) false] (.bool (patOk cons p))) :
    ∀ (t : List Pat) (i : Nat) (b : Bool), ps.drop i = t → Ends PP 0 (rPat_c0 f n s ps cons b (i : Int)).as (.ret (.bool (b && patsOk cons t))) (hpOf [] 0)
  | [], i, b, h => by
    have := dropN h
    exact Ends.eqv (rPat_0_2 f n s ps cons b i (by (simp only [decide_eq_true_eq, decide_eq_false_iff_not]; omega))) (by simp [patsOk])
  | .mk f' n' s' ps' :: t, i, b, h => by
    obtain ⟨g1, g2, g3⟩ := dropC h
    cases b with
    | false => exact Ends.eqv (rPat_0_1 f n s ps cons false i (by (simp only [decide_eq_true_eq, decide_eq_false_iff_not]; omega)) rfl) (by simp)
    | true =>
      refine (rPat_0_0 f n s ps cons true i f' n' s' ps' _ (by (simp only [decide_eq_true_eq, decide_eq_false_iff_not]; omega)) rfl (by omega) (by assumption) (ih (.mk f' n' s' ps') (List.mem_of_getElem? g1)) (by (apply wrap64 <;> omega))).ends ?_
      exact Ends.eqv (rPat_loop f n s ps cons hl ih t (i + 1) _ g2) (by simp [patsOk])
mutual
theorem rPat_pure (cons : List Con) (hc : cons.length ≤ 1000) : ∀ (p : Pat), psize p < 1000000 → Pure PP 140 [Pat.av p, .ilst 2 (List.map Con.av cons) false] (.bool (patOk cons p))
  | .mk f n s ps, h => by
    refine pure_at (by kernel_rfl) (by simp [AV.keylessL, pat_kl, AV.keyless]) rfl ?_
    simp only [psize] at h
    have := psizes_len ps
    refine rPat_E f n s ps cons hc _ (fun i hi => ?_)
    subst hi
    rw [patOk]
    exact rPat_loop f n s ps cons (by omega) (rPat_all cons hc ps (by omega)) ps 0 _ rfl
theorem rPat_all (cons : List Con) (hc : cons.length ≤ 1000) : ∀ (ps : List Pat), psizes ps < 1000000 → ∀ p ∈ ps, Pure PP 140 [Pat.av p, .ilst 2 (List.map Con.av cons) false] (.bool (patOk cons p))
  | [], _, p, hp => by cases hp
  | q :: ps, h, p, hp => by
    simp only [psizes] at h
    rcases List.mem_cons.1 hp with e | hp
    · rw [e]; exact rPat_pure cons hc q (by omega)
    · exact rPat_all cons hc ps (by omega) p hp
end
end Go.Hb

