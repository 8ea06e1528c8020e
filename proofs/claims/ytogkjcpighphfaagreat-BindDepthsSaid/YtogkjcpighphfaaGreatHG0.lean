/-
  OWN WORK (the ways WRITTEN BY A PROGRAM): small laws of the reference's plain functions; which programs are small.
-/
import Derived.Test.YtogkjcpighphfaaGreatHF
set_option linter.unusedVariables false
set_option linter.unusedSimpArgs false
set_option linter.unusedSectionVars false
namespace Go.Hb
open Go.Proofs
theorem rIn_E_0 (n : Int) (lo : Int) (hi : Int) (h0 : (decide (n ≥ lo)) = true) :
    Ends PP 0 (start PP 82 [(.int .i64 n), (.int .i64 lo), (.int .i64 hi)]).as (.ret (.bool (decide (n ≤ hi)))) (hpOf [] 0) :=
  wE 0 [ty h0] [.run 10, .b 10 true, .run 7] (by kernel_rfl) (by kernel_rfl) trivial h0
theorem rIn_E_1 (n : Int) (lo : Int) (hi : Int) (h0 : (decide (n ≥ lo)) = false) :
    Ends PP 0 (start PP 82 [(.int .i64 n), (.int .i64 lo), (.int .i64 hi)]).as (.ret (.bool false)) (hpOf [] 0) :=
  wE 0 [ty h0] [.run 10, .b 10 false, .run 7] (by kernel_rfl) (by kernel_rfl) trivial h0
noncomputable def rSmall_c0 (s : Str) (i3 : Int) : TS :=
  { fr := { fn := 184, nt := 20, sl := [(0, (avS s)), (2, (.bool false)), (3, (.int .i64 i3))], todo := [.code (cd Tryz.f184 [1, 0, 1, 0, 0]), .inLoop (cd Tryz.f184 [1, 0, 1, 0, 0]), .inBlock 0, .code (cd Tryz.f184 [1, 1])] }, cs := [], hp := [], nb := 0 }
theorem rSmall_E_0 (s : Str) :
    LeadsM PP 0 (start PP 184 [(avS s)]).as (rSmall_c0 s 0).as :=
  wW 0 [] [] [.run 11] (by kernel_rfl) (by kernel_rfl) trivial trivial
theorem rSmall_0_0 (s : Str) (i3 : Int) (y0 : UInt8) (h0 : (decide (i3 < ((List.length s : Nat) : Int))) = true) (h1 : 0 ≤ i3) (h2 : (s)[i3.toNat]? = some y0) (h3 : (decide (((y0.toNat : Nat) : Int) < (97 : Int))) = true) :
    Ends PP 0 (rSmall_c0 s i3).as (.ret (.bool false)) (hpOf [] 0) :=
  wE 0 [ty h0, 0 ≤ i3, i3 < ((List.length s : Nat) : Int), AV.int .u8 ((Nat.mod (Nat.div (bytesNat s) (Nat.pow 256 i3.toNat)) 256 : Nat) : Int) = (.int .u8 ((y0.toNat : Nat) : Int)), ty h3] [.run 8, .b 7 true, .run 8, .ans (.ev (.int .u8 ((y0.toNat : Nat) : Int))), .run 2, .b 14 true, .run 12] (by kernel_rfl) (by kernel_rfl) trivial ⟨h0, h1, (str_lt (k := i3) h1 h2), (str_at (k := i3) h2), h3⟩
theorem rSmall_0_1 (s : Str) (i3 : Int) (y0 : UInt8) (h0 : (decide (i3 < ((List.length s : Nat) : Int))) = true) (h1 : 0 ≤ i3) (h2 : (s)[i3.toNat]? = some y0) (h3 : (decide (((y0.toNat : Nat) : Int) < (97 : Int))) = false) (h4 : (decide (((y0.toNat : Nat) : Int) > (122 : Int))) = true) :
    Ends PP 0 (rSmall_c0 s i3).as (.ret (.bool false)) (hpOf [] 0) :=
  wE 0 [ty h0, 0 ≤ i3, i3 < ((List.length s : Nat) : Int), AV.int .u8 ((Nat.mod (Nat.div (bytesNat s) (Nat.pow 256 i3.toNat)) 256 : Nat) : Int) = (.int .u8 ((y0.toNat : Nat) : Int)), ty h3, 0 ≤ i3, i3 < ((List.length s : Nat) : Int), AV.int .u8 ((Nat.mod (Nat.div (bytesNat s) (Nat.pow 256 i3.toNat)) 256 : Nat) : Int) = (.int .u8 ((y0.toNat : Nat) : Int)), ty h4] [.run 8, .b 7 true, .run 8, .ans (.ev (.int .u8 ((y0.toNat : Nat) : Int))), .run 2, .b 14 false, .run 2, .ans (.ev (.int .u8 ((y0.toNat : Nat) : Int))), .run 3, .b 19 true, .run 6] (by kernel_rfl) (by kernel_rfl) trivial ⟨h0, h1, (str_lt (k := i3) h1 h2), (str_at (k := i3) h2), h3, h1, (str_lt (k := i3) h1 h2), (str_at (k := i3) h2), h4⟩
theorem rSmall_0_2 (s : Str) (i3 : Int) (y0 : UInt8) (h0 : (decide (i3 < ((List.length s : Nat) : Int))) = true) (h1 : 0 ≤ i3) (h2 : (s)[i3.toNat]? = some y0) (h3 : (decide (((y0.toNat : Nat) : Int) < (97 : Int))) = false) (h4 : (decide (((y0.toNat : Nat) : Int) > (122 : Int))) = false) (h5 : (IntKind.i64.wrap (i3 + (1 : Int))) = (i3 + (1 : Int))) :
    LeadsM PP 0 (rSmall_c0 s i3).as (rSmall_c0 s (i3 + (1 : Int))).as :=
  wW 0 [] [ty h0, 0 ≤ i3, i3 < ((List.length s : Nat) : Int), AV.int .u8 ((Nat.mod (Nat.div (bytesNat s) (Nat.pow 256 i3.toNat)) 256 : Nat) : Int) = (.int .u8 ((y0.toNat : Nat) : Int)), ty h3, 0 ≤ i3, i3 < ((List.length s : Nat) : Int), AV.int .u8 ((Nat.mod (Nat.div (bytesNat s) (Nat.pow 256 i3.toNat)) 256 : Nat) : Int) = (.int .u8 ((y0.toNat : Nat) : Int)), ty h4, (AV.int .i64 (IntKind.i64.wrap (i3 + (1 : Int)))) = (.int .i64 (i3 + (1 : Int)))] [.run 8, .b 7 true, .run 8, .ans (.ev (.int .u8 ((y0.toNat : Nat) : Int))), .run 2, .b 14 false, .run 2, .ans (.ev (.int .u8 ((y0.toNat : Nat) : Int))), .run 3, .b 19 false, .run 6, .set 9 (.int .i64 (i3 + (1 : Int))), .run 3] (by kernel_rfl) (by kernel_rfl) trivial ⟨h0, h1, (str_lt (k := i3) h1 h2), (str_at (k := i3) h2), h3, h1, (str_lt (k := i3) h1 h2), (str_at (k := i3) h2), h4, (congrArg (AV.int .i64) h5)⟩
theorem rSmall_0_3 (s : Str) (i3 : Int) (h0 : (decide (i3 < ((List.length s : Nat) : Int))) = false) :
    Ends PP 0 (rSmall_c0 s i3).as (.ret (.bool true)) (hpOf [] 0) :=
  wE 0 [ty h0] [.run 8, .b 7 false, .run 7] (by kernel_rfl) (by kernel_rfl) trivial h0
theorem rGreat_E_0 (s : Str) (y0 : UInt8) (y1 : Bool) (h0 : (decide (((List.length s : Nat) : Int) ≥ (1 : Int))) = true) (h1 : (decide (((List.length s : Nat) : Int) ≤ (8 : Int))) = true) (h2 : (s)[0]? = some y0) (h3 : (decide (((y0.toNat : Nat) : Int) ≥ (65 : Int))) = true) (h4 : (decide (((y0.toNat : Nat) : Int) ≤ (90 : Int))) = true) (h5 : 1 ≤ List.length s) (h6 : Pure PP 184 [(avS (List.drop 1 s))] (.bool y1)) :
    Ends PP 0 (start PP 138 [(avS s)]).as (.ret (.bool y1)) (hpOf [] 0) :=
  wE 0 [ty h0, ty h1, 0 ≤ (0 : Int), (0 : Int) < ((List.length s : Nat) : Int), AV.int .u8 ((Nat.mod (Nat.div (bytesNat s) (Nat.pow 256 (0 : Int).toNat)) 256 : Nat) : Int) = (.int .u8 ((y0.toNat : Nat) : Int)), ty h3, 0 ≤ (0 : Int), (0 : Int) < ((List.length s : Nat) : Int), AV.int .u8 ((Nat.mod (Nat.div (bytesNat s) (Nat.pow 256 (0 : Int).toNat)) 256 : Nat) : Int) = (.int .u8 ((y0.toNat : Nat) : Int)), ty h4, SlOk PP 9 (avS s) (some (.int .i64 1)) none (avS (List.drop 1 s)), ty h6] [.run 10, .b 6 true, .run 5, .b 11 true, .run 1, .ans (.ev (.int .u8 ((y0.toNat : Nat) : Int))), .run 3, .b 16 true, .run 1, .ans (.ev (.int .u8 ((y0.toNat : Nat) : Int))), .run 3, .b 21 true, .run 1, .ans (.ev (avS (List.drop 1 s))), .pure (.bool y1), .run 4] (by kernel_rfl) (by kernel_rfl) trivial ⟨h0, h1, (by decide), (str_lt (k := (0 : Int)) (by decide) h2), (str_at (k := (0 : Int)) h2), h3, (by decide), (str_lt (k := (0 : Int)) (by decide) h2), (str_at (k := (0 : Int)) h2), h4, (sl_str_from (k := (1 : Int)) (by kernel_rfl) (by decide) h5), h6⟩
theorem rGreat_E_1 (s : Str) (y0 : UInt8) (h0 : (decide (((List.length s : Nat) : Int) ≥ (1 : Int))) = true) (h1 : (decide (((List.length s : Nat) : Int) ≤ (8 : Int))) = true) (h2 : (s)[0]? = some y0) (h3 : (decide (((y0.toNat : Nat) : Int) ≥ (65 : Int))) = true) (h4 : (decide (((y0.toNat : Nat) : Int) ≤ (90 : Int))) = false) :
    Ends PP 0 (start PP 138 [(avS s)]).as (.ret (.bool false)) (hpOf [] 0) :=
  wE 0 [ty h0, ty h1, 0 ≤ (0 : Int), (0 : Int) < ((List.length s : Nat) : Int), AV.int .u8 ((Nat.mod (Nat.div (bytesNat s) (Nat.pow 256 (0 : Int).toNat)) 256 : Nat) : Int) = (.int .u8 ((y0.toNat : Nat) : Int)), ty h3, 0 ≤ (0 : Int), (0 : Int) < ((List.length s : Nat) : Int), AV.int .u8 ((Nat.mod (Nat.div (bytesNat s) (Nat.pow 256 (0 : Int).toNat)) 256 : Nat) : Int) = (.int .u8 ((y0.toNat : Nat) : Int)), ty h4] [.run 10, .b 6 true, .run 5, .b 11 true, .run 1, .ans (.ev (.int .u8 ((y0.toNat : Nat) : Int))), .run 3, .b 16 true, .run 1, .ans (.ev (.int .u8 ((y0.toNat : Nat) : Int))), .run 3, .b 21 false, .run 7] (by kernel_rfl) (by kernel_rfl) trivial ⟨h0, h1, (by decide), (str_lt (k := (0 : Int)) (by decide) h2), (str_at (k := (0 : Int)) h2), h3, (by decide), (str_lt (k := (0 : Int)) (by decide) h2), (str_at (k := (0 : Int)) h2), h4⟩
theorem rGreat_E_2 (s : Str) (y0 : UInt8) (h0 : (decide (((List.length s : Nat) : Int) ≥ (1 : Int))) = true) (h1 : (decide (((List.length s : Nat) : Int) ≤ (8 : Int))) = true) (h2 : (s)[0]? = some y0) (h3 : (decide (((y0.toNat : Nat) : Int) ≥ (65 : Int))) = false) :
    Ends PP 0 (start PP 138 [(avS s)]).as (.ret (.bool false)) (hpOf [] 0) :=
  wE 0 [ty h0, ty h1, 0 ≤ (0 : Int), (0 : Int) < ((List.length s : Nat) : Int), AV.int .u8 ((Nat.mod (Nat.div (bytesNat s) (Nat.pow 256 (0 : Int).toNat)) 256 : Nat) : Int) = (.int .u8 ((y0.toNat : Nat) : Int)), ty h3] [.run 10, .b 6 true, .run 5, .b 11 true, .run 1, .ans (.ev (.int .u8 ((y0.toNat : Nat) : Int))), .run 3, .b 16 false, .run 12] (by kernel_rfl) (by kernel_rfl) trivial ⟨h0, h1, (by decide), (str_lt (k := (0 : Int)) (by decide) h2), (str_at (k := (0 : Int)) h2), h3⟩
theorem rGreat_E_3 (s : Str) (h0 : (decide (((List.length s : Nat) : Int) ≥ (1 : Int))) = true) (h1 : (decide (((List.length s : Nat) : Int) ≤ (8 : Int))) = false) :
    Ends PP 0 (start PP 138 [(avS s)]).as (.ret (.bool false)) (hpOf [] 0) :=
  wE 0 [ty h0, ty h1] [.run 10, .b 6 true, .run 5, .b 11 false, .run 17] (by kernel_rfl) (by kernel_rfl) trivial ⟨h0, h1⟩
theorem rGreat_E_4 (s : Str) (h0 : (decide (((List.length s : Nat) : Int) ≥ (1 : Int))) = false) :
    Ends PP 0 (start PP 138 [(avS s)]).as (.ret (.bool false)) (hpOf [] 0) :=
  wE 0 [ty h0] [.run 10, .b 6 false, .run 22] (by kernel_rfl) (by kernel_rfl) trivial h0
noncomputable def rHas_c0 (l : (List Str)) (s : Str) (i5 : Int) : TS :=
  { fr := { fn := 185, nt := 18, sl := [(0, (.ilst 1 (List.map avS l) false)), (1, (avS s)), (4, (.bool false)), (5, (.int .i64 i5))], todo := [.code (cd Tryz.f185 [1, 0, 1, 0, 0]), .inLoop (cd Tryz.f185 [1, 0, 1, 0, 0]), .inBlock 0, .code (cd Tryz.f185 [1, 1])] }, cs := [], hp := [], nb := 0 }
theorem rHas_E_0 (l : (List Str)) (s : Str) :
    LeadsM PP 0 (start PP 185 [(.ilst 1 (List.map avS l) false), (avS s)]).as (rHas_c0 l s 0).as :=
  wW 0 [] [] [.run 11] (by kernel_rfl) (by kernel_rfl) trivial trivial
theorem rHas_0_0 (l : (List Str)) (s : Str) (i5 : Int) (y0 : Str) (h0 : (decide (i5 < ((List.length l : Nat) : Int))) = true) (h1 : 0 ≤ i5) (h2 : ((l)[i5.toNat]?) = some y0) (h3 : (strEq (List.length y0) (bytesNat y0) (List.length s) (bytesNat s)) = true) :
    Ends PP 0 (rHas_c0 l s i5).as (.ret (.bool true)) (hpOf [] 0) :=
  wE 0 [((List.length (List.map avS l) : Nat) : Int) = ((List.length l : Nat) : Int), ty h0, 0 ≤ i5, (List.map avS l)[i5.toNat]? = some (avS y0), ty h3] [.run 5, .ans (.len ((List.length l : Nat) : Int)), .run 2, .b 9 true, .run 8, .ans (.idx (avS y0)), .run 4, .b 17 true, .run 6] (by kernel_rfl) (by kernel_rfl) trivial ⟨(len_i _ _), h0, h1, (map_get h2), h3⟩
theorem rHas_0_1 (l : (List Str)) (s : Str) (i5 : Int) (y0 : Str) (h0 : (decide (i5 < ((List.length l : Nat) : Int))) = true) (h1 : 0 ≤ i5) (h2 : ((l)[i5.toNat]?) = some y0) (h3 : (strEq (List.length y0) (bytesNat y0) (List.length s) (bytesNat s)) = false) (h4 : (IntKind.i64.wrap (i5 + (1 : Int))) = (i5 + (1 : Int))) :
    LeadsM PP 0 (rHas_c0 l s i5).as (rHas_c0 l s (i5 + (1 : Int))).as :=
  wW 0 [] [((List.length (List.map avS l) : Nat) : Int) = ((List.length l : Nat) : Int), ty h0, 0 ≤ i5, (List.map avS l)[i5.toNat]? = some (avS y0), ty h3, (AV.int .i64 (IntKind.i64.wrap (i5 + (1 : Int)))) = (.int .i64 (i5 + (1 : Int)))] [.run 5, .ans (.len ((List.length l : Nat) : Int)), .run 2, .b 9 true, .run 8, .ans (.idx (avS y0)), .run 4, .b 17 false, .run 6, .set 11 (.int .i64 (i5 + (1 : Int))), .run 3] (by kernel_rfl) (by kernel_rfl) trivial ⟨(len_i _ _), h0, h1, (map_get h2), h3, (congrArg (AV.int .i64) h4)⟩
theorem rHas_0_2 (l : (List Str)) (s : Str) (i5 : Int) (h0 : (decide (i5 < ((List.length l : Nat) : Int))) = false) :
    Ends PP 0 (rHas_c0 l s i5).as (.ret (.bool false)) (hpOf [] 0) :=
  wE 0 [((List.length (List.map avS l) : Nat) : Int) = ((List.length l : Nat) : Int), ty h0] [.run 5, .ans (.len ((List.length l : Nat) : Int)), .run 2, .b 9 false, .run 7] (by kernel_rfl) (by kernel_rfl) trivial ⟨(len_i _ _), h0⟩
noncomputable def rDiffer_c0 (l : (List Str)) (i3 : Int) : TS :=
  { fr := { fn := 139, nt := 18, sl := [(0, (.ilst 1 (List.map avS l) false)), (2, (.bool false)), (3, (.int .i64 i3))], todo := [.code (cd Tryz.f139 [1, 0, 1, 0, 0]), .inLoop (cd Tryz.f139 [1, 0, 1, 0, 0]), .inBlock 0, .code (cd Tryz.f139 [1, 1])] }, cs := [], hp := [], nb := 0 }
theorem rDiffer_E_0 (l : (List Str)) :
    LeadsM PP 0 (start PP 139 [(.ilst 1 (List.map avS l) false)]).as (rDiffer_c0 l 0).as :=
  wW 0 [] [] [.run 11] (by kernel_rfl) (by kernel_rfl) trivial trivial
theorem rDiffer_0_0 (l : (List Str)) (i3 : Int) (y0 : Str) (y1 : Bool) (h0 : (decide (i3 < ((List.length l : Nat) : Int))) = true) (h1 : 0 ≤ i3) (h2 : i3.toNat ≤ List.length l) (h3 : ((l)[i3.toNat]?) = some y0) (h4 : Pure PP 185 [(.ilst 1 (List.map avS (List.take i3.toNat l)) false), (avS y0)] (.bool y1)) (h5 : y1 = true) :
    Ends PP 0 (rDiffer_c0 l i3).as (.ret (.bool false)) (hpOf [] 0) :=
  wE 0 [((List.length (List.map avS l) : Nat) : Int) = ((List.length l : Nat) : Int), ty h0, SlOk PP 116 (.ilst 1 (List.map avS l) false) none (some (.int .i64 i3)) (.ilst 1 (List.map avS (List.take i3.toNat l)) false), 0 ≤ i3, (List.map avS l)[i3.toNat]? = some (avS y0), ty h4, ty h5] [.run 5, .ans (.len ((List.length l : Nat) : Int)), .run 2, .b 7 true, .run 5, .reg [.d, .d, .ans (.ev (.ilst 1 (List.map avS (List.take i3.toNat l)) false)), .d, .d, .ans (.idx (avS y0)), .d, .pure (.bool y1)], .b 17 true, .run 6] (by kernel_rfl) (by kernel_rfl) trivial ⟨(len_i _ _), h0, (sl_il_to (k := i3) (by kernel_rfl) h1 h2), h1, (map_get h3), h4, h5⟩
theorem rDiffer_0_1 (l : (List Str)) (i3 : Int) (y0 : Str) (y1 : Bool) (h0 : (decide (i3 < ((List.length l : Nat) : Int))) = true) (h1 : 0 ≤ i3) (h2 : i3.toNat ≤ List.length l) (h3 : ((l)[i3.toNat]?) = some y0) (h4 : Pure PP 185 [(.ilst 1 (List.map avS (List.take i3.toNat l)) false), (avS y0)] (.bool y1)) (h5 : y1 = false) (h6 : (IntKind.i64.wrap (i3 + (1 : Int))) = (i3 + (1 : Int))) :
    LeadsM PP 0 (rDiffer_c0 l i3).as (rDiffer_c0 l (i3 + (1 : Int))).as :=
  wW 0 [] [((List.length (List.map avS l) : Nat) : Int) = ((List.length l : Nat) : Int), ty h0, SlOk PP 116 (.ilst 1 (List.map avS l) false) none (some (.int .i64 i3)) (.ilst 1 (List.map avS (List.take i3.toNat l)) false), 0 ≤ i3, (List.map avS l)[i3.toNat]? = some (avS y0), ty h4, ty h5, (AV.int .i64 (IntKind.i64.wrap (i3 + (1 : Int)))) = (.int .i64 (i3 + (1 : Int)))] [.run 5, .ans (.len ((List.length l : Nat) : Int)), .run 2, .b 7 true, .run 5, .reg [.d, .d, .ans (.ev (.ilst 1 (List.map avS (List.take i3.toNat l)) false)), .d, .d, .ans (.idx (avS y0)), .d, .pure (.bool y1)], .b 17 false, .run 6, .set 9 (.int .i64 (i3 + (1 : Int))), .run 3] (by kernel_rfl) (by kernel_rfl) trivial ⟨(len_i _ _), h0, (sl_il_to (k := i3) (by kernel_rfl) h1 h2), h1, (map_get h3), h4, h5, (congrArg (AV.int .i64) h6)⟩
theorem rDiffer_0_2 (l : (List Str)) (i3 : Int) (h0 : (decide (i3 < ((List.length l : Nat) : Int))) = false) :
    Ends PP 0 (rDiffer_c0 l i3).as (.ret (.bool true)) (hpOf [] 0) :=
  wE 0 [((List.length (List.map avS l) : Nat) : Int) = ((List.length l : Nat) : Int), ty h0] [.run 5, .ans (.len ((List.length l : Nat) : Int)), .run 2, .b 7 false, .run 7] (by kernel_rfl) (by kernel_rfl) trivial ⟨(len_i _ _), h0⟩
noncomputable def rWeigh_c0 (p_form : Int) (p_n : Int) (p_text : Str) (p_parts : (List Pat)) (left : Int) (left1 : Int) (i5 : Int) : TS :=
  { fr := { fn := 56, nt := 29, sl := [(1, (.int .i64 left1)), (2, (.ptr 0 0)), (4, (.int .i64 0)), (5, (.int .i64 i5))], todo := [.code (cd Tryz.f56 [1, 1, 1, 0, 1, 0, 0]), .inLoop (cd Tryz.f56 [1, 1, 1, 0, 1, 0, 0]), .inBlock 0, .code (cd Tryz.f56 [1, 1, 1, 1])] }, cs := [], hp := [(0, (.cells (putCells .leaf 0 [(.int .i64 p_form), (.int .i64 p_n), (avS p_text), (.ilst 4 (Pats.av p_parts) false)]) 4 [] false), false)], nb := 1 }
theorem rWeigh_E_0 (p_form : Int) (p_n : Int) (p_text : Str) (p_parts : (List Pat)) (left : Int) (h0 : (decide (left < (1 : Int))) = true) :
    Ends PP 0 (start PP 56 [(.agg [(.int .i64 p_form), (.int .i64 p_n), (avS p_text), (.ilst 4 (Pats.av p_parts) false)]), (.int .i64 left)]).as (.ret (.int .i64 (-1))) (hpOf [] 0) :=
  wE 1 [ty h0] [.run 11, .b 7 true, .run 6] (by kernel_rfl) (by kernel_rfl) trivial h0
theorem rWeigh_E_1 (p_form : Int) (p_n : Int) (p_text : Str) (p_parts : (List Pat)) (left : Int) (h0 : (decide (left < (1 : Int))) = false) (h1 : (IntKind.i64.wrap (left - (1 : Int))) = (left - (1 : Int))) :
    LeadsM PP 0 (start PP 56 [(.agg [(.int .i64 p_form), (.int .i64 p_n), (avS p_text), (.ilst 4 (Pats.av p_parts) false)]), (.int .i64 left)]).as (rWeigh_c0 p_form p_n p_text p_parts left (left - (1 : Int)) 0).as :=
  wW 1 [0] [ty h0, (AV.int .i64 (IntKind.i64.wrap (left - (1 : Int)))) = (.int .i64 (left - (1 : Int)))] [.run 11, .b 7 false, .run 6, .set 9 (.int .i64 (left - (1 : Int))), .run 9] (by kernel_rfl) (by kernel_rfl) trivial ⟨h0, (congrArg (AV.int .i64) h1)⟩
theorem rWeigh_0_0 (p_form : Int) (p_n : Int) (p_text : Str) (p_parts : (List Pat)) (left : Int) (left1 : Int) (i5 : Int) (y_form0 : Int) (y_n1 : Int) (y_text2 : Str) (y_parts3 : (List Pat)) (y4 : Int) (h0 : (decide (i5 < ((List.length p_parts : Nat) : Int))) = true) (h1 : (decide (left1 ≥ (0 : Int))) = true) (h2 : 0 ≤ i5) (h3 : ((p_parts)[i5.toNat]?) = some (Pat.mk y_form0 y_n1 y_text2 y_parts3)) (h4 : Pure PP 56 [(.agg [(.int .i64 y_form0), (.int .i64 y_n1), (avS y_text2), (.ilst 4 (Pats.av y_parts3) false)]), (.int .i64 left1)] (.int .i64 y4)) (h5 : (IntKind.i64.wrap (i5 + (1 : Int))) = (i5 + (1 : Int))) :
    LeadsM PP 0 (rWeigh_c0 p_form p_n p_text p_parts left left1 i5).as (rWeigh_c0 p_form p_n p_text p_parts left y4 (i5 + (1 : Int))).as :=
  wW 1 [0] [((List.length (Pats.av p_parts) : Nat) : Int) = ((List.length p_parts : Nat) : Int), ty h0, ty h1, 0 ≤ i5, (Pats.av p_parts)[i5.toNat]? = some (Pat.av (Pat.mk y_form0 y_n1 y_text2 y_parts3)), ty h4, (AV.int .i64 (IntKind.i64.wrap (i5 + (1 : Int)))) = (.int .i64 (i5 + (1 : Int)))] [.run 6, .ans (.len ((List.length p_parts : Nat) : Int)), .run 2, .b 15 true, .run 4, .b 18 true, .run 8, .ans (.idx (Pat.av (Pat.mk y_form0 y_n1 y_text2 y_parts3))), .run 2, .pure (.int .i64 y4), .run 6, .set 20 (.int .i64 (i5 + (1 : Int))), .run 3] (by kernel_rfl) (by kernel_rfl) trivial ⟨(len_iF pats_map _), h0, h1, h2, (map_getF pats_map h3), h4, (congrArg (AV.int .i64) h5)⟩
theorem rWeigh_0_1 (p_form : Int) (p_n : Int) (p_text : Str) (p_parts : (List Pat)) (left : Int) (left1 : Int) (i5 : Int) (h0 : (decide (i5 < ((List.length p_parts : Nat) : Int))) = true) (h1 : (decide (left1 ≥ (0 : Int))) = false) :
    Ends PP 0 (rWeigh_c0 p_form p_n p_text p_parts left left1 i5).as (.ret (.int .i64 left1)) (hpOf [] 0) :=
  wE 1 [((List.length (Pats.av p_parts) : Nat) : Int) = ((List.length p_parts : Nat) : Int), ty h0, ty h1] [.run 6, .ans (.len ((List.length p_parts : Nat) : Int)), .run 2, .b 15 true, .run 4, .b 18 false, .run 8] (by kernel_rfl) (by kernel_rfl) trivial ⟨(len_iF pats_map _), h0, h1⟩
theorem rWeigh_0_2 (p_form : Int) (p_n : Int) (p_text : Str) (p_parts : (List Pat)) (left : Int) (left1 : Int) (i5 : Int) (h0 : (decide (i5 < ((List.length p_parts : Nat) : Int))) = false) :
    Ends PP 0 (rWeigh_c0 p_form p_n p_text p_parts left left1 i5).as (.ret (.int .i64 left1)) (hpOf [] 0) :=
  wE 1 [((List.length (Pats.av p_parts) : Nat) : Int) = ((List.length p_parts : Nat) : Int), ty h0] [.run 6, .ans (.len ((List.length p_parts : Nat) : Int)), .run 2, .b 15 false, .run 12] (by kernel_rfl) (by kernel_rfl) trivial ⟨(len_iF pats_map _), h0⟩
noncomputable def rSmallPat_c0 (p_form : Int) (p_n : Int) (p_text : Str) (p_parts : (List Pat)) (i3 : Int) : TS :=
  { fr := { fn := 57, nt := 22, sl := [(1, (.ptr 0 0)), (2, (.bool false)), (3, (.int .i64 i3))], todo := [.code (cd Tryz.f57 [1, 0, 1, 0, 0]), .inLoop (cd Tryz.f57 [1, 0, 1, 0, 0]), .inBlock 0, .code (cd Tryz.f57 [1, 1])] }, cs := [], hp := [(0, (.cells (putCells .leaf 0 [(.int .i64 p_form), (.int .i64 p_n), (avS p_text), (.ilst 4 (Pats.av p_parts) false)]) 4 [] false), false)], nb := 1 }
theorem rSmallPat_E_0 (p_form : Int) (p_n : Int) (p_text : Str) (p_parts : (List Pat)) :
    LeadsM PP 0 (start PP 57 [(.agg [(.int .i64 p_form), (.int .i64 p_n), (avS p_text), (.ilst 4 (Pats.av p_parts) false)])]).as (rSmallPat_c0 p_form p_n p_text p_parts 0).as :=
  wW 1 [0] [] [.run 12] (by kernel_rfl) (by kernel_rfl) trivial trivial
theorem rSmallPat_0_0 (p_form : Int) (p_n : Int) (p_text : Str) (p_parts : (List Pat)) (i3 : Int) (y_form0 : Int) (y_n1 : Int) (y_text2 : Str) (y_parts3 : (List Pat)) (y4 : Bool) (h0 : (decide (i3 < ((List.length p_parts : Nat) : Int))) = true) (h1 : 0 ≤ i3) (h2 : ((p_parts)[i3.toNat]?) = some (Pat.mk y_form0 y_n1 y_text2 y_parts3)) (h3 : Pure PP 57 [(.agg [(.int .i64 y_form0), (.int .i64 y_n1), (avS y_text2), (.ilst 4 (Pats.av y_parts3) false)])] (.bool y4)) (h4 : (!y4) = true) :
    Ends PP 0 (rSmallPat_c0 p_form p_n p_text p_parts i3).as (.ret (.bool false)) (hpOf [] 0) :=
  wE 1 [((List.length (Pats.av p_parts) : Nat) : Int) = ((List.length p_parts : Nat) : Int), ty h0, 0 ≤ i3, (Pats.av p_parts)[i3.toNat]? = some (Pat.av (Pat.mk y_form0 y_n1 y_text2 y_parts3)), ty h3, ty h4] [.run 6, .ans (.len ((List.length p_parts : Nat) : Int)), .run 2, .b 8 true, .run 9, .ans (.idx (Pat.av (Pat.mk y_form0 y_n1 y_text2 y_parts3))), .run 1, .pure (.bool y4), .run 2, .b 17 true, .run 6] (by kernel_rfl) (by kernel_rfl) trivial ⟨(len_iF pats_map _), h0, h1, (map_getF pats_map h2), h3, h4⟩
theorem rSmallPat_0_1 (p_form : Int) (p_n : Int) (p_text : Str) (p_parts : (List Pat)) (i3 : Int) (y_form0 : Int) (y_n1 : Int) (y_text2 : Str) (y_parts3 : (List Pat)) (y4 : Bool) (h0 : (decide (i3 < ((List.length p_parts : Nat) : Int))) = true) (h1 : 0 ≤ i3) (h2 : ((p_parts)[i3.toNat]?) = some (Pat.mk y_form0 y_n1 y_text2 y_parts3)) (h3 : Pure PP 57 [(.agg [(.int .i64 y_form0), (.int .i64 y_n1), (avS y_text2), (.ilst 4 (Pats.av y_parts3) false)])] (.bool y4)) (h4 : (!y4) = false) (h5 : (IntKind.i64.wrap (i3 + (1 : Int))) = (i3 + (1 : Int))) :
    LeadsM PP 0 (rSmallPat_c0 p_form p_n p_text p_parts i3).as (rSmallPat_c0 p_form p_n p_text p_parts (i3 + (1 : Int))).as :=
  wW 1 [0] [((List.length (Pats.av p_parts) : Nat) : Int) = ((List.length p_parts : Nat) : Int), ty h0, 0 ≤ i3, (Pats.av p_parts)[i3.toNat]? = some (Pat.av (Pat.mk y_form0 y_n1 y_text2 y_parts3)), ty h3, ty h4, (AV.int .i64 (IntKind.i64.wrap (i3 + (1 : Int)))) = (.int .i64 (i3 + (1 : Int)))] [.run 6, .ans (.len ((List.length p_parts : Nat) : Int)), .run 2, .b 8 true, .run 9, .ans (.idx (Pat.av (Pat.mk y_form0 y_n1 y_text2 y_parts3))), .run 1, .pure (.bool y4), .run 2, .b 17 false, .run 6, .set 10 (.int .i64 (i3 + (1 : Int))), .run 3] (by kernel_rfl) (by kernel_rfl) trivial ⟨(len_iF pats_map _), h0, h1, (map_getF pats_map h2), h3, h4, (congrArg (AV.int .i64) h5)⟩
theorem rSmallPat_0_2 (p_form : Int) (p_n : Int) (p_text : Str) (p_parts : (List Pat)) (i3 : Int) (h0 : (decide (i3 < ((List.length p_parts : Nat) : Int))) = false) :
    Ends PP 0 (rSmallPat_c0 p_form p_n p_text p_parts i3).as (.ret (.bool (decide (((List.length p_text : Nat) : Int) ≤ (30 : Int))))) (hpOf [] 0) :=
  wE 1 [((List.length (Pats.av p_parts) : Nat) : Int) = ((List.length p_parts : Nat) : Int), ty h0] [.run 6, .ans (.len ((List.length p_parts : Nat) : Int)), .run 2, .b 8 false, .run 11] (by kernel_rfl) (by kernel_rfl) trivial ⟨(len_iF pats_map _), h0⟩
theorem rSmallP_E_0 (p_form : Int) (p_n : Int) (p_text : Str) (p_parts : (List Pat)) (y0 : Int) (y1 : Bool) (h0 : Pure PP 56 [(.agg [(.int .i64 p_form), (.int .i64 p_n), (avS p_text), (.ilst 4 (Pats.av p_parts) false)]), (.int .i64 16)] (.int .i64 y0)) (h1 : (decide (y0 ≥ (0 : Int))) = true) (h2 : Pure PP 57 [(.agg [(.int .i64 p_form), (.int .i64 p_n), (avS p_text), (.ilst 4 (Pats.av p_parts) false)])] (.bool y1)) :
    Ends PP 0 (start PP 24 [(.agg [(.int .i64 p_form), (.int .i64 p_n), (avS p_text), (.ilst 4 (Pats.av p_parts) false)])]).as (.ret (.bool y1)) (hpOf [] 0) :=
  wE 1 [ty h0, ty h1, ty h2] [.run 8, .pure (.int .i64 y0), .run 2, .b 6 true, .run 1, .pure (.bool y1), .run 4] (by kernel_rfl) (by kernel_rfl) trivial ⟨h0, h1, h2⟩
theorem rSmallP_E_1 (p_form : Int) (p_n : Int) (p_text : Str) (p_parts : (List Pat)) (y0 : Int) (h0 : Pure PP 56 [(.agg [(.int .i64 p_form), (.int .i64 p_n), (avS p_text), (.ilst 4 (Pats.av p_parts) false)]), (.int .i64 16)] (.int .i64 y0)) (h1 : (decide (y0 ≥ (0 : Int))) = false) :
    Ends PP 0 (start PP 24 [(.agg [(.int .i64 p_form), (.int .i64 p_n), (avS p_text), (.ilst 4 (Pats.av p_parts) false)])]).as (.ret (.bool false)) (hpOf [] 0) :=
  wE 1 [ty h0, ty h1] [.run 8, .pure (.int .i64 y0), .run 2, .b 6 false, .run 6] (by kernel_rfl) (by kernel_rfl) trivial ⟨h0, h1⟩
noncomputable def rSmallProg_c0 (p : Prog) (i3 : Int) : TS :=
  { fr := { fn := 8, nt := 74, sl := [(1, (.ptr 0 0)), (2, (.bool false)), (3, (.int .i64 i3))], todo := [.code (cd Tryz.f8 [1, 1, 0, 1, 0, 0]), .inLoop (cd Tryz.f8 [1, 1, 0, 1, 0, 0]), .inBlock 0, .code (cd Tryz.f8 [1, 1, 1])] }, cs := [], hp := [(0, (.cells (putCells .leaf 0 [(.ilst 4 (List.map Node.av p.nodes) false), (.ilst 1 (List.map avI p.funs) false), (.int .i64 p.main), (.ilst 2 (List.map Con.av p.cons) false)]) 4 [] false), false)], nb := 1 }
noncomputable def rSmallProg_c1 (p : Prog) (i4 : Int) : TS :=
  { fr := { fn := 8, nt := 74, sl := [(1, (.ptr 0 0)), (2, (.bool false)), (4, (.int .i64 i4))], todo := [.code (cd Tryz.f8 [1, 1, 1, 0, 1, 0, 0]), .inLoop (cd Tryz.f8 [1, 1, 1, 0, 1, 0, 0]), .inBlock 2, .code (cd Tryz.f8 [1, 1, 1, 1])] }, cs := [], hp := [(0, (.cells (putCells .leaf 0 [(.ilst 4 (List.map Node.av p.nodes) false), (.ilst 1 (List.map avI p.funs) false), (.int .i64 p.main), (.ilst 2 (List.map Con.av p.cons) false)]) 4 [] false), false)], nb := 1 }
noncomputable def rSmallProg_c2 (p : Prog) (c1_0 : Int) (c1_1 : Int) (c1_2 : (List Int)) (c1_3 : (List Pat)) (k6 : Int) (i4 : Int) : TS :=
  { fr := { fn := 8, nt := 74, sl := [(1, (.ptr 0 0)), (2, (.bool false)), (4, (.int .i64 i4)), (5, (.ptr 1 0)), (6, (.int .i64 k6))], todo := [.code (cd Tryz.f8 [1, 1, 1, 0, 1, 0, 0, 1, 0, 0, 1, 1, 1, 0, 0]), .inLoop (cd Tryz.f8 [1, 1, 1, 0, 1, 0, 0, 1, 0, 0, 1, 1, 1, 0, 0]), .inBlock 4, .inBlock 3, .code (cd Tryz.f8 [1, 1, 1, 0, 1, 0, 0, 1, 1]), .inLoop (cd Tryz.f8 [1, 1, 1, 0, 1, 0, 0]), .inBlock 2, .code (cd Tryz.f8 [1, 1, 1, 1])] }, cs := [], hp := [(0, (.cells (putCells .leaf 0 [(.ilst 4 (List.map Node.av p.nodes) false), (.ilst 1 (List.map avI p.funs) false), (.int .i64 p.main), (.ilst 2 (List.map Con.av p.cons) false)]) 4 [] false), false), (1, (.cells (putCells .leaf 0 [(.int .i64 c1_0), (.int .i64 c1_1), (.ilst 1 (List.map avI c1_2) false), (.ilst 4 (Pats.av c1_3) false)]) 4 [] false), false)], nb := 2 }
theorem rSmallProg_E_0 (p : Prog) (h0 : (decide (((List.length p.nodes : Nat) : Int) > (320 : Int))) = true) :
    Ends PP 0 (start PP 8 [(Prog.av p)]).as (.ret (.bool false)) (hpOf [] 0) :=
  wE 1 [((List.length (List.map Node.av p.nodes) : Nat) : Int) = ((List.length p.nodes : Nat) : Int), ty h0] [.run 10, .ans (.len ((List.length p.nodes : Nat) : Int)), .run 2, .b 11 true, .run 18] (by kernel_rfl) (by kernel_rfl) trivial ⟨(len_i _ _), h0⟩
theorem rSmallProg_E_1 (p : Prog) (h0 : (decide (((List.length p.nodes : Nat) : Int) > (320 : Int))) = false) (h1 : (decide (((List.length p.funs : Nat) : Int) > (320 : Int))) = true) :
    Ends PP 0 (start PP 8 [(Prog.av p)]).as (.ret (.bool false)) (hpOf [] 0) :=
  wE 1 [((List.length (List.map Node.av p.nodes) : Nat) : Int) = ((List.length p.nodes : Nat) : Int), ty h0, ((List.length (List.map avI p.funs) : Nat) : Int) = ((List.length p.funs : Nat) : Int), ty h1] [.run 10, .ans (.len ((List.length p.nodes : Nat) : Int)), .run 2, .b 11 false, .run 2, .ans (.len ((List.length p.funs : Nat) : Int)), .run 3, .b 17 true, .run 12] (by kernel_rfl) (by kernel_rfl) trivial ⟨(len_i _ _), h0, (len_i _ _), h1⟩
theorem rSmallProg_E_2 (p : Prog) (h0 : (decide (((List.length p.nodes : Nat) : Int) > (320 : Int))) = false) (h1 : (decide (((List.length p.funs : Nat) : Int) > (320 : Int))) = false) (h2 : (decide (((List.length p.cons : Nat) : Int) > (25 : Int))) = true) :
    Ends PP 0 (start PP 8 [(Prog.av p)]).as (.ret (.bool false)) (hpOf [] 0) :=
  wE 1 [((List.length (List.map Node.av p.nodes) : Nat) : Int) = ((List.length p.nodes : Nat) : Int), ty h0, ((List.length (List.map avI p.funs) : Nat) : Int) = ((List.length p.funs : Nat) : Int), ty h1, ((List.length (List.map Con.av p.cons) : Nat) : Int) = ((List.length p.cons : Nat) : Int), ty h2] [.run 10, .ans (.len ((List.length p.nodes : Nat) : Int)), .run 2, .b 11 false, .run 2, .ans (.len ((List.length p.funs : Nat) : Int)), .run 3, .b 17 false, .run 2, .ans (.len ((List.length p.cons : Nat) : Int)), .run 3, .b 22 true, .run 6] (by kernel_rfl) (by kernel_rfl) trivial ⟨(len_i _ _), h0, (len_i _ _), h1, (len_i _ _), h2⟩
theorem rSmallProg_E_3 (p : Prog) (h0 : (decide (((List.length p.nodes : Nat) : Int) > (320 : Int))) = false) (h1 : (decide (((List.length p.funs : Nat) : Int) > (320 : Int))) = false) (h2 : (decide (((List.length p.cons : Nat) : Int) > (25 : Int))) = false) :
    LeadsM PP 0 (start PP 8 [(Prog.av p)]).as (rSmallProg_c0 p 0).as :=
  wW 1 [0] [((List.length (List.map Node.av p.nodes) : Nat) : Int) = ((List.length p.nodes : Nat) : Int), ty h0, ((List.length (List.map avI p.funs) : Nat) : Int) = ((List.length p.funs : Nat) : Int), ty h1, ((List.length (List.map Con.av p.cons) : Nat) : Int) = ((List.length p.cons : Nat) : Int), ty h2] [.run 10, .ans (.len ((List.length p.nodes : Nat) : Int)), .run 2, .b 11 false, .run 2, .ans (.len ((List.length p.funs : Nat) : Int)), .run 3, .b 17 false, .run 2, .ans (.len ((List.length p.cons : Nat) : Int)), .run 3, .b 22 false, .run 9] (by kernel_rfl) (by kernel_rfl) trivial ⟨(len_i _ _), h0, (len_i _ _), h1, (len_i _ _), h2⟩
theorem rSmallProg_0_0 (p : Prog) (i3 : Int) (y0 : Con) (h0 : (decide (i3 < ((List.length p.cons : Nat) : Int))) = true) (h1 : 0 ≤ i3) (h2 : ((p.cons)[i3.toNat]?) = some y0) (h3 : (decide (((List.length y0.name : Nat) : Int) > (40 : Int))) = true) :
    Ends PP 0 (rSmallProg_c0 p i3).as (.ret (.bool false)) (hpOf [] 0) :=
  wE 1 [((List.length (List.map Con.av p.cons) : Nat) : Int) = ((List.length p.cons : Nat) : Int), ty h0, 0 ≤ i3, (List.map Con.av p.cons)[i3.toNat]? = some (Con.av y0), ty h3] [.run 6, .ans (.len ((List.length p.cons : Nat) : Int)), .run 2, .b 27 true, .run 9, .ans (.idx (Con.av y0)), .run 5, .b 37 true, .run 6] (by kernel_rfl) (by kernel_rfl) trivial ⟨(len_i _ _), h0, h1, (map_get h2), h3⟩
theorem rSmallProg_0_1 (p : Prog) (i3 : Int) (y0 : Con) (h0 : (decide (i3 < ((List.length p.cons : Nat) : Int))) = true) (h1 : 0 ≤ i3) (h2 : ((p.cons)[i3.toNat]?) = some y0) (h3 : (decide (((List.length y0.name : Nat) : Int) > (40 : Int))) = false) (h4 : (IntKind.i64.wrap (i3 + (1 : Int))) = (i3 + (1 : Int))) :
    LeadsM PP 0 (rSmallProg_c0 p i3).as (rSmallProg_c0 p (i3 + (1 : Int))).as :=
  wW 1 [0] [((List.length (List.map Con.av p.cons) : Nat) : Int) = ((List.length p.cons : Nat) : Int), ty h0, 0 ≤ i3, (List.map Con.av p.cons)[i3.toNat]? = some (Con.av y0), ty h3, (AV.int .i64 (IntKind.i64.wrap (i3 + (1 : Int)))) = (.int .i64 (i3 + (1 : Int)))] [.run 6, .ans (.len ((List.length p.cons : Nat) : Int)), .run 2, .b 27 true, .run 9, .ans (.idx (Con.av y0)), .run 5, .b 37 false, .run 6, .set 29 (.int .i64 (i3 + (1 : Int))), .run 3] (by kernel_rfl) (by kernel_rfl) trivial ⟨(len_i _ _), h0, h1, (map_get h2), h3, (congrArg (AV.int .i64) h4)⟩
theorem rSmallProg_0_2 (p : Prog) (i3 : Int) (h0 : (decide (i3 < ((List.length p.cons : Nat) : Int))) = false) :
    LeadsM PP 0 (rSmallProg_c0 p i3).as (rSmallProg_c1 p 0).as :=
  wW 1 [0] [((List.length (List.map Con.av p.cons) : Nat) : Int) = ((List.length p.cons : Nat) : Int), ty h0] [.run 6, .ans (.len ((List.length p.cons : Nat) : Int)), .run 2, .b 27 false, .run 9] (by kernel_rfl) (by kernel_rfl) trivial ⟨(len_i _ _), h0⟩
theorem rSmallProg_1_0 (p : Prog) (i4 : Int) (y0 : Node) (h0 : (decide (i4 < ((List.length p.nodes : Nat) : Int))) = true) (h1 : 0 ≤ i4) (h2 : ((p.nodes)[i4.toNat]?) = some y0) (h3 : (decide (((List.length y0.kids : Nat) : Int) > (10 : Int))) = true) :
    Ends PP 0 (rSmallProg_c1 p i4).as (.ret (.bool false)) (hpOf [] 0) :=
  wE 2 [((List.length (List.map Node.av p.nodes) : Nat) : Int) = ((List.length p.nodes : Nat) : Int), ty h0, 0 ≤ i4, (List.map Node.av p.nodes)[i4.toNat]? = some (Node.av y0), ((List.length (List.map avI y0.kids) : Nat) : Int) = ((List.length y0.kids : Nat) : Int), ty h3] [.run 6, .ans (.len ((List.length p.nodes : Nat) : Int)), .run 2, .b 42 true, .run 9, .ans (.idx (Node.av y0)), .run 9, .ans (.len ((List.length y0.kids : Nat) : Int)), .run 2, .b 54 true, .run 12] (by kernel_rfl) (by kernel_rfl) trivial ⟨(len_i _ _), h0, h1, (map_get h2), (len_i _ _), h3⟩
theorem rSmallProg_1_1 (p : Prog) (i4 : Int) (y0 : Node) (h0 : (decide (i4 < ((List.length p.nodes : Nat) : Int))) = true) (h1 : 0 ≤ i4) (h2 : ((p.nodes)[i4.toNat]?) = some y0) (h3 : (decide (((List.length y0.kids : Nat) : Int) > (10 : Int))) = false) (h4 : (decide (((List.length y0.pats : Nat) : Int) > (10 : Int))) = true) :
    Ends PP 0 (rSmallProg_c1 p i4).as (.ret (.bool false)) (hpOf [] 0) :=
  wE 2 [((List.length (List.map Node.av p.nodes) : Nat) : Int) = ((List.length p.nodes : Nat) : Int), ty h0, 0 ≤ i4, (List.map Node.av p.nodes)[i4.toNat]? = some (Node.av y0), ((List.length (List.map avI y0.kids) : Nat) : Int) = ((List.length y0.kids : Nat) : Int), ty h3, ((List.length (Pats.av y0.pats) : Nat) : Int) = ((List.length y0.pats : Nat) : Int), ty h4] [.run 6, .ans (.len ((List.length p.nodes : Nat) : Int)), .run 2, .b 42 true, .run 9, .ans (.idx (Node.av y0)), .run 9, .ans (.len ((List.length y0.kids : Nat) : Int)), .run 2, .b 54 false, .run 2, .ans (.len ((List.length y0.pats : Nat) : Int)), .run 3, .b 59 true, .run 6] (by kernel_rfl) (by kernel_rfl) trivial ⟨(len_i _ _), h0, h1, (map_get h2), (len_i _ _), h3, (len_iF pats_map _), h4⟩
theorem rSmallProg_1_2 (p : Prog) (i4 : Int) (y0 : Node) (h0 : (decide (i4 < ((List.length p.nodes : Nat) : Int))) = true) (h1 : 0 ≤ i4) (h2 : ((p.nodes)[i4.toNat]?) = some y0) (h3 : (decide (((List.length y0.kids : Nat) : Int) > (10 : Int))) = false) (h4 : (decide (((List.length y0.pats : Nat) : Int) > (10 : Int))) = false) :
    LeadsM PP 0 (rSmallProg_c1 p i4).as (rSmallProg_c2 p y0.op y0.n y0.kids y0.pats 0 i4).as :=
  wW 2 [0, 1] [((List.length (List.map Node.av p.nodes) : Nat) : Int) = ((List.length p.nodes : Nat) : Int), ty h0, 0 ≤ i4, (List.map Node.av p.nodes)[i4.toNat]? = some (Node.av y0), ((List.length (List.map avI y0.kids) : Nat) : Int) = ((List.length y0.kids : Nat) : Int), ty h3, ((List.length (Pats.av y0.pats) : Nat) : Int) = ((List.length y0.pats : Nat) : Int), ty h4] [.run 6, .ans (.len ((List.length p.nodes : Nat) : Int)), .run 2, .b 42 true, .run 9, .ans (.idx (Node.av y0)), .run 9, .ans (.len ((List.length y0.kids : Nat) : Int)), .run 2, .b 54 false, .run 2, .ans (.len ((List.length y0.pats : Nat) : Int)), .run 3, .b 59 false, .run 8] (by kernel_rfl) (by kernel_rfl) trivial ⟨(len_i _ _), h0, h1, (map_get h2), (len_i _ _), h3, (len_iF pats_map _), h4⟩
theorem rSmallProg_1_3 (p : Prog) (i4 : Int) (h0 : (decide (i4 < ((List.length p.nodes : Nat) : Int))) = false) :
    Ends PP 0 (rSmallProg_c1 p i4).as (.ret (.bool true)) (hpOf [] 0) :=
  wE 1 [((List.length (List.map Node.av p.nodes) : Nat) : Int) = ((List.length p.nodes : Nat) : Int), ty h0] [.run 6, .ans (.len ((List.length p.nodes : Nat) : Int)), .run 2, .b 42 false, .run 7] (by kernel_rfl) (by kernel_rfl) trivial ⟨(len_i _ _), h0⟩
theorem rSmallProg_2_0 (p : Prog) (c1_0 : Int) (c1_1 : Int) (c1_2 : (List Int)) (c1_3 : (List Pat)) (k6 : Int) (i4 : Int) (y_form0 : Int) (y_n1 : Int) (y_text2 : Str) (y_parts3 : (List Pat)) (y4 : Bool) (h0 : (decide (k6 < ((List.length c1_3 : Nat) : Int))) = true) (h1 : 0 ≤ k6) (h2 : ((c1_3)[k6.toNat]?) = some (Pat.mk y_form0 y_n1 y_text2 y_parts3)) (h3 : Pure PP 24 [(.agg [(.int .i64 y_form0), (.int .i64 y_n1), (avS y_text2), (.ilst 4 (Pats.av y_parts3) false)])] (.bool y4)) (h4 : (!y4) = true) :
    Ends PP 0 (rSmallProg_c2 p c1_0 c1_1 c1_2 c1_3 k6 i4).as (.ret (.bool false)) (hpOf [] 0) :=
  wE 2 [((List.length (Pats.av c1_3) : Nat) : Int) = ((List.length c1_3 : Nat) : Int), ty h0, 0 ≤ k6, (Pats.av c1_3)[k6.toNat]? = some (Pat.av (Pat.mk y_form0 y_n1 y_text2 y_parts3)), ty h3, ty h4] [.run 6, .ans (.len ((List.length c1_3 : Nat) : Int)), .run 2, .b 64 true, .run 9, .ans (.idx (Pat.av (Pat.mk y_form0 y_n1 y_text2 y_parts3))), .run 1, .pure (.bool y4), .run 2, .b 73 true, .run 6] (by kernel_rfl) (by kernel_rfl) trivial ⟨(len_iF pats_map _), h0, h1, (map_getF pats_map h2), h3, h4⟩
theorem rSmallProg_2_1 (p : Prog) (c1_0 : Int) (c1_1 : Int) (c1_2 : (List Int)) (c1_3 : (List Pat)) (k6 : Int) (i4 : Int) (y_form0 : Int) (y_n1 : Int) (y_text2 : Str) (y_parts3 : (List Pat)) (y4 : Bool) (h0 : (decide (k6 < ((List.length c1_3 : Nat) : Int))) = true) (h1 : 0 ≤ k6) (h2 : ((c1_3)[k6.toNat]?) = some (Pat.mk y_form0 y_n1 y_text2 y_parts3)) (h3 : Pure PP 24 [(.agg [(.int .i64 y_form0), (.int .i64 y_n1), (avS y_text2), (.ilst 4 (Pats.av y_parts3) false)])] (.bool y4)) (h4 : (!y4) = false) (h5 : (IntKind.i64.wrap (k6 + (1 : Int))) = (k6 + (1 : Int))) :
    LeadsM PP 0 (rSmallProg_c2 p c1_0 c1_1 c1_2 c1_3 k6 i4).as (rSmallProg_c2 p c1_0 c1_1 c1_2 c1_3 (k6 + (1 : Int)) i4).as :=
  wW 2 [0, 1] [((List.length (Pats.av c1_3) : Nat) : Int) = ((List.length c1_3 : Nat) : Int), ty h0, 0 ≤ k6, (Pats.av c1_3)[k6.toNat]? = some (Pat.av (Pat.mk y_form0 y_n1 y_text2 y_parts3)), ty h3, ty h4, (AV.int .i64 (IntKind.i64.wrap (k6 + (1 : Int)))) = (.int .i64 (k6 + (1 : Int)))] [.run 6, .ans (.len ((List.length c1_3 : Nat) : Int)), .run 2, .b 64 true, .run 9, .ans (.idx (Pat.av (Pat.mk y_form0 y_n1 y_text2 y_parts3))), .run 1, .pure (.bool y4), .run 2, .b 73 false, .run 6, .set 66 (.int .i64 (k6 + (1 : Int))), .run 3] (by kernel_rfl) (by kernel_rfl) trivial ⟨(len_iF pats_map _), h0, h1, (map_getF pats_map h2), h3, h4, (congrArg (AV.int .i64) h5)⟩
theorem rSmallProg_2_2 (p : Prog) (c1_0 : Int) (c1_1 : Int) (c1_2 : (List Int)) (c1_3 : (List Pat)) (k6 : Int) (i4 : Int) (h0 : (decide (k6 < ((List.length c1_3 : Nat) : Int))) = false) (h1 : (IntKind.i64.wrap (i4 + (1 : Int))) = (i4 + (1 : Int))) :
    LeadsM PP 0 (rSmallProg_c2 p c1_0 c1_1 c1_2 c1_3 k6 i4).as (rSmallProg_c1 p (i4 + (1 : Int))).as :=
  wW 2 [0] [((List.length (Pats.av c1_3) : Nat) : Int) = ((List.length c1_3 : Nat) : Int), ty h0, (AV.int .i64 (IntKind.i64.wrap (i4 + (1 : Int)))) = (.int .i64 (i4 + (1 : Int)))] [.run 6, .ans (.len ((List.length c1_3 : Nat) : Int)), .run 2, .b 64 false, .run 6, .set 44 (.int .i64 (i4 + (1 : Int))), .run 3] (by kernel_rfl) (by kernel_rfl) trivial ⟨(len_iF pats_map _), h0, (congrArg (AV.int .i64) h1)⟩
end Go.Hb

namespace Go.Hb
open Go.Proofs
theorem wrap64 {e : Int} (h1 : -9223372036854775808 ≤ e) (h2 : e < 9223372036854775808) : IntKind.i64.wrap e = e := by
  have a : (2 : Int) ^ IntKind.i64.bits = 18446744073709551616 := by decide
  have b : (2 : Int) ^ (IntKind.i64.bits - 1) = 9223372036854775808 := by decide
  simp only [IntKind.wrap, a, b, IntKind.signed, Bool.true_and, decide_eq_true_eq]
  split <;> omega
noncomputable def hasBody (P : Program) (f : Nat) : Bool := match P.funcs[f]? with
  | some fn => match fn.body with
    | some _ => true
    | none => false
  | none => false
theorem pure_at {P : Program} {f : Nat} {args : List AV} {v : AV} (hb : hasBody P f = true) (hk : AV.keylessL args = true) (hv : AV.keyless v = true) (he : Ends P 0 (start P f args).as (.ret v) (hpOf [] 0)) : Pure P f args v := by
  unfold hasBody at hb
  split at hb
  · rename_i fn hf
    split at hb
    · rename_i c hc; exact pure_of hf hc hk hv he
    · cases hb
  · cases hb
/-! ## lists from a place on -/
theorem dropC {α : Type} {l t : List α} {i : Nat} {y : α} (h : l.drop i = y :: t) : l[i]? = some y ∧ l.drop (i + 1) = t ∧ i < l.length := by
  have h1 : l[i]? = some y := by rw [← List.head?_drop, h]; rfl
  refine ⟨h1, ?_, (List.getElem?_eq_some_iff.1 h1).1⟩
  rw [← List.tail_drop, h]; rfl
theorem dropN {α : Type} {l : List α} {i : Nat} (h : l.drop i = []) : l.length ≤ i := List.drop_eq_nil_iff.1 h
/-! ### in -/
def inB (n lo hi : Int) : Bool := decide (lo ≤ n) && decide (n ≤ hi)
theorem rIn_pure (n lo hi : Int) : Pure PP 82 [.int .i64 n, .int .i64 lo, .int .i64 hi] (.bool (inB n lo hi)) := by
  refine pure_at (by kernel_rfl) rfl rfl ?_
  by_cases h : n ≥ lo
  · have e : inB n lo hi = decide (n ≤ hi) := by unfold inB; rw [decide_eq_true (show lo ≤ n from h), Bool.true_and]
    rw [e]; exact rIn_E_0 n lo hi (decide_eq_true h)
  · have e : inB n lo hi = false := by unfold inB; rw [decide_eq_false (show ¬ lo ≤ n from h), Bool.false_and]
    rw [e]; exact rIn_E_1 n lo hi (decide_eq_false h)
/-! ### small strings -/
def smallC (c : UInt8) : Bool := decide (97 ≤ c.toNat) && decide (c.toNat ≤ 122)
def smallS (s : Str) : Bool := s.all smallC
theorem rSmall_loop (s : Str) (hs : s.length < 1000000) : ∀ (t : Str) (i : Nat), s.drop i = t → Ends PP 0 (rSmall_c0 s (i : Int)).as (.ret (.bool (smallS t))) (hpOf [] 0)
  | [], i, h => by
    have := dropN h
    exact rSmall_0_3 s i (by (simp only [decide_eq_true_eq, decide_eq_false_iff_not]; omega))
  | c :: t, i, h => by
    obtain ⟨h1, h2, h3⟩ := dropC h
    have hi : (decide ((i : Int) < ((List.length s : Nat) : Int))) = true := by (simp only [decide_eq_true_eq, decide_eq_false_iff_not]; omega)
    have h1' : s[(i : Int).toNat]? = some c := by assumption
    by_cases g1 : c.toNat < 97
    · have e : smallS (c :: t) = false := by simp [smallS, smallC]; omega
      rw [e]; exact rSmall_0_0 s i c hi (by omega) h1' (by (simp only [decide_eq_true_eq, decide_eq_false_iff_not]; omega))
    · by_cases g2 : 122 < c.toNat
      · have e : smallS (c :: t) = false := by simp [smallS, smallC]; omega
        rw [e]; exact rSmall_0_1 s i c hi (by omega) h1' (by (simp only [decide_eq_true_eq, decide_eq_false_iff_not]; omega)) (by (simp only [decide_eq_true_eq, decide_eq_false_iff_not]; omega))
      · have e : smallS (c :: t) = smallS t := by
          have : smallC c = true := by simp [smallC]; omega
          simp [smallS, this]
        rw [e]
        refine (rSmall_0_2 s i c hi (by omega) h1' (by (simp only [decide_eq_true_eq, decide_eq_false_iff_not]; omega)) (by (simp only [decide_eq_true_eq, decide_eq_false_iff_not]; omega)) (by (apply wrap64 <;> omega))).ends ?_
        exact rSmall_loop s hs t (i + 1) h2
theorem rSmall_pure (s : Str) (hs : s.length < 1000000) : Pure PP 184 [avS s] (.bool (smallS s)) :=
  pure_at (by kernel_rfl) rfl rfl ((rSmall_E_0 s).ends (rSmall_loop s hs s 0 rfl))
/-! ### great names -/
def greatS (s : Str) : Bool := match s with
  | [] => false
  | c :: t => decide (s.length ≤ 8) && decide (65 ≤ c.toNat) && decide (c.toNat ≤ 90) && smallS t
theorem rGreat_pure (s : Str) : Pure PP 138 [avS s] (.bool (greatS s)) := by
  refine pure_at (by kernel_rfl) rfl rfl ?_
  match s with
  | [] => exact rGreat_E_4 [] (by (first | assumption | rfl | (simp only [Int.toNat_natCast]; assumption) | (simp only [decide_eq_true_eq, decide_eq_false_iff_not]; omega) | omega | (apply wrap64 <;> omega) | (simp_all; done)))
  | c :: t =>
    have h0 : (decide (((List.length (c :: t) : Nat) : Int) ≥ (1 : Int))) = true := by simp only [List.length_cons]; (simp only [decide_eq_true_eq, decide_eq_false_iff_not]; omega)
    by_cases g0 : (c :: t).length ≤ 8
    · have g0' : (decide (((List.length (c :: t) : Nat) : Int) ≤ (8 : Int))) = true := by (simp only [decide_eq_true_eq, decide_eq_false_iff_not]; omega)
      by_cases g1 : 65 ≤ c.toNat
      · by_cases g2 : c.toNat ≤ 90
        · have e : greatS (c :: t) = smallS t := by simp only [greatS, decide_eq_true g0, decide_eq_true g1, decide_eq_true g2, Bool.true_and]
          rw [e]
          exact rGreat_E_0 (c :: t) c _ h0 g0' rfl (by (simp only [decide_eq_true_eq, decide_eq_false_iff_not]; omega)) (by (simp only [decide_eq_true_eq, decide_eq_false_iff_not]; omega)) (by simp) (rSmall_pure t (by simp at g0; omega))
        · have e : greatS (c :: t) = false := by simp only [greatS, decide_eq_false g2, Bool.and_false, Bool.false_and]
          rw [e]; exact rGreat_E_1 (c :: t) c h0 g0' rfl (by (simp only [decide_eq_true_eq, decide_eq_false_iff_not]; omega)) (by (simp only [decide_eq_true_eq, decide_eq_false_iff_not]; omega))
      · have e : greatS (c :: t) = false := by simp only [greatS, decide_eq_false g1, Bool.and_false, Bool.false_and]
        rw [e]; exact rGreat_E_2 (c :: t) c h0 g0' rfl (by (simp only [decide_eq_true_eq, decide_eq_false_iff_not]; omega))
    · have e : greatS (c :: t) = false := by simp only [greatS, decide_eq_false g0, Bool.false_and]
      rw [e]; exact rGreat_E_3 (c :: t) h0 (by (simp only [decide_eq_true_eq, decide_eq_false_iff_not]; omega))
/-! ### has, differ -/
def hasS (l : List Str) (s : Str) : Bool := l.any fun x => decide (x = s)
theorem rHas_loop (l : List Str) (s : Str) (hl : l.length < 1000000) : ∀ (t : List Str) (i : Nat), l.drop i = t → Ends PP 0 (rHas_c0 l s (i : Int)).as (.ret (.bool (hasS t s))) (hpOf [] 0)
  | [], i, h => by
    have := dropN h
    exact rHas_0_2 l s i (by (simp only [decide_eq_true_eq, decide_eq_false_iff_not]; omega))
  | x :: t, i, h => by
    obtain ⟨h1, h2, h3⟩ := dropC h
    by_cases g : x = s
    · have e : hasS (x :: t) s = true := by simp [hasS, g]
      rw [e]; exact rHas_0_0 l s i x (by (simp only [decide_eq_true_eq, decide_eq_false_iff_not]; omega)) (by omega) (by assumption) (by rw [strEq_eq]; exact decide_eq_true g)
    · have e : hasS (x :: t) s = hasS t s := by simp [hasS, g]
      rw [e]
      refine (rHas_0_1 l s i x (by (simp only [decide_eq_true_eq, decide_eq_false_iff_not]; omega)) (by omega) (by assumption) (by rw [strEq_eq]; exact decide_eq_false g) (by (apply wrap64 <;> omega))).ends ?_
      exact rHas_loop l s hl t (i + 1) h2
theorem rHas_pure (l : List Str) (s : Str) (hl : l.length < 1000000) : Pure PP 185 [.ilst 1 (List.map avS l) false, avS s] (.bool (hasS l s)) :=
  pure_at (by kernel_rfl) rfl rfl ((rHas_E_0 l s).ends (rHas_loop l s hl l 0 rfl))
/-- no string of the second list is met before -/
def differFrom : List Str → List Str → Bool
  | _, [] => true
  | pre, x :: t => !hasS pre x && differFrom (pre ++ [x]) t
def differS (l : List Str) : Bool := differFrom [] l
theorem rDiffer_loop (l : List Str) (hl : l.length < 1000000) : ∀ (t : List Str) (i : Nat), l.drop i = t → Ends PP 0 (rDiffer_c0 l (i : Int)).as (.ret (.bool (differFrom (l.take i) t))) (hpOf [] 0)
  | [], i, h => by
    have := dropN h
    exact rDiffer_0_2 l i (by (simp only [decide_eq_true_eq, decide_eq_false_iff_not]; omega))
  | x :: t, i, h => by
    obtain ⟨h1, h2, h3⟩ := dropC h
    have hp : Pure PP 185 [.ilst 1 (List.map avS (l.take (i : Int).toNat)) false, avS x] (.bool (hasS (l.take i) x)) := by
      simp only [Int.toNat_natCast]
      exact rHas_pure _ _ (by simp; omega)
    by_cases g : hasS (l.take i) x = true
    · have e : differFrom (l.take i) (x :: t) = false := by simp [differFrom, g]
      rw [e]
      exact rDiffer_0_0 l i x _ (by (simp only [decide_eq_true_eq, decide_eq_false_iff_not]; omega)) (by omega) (by omega) (by assumption) hp g
    · have g' : hasS (l.take i) x = false := by simpa using g
      have e : differFrom (l.take i) (x :: t) = differFrom (l.take (i + 1)) t := by
        simp only [differFrom, g', Bool.not_false, Bool.true_and]
        rw [List.take_add_one, h1]; rfl
      rw [e]
      refine (rDiffer_0_1 l i x _ (by (simp only [decide_eq_true_eq, decide_eq_false_iff_not]; omega)) (by omega) (by omega) (by assumption) hp g' (by (apply wrap64 <;> omega))).ends ?_
      exact rDiffer_loop l hl t (i + 1) h2
theorem rDiffer_pure (l : List Str) (hl : l.length < 1000000) : Pure PP 139 [.ilst 1 (List.map avS l) false] (.bool (differS l)) := by
  refine pure_at (by kernel_rfl) rfl rfl ((rDiffer_E_0 l).ends ?_)
  exact rDiffer_loop l hl l 0 rfl
end Go.Hb

namespace Go.Hb
variable {P : Program}
/-- a closed run hands back a value that names no block -/
theorem ends_closed {s s' : AS} {b : Bool} {h' : Hp} (hl : Leads P s s') (hf : final P s' = some (.bool b, h')) : Ends P 0 s (.ret (.bool b)) (hpOf [] 0) := by
  have h1 : LeadsM P 0 s s' := fun hm E fr ccs w base f fs r => by
    obtain ⟨E', fr', cs', w', s1, f1, fs1, r1, x⟩ := hl E fr ccs w base f fs r
    exact ⟨E', fr', cs', w', s1, f1, fs1, r1, x.toM hm⟩
  intro hm E fr ccs w f fs r cl base
  obtain ⟨cl', w', E', g1, ⟨cv, rfl, g2⟩, g3, g4⟩ := (h1.ends (ends_final hf)) hm E fr ccs w f fs r cl base
  refine ⟨_, w', E'.p, g1, ⟨cv, rfl, ?_⟩, rel_none g3, ⟨fun b hb => absurd hb (Nat.not_lt_zero _), g4.imm, g4.size, g4.keep, fun b' o' L' e => ?_, Nat.le_refl _, g4.os, g4.tape, g4.output, g4.froz, g4.immo, fun b o e => ?_⟩⟩
  · simpa only [VR] using g2
  · simp [hpOf_nil, Hp.look, T.at_leaf] at e
  · simp [hpOf_nil, Hp.look, T.at_leaf] at e
end Go.Hb

namespace Go.Hb
open Go.Proofs
/-! ### how heavy a pattern is -/
mutual
def weigh : Pat → Int → Int
  | .mk _ _ _ ps, left => if left < 1 then -1 else weighs ps (left - 1)
def weighs : List Pat → Int → Int
  | [], left => left
  | p :: ps, left => if 0 ≤ left then weighs ps (weigh p left) else left
end
mutual
theorem weigh_le : ∀ (p : Pat) (left : Int), 0 ≤ left → -1 ≤ weigh p left ∧ weigh p left ≤ left - 1
  | .mk _ _ _ ps, left, h => by
    rw [weigh]
    split
    · omega
    · have := weighs_le ps (left - 1) (by omega); omega
theorem weighs_le : ∀ (ps : List Pat) (left : Int), -1 ≤ left → -1 ≤ weighs ps left ∧ weighs ps left ≤ left
  | [], left, h => by rw [weighs]; omega
  | p :: ps, left, h => by
    rw [weighs]
    split
    · rename_i h0
      have a := weigh_le p left h0
      have := weighs_le ps (weigh p left) a.1; omega
    · omega
end
theorem rWeigh_loop (f n : Int) (s : Str) (ps : List Pat) (l0 : Int) (ih : ∀ p ∈ ps, ∀ left : Int, 0 ≤ left → left ≤ 1000 → Pure PP 56 [Pat.av p, .int .i64 left] (.int .i64 (weigh p left))) :
    ∀ (t : List Pat) (i : Nat) (left : Int), ps.drop i = t → -1 ≤ left → (i : Int) + left ≤ 1000 → Ends PP 0 (rWeigh_c0 f n s ps l0 left (i : Int)).as (.ret (.int .i64 (weighs t left))) (hpOf [] 0)
  | [], i, left, h, h1, h2 => by
    have := dropN h
    rw [weighs]
    exact rWeigh_0_2 f n s ps l0 left i (by (simp only [decide_eq_true_eq, decide_eq_false_iff_not]; omega))
  | .mk f' n' s' ps' :: t, i, left, h, h1, h2 => by
    obtain ⟨g1, g2, g3⟩ := dropC h
    rw [weighs]
    split
    · rename_i h0
      have w := weigh_le (.mk f' n' s' ps') left h0
      refine (rWeigh_0_0 f n s ps l0 left i f' n' s' ps' _ (by (simp only [decide_eq_true_eq, decide_eq_false_iff_not]; omega)) (by (simp only [decide_eq_true_eq, decide_eq_false_iff_not]; omega)) (by omega) (by assumption) (ih _ (List.mem_of_getElem? g1) left h0 (by omega)) (by (apply wrap64 <;> omega))).ends ?_
      exact rWeigh_loop f n s ps l0 ih t (i + 1) _ g2 w.1 (by omega)
    · exact rWeigh_0_1 f n s ps l0 left i (by (simp only [decide_eq_true_eq, decide_eq_false_iff_not]; omega)) (by (simp only [decide_eq_true_eq, decide_eq_false_iff_not]; omega))
mutual
theorem rWeigh_pure : ∀ (p : Pat) (left : Int), -1 ≤ left → left ≤ 1000 → Pure PP 56 [Pat.av p, .int .i64 left] (.int .i64 (weigh p left))
  | .mk f n s ps, left, h0, h1 => by
    refine pure_at (by kernel_rfl) (by simp [AV.keylessL, pat_kl, AV.keyless]) rfl ?_
    rw [weigh]
    split
    · exact rWeigh_E_0 f n s ps left (by (simp only [decide_eq_true_eq, decide_eq_false_iff_not]; omega))
    · refine (rWeigh_E_1 f n s ps left (by (simp only [decide_eq_true_eq, decide_eq_false_iff_not]; omega)) (by (apply wrap64 <;> omega))).ends ?_
      exact rWeigh_loop f n s ps left (fun p hp left h0 h1 => rWeigh_all ps p hp left h0 h1) ps 0 _ rfl (by omega) (by omega)
theorem rWeigh_all : ∀ (ps : List Pat), ∀ p ∈ ps, ∀ left : Int, 0 ≤ left → left ≤ 1000 → Pure PP 56 [Pat.av p, .int .i64 left] (.int .i64 (weigh p left))
  | [], p, hp, _, _, _ => by cases hp
  | q :: ps, p, hp, left, h0, h1 => by
    rcases List.mem_cons.1 hp with e | hp
    · rw [e]; exact rWeigh_pure q left (by omega) h1
    · exact rWeigh_all ps p hp left h0 h1
end
/-! ### small patterns -/
mutual
def tsmall : Pat → Bool
  | .mk _ _ s ps => tsmalls ps && decide (s.length ≤ 30)
def tsmalls : List Pat → Bool
  | [] => true
  | p :: ps => tsmall p && tsmalls ps
end
mutual
/-- how many nodes -/
def psize : Pat → Nat
  | .mk _ _ _ ps => psizes ps + 1
def psizes : List Pat → Nat
  | [] => 0
  | p :: ps => psize p + psizes ps
end
theorem psizes_len : ∀ ps : List Pat, ps.length ≤ psizes ps
  | [] => by simp [psizes]
  | .mk _ _ _ qs :: ps => by have := psizes_len ps; simp only [psizes, psize, List.length_cons]; omega
mutual
theorem weigh_size : ∀ (p : Pat) (left : Int), 0 ≤ weigh p left → weigh p left = left - psize p
  | .mk _ _ _ ps, left, h => by
    rw [weigh] at h ⊢
    split at h
    · omega
    · rename_i h1
      rw [if_neg h1]
      have := weighs_size ps (left - 1) h
      simp only [psize]; omega
theorem weighs_size : ∀ (ps : List Pat) (left : Int), 0 ≤ weighs ps left → weighs ps left = left - psizes ps
  | [], left, h => by simp [weighs, psizes]
  | p :: ps, left, h => by
    rw [weighs] at h ⊢
    split at h
    · rename_i h1
      rw [if_pos h1]
      have a := weighs_size ps _ h
      have b := weigh_size p left (by omega)
      simp only [psizes]; omega
    · omega
end
mutual
theorem size_weigh : ∀ (p : Pat) (left : Int), (psize p : Int) ≤ left → weigh p left = left - psize p
  | .mk _ _ _ ps, left, h => by
    simp only [psize] at h ⊢
    rw [weigh, if_neg (by omega), size_weighs ps (left - 1) (by omega)]; omega
theorem size_weighs : ∀ (ps : List Pat) (left : Int), (psizes ps : Int) ≤ left → weighs ps left = left - psizes ps
  | [], left, h => by simp [weighs, psizes]
  | p :: ps, left, h => by
    simp only [psizes] at h ⊢
    rw [weighs, if_pos (by omega), size_weigh p left (by omega), size_weighs ps _ (by omega)]; omega
end
/-- weighed: so many nodes at most -/
theorem weigh_iff (p : Pat) (left : Int) : 0 ≤ weigh p left ↔ (psize p : Int) ≤ left := by
  constructor
  · intro h; have := weigh_size p left h; omega
  · intro h; rw [size_weigh p left h]; omega
theorem rSmallPat_loop (f n : Int) (s : Str) (ps : List Pat) (hl : ps.length < 1000000) (ih : ∀ p ∈ ps, Pure PP 57 [Pat.av p] (.bool (tsmall p))) :
    ∀ (t : List Pat) (i : Nat), ps.drop i = t → Ends PP 0 (rSmallPat_c0 f n s ps (i : Int)).as (.ret (.bool (tsmalls t && decide (s.length ≤ 30)))) (hpOf [] 0)
  | [], i, h => by
    have := dropN h
    have e : decide (((List.length s : Nat) : Int) ≤ (30 : Int)) = decide (s.length ≤ 30) := by congr 1; simp; omega
    rw [tsmalls, Bool.true_and, ← e]
    exact rSmallPat_0_2 f n s ps i (by (simp only [decide_eq_true_eq, decide_eq_false_iff_not]; omega))
  | .mk f' n' s' ps' :: t, i, h => by
    obtain ⟨g1, g2, g3⟩ := dropC h
    have ihp := ih _ (List.mem_of_getElem? g1)
    rw [tsmalls]
    cases hb : tsmall (.mk f' n' s' ps') with
    | false =>
      rw [hb] at ihp
      exact rSmallPat_0_0 f n s ps i f' n' s' ps' false (by (simp only [decide_eq_true_eq, decide_eq_false_iff_not]; omega)) (by omega) (by assumption) ihp rfl
    | true =>
      rw [hb] at ihp
      refine (rSmallPat_0_1 f n s ps i f' n' s' ps' true (by (simp only [decide_eq_true_eq, decide_eq_false_iff_not]; omega)) (by omega) (by assumption) ihp rfl (by (apply wrap64 <;> omega))).ends ?_
      rw [Bool.true_and]
      exact rSmallPat_loop f n s ps hl ih t (i + 1) g2
mutual
theorem rSmallPat_pure : ∀ (p : Pat), psize p < 1000000 → Pure PP 57 [Pat.av p] (.bool (tsmall p))
  | .mk f n s ps, h => by
    refine pure_at (by kernel_rfl) (by simp [AV.keylessL, pat_kl]) rfl ?_
    simp only [psize] at h
    have := psizes_len ps
    refine (rSmallPat_E_0 f n s ps).ends ?_
    rw [tsmall]
    exact rSmallPat_loop f n s ps (by omega) (rSmallPat_all ps (by omega)) ps 0 rfl
theorem rSmallPat_all : ∀ (ps : List Pat), psizes ps < 1000000 → ∀ p ∈ ps, Pure PP 57 [Pat.av p] (.bool (tsmall p))
  | [], _, p, hp => by cases hp
  | q :: ps, h, p, hp => by
    simp only [psizes] at h
    rcases List.mem_cons.1 hp with e | hp
    · rw [e]; exact rSmallPat_pure q (by omega)
    · exact rSmallPat_all ps (by omega) p hp
end
def smallP (p : Pat) : Bool := decide (psize p ≤ 16) && tsmall p
theorem rSmallP_pure (p : Pat) : Pure PP 24 [Pat.av p] (.bool (smallP p)) := by
  refine pure_at (by kernel_rfl) (by simp [AV.keylessL, pat_kl]) rfl ?_
  obtain ⟨f, n, s, ps⟩ := p
  have hw := rWeigh_pure (.mk f n s ps) 16 (by omega) (by omega)
  by_cases h : psize (.mk f n s ps) ≤ 16
  · have e : smallP (.mk f n s ps) = tsmall (.mk f n s ps) := by simp [smallP, h]
    rw [e]
    have hg : 0 ≤ weigh (.mk f n s ps) 16 := (weigh_iff (.mk f n s ps) 16).2 (by omega)
    exact rSmallP_E_0 f n s ps _ _ hw (decide_eq_true hg) (rSmallPat_pure (.mk f n s ps) (by omega))
  · have e : smallP (.mk f n s ps) = false := by simp [smallP, h]
    rw [e]
    refine rSmallP_E_1 f n s ps _ hw (decide_eq_false fun g => h ?_)
    have := (weigh_iff (.mk f n s ps) 16).1 g; omega
/-! ### small programs -/
def smallCons (l : List Con) : Bool := l.all fun c => decide (c.name.length ≤ 40)
def smallPats (l : List Pat) : Bool := l.all smallP
def smallNode (x : Node) : Bool := decide (x.kids.length ≤ 10) && decide (x.pats.length ≤ 10) && smallPats x.pats
def smallProg (p : Prog) : Bool := decide (p.nodes.length ≤ 320) && decide (p.funs.length ≤ 320) && decide (p.cons.length ≤ 25) && smallCons p.cons && p.nodes.all smallNode
mutual
theorem rSP1 (p : Prog) (hn : p.nodes.length ≤ 320) : ∀ (t : List Node) (i : Nat), p.nodes.drop i = t → Ends PP 0 (rSmallProg_c1 p (i : Int)).as (.ret (.bool (t.all smallNode))) (hpOf [] 0)
  | [], i, h => by
    have := dropN h
    exact rSmallProg_1_3 p i (by (simp only [decide_eq_true_eq, decide_eq_false_iff_not]; omega))
  | x :: t, i, h => by
    obtain ⟨g1, g2, g3⟩ := dropC h
    by_cases k1 : x.kids.length ≤ 10
    · by_cases k2 : x.pats.length ≤ 10
      · have e : (x :: t).all smallNode = (smallPats (x.pats.drop 0) && t.all smallNode) := by simp [smallNode, k1, k2]
        rw [e]
        refine (rSmallProg_1_2 p i x (by (simp only [decide_eq_true_eq, decide_eq_false_iff_not]; omega)) (by omega) (by assumption) (by (simp only [decide_eq_true_eq, decide_eq_false_iff_not]; omega)) (by (simp only [decide_eq_true_eq, decide_eq_false_iff_not]; omega))).ends ?_
        have ih := rSP1 p hn t (i + 1) g2
        clear e g1 g2 h
        -- the patterns
        suffices ∀ (u : List Pat) (k : Nat), x.pats.drop k = u → Ends PP 0 (rSmallProg_c2 p x.op x.n x.kids x.pats (k : Int) (i : Int)).as (.ret (.bool (smallPats u && t.all smallNode))) (hpOf [] 0) from this _ 0 rfl
        intro u
        induction u with
        | nil =>
          intro k hk
          have := dropN hk
          refine (rSmallProg_2_2 p x.op x.n x.kids x.pats k i (by (simp only [decide_eq_true_eq, decide_eq_false_iff_not]; omega)) (by (apply wrap64 <;> omega))).ends ?_
          simp only [smallPats, List.all_nil, Bool.true_and]
          exact ih
        | cons q u ihu =>
          intro k hk
          obtain ⟨q1, q2, q3⟩ := dropC hk
          obtain ⟨f', n', s', ps'⟩ := q
          have hp := rSmallP_pure (.mk f' n' s' ps')
          cases hb : smallP (.mk f' n' s' ps') with
          | false =>
            rw [hb] at hp
            have e : (smallPats (.mk f' n' s' ps' :: u) && t.all smallNode) = false := by simp [smallPats, hb]
            rw [e]
            exact rSmallProg_2_0 p x.op x.n x.kids x.pats k i f' n' s' ps' false (by (simp only [decide_eq_true_eq, decide_eq_false_iff_not]; omega)) (by omega) (by assumption) hp rfl
          | true =>
            rw [hb] at hp
            have e : (smallPats (.mk f' n' s' ps' :: u) && t.all smallNode) = (smallPats u && t.all smallNode) := by simp [smallPats, hb]
            rw [e]
            refine (rSmallProg_2_1 p x.op x.n x.kids x.pats k i f' n' s' ps' true (by (simp only [decide_eq_true_eq, decide_eq_false_iff_not]; omega)) (by omega) (by assumption) hp rfl (by (apply wrap64 <;> omega))).ends ?_
            exact ihu (k + 1) q2
      · have e : (x :: t).all smallNode = false := by simp [smallNode, k2]
        rw [e]
        exact rSmallProg_1_1 p i x (by (simp only [decide_eq_true_eq, decide_eq_false_iff_not]; omega)) (by omega) (by assumption) (by (simp only [decide_eq_true_eq, decide_eq_false_iff_not]; omega)) (by (simp only [decide_eq_true_eq, decide_eq_false_iff_not]; omega))
    · have e : (x :: t).all smallNode = false := by simp [smallNode, k1]
      rw [e]
      exact rSmallProg_1_0 p i x (by (simp only [decide_eq_true_eq, decide_eq_false_iff_not]; omega)) (by omega) (by assumption) (by (simp only [decide_eq_true_eq, decide_eq_false_iff_not]; omega))
end
theorem rSP0 (p : Prog) (hc : p.cons.length ≤ 25) (hn : p.nodes.length ≤ 320) : ∀ (t : List Con) (i : Nat), p.cons.drop i = t → Ends PP 0 (rSmallProg_c0 p (i : Int)).as (.ret (.bool (smallCons t && p.nodes.all smallNode))) (hpOf [] 0)
  | [], i, h => by
    have := dropN h
    refine (rSmallProg_0_2 p i (by (simp only [decide_eq_true_eq, decide_eq_false_iff_not]; omega))).ends ?_
    simp only [smallCons, List.all_nil, Bool.true_and]
    exact rSP1 p hn p.nodes 0 rfl
  | c :: t, i, h => by
    obtain ⟨g1, g2, g3⟩ := dropC h
    by_cases k : c.name.length ≤ 40
    · have e : (smallCons (c :: t) && p.nodes.all smallNode) = (smallCons t && p.nodes.all smallNode) := by simp [smallCons, k]
      rw [e]
      refine (rSmallProg_0_1 p i c (by (simp only [decide_eq_true_eq, decide_eq_false_iff_not]; omega)) (by omega) (by assumption) (by (simp only [decide_eq_true_eq, decide_eq_false_iff_not]; omega)) (by (apply wrap64 <;> omega))).ends ?_
      exact rSP0 p hc hn t (i + 1) g2
    · have e : (smallCons (c :: t) && p.nodes.all smallNode) = false := by simp [smallCons, k]
      rw [e]
      exact rSmallProg_0_0 p i c (by (simp only [decide_eq_true_eq, decide_eq_false_iff_not]; omega)) (by omega) (by assumption) (by (simp only [decide_eq_true_eq, decide_eq_false_iff_not]; omega))
theorem rSmallProg_pure (p : Prog) : Pure PP 8 [Prog.av p] (.bool (smallProg p)) := by
  refine pure_at (by kernel_rfl) rfl rfl ?_
  by_cases h1 : p.nodes.length ≤ 320
  · by_cases h2 : p.funs.length ≤ 320
    · by_cases h3 : p.cons.length ≤ 25
      · have e : smallProg p = (smallCons p.cons && p.nodes.all smallNode) := by simp [smallProg, h1, h2, h3]
        rw [e]
        exact (rSmallProg_E_3 p (by (simp only [decide_eq_true_eq, decide_eq_false_iff_not]; omega)) (by (simp only [decide_eq_true_eq, decide_eq_false_iff_not]; omega)) (by (simp only [decide_eq_true_eq, decide_eq_false_iff_not]; omega))).ends (rSP0 p h3 h1 p.cons 0 rfl)
      · have e : smallProg p = false := by simp [smallProg, h3]
        rw [e]; exact rSmallProg_E_2 p (by (simp only [decide_eq_true_eq, decide_eq_false_iff_not]; omega)) (by (simp only [decide_eq_true_eq, decide_eq_false_iff_not]; omega)) (by (simp only [decide_eq_true_eq, decide_eq_false_iff_not]; omega))
    · have e : smallProg p = false := by simp [smallProg, h2]
      rw [e]; exact rSmallProg_E_1 p (by (simp only [decide_eq_true_eq, decide_eq_false_iff_not]; omega)) (by (simp only [decide_eq_true_eq, decide_eq_false_iff_not]; omega))
  · have e : smallProg p = false := by simp [smallProg, h1]
    rw [e]; exact rSmallProg_E_0 p (by (simp only [decide_eq_true_eq, decide_eq_false_iff_not]; omega))
end Go.Hb

