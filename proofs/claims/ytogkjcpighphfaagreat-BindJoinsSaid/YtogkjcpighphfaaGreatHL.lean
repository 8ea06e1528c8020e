/-
  OWN WORK (H18, V49, H14, V45, V50, V19, H19, V51): a machine on abstract values, its soundness, ways through the text (the ways WRITTEN BY A PROGRAM), plain laws.
-/
import Derived.Test.YtogkjcpighphfaaGreatHF
import Derived.Test.YtogkjcpighphfaaGreatHJ
import Derived.Test.YtogkjcpighphfaaGreatHK
set_option linter.unusedVariables false
set_option linter.unusedSimpArgs false
set_option linter.unusedSectionVars false
set_option maxRecDepth 100000
namespace Go.Hb
open Go.Proofs
noncomputable abbrev hoh180 (p : Prog) : Nat × AObj × Bool := (0, (.cells (putCells .leaf 0 [(iN p.nodes), (iI p.funs), (nI p.main), (iC p.cons)]) 4 [] false), false)
noncomputable abbrev hoh181 (q : Prog) : Nat × AObj × Bool := (1, (.cells (putCells .leaf 0 [(iN q.nodes), (iI q.funs), (nI q.main), (iC q.cons)]) 4 [] false), false)
noncomputable abbrev hoh182 (q : Prog) : Nat × AObj × Bool := (0, (.cells (putCells .leaf 0 [(iN q.nodes), (iI q.funs), (nI q.main), (iC q.cons)]) 4 [] false), false)
noncomputable abbrev hoh183 (zn0 : (List Node)) (zu1 : (List Int)) (zm2 : Int) (zc3 : (List Con)) : Nat × AObj × Bool := (2, (.cells (putCells .leaf 0 [(.gl 4 4 0 zn0.length false), (.gl 5 1 0 zu1.length false), (nI zm2), (.gl 6 2 0 zc3.length false)]) 4 [] false), false)
noncomputable abbrev hoh184  : Nat × AObj × Bool := (2, (.cells (putCells .leaf 0 [.nils, .nils, (nI 0), .nils]) 4 [] false), false)
noncomputable abbrev hoh185  : Nat × AObj × Bool := (1, (.cells (putCells .leaf 0 [.nils, .nils, (nI 0), .nils]) 4 [] false), false)
noncomputable abbrev hoh186  : Nat × AObj × Bool := (3, (.cells (putCells .leaf 0 [(.map 7), (.map 8)]) 2 [] false), false)
noncomputable abbrev hoh187 (m8 : (List (Int × Int))) : Nat × AObj × Bool := (8, (.map (mEnts avI avI 0 m8) m8.length), true)
noncomputable abbrev hoh188 (m7 : (List (Int × Int))) : Nat × AObj × Bool := (7, (.map (mEnts avI avI 0 m7) m7.length), true)
noncomputable def bJn_s (p : Prog) (q : Prog) : TS := startH PP 20 [(Prog.av p), (Prog.av q)] [] 0
noncomputable def bJn_c0 (p : Prog) (q : Prog)  : TS :=
 { fr := { fn := 20, nt := 131, sl := [(2, (.ptr 0 0)), (3, (.ptr 1 0)), (4, (.ptr 2 0)), (5, (nI 0))], todo := [.code (cd Tryz.f20 [1, 1, 0]), .code (cd Tryz.f20 [1, 1, 1])] }, cs := [], hp := [hoh180 p, hoh181 q, hoh184], nb := 3 }
noncomputable def bJn_c1 (p : Prog) (q : Prog) (zm2 : Int) (zn0 : (List Node)) (zu1 : (List Int)) (zc3 : (List Con)) (t44 : Int) (m8 : (List (Int × Int))) : TS :=
 { fr := { fn := 20, nt := 131, sl := [(2, (.ptr 0 0)), (3, (.ptr 1 0)), (4, (.ptr 2 0)), (5, (nI 0)), (9, (.ptr 3 0)), (11, (.ptr 4 0)), (43, (nI (q.funs.length : Int))), (44, (nI t44))], todo := [.code (cd Tryz.f20 [1, 1, 1, 1, 0, 1, 0, 0]), .inLoop (cd Tryz.f20 [1, 1, 1, 1, 0, 1, 0, 0]), .inBlock 2, .code (cd Tryz.f20 [1, 1, 1, 1, 1])] }, cs := [], hp := [hoh180 p, hoh181 q, hoh184, (3, (.cells (putCells .leaf 0 [(.gl 5 4 0 zn0.length false), (.gl 6 1 0 zu1.length false), (nI zm2), (.gl 7 2 0 zc3.length false)]) 4 [] false), false), (4, (.cells (putCells .leaf 0 [(.map 8), (.map 9)]) 2 [] false), false), (5, (.lst 4 (jN zn0)), true), (6, (.lst 1 (jI zu1)), true), (7, (.lst 2 (jC zc3)), true), hoh187 m8, (9, (.map (mEnts avI avI 0 ([] : List (Int × Int))) ([] : List (Int × Int)).length), true)], nb := 10 }
noncomputable def bJn_c2 (p : Prog) (q : Prog) (zm2 : Int) (zn0 : (List Node)) (zu1 : (List Int)) (zc3 : (List Con)) (m7 : (List (Int × Int))) (t59 : Int) (m8 : (List (Int × Int))) : TS :=
 { fr := { fn := 20, nt := 131, sl := [(3, (.ptr 0 0)), (4, (.ptr 1 0)), (5, (nI 0)), (9, (.ptr 2 0)), (11, (.ptr 3 0)), (57, (iC q.cons)), (58, (nI (q.cons.length : Int))), (59, (nI t59))], todo := [.code (cd Tryz.f20 [1, 1, 1, 1, 1, 0, 1, 0, 0]), .inLoop (cd Tryz.f20 [1, 1, 1, 1, 1, 0, 1, 0, 0]), .inBlock 4, .code (cd Tryz.f20 [1, 1, 1, 1, 1, 1])] }, cs := [], hp := [hoh182 q, hoh185, hoh183 zn0 zu1 zm2 zc3, hoh186, (4, (.lst 4 (jN zn0)), true), (5, (.lst 1 (jI zu1)), true), (6, (.lst 2 (jC zc3)), true), hoh188 m7, hoh187 m8], nb := 9 }
noncomputable def bJn_c3 (p : Prog) (q : Prog) (t7 : Int) (zc3 : (List Con)) (c1_0 : Str) (c1_1 : Int) (zm2 : Int) (zn0 : (List Node)) (zu1 : (List Int)) (m7 : (List (Int × Int))) (t8 : Int) (i13 : Int) (t59 : Int) (m9 : (List (Int × Int))) : TS :=
 { fr := { fn := 44, nt := 19, sl := [(0, (.gl 0 2 0 zc3.length false)), (1, (.func 45 [] [(.ptr 1 0)])), (4, (nI 0)), (7, (nI t7)), (8, (nI t8))], todo := [.code (cd Tryz.f44 [1, 0, 1, 0, 0]), .inLoop (cd Tryz.f44 [1, 0, 1, 0, 0]), .inBlock 0, .code (cd Tryz.f44 [1, 1])] }, cs := [{ fn := 20, nt := 131, sl := [(3, (.ptr 2 0)), (4, (.ptr 3 0)), (5, (nI 0)), (9, (.ptr 4 0)), (11, (.ptr 5 0)), (13, (nI i13)), (14, (.ptr 1 0)), (57, (iC q.cons)), (58, (nI (q.cons.length : Int))), (59, (nI t59)), (65, (.gl 0 2 0 zc3.length false)), (66, (.func 45 [] [(.ptr 1 0)]))], todo := [opsAt Tryz.f20 [1, 1, 1, 1, 1, 0, 1, 0, 0, 1, 1, 0, 0, 1, 0] 3, .code (cd Tryz.f20 [1, 1, 1, 1, 1, 0, 1, 0, 0, 1, 1, 0, 0, 1, 1]), .inBlock 5, .code (cd Tryz.f20 [1, 1, 1, 1, 1, 0, 1, 0, 0, 1, 1, 1]), .inLoop (cd Tryz.f20 [1, 1, 1, 1, 1, 0, 1, 0, 0]), .inBlock 4, .code (cd Tryz.f20 [1, 1, 1, 1, 1, 1])] }], hp := [(0, (.lst 2 (jC zc3)), true), (1, (.cells (putCells .leaf 0 [(avS c1_0), (nI c1_1)]) 2 [] false), false), (2, (.cells (putCells .leaf 0 [(iN q.nodes), (iI q.funs), (nI q.main), (iC q.cons)]) 4 [] false), false), (3, (.cells (putCells .leaf 0 [.nils, .nils, (nI 0), .nils]) 4 [] false), false), (4, (.cells (putCells .leaf 0 [(.gl 6 4 0 zn0.length false), (.gl 7 1 0 zu1.length false), (nI zm2), (.gl 0 2 0 zc3.length false)]) 4 [] false), false), (5, (.cells (putCells .leaf 0 [(.map 8), (.map 9)]) 2 [] false), false), (6, (.lst 4 (jN zn0)), true), (7, (.lst 1 (jI zu1)), true), (8, (.map (mEnts avI avI 0 m7) m7.length), true), (9, (.map (mEnts avI avI 0 m9) m9.length), true)], nb := 10 }
noncomputable def bJn_c4 (p : Prog) (q : Prog) (zm2 : Int) (zn0 : (List Node)) (zu1 : (List Int)) (zc3 : (List Con)) (m7 : (List (Int × Int))) (m8 : (List (Int × Int))) : TS :=
 { fr := { fn := 20, nt := 131, sl := [(3, (.ptr 0 0)), (4, (.ptr 1 0)), (5, (nI 0)), (9, (.ptr 2 0)), (11, (.ptr 3 0))], todo := [.code (cd Tryz.f20 [1, 1, 1, 1, 1, 1, 0]), .code (cd Tryz.f20 [1, 1, 1, 1, 1, 1, 1])] }, cs := [], hp := [hoh182 q, hoh185, hoh183 zn0 zu1 zm2 zc3, hoh186, (4, (.lst 4 (jN zn0)), true), (5, (.lst 1 (jI zu1)), true), (6, (.lst 2 (jC zc3)), true), hoh188 m7, hoh187 m8], nb := 9 }
theorem bJn_E_0 (p : Prog) (q : Prog) (y0 : Int) (h0 : Pure PP 10 [(Prog.av p)] (nI y0)) (h1 : (y0 != (0 : Int)) = true) :
  Ends PP 0 (bJn_s p q).as (.ret (.tup [(.agg [(.ilst 4 (jN ([] : List Node)) true), (.ilst 1 (jI ([] : List Int)) true), (nI 0), (.ilst 2 (jC ([] : List Con)) true)]), (nI y0)])) (hpOf [] 0) :=
 wE 5 [] [qp h0, qp h1] [rn 37, .pure (nI y0), rn 7, bt 29, rn 9, .cnilI 2 0 4, .cnilI 2 1 1, .cnilI 2 3 2] trivial
theorem bJn_E_1 (p : Prog) (q : Prog) (y0 : Int) (y1 : Int) (h0 : Pure PP 10 [(Prog.av p)] (nI y0)) (h1 : (y0 != (0 : Int)) = false) (h2 : Pure PP 10 [(Prog.av q)] (nI y1)) (h3 : (y1 != (0 : Int)) = true) :
  Ends PP 0 (bJn_s p q).as (.ret (.tup [(.agg [(.ilst 4 (jN ([] : List Node)) true), (.ilst 1 (jI ([] : List Int)) true), (nI 0), (.ilst 2 (jC ([] : List Con)) true)]), (nI y1)])) (hpOf [] 0) :=
 wE 6 [] [qp h0, qp h1, qp h2, qp h3] [rn 37, .pure (nI y0), rn 7, bf 29, rn 27, .pure (nI y1), rn 7, bt 29, rn 9, .cnilI 2 0 4, .cnilI 2 1 1, .cnilI 2 3 2] trivial
theorem bJn_E_2 (p : Prog) (q : Prog) (y0 : Int) (y1 : Int) (h0 : Pure PP 10 [(Prog.av p)] (nI y0)) (h1 : (y0 != (0 : Int)) = false) (h2 : Pure PP 10 [(Prog.av q)] (nI y1)) (h3 : (y1 != (0 : Int)) = false) :
  LeadsM PP 0 (bJn_s p q).as (bJn_c0 p q ).as :=
 wW 6 [0, 1, 2] [qp h0, qp h1, qp h2, qp h3] [rn 37, .pure (nI y0), rn 7, bf 29, rn 27, .pure (nI y1), rn 7, bf 29, rn 16] trivial
theorem bJn_0_0 (p : Prog) (q : Prog) (zn0 : (List Node)) (zu1 : (List Int)) (zm2 : Int) (zc3 : (List Con)) (h0 : Spec PP (.enter 17 [(Prog.av p)]) (hpOf [hoh180 p, hoh181 q, hoh184] 3) (.ret (.tup [(.agg [(.gl 3 4 0 zn0.length false), (.gl 4 1 0 zu1.length false), (nI zm2), (.gl 5 2 0 zc3.length false)]), (nI 0)])) (hpOf [hoh180 p, hoh181 q, hoh184, (3, (.lst 4 (jN zn0)), true), (4, (.lst 1 (jI zu1)), true), (5, (.lst 2 (jC zc3)), true)] 6)) :
  LeadsM PP 0 (bJn_c0 p q ).as (bJn_c1 p q zm2 zn0 zu1 zc3 0 ([] : List (Int × Int))).as :=
 wW 10 [0, 1, 2, 6, 9, 3, 4, 5, 7, 8] [qp h0, qp (p := ([] : List (AV × AV × Nat)) = (mEnts avI avI 0 ([] : List (Int × Int)))) rfl, qp (p := 0 = List.length ([] : List (Int × Int))) rfl, qp (p := ([] : List (AV × AV × Nat)) = (mEnts avI avI 0 ([] : List (Int × Int)))) rfl, qp (p := 0 = List.length ([] : List (Int × Int))) rfl, ql avI q.funs] [rn 2, .call (.tup [(.agg [(.gl 3 4 0 zn0.length false), (.gl 4 1 0 zu1.length false), (nI zm2), (.gl 5 2 0 zc3.length false)]), (nI 0)]) (hpOf [hoh180 p, hoh181 q, hoh184, (3, (.lst 4 (jN zn0)), true), (4, (.lst 1 (jI zu1)), true), (5, (.lst 2 (jC zc3)), true)] 6), rn 10, .mset 7 (mEnts avI avI 0 ([] : List (Int × Int))) ([] : List (Int × Int)).length, rn 1, .mset 8 (mEnts avI avI 0 ([] : List (Int × Int))) ([] : List (Int × Int)).length, rn 9, aL q.funs, rn 4] ⟨kk, ⟨kk, ⟨kk, ⟨kl_map (fun _ => rfl) (fun _ => rfl) _ _ _, ⟨kl_map (fun _ => rfl) (fun _ => rfl) _ _ _, trivial⟩⟩⟩⟩⟩
theorem bJn_1_0 (p : Prog) (q : Prog) (zm2 : Int) (zn0 : (List Node)) (zu1 : (List Int)) (zc3 : (List Con)) (t44 : Int) (m8 : (List (Int × Int))) (h0 : decide (t44 < (q.funs.length : Int)) = true) (h1 : (IntKind.i64.wrap ((p.funs.length : Int) + t44)) = ((p.funs.length : Int) + t44)) (h2 : (IntKind.i64.wrap (t44 + (1 : Int))) = (t44 + (1 : Int))) :
  LeadsM PP 0 (bJn_c1 p q zm2 zn0 zu1 zc3 t44 m8).as (bJn_c1 p q zm2 zn0 zu1 zc3 (t44 + (1 : Int)) (mIns t44 ((p.funs.length : Int) + t44) m8)).as :=
 wW 10 [0, 1, 2, 3, 4, 5, 6, 7, 8, 9] [qp h0, ql avI p.funs, qp (congrArg (AV.int .i64) h1), qp (p := mapPut (mEnts avI avI 0 m8) m8.length (avI t44) (avI ((p.funs.length : Int) + t44)) = some ((mEnts avI avI 0 (mIns t44 ((p.funs.length : Int) + t44) m8)), List.length (mIns t44 ((p.funs.length : Int) + t44) m8))) (map_put key_avI _ _ _), qp (congrArg (AV.int .i64) h2)] [rn 5, bt 45, rn 15, aL p.funs, rn 2, sI 54 ((p.funs.length : Int) + t44), .mput (mEnts avI avI 0 (mIns t44 ((p.funs.length : Int) + t44) m8)) (mIns t44 ((p.funs.length : Int) + t44) m8).length, rn 4, sI 55 (t44 + (1 : Int)), rn 3] ⟨kk, ⟨kk, ⟨kk, ⟨kl_map (fun _ => rfl) (fun _ => rfl) _ _ _, ⟨kl_map (fun _ => rfl) (fun _ => rfl) _ _ _, trivial⟩⟩⟩⟩⟩
theorem bJn_1_1 (p : Prog) (q : Prog) (zm2 : Int) (zn0 : (List Node)) (zu1 : (List Int)) (zc3 : (List Con)) (t44 : Int) (m8 : (List (Int × Int))) (h0 : decide (t44 < (q.funs.length : Int)) = false) :
  LeadsM PP 0 (bJn_c1 p q zm2 zn0 zu1 zc3 t44 m8).as (bJn_c2 p q zm2 zn0 zu1 zc3 m8 0 ([] : List (Int × Int))).as :=
 wW 10 [1, 2, 3, 4, 5, 6, 7, 8, 9] [qp h0, ql Con.av q.cons] [rn 5, bf 45, rn 7, aL q.cons, rn 4] ⟨kk, ⟨kk, ⟨kk, ⟨kl_map (fun _ => rfl) (fun _ => rfl) _ _ _, ⟨kl_map (fun _ => rfl) (fun _ => rfl) _ _ _, trivial⟩⟩⟩⟩⟩
theorem bJn_2_0 (p : Prog) (q : Prog) (zm2 : Int) (zn0 : (List Node)) (zu1 : (List Int)) (zc3 : (List Con)) (m7 : (List (Int × Int))) (t59 : Int) (m8 : (List (Int × Int))) (y0 : Con) (h0 : decide (t59 < (q.cons.length : Int)) = true) (h1 : 0 ≤ t59) (h2 : ((q.cons)[t59.toNat]?) = some y0) :
  LeadsM PP 0 (bJn_c2 p q zm2 zn0 zu1 zc3 m7 t59 m8).as (bJn_c3 p q ((zc3.length : Nat) : Int) zc3 y0.name y0.args zm2 zn0 zu1 m7 0 t59 t59 m8).as :=
 wW 10 [6, 9, 0, 1, 2, 3, 4, 5, 7, 8] [qp h0, qp h1, qg Con.av h2] [rn 5, bt 60, rn 7, aI (Con.av y0), rn 24] ⟨kk, ⟨kk, ⟨kk, ⟨kl_map (fun _ => rfl) (fun _ => rfl) _ _ _, ⟨kl_map (fun _ => rfl) (fun _ => rfl) _ _ _, trivial⟩⟩⟩⟩⟩
theorem bJn_2_1 (p : Prog) (q : Prog) (zm2 : Int) (zn0 : (List Node)) (zu1 : (List Int)) (zc3 : (List Con)) (m7 : (List (Int × Int))) (t59 : Int) (m8 : (List (Int × Int))) (h0 : decide (t59 < (q.cons.length : Int)) = false) :
  LeadsM PP 0 (bJn_c2 p q zm2 zn0 zu1 zc3 m7 t59 m8).as (bJn_c4 p q zm2 zn0 zu1 zc3 m7 m8).as :=
 wW 9 [0, 1, 2, 3, 4, 5, 6, 7, 8] [qp h0] [rn 5, bf 60, rn 3] ⟨kk, ⟨kk, ⟨kk, ⟨kl_map (fun _ => rfl) (fun _ => rfl) _ _ _, ⟨kl_map (fun _ => rfl) (fun _ => rfl) _ _ _, trivial⟩⟩⟩⟩⟩
theorem bJn_3_1 (p : Prog) (q : Prog) (t7 : Int) (zc3 : (List Con)) (c1_0 : Str) (c1_1 : Int) (zm2 : Int) (zn0 : (List Node)) (zu1 : (List Int)) (m7 : (List (Int × Int))) (t8 : Int) (i13 : Int) (t59 : Int) (m9 : (List (Int × Int))) (y0 : Con) (h0 : decide (t8 < t7) = true) (h1 : 0 ≤ t8) (h2 : t8 < ((zc3.length : Nat) : Int)) (h3 : ((zc3)[t8.toNat]?) = some y0) (h4 : (strEq y0.name.length (bytesNat y0.name) c1_0.length (bytesNat c1_0)) = true) (h5 : decide (t8 < (0 : Int)) = false) (h6 : (y0.args != c1_1) = true) :
  Ends PP 0 (bJn_c3 p q t7 zc3 c1_0 c1_1 zm2 zn0 zu1 m7 t8 i13 t59 m9).as (.ret (.tup [(.agg [(.ilst 4 (jN ([] : List Node)) true), (.ilst 1 (jI ([] : List Int)) true), (nI 0), (.ilst 2 (jC ([] : List Con)) true)]), (nI 7)])) (hpOf [] 0) :=
 wE 11 [] [qp h0, qp h1, qp h2, qh Con.av h3, qp h4, qp h5, qp h1, qp h2, qh Con.av h3, qp h6] [rn 5, bt 9, rn 14, .ans (.ix), aI (Con.av y0), rn 18, bt 16, rn 17, bf 72, rn 2, .reg [.d, .d, .d, .ans (.ix), .d, .ans (.idx (Con.av y0)), .d, .d, .d, .d], bt 87, rn 8, .cnilI 3 0 4, .cnilI 3 1 1, .cnilI 3 3 2] trivial
theorem bJn_3_2 (p : Prog) (q : Prog) (t7 : Int) (zc3 : (List Con)) (c1_0 : Str) (c1_1 : Int) (zm2 : Int) (zn0 : (List Node)) (zu1 : (List Int)) (m7 : (List (Int × Int))) (t8 : Int) (i13 : Int) (t59 : Int) (m9 : (List (Int × Int))) (y0 : Con) (h0 : decide (t8 < t7) = true) (h1 : 0 ≤ t8) (h2 : t8 < ((zc3.length : Nat) : Int)) (h3 : ((zc3)[t8.toNat]?) = some y0) (h4 : (strEq y0.name.length (bytesNat y0.name) c1_0.length (bytesNat c1_0)) = true) (h5 : decide (t8 < (0 : Int)) = false) (h6 : (y0.args != c1_1) = false) (h7 : (IntKind.i64.wrap (t59 + (1 : Int))) = (t59 + (1 : Int))) :
  LeadsM PP 0 (bJn_c3 p q t7 zc3 c1_0 c1_1 zm2 zn0 zu1 m7 t8 i13 t59 m9).as (bJn_c2 p q zm2 zn0 zu1 zc3 m7 (t59 + (1 : Int)) (mIns i13 t8 m9)).as :=
 wW 11 [2, 3, 4, 5, 6, 7, 0, 8, 9] [qp h0, qp h1, qp h2, qh Con.av h3, qp h4, qp h5, qp h1, qp h2, qh Con.av h3, qp h6, qp (p := mapPut (mEnts avI avI 0 m9) m9.length (avI i13) (avI t8) = some ((mEnts avI avI 0 (mIns i13 t8 m9)), List.length (mIns i13 t8 m9))) (map_put key_avI _ _ _), qp (congrArg (AV.int .i64) h7)] [rn 5, bt 9, rn 14, .ans (.ix), aI (Con.av y0), rn 18, bt 16, rn 17, bf 72, rn 2, .reg [.d, .d, .d, .ans (.ix), .d, .ans (.idx (Con.av y0)), .d, .d, .d, .d], bf 87, rn 6, .mput (mEnts avI avI 0 (mIns i13 t8 m9)) (mIns i13 t8 m9).length, rn 5, sI 98 (t59 + (1 : Int)), rn 3] ⟨kk, ⟨kk, ⟨kk, ⟨kl_map (fun _ => rfl) (fun _ => rfl) _ _ _, ⟨kl_map (fun _ => rfl) (fun _ => rfl) _ _ _, trivial⟩⟩⟩⟩⟩
theorem bJn_3_3 (p : Prog) (q : Prog) (t7 : Int) (zc3 : (List Con)) (c1_0 : Str) (c1_1 : Int) (zm2 : Int) (zn0 : (List Node)) (zu1 : (List Int)) (m7 : (List (Int × Int))) (t8 : Int) (i13 : Int) (t59 : Int) (m9 : (List (Int × Int))) (y0 : Con) (h0 : decide (t8 < t7) = true) (h1 : 0 ≤ t8) (h2 : t8 < ((zc3.length : Nat) : Int)) (h3 : ((zc3)[t8.toNat]?) = some y0) (h4 : (strEq y0.name.length (bytesNat y0.name) c1_0.length (bytesNat c1_0)) = false) (h5 : (IntKind.i64.wrap (t8 + (1 : Int))) = (t8 + (1 : Int))) :
  LeadsM PP 0 (bJn_c3 p q t7 zc3 c1_0 c1_1 zm2 zn0 zu1 m7 t8 i13 t59 m9).as (bJn_c3 p q t7 zc3 c1_0 c1_1 zm2 zn0 zu1 m7 (t8 + (1 : Int)) i13 t59 m9).as :=
 wW 11 [0, 1, 2, 3, 4, 5, 6, 7, 8, 9] [qp h0, qp h1, qp h2, qh Con.av h3, qp h4, qp (congrArg (AV.int .i64) h5)] [rn 5, bt 9, rn 14, .ans (.ix), aI (Con.av y0), rn 18, bf 16, rn 5, sI 18 (t8 + (1 : Int)), rn 3] ⟨kk, ⟨kk, ⟨kk, ⟨kl_map (fun _ => rfl) (fun _ => rfl) _ _ _, ⟨kl_map (fun _ => rfl) (fun _ => rfl) _ _ _, trivial⟩⟩⟩⟩⟩
theorem bJn_3_4 (p : Prog) (q : Prog) (t7 : Int) (zc3 : (List Con)) (c1_0 : Str) (c1_1 : Int) (zm2 : Int) (zn0 : (List Node)) (zu1 : (List Int)) (m7 : (List (Int × Int))) (t8 : Int) (i13 : Int) (t59 : Int) (m9 : (List (Int × Int))) (h0 : decide (t8 < t7) = false) (h1 : List.length (zc3 ++ [(Con.mk c1_0 c1_1)]) ≤ 1000000) (h2 : (IntKind.i64.wrap (t59 + (1 : Int))) = (t59 + (1 : Int))) :
  LeadsM PP 0 (bJn_c3 p q t7 zc3 c1_0 c1_1 zm2 zn0 zu1 m7 t8 i13 t59 m9).as (bJn_c2 p q zm2 zn0 zu1 (zc3 ++ [(Con.mk c1_0 c1_1)]) m7 (t59 + (1 : Int)) (mIns i13 ((zc3.length : Nat) : Int) m9)).as :=
 wW 12 [2, 3, 4, 5, 6, 7, 11, 8, 9] [qp h0, qp (p := mapPut (mEnts avI avI 0 m9) m9.length (avI i13) (avI ((zc3.length : Nat) : Int)) = some ((mEnts avI avI 0 (mIns i13 ((zc3.length : Nat) : Int) m9)), List.length (mIns i13 ((zc3.length : Nat) : Int) m9))) (map_put key_avI _ _ _), qp (app_p1 Con.av zc3), qp h1, qp (app_p3 Con.av zc3 [(Con.mk c1_0 c1_1)]), qp (app_p4 Con.av zc3 [(Con.mk c1_0 c1_1)]), qp (congrArg (AV.int .i64) h2)] [rn 5, bf 9, rn 26, .mput (mEnts avI avI 0 (mIns i13 ((zc3.length : Nat) : Int) m9)) (mIns i13 ((zc3.length : Nat) : Int) m9).length, rn 6, .app (jC (zc3 ++ [(Con.mk c1_0 c1_1)])) (zc3 ++ [(Con.mk c1_0 c1_1)]).length, rn 7, sI 98 (t59 + (1 : Int)), rn 3] ⟨kk, ⟨kk, ⟨kk, ⟨kl_map (fun _ => rfl) (fun _ => rfl) _ _ _, ⟨kl_map (fun _ => rfl) (fun _ => rfl) _ _ _, trivial⟩⟩⟩⟩⟩
theorem bJn_4_0 (p : Prog) (q : Prog) (zm2 : Int) (zn0 : (List Node)) (zu1 : (List Int)) (zc3 : (List Con)) (m7 : (List (Int × Int))) (m8 : (List (Int × Int))) (wn0 : (List Node)) (wu1 : (List Int)) (h0 : Spec PP (.enter 38 [(Prog.av q), (nI ((zn0.length : Nat) : Int)), (.func 39 [] []), (.agg [(.map 7), (.map 8)])]) (hpOf [hoh182 q, hoh185, hoh183 zn0 zu1 zm2 zc3, hoh186, (4, (.lst 4 (jN zn0)), true), (5, (.lst 1 (jI zu1)), true), (6, (.lst 2 (jC zc3)), true), hoh188 m7, hoh187 m8] 9) (.ret (.tup [(iN wn0), (iI wu1)])) (hpOf [hoh182 q, hoh185, hoh183 zn0 zu1 zm2 zc3, hoh186, (4, (.lst 4 (jN zn0)), true), (5, (.lst 1 (jI zu1)), true), (6, (.lst 2 (jC zc3)), true), hoh188 m7, hoh187 m8] 9)) (h1 : List.length (zn0 ++ wn0) ≤ 1000000) (h2 : List.length (zu1 ++ wu1) ≤ 1000000) (h3 : (decide ((((zn0 ++ wn0).length : Nat) : Int) > (300 : Int))) = true) :
  Ends PP 0 (bJn_c4 p q zm2 zn0 zu1 zc3 m7 m8).as (.ret (.tup [(.agg [(.ilst 4 (jN ([] : List Node)) true), (.ilst 1 (jI ([] : List Int)) true), (nI 0), (.ilst 2 (jC ([] : List Con)) true)]), (nI 3)])) (hpOf [] 0) :=
 wE 11 [] [qp h0, qp (app_p1 Node.av zn0), qp h1, qp (app_p3 Node.av zn0 wn0), qp (app_p4 Node.av zn0 wn0), qp (app_p1 avI zu1), qp h2, qp (app_p3 avI zu1 wu1), qp (app_p4 avI zu1 wu1), qr (AV.gl 5 1 0 zu1.length false), qr (AV.gl 5 1 0 zu1.length false), qp h3] [rn 7, .call (.tup [(iN wn0), (iI wu1)]) (hpOf [hoh182 q, hoh185, hoh183 zn0 zu1 zm2 zc3, hoh186, (4, (.lst 4 (jN zn0)), true), (5, (.lst 1 (jI zu1)), true), (6, (.lst 2 (jC zc3)), true), hoh188 m7, hoh187 m8] 9), rn 7, .reg [.d, .d, .d, .app (jN (zn0 ++ wn0)) (zn0 ++ wn0).length, .d, .d, .d, .app (jI (zu1 ++ wu1)) (zu1 ++ wu1).length, .d, .d, .d, .d], rn 8, bt 123, rn 14, .cnilI 1 0 4, .cnilI 1 1 1, .cnilI 1 3 2] trivial
theorem bJn_4_1 (p : Prog) (q : Prog) (zm2 : Int) (zn0 : (List Node)) (zu1 : (List Int)) (zc3 : (List Con)) (m7 : (List (Int × Int))) (m8 : (List (Int × Int))) (wn0 : (List Node)) (wu1 : (List Int)) (h0 : Spec PP (.enter 38 [(Prog.av q), (nI ((zn0.length : Nat) : Int)), (.func 39 [] []), (.agg [(.map 7), (.map 8)])]) (hpOf [hoh182 q, hoh185, hoh183 zn0 zu1 zm2 zc3, hoh186, (4, (.lst 4 (jN zn0)), true), (5, (.lst 1 (jI zu1)), true), (6, (.lst 2 (jC zc3)), true), hoh188 m7, hoh187 m8] 9) (.ret (.tup [(iN wn0), (iI wu1)])) (hpOf [hoh182 q, hoh185, hoh183 zn0 zu1 zm2 zc3, hoh186, (4, (.lst 4 (jN zn0)), true), (5, (.lst 1 (jI zu1)), true), (6, (.lst 2 (jC zc3)), true), hoh188 m7, hoh187 m8] 9)) (h1 : List.length (zn0 ++ wn0) ≤ 1000000) (h2 : List.length (zu1 ++ wu1) ≤ 1000000) (h3 : (decide ((((zn0 ++ wn0).length : Nat) : Int) > (300 : Int))) = false) (h4 : decide (((zc3.length : Nat) : Int) > (20 : Int)) = true) :
  Ends PP 0 (bJn_c4 p q zm2 zn0 zu1 zc3 m7 m8).as (.ret (.tup [(.agg [(.ilst 4 (jN ([] : List Node)) true), (.ilst 1 (jI ([] : List Int)) true), (nI 0), (.ilst 2 (jC ([] : List Con)) true)]), (nI 3)])) (hpOf [] 0) :=
 wE 11 [] [qp h0, qp (app_p1 Node.av zn0), qp h1, qp (app_p3 Node.av zn0 wn0), qp (app_p4 Node.av zn0 wn0), qp (app_p1 avI zu1), qp h2, qp (app_p3 avI zu1 wu1), qp (app_p4 avI zu1 wu1), qr (AV.gl 5 1 0 zu1.length false), qr (AV.gl 5 1 0 zu1.length false), qp h3, qp h4] [rn 7, .call (.tup [(iN wn0), (iI wu1)]) (hpOf [hoh182 q, hoh185, hoh183 zn0 zu1 zm2 zc3, hoh186, (4, (.lst 4 (jN zn0)), true), (5, (.lst 1 (jI zu1)), true), (6, (.lst 2 (jC zc3)), true), hoh188 m7, hoh187 m8] 9), rn 7, .reg [.d, .d, .d, .app (jN (zn0 ++ wn0)) (zn0 ++ wn0).length, .d, .d, .d, .app (jI (zu1 ++ wu1)) (zu1 ++ wu1).length, .d, .d, .d, .d], rn 8, bf 123, rn 6, bt 128, rn 8, .cnilI 1 0 4, .cnilI 1 1 1, .cnilI 1 3 2] trivial
theorem bJn_4_2 (p : Prog) (q : Prog) (zm2 : Int) (zn0 : (List Node)) (zu1 : (List Int)) (zc3 : (List Con)) (m7 : (List (Int × Int))) (m8 : (List (Int × Int))) (wn0 : (List Node)) (wu1 : (List Int)) (h0 : Spec PP (.enter 38 [(Prog.av q), (nI ((zn0.length : Nat) : Int)), (.func 39 [] []), (.agg [(.map 7), (.map 8)])]) (hpOf [hoh182 q, hoh185, hoh183 zn0 zu1 zm2 zc3, hoh186, (4, (.lst 4 (jN zn0)), true), (5, (.lst 1 (jI zu1)), true), (6, (.lst 2 (jC zc3)), true), hoh188 m7, hoh187 m8] 9) (.ret (.tup [(iN wn0), (iI wu1)])) (hpOf [hoh182 q, hoh185, hoh183 zn0 zu1 zm2 zc3, hoh186, (4, (.lst 4 (jN zn0)), true), (5, (.lst 1 (jI zu1)), true), (6, (.lst 2 (jC zc3)), true), hoh188 m7, hoh187 m8] 9)) (h1 : List.length (zn0 ++ wn0) ≤ 1000000) (h2 : List.length (zu1 ++ wu1) ≤ 1000000) (h3 : (decide ((((zn0 ++ wn0).length : Nat) : Int) > (300 : Int))) = false) (h4 : decide (((zc3.length : Nat) : Int) > (20 : Int)) = false) :
  Ends PP 0 (bJn_c4 p q zm2 zn0 zu1 zc3 m7 m8).as (.ret (.tup [(.agg [(iN (zn0 ++ wn0)), (iI (zu1 ++ wu1)), (nI zm2), (iC zc3)]), (nI 0)])) (hpOf [] 0) :=
 wE 11 [] [qp h0, qp (app_p1 Node.av zn0), qp h1, qp (app_p3 Node.av zn0 wn0), qp (app_p4 Node.av zn0 wn0), qp (app_p1 avI zu1), qp h2, qp (app_p3 avI zu1 wu1), qp (app_p4 avI zu1 wu1), qr (AV.gl 5 1 0 zu1.length false), qr (AV.gl 5 1 0 zu1.length false), qp h3, qp h4, qp (p := AV.keylessL (jN (zn0 ++ wn0)) = true) (keylessL_map _ (fun _ => rfl) _), qp (p := AV.frzOk 9 4 (jN (zn0 ++ wn0)) (jN (zn0 ++ wn0)) (.gl 9 4 0 (zn0 ++ wn0).length false)) (frz_whole _ _), qp (p := AV.keylessL (jI (zu1 ++ wu1)) = true) (keylessL_map _ (fun _ => rfl) _), qp (p := AV.frzOk 10 1 (jI (zu1 ++ wu1)) (jI (zu1 ++ wu1)) (.gl 10 1 0 (zu1 ++ wu1).length false)) (frz_whole _ _), qp (p := AV.keylessL (jC zc3) = true) (keylessL_map _ (fun _ => rfl) _), qp (p := AV.frzOk 6 2 (jC zc3) (jC zc3) (.gl 6 2 0 zc3.length false)) (frz_whole _ _)] [rn 7, .call (.tup [(iN wn0), (iI wu1)]) (hpOf [hoh182 q, hoh185, hoh183 zn0 zu1 zm2 zc3, hoh186, (4, (.lst 4 (jN zn0)), true), (5, (.lst 1 (jI zu1)), true), (6, (.lst 2 (jC zc3)), true), hoh188 m7, hoh187 m8] 9), rn 7, .reg [.d, .d, .d, .app (jN (zn0 ++ wn0)) (zn0 ++ wn0).length, .d, .d, .d, .app (jI (zu1 ++ wu1)) (zu1 ++ wu1).length, .d, .d, .d, .d], rn 8, bf 123, rn 6, bf 128, rn 9, .cfrz 1 0 9 (jN (zn0 ++ wn0)), .cfrz 1 1 10 (jI (zu1 ++ wu1)), .cfrz 1 3 6 (jC zc3)] trivial
end Go.Hb
namespace Go.Hb
open Go.Proofs
set_option maxHeartbeats 2000000
noncomputable section
/-! ## bind.Join -/
/-- the first numbers, to those from a on -/
def mfJ (a : Nat) : Nat → List (Int × Int)
 | 0 => []
 | n+1 => mIns (n : Int) ((a : Int) + (n : Int)) (mfJ a n)
theorem mfJ_get (a : Nat) : ∀ (n : Nat) (i : Int), 0 ≤ i → i < n → mGet i (mfJ a n) = some ((a : Int) + i)
 | 0, i, h0, h1 => by omega
 | n+1, i, h0, h1 => by
  rw [mfJ, mGet_ins]
  by_cases h : i = (n : Int)
  · rw [if_pos h, h]
  · rw [if_neg h]; exact mfJ_get a n i h0 (by omega)
/-- the constructors of both, and the new numbers of the second one's, aS the program finds them -/
def joinB : List Con → Int → List Con → List (Int × Int) → Option (List Con × List (Int × Int))
 | [], _, zc, m => some (zc, m)
 | c :: t, i, zc, m =>
  if conIx c.name zc 0 < 0 then joinB t (i + 1) (zc ++ [c]) (mIns i ((zc.length : Nat) : Int) m)
  else match zc[(conIx c.name zc 0).toNat]? with
   | some d => if d.args = c.args then joinB t (i + 1) zc (mIns i (conIx c.name zc 0) m) else none
   | none => none
section
variable (p q : Prog) (mn : Int) (zn : List Node) (zu : List Int)
theorem bJn_funs (zc : List Con) (hp : p.funs.length ≤ 320) (hq : q.funs.length ≤ 320) : ∀ (j i : Nat), i + j = q.funs.length →
  LeadsM PP 0 (bJn_c1 p q mn zn zu zc (i : Int) (mfJ p.funs.length i)).as (bJn_c2 p q mn zn zu zc (mfJ p.funs.length q.funs.length) 0 []).as
 | 0, i, h => by
  obtain rfl : i = q.funs.length := by omega
  exact bJn_1_1 p q mn zn zu zc _ _ sd
 | j+1, i, h => (bJn_1_0 p q mn zn zu zc i _ sd sd sd).trans (bJn_funs zc hp hq j (i + 1) (by omega))
/-- where the search for a name leads -/
def FindGoal (zc : List Con) (c : Con) (mf : List (Int × Int)) (i : Int) (m : List (Int × Int)) (s : TS) (r : Int) : Prop :=
 if r < 0 then LeadsM PP 0 s.as (bJn_c2 p q mn zn zu (zc ++ [c]) mf (i + 1) (mIns i ((zc.length : Nat) : Int) m)).as
 else match zc[r.toNat]? with
  | some d => if d.args = c.args then LeadsM PP 0 s.as (bJn_c2 p q mn zn zu zc mf (i + 1) (mIns i r m)).as
   else Ends PP 0 s.as (.ret (.tup [errProg, .int .i64 7])) (hpOf [] 0)
  | none => True
theorem FindGoal.of {zc : List Con} {c : Con} {mf : List (Int × Int)} {i : Int} {m : List (Int × Int)} {s s' : TS} {r : Int} (h : LeadsM PP 0 s'.as s.as) (g : FindGoal p q mn zn zu zc c mf i m s r) : FindGoal p q mn zn zu zc c mf i m s' r := by
 unfold FindGoal at g ⊢
 split
 · rename_i hr
   rw [if_pos hr] at g
   exact h.trans g
 · rename_i hr
   rw [if_neg hr] at g
   split
   · rename_i d hd
     rw [hd] at g
     simp only at g
     split
     · rename_i e
       rw [if_pos e] at g
       exact h.trans g
     · rename_i e
       rw [if_neg e] at g
       exact h.ends g
   · trivial
theorem bJn_find (zc : List Con) (c : Con) (mf : List (Int × Int)) (i : Int) (m : List (Int × Int)) (hz : zc.length ≤ 1000) (hi0 : 0 ≤ i) (hi : i ≤ 1000) : ∀ (t : List Con) (j : Nat), zc.drop j = t →
  FindGoal p q mn zn zu zc c mf i m (bJn_c3 p q ((zc.length : Nat) : Int) zc c.name c.args mn zn zu mf (j : Int) i i m) (conIx c.name t j)
 | [], j, h => by
  have := dropN h
  exact bJn_3_4 p q _ zc c.name c.args mn zn zu mf j i i m sd (by simp; omega) sd
 | d :: t, j, h => by
  obtain ⟨g1, g2, g3⟩ := dropC h
  simp only [conIx]
  split
  · rename_i e
    have hs : strEq (List.length d.name) (bytesNat d.name) (List.length c.name) (bytesNat c.name) = true := by rw [strEq_eq]; simpa using e
    unfold FindGoal
    rw [if_neg (by omega), Int.toNat_natCast, g1]
    simp only
    split
    · rename_i ha
      exact bJn_3_2 p q _ zc c.name c.args mn zn zu mf j i i m d sd (by omega) (by omega) (by simpa using g1) hs sd (by simp [ha]) sd
    · rename_i ha
      exact bJn_3_1 p q _ zc c.name c.args mn zn zu mf j i i m d sd (by omega) (by omega) (by simpa using g1) hs sd (by simpa using ha)
  · rename_i e
    have hs : strEq (List.length d.name) (bytesNat d.name) (List.length c.name) (bytesNat c.name) = false := by rw [strEq_eq]; simpa using e
    exact FindGoal.of p q mn zn zu (bJn_3_3 p q _ zc c.name c.args mn zn zu mf j i i m d sd (by omega) (by omega) (by simpa using g1) hs sd) (bJn_find zc c mf i m hz hi0 hi t (j + 1) g2)
def ConsB (mf : List (Int × Int)) (s : TS) : Option (List Con × List (Int × Int)) → Prop
 | none => Ends PP 0 s.as (.ret (.tup [errProg, .int .i64 7])) (hpOf [] 0)
 | some r => LeadsM PP 0 s.as (bJn_c4 p q mn zn zu r.1 mf r.2).as
theorem ConsB.of {mf : List (Int × Int)} {s s' : TS} (h : LeadsM PP 0 s'.as s.as) : ∀ {r : Option (List Con × List (Int × Int))}, ConsB p q mn zn zu mf s r → ConsB p q mn zn zu mf s' r
 | none, g => h.ends g
 | some _, g => h.trans g
theorem bJn_cons (mf : List (Int × Int)) (hq : q.cons.length ≤ 25) : ∀ (t : List Con) (i : Nat) (zc : List Con) (m : List (Int × Int)), q.cons.drop i = t → zc.length ≤ 25 + i →
  ConsB p q mn zn zu mf (bJn_c2 p q mn zn zu zc mf (i : Int) m) (joinB t (i : Int) zc m)
 | [], i, zc, m, h, hz => by
  have := dropN h
  exact bJn_2_1 p q mn zn zu zc mf i m sd
 | c :: t, i, zc, m, h, hz => by
  obtain ⟨g1, g2, g3⟩ := dropC h
  have h0 := bJn_2_0 p q mn zn zu zc mf i m c sd (by omega) (by simpa using g1)
  have hf := FindGoal.of p q mn zn zu h0 (bJn_find p q mn zn zu zc c mf i m (by omega) (by omega) (by omega) zc 0 rfl)
  unfold FindGoal at hf
  simp only [joinB]
  simp only [Int.natCast_zero] at hf
  split
  · rename_i hk
    rw [if_pos hk] at hf
    exact ConsB.of p q mn zn zu hf (bJn_cons mf hq t (i + 1) (zc ++ [c]) _ g2 (by simp; omega))
  · rename_i hk
    rw [if_neg hk] at hf
    split
    · rename_i d hd
      rw [hd] at hf
      simp only at hf
      split
      · rename_i ha
        rw [if_pos ha] at hf
        exact ConsB.of p q mn zn zu hf (bJn_cons mf hq t (i + 1) zc _ g2 (by omega))
      · rename_i ha
        rw [if_neg ha] at hf
        exact hf
    · rename_i hd
      rcases conIx_range c.name zc 0 (by omega) with g | ⟨e1, e2, d, e3, e4⟩
      · omega
      · have e3 : zc[(conIx c.name zc 0).toNat]? = some d := by simpa using e3
        rw [hd] at e3; cases e3
end
theorem bJoin_err {p q : Prog} {a b : Int} (hp : Pure PP 10 [PA p] (.int .i64 a)) (hq : Pure PP 10 [PA q] (.int .i64 b)) (h : a ≠ 0 ∨ b ≠ 0) : Pure PP 20 [PA p, PA q] (.tup [errProg, .int .i64 (if a = 0 then b else a)]) := by
 have hP : ∀ v, AV.keyless v = true → Ends PP 0 (bJn_s p q).as (.ret v) (hpOf [] 0) → Pure PP 20 [PA p, PA q] v := fun v hv h => pure_atH (s := bJn_s p q) (by kernel_rfl) (by kernel_rfl) (by simp [AV.keylessL, AV.keyless]) hv h
 refine hP _ (by simp [AV.keylessL, AV.keyless]) ?_
 by_cases ha : a = 0
 · subst ha
   rw [if_pos rfl]
   exact bJn_E_1 p q 0 b hp rfl hq (by simpa using h)
 · rw [if_neg ha]
   exact bJn_E_0 p q a hp (by simpa using ha)
theorem bJoin_ok {p q : Prog} (hsp : p.cons.length ≤ 25 ∧ p.funs.length ≤ 320 ∧ p.nodes.length ≤ 320) (hsq : q.cons.length ≤ 25 ∧ q.funs.length ≤ 320 ∧ q.nodes.length ≤ 320) (hp : Pure PP 10 [PA p] (.int .i64 0)) (hq : Pure PP 10 [PA q] (.int .i64 0))
  {zn : List Node} {zu : List Int} {mn : Int} {zc : List Con} (hzn : zn.length ≤ 320) (hzu : zu.length ≤ 320) (hzc : zc.length ≤ 25)
  (h17 : SpecN PP (.enter 17 [PA p]) (hpOf [] 0) (.ret (.tup [.agg [gN 0 zn, gI 1 zu, .int .i64 mn, gC 2 zc], .int .i64 0])) (hpOf [(0, LN zn, true), (1, LI zu, true), (2, LC zc, true)] 3)) :
  match joinB q.cons 0 zc [] with
  | none => Pure PP 20 [PA p, PA q] (.tup [errProg, .int .i64 7])
  | some (al, mc) => ∀ (wn : List Node) (wu : List Int), wn.length ≤ 320 → wu.length ≤ 320 →
   Spec PP (.enter 38 [PA q, .int .i64 ((zn.length : Nat) : Int), .func 39 [] [], .agg [.map 0, .map 1]]) (hpOf [(0, MO (mfJ p.funs.length q.funs.length), true), (1, MO mc, true)] 2) (.ret (.tup [.ilst 4 (List.map Node.av wn) false, .ilst 1 (List.map avI wu) false])) (hpOf [(0, MO (mfJ p.funs.length q.funs.length), true), (1, MO mc, true)] 2) →
   Pure PP 20 [PA p, PA q] (if zn.length + wn.length > 300 ∨ al.length > 20 then .tup [errProg, .int .i64 3] else .tup [PA ⟨zn ++ wn, zu ++ wu, mn, al⟩, .int .i64 0]) := by
 have hP : ∀ v, AV.keyless v = true → Ends PP 0 (bJn_s p q).as (.ret v) (hpOf [] 0) → Pure PP 20 [PA p, PA q] v := fun v hv h => pure_atH (s := bJn_s p q) (by kernel_rfl) (by kernel_rfl) (by simp [AV.keylessL, AV.keyless]) hv h
 have hE := bJn_E_2 p q 0 0 hp rfl hq rfl
 have h0 := bJn_0_0 p q zn zu mn zc (Eq.mp (by kernel_rfl) (spec_new (ks := []) (n2 := 3) (lc := [hoh180 p, hoh181 q, hoh184]) (x := [hoh180 p, hoh181 q, hoh184])
    (args' := [PA p]) h17 (by kernel_rfl) (by kernel_rfl) (by kernel_rfl) trivial (by kernel_rfl) (by kernel_rfl) (by kernel_rfl) (by kernel_rfl) ⟨ln_kl _, li_kl _, lc_kl _, trivial⟩ (by kernel_rfl)))
 have h1 := bJn_funs p q mn zn zu zc hsp.2.1 hsq.2.1 q.funs.length 0 (by omega)
 have h2 := ConsB.of p q mn zn zu (hE.trans (h0.trans h1)) (bJn_cons p q mn zn zu (mfJ p.funs.length q.funs.length) hsq.1 q.cons 0 zc [] rfl (by omega))
 simp only [Int.natCast_zero] at h2
 generalize joinB q.cons 0 zc [] = r at h2 ⊢
 cases r with
 | none => exact hP _ (by simp [AV.keylessL, AV.keyless]) h2
 | some r =>
  obtain ⟨al, mc⟩ := r
  intro wn wu hwn hwu h38
  have h2 : LeadsM PP 0 (bJn_s p q).as (bJn_c4 p q mn zn zu al (mfJ p.funs.length q.funs.length) mc).as := h2
  have hs : Spec PP (.enter 38 [PA q, .int .i64 ((zn.length : Nat) : Int), .func 39 [] [], .agg [.map 7, .map 8]]) (hpOf [hoh182 q, hoh185, hoh183 zn zu mn al, hoh186, (4, LN zn, true), (5, LI zu, true), (6, LC al, true), hoh188 (mfJ p.funs.length q.funs.length), hoh187 mc] 9)
    (.ret (.tup [.ilst 4 (List.map Node.av wn) false, .ilst 1 (List.map avI wu) false])) (hpOf [hoh182 q, hoh185, hoh183 zn zu mn al, hoh186, (4, LN zn, true), (5, LI zu, true), (6, LC al, true), hoh188 (mfJ p.funs.length q.funs.length), hoh187 mc] 9) :=
   spec_in (ks := [7, 8]) h38 (by kernel_rfl) (by simp [AV.keylessL, AV.keyless]) (by kernel_rfl) (by kernel_rfl) ⟨mo_kl _, mo_kl _, trivial⟩ (by kernel_rfl) ⟨mo_kl _, mo_kl _, trivial⟩ (by kernel_rfl) (by kernel_rfl) (by kernel_rfl) (by kernel_rfl) (by kernel_rfl) (by kernel_rfl) (by kernel_rfl) (by kernel_rfl)
  split
  · rename_i hbig
    refine hP _ (by simp [AV.keylessL, AV.keyless]) (h2.ends ?_)
    by_cases h300 : zn.length + wn.length > 300
    · exact bJn_4_0 p q mn zn zu al _ mc wn wu hs (by simp; omega) (by simp; omega) (by simp; omega)
    · exact bJn_4_1 p q mn zn zu al _ mc wn wu hs (by simp; omega) (by simp; omega) (by simp; omega) (by simp; omega)
  · rename_i hsm
    refine hP _ (by simp [AV.keylessL, AV.keyless]) (h2.ends ?_)
    exact bJn_4_2 p q mn zn zu al _ mc wn wu hs (by simp; omega) (by simp; omega) (by simp; omega) (by simp; omega)
end
end Go.Hb
namespace Go.Hb
open Go.Proofs
noncomputable def rsI_c0 (a : (List Int)) (i5 : Int) : TS :=
 { fr := { fn := 37, nt := 26, sl := [(0, (iI a)), (1, (iI a)), (4, (bV false)), (5, (nI i5))], todo := [.code (cd Tryz.f37 [1, 1, 0, 1, 0, 0]), .inLoop (cd Tryz.f37 [1, 1, 0, 1, 0, 0]), .inBlock 0, .code (cd Tryz.f37 [1, 1, 1])] }, cs := [], hp := [], nb := 0 }
theorem rsI_E_1 (a : (List Int)) (h0 : ((a.length : Int) != (a.length : Int)) = false) :
  LeadsM PP 0 (start PP 37 [(iI a), (iI a)]).as (rsI_c0 a 0).as :=
 wW 0 [] [ql avI a, ql avI a, qp h0] [rn 8, aL a, rn 1, aL a, rn 2, bf 10, rn 9] trivial
theorem rsI_0_1 (a : (List Int)) (i5 : Int) (y0 : Int) (h0 : decide (i5 < (a.length : Int)) = true) (h1 : 0 ≤ i5) (h2 : ((a)[i5.toNat]?) = some y0) (h3 : (y0 != y0) = false) (h4 : (IntKind.i64.wrap (i5 + (1 : Int))) = (i5 + (1 : Int))) :
  LeadsM PP 0 (rsI_c0 a i5).as (rsI_c0 a (i5 + (1 : Int))).as :=
 wW 0 [] [ql avI a, qp h0, qp h1, qg avI h2, qp h1, qg avI h2, qp h3, qp (congrArg (AV.int .i64) h4)] [rn 5, aL a, rn 2, bt 14, rn 5, .reg [.d, .d, .ans (.idx (avI y0)), .d, .d, .d, .ans (.idx (avI y0)), .d, .d], bf 25, rn 6, sI 16 (i5 + (1 : Int)), rn 3] trivial
theorem rsI_0_2 (a : (List Int)) (i5 : Int) (h0 : decide (i5 < (a.length : Int)) = false) :
  Ends PP 0 (rsI_c0 a i5).as (.ret (bV true)) (hpOf [] 0) :=
 wE 0 [] [ql avI a, qp h0] [rn 5, aL a, rn 2, bf 14, rn 7] trivial
noncomputable def rsP_c0 (q_form : Int) (q_n : Int) (q_text : Str) (q_parts : (List Pat)) (i5 : Int) : TS :=
 { fr := { fn := 96, nt := 53, sl := [(2, (.ptr 0 0)), (3, (.ptr 1 0)), (4, (bV false)), (5, (nI i5))], todo := [.code (cd Tryz.f96 [1, 1, 0, 1, 0, 0]), .inLoop (cd Tryz.f96 [1, 1, 0, 1, 0, 0]), .inBlock 0, .code (cd Tryz.f96 [1, 1, 1])] }, cs := [], hp := [(0, (.cells (putCells .leaf 0 [(nI q_form), (nI q_n), (avS q_text), (iP q_parts)]) 4 [] false), false), (1, (.cells (putCells .leaf 0 [(nI q_form), (nI q_n), (avS q_text), (iP q_parts)]) 4 [] false), false)], nb := 2 }
theorem rsP_E_4 (q_form : Int) (q_n : Int) (q_text : Str) (q_parts : (List Pat)) (h0 : (q_form != q_form) = false) (h1 : (q_n != q_n) = false) (h2 : (!(strEq q_text.length (bytesNat q_text) q_text.length (bytesNat q_text))) = false) (h3 : ((q_parts.length : Int) != (q_parts.length : Int)) = false) :
  LeadsM PP 0 (start PP 96 [(.agg [(nI q_form), (nI q_n), (avS q_text), (iP q_parts)]), (.agg [(nI q_form), (nI q_n), (avS q_text), (iP q_parts)])]).as (rsP_c0 q_form q_n q_text q_parts 0).as :=
 wW 2 [0, 1] [qp h0, qp h1, qp h2, qlP q_parts, qlP q_parts, qp h3] [rn 15, bf 11, rn 7, bf 18, rn 7, bf 25, rn 2, aL q_parts, rn 2, aL q_parts, rn 3, bf 33, rn 9] trivial
theorem rsP_0_1 (q_form : Int) (q_n : Int) (q_text : Str) (q_parts : (List Pat)) (i5 : Int) (y_form0 : Int) (y_n1 : Int) (y_text2 : Str) (y_parts3 : (List Pat)) (y4 : Bool) (h0 : decide (i5 < (q_parts.length : Int)) = true) (h1 : 0 ≤ i5) (h2 : ((q_parts)[i5.toNat]?) = some (Pat.mk y_form0 y_n1 y_text2 y_parts3)) (h3 : Pure PP 96 [(.agg [(nI y_form0), (nI y_n1), (avS y_text2), (iP y_parts3)]), (.agg [(nI y_form0), (nI y_n1), (avS y_text2), (iP y_parts3)])] (bV y4)) (h4 : (!y4) = false) (h5 : (IntKind.i64.wrap (i5 + (1 : Int))) = (i5 + (1 : Int))) :
  LeadsM PP 0 (rsP_c0 q_form q_n q_text q_parts i5).as (rsP_c0 q_form q_n q_text q_parts (i5 + (1 : Int))).as :=
 wW 2 [0, 1] [qlP q_parts, qp h0, qp h1, qgP h2, qp h1, qgP h2, qp h3, qp h4, qp (congrArg (AV.int .i64) h5)] [rn 6, aL q_parts, rn 2, bt 38, rn 5, .reg [.d, .d, .d, .ans (.idx (Pat.av (Pat.mk y_form0 y_n1 y_text2 y_parts3))), .d, .d, .d, .d, .ans (.idx (Pat.av (Pat.mk y_form0 y_n1 y_text2 y_parts3))), .d, .pure (bV y4), .d], bf 52, rn 6, sI 40 (i5 + (1 : Int)), rn 3] trivial
theorem rsP_0_2 (q_form : Int) (q_n : Int) (q_text : Str) (q_parts : (List Pat)) (i5 : Int) (h0 : decide (i5 < (q_parts.length : Int)) = false) :
  Ends PP 0 (rsP_c0 q_form q_n q_text q_parts i5).as (.ret (bV true)) (hpOf [] 0) :=
 wE 2 [] [qlP q_parts, qp h0] [rn 6, aL q_parts, rn 2, bf 38, rn 7] trivial
noncomputable def rsN_c0 (x : Node) (i5 : Int) : TS :=
 { fr := { fn := 43, nt := 54, sl := [(2, (.ptr 0 0)), (3, (.ptr 1 0)), (4, (bV false)), (5, (nI i5))], todo := [.code (cd Tryz.f43 [1, 1, 0, 1, 0, 0]), .inLoop (cd Tryz.f43 [1, 1, 0, 1, 0, 0]), .inBlock 0, .code (cd Tryz.f43 [1, 1, 1])] }, cs := [], hp := [(0, (.cells (putCells .leaf 0 [(nI x.op), (nI x.n), (iI x.kids), (iP x.pats)]) 4 [] false), false), (1, (.cells (putCells .leaf 0 [(nI x.op), (nI x.n), (iI x.kids), (iP x.pats)]) 4 [] false), false)], nb := 2 }
theorem rsN_E_4 (x : Node) (y0 : Bool) (h0 : (x.op != x.op) = false) (h1 : (x.n != x.n) = false) (h2 : Pure PP 37 [(iI x.kids), (iI x.kids)] (bV y0)) (h3 : (!y0) = false) (h4 : ((x.pats.length : Int) != (x.pats.length : Int)) = false) :
  LeadsM PP 0 (start PP 43 [(Node.av x), (Node.av x)]).as (rsN_c0 x 0).as :=
 wW 2 [0, 1] [qp h0, qp h1, qp h2, qp h3, qlP x.pats, qlP x.pats, qp h4] [rn 15, bf 11, rn 7, bf 18, rn 4, pB y0, rn 3, bf 26, rn 2, aL x.pats, rn 2, aL x.pats, rn 3, bf 34, rn 9] trivial
theorem rsN_0_1 (x : Node) (i5 : Int) (y_form0 : Int) (y_n1 : Int) (y_text2 : Str) (y_parts3 : (List Pat)) (y4 : Bool) (h0 : decide (i5 < (x.pats.length : Int)) = true) (h1 : 0 ≤ i5) (h2 : ((x.pats)[i5.toNat]?) = some (Pat.mk y_form0 y_n1 y_text2 y_parts3)) (h3 : Pure PP 96 [(.agg [(nI y_form0), (nI y_n1), (avS y_text2), (iP y_parts3)]), (.agg [(nI y_form0), (nI y_n1), (avS y_text2), (iP y_parts3)])] (bV y4)) (h4 : (!y4) = false) (h5 : (IntKind.i64.wrap (i5 + (1 : Int))) = (i5 + (1 : Int))) :
  LeadsM PP 0 (rsN_c0 x i5).as (rsN_c0 x (i5 + (1 : Int))).as :=
 wW 2 [0, 1] [qlP x.pats, qp h0, qp h1, qgP h2, qp h1, qgP h2, qp h3, qp h4, qp (congrArg (AV.int .i64) h5)] [rn 6, aL x.pats, rn 2, bt 39, rn 5, .reg [.d, .d, .d, .ans (.idx (Pat.av (Pat.mk y_form0 y_n1 y_text2 y_parts3))), .d, .d, .d, .d, .ans (.idx (Pat.av (Pat.mk y_form0 y_n1 y_text2 y_parts3))), .d, .pure (bV y4), .d], bf 53, rn 6, sI 41 (i5 + (1 : Int)), rn 3] trivial
theorem rsN_0_2 (x : Node) (i5 : Int) (h0 : decide (i5 < (x.pats.length : Int)) = false) :
  Ends PP 0 (rsN_c0 x i5).as (.ret (bV true)) (hpOf [] 0) :=
 wE 2 [] [qlP x.pats, qp h0] [rn 6, aL x.pats, rn 2, bf 39, rn 7] trivial
noncomputable def rsS_c0 (p : Prog) (i5 : Int) : TS :=
 { fr := { fn := 19, nt := 75, sl := [(2, (.ptr 0 0)), (3, (.ptr 1 0)), (4, (bV false)), (5, (nI i5))], todo := [.code (cd Tryz.f19 [1, 1, 0, 1, 0, 0]), .inLoop (cd Tryz.f19 [1, 1, 0, 1, 0, 0]), .inBlock 0, .code (cd Tryz.f19 [1, 1, 1])] }, cs := [], hp := [(0, (.cells (putCells .leaf 0 [(iN p.nodes), (iI p.funs), (nI p.main), (iC p.cons)]) 4 [] false), false), (1, (.cells (putCells .leaf 0 [(iN p.nodes), (iI p.funs), (nI p.main), (iC p.cons)]) 4 [] false), false)], nb := 2 }
noncomputable def rsS_c1 (p : Prog) (i6 : Int) : TS :=
 { fr := { fn := 19, nt := 75, sl := [(2, (.ptr 0 0)), (3, (.ptr 1 0)), (4, (bV false)), (6, (nI i6))], todo := [.code (cd Tryz.f19 [1, 1, 1, 0, 1, 0, 0]), .inLoop (cd Tryz.f19 [1, 1, 1, 0, 1, 0, 0]), .inBlock 2, .code (cd Tryz.f19 [1, 1, 1, 1])] }, cs := [], hp := [(0, (.cells (putCells .leaf 0 [(iN p.nodes), (iI p.funs), (nI p.main), (iC p.cons)]) 4 [] false), false), (1, (.cells (putCells .leaf 0 [(iN p.nodes), (iI p.funs), (nI p.main), (iC p.cons)]) 4 [] false), false)], nb := 2 }
theorem rsS_E_4 (p : Prog) (y0 : Bool) (h0 : ((p.nodes.length : Int) != (p.nodes.length : Int)) = false) (h1 : Pure PP 37 [(iI p.funs), (iI p.funs)] (bV y0)) (h2 : (!y0) = false) (h3 : (p.main != p.main) = false) (h4 : ((p.cons.length : Int) != (p.cons.length : Int)) = false) :
  LeadsM PP 0 (start PP 19 [(Prog.av p), (Prog.av p)]).as (rsS_c0 p 0).as :=
 wW 2 [0, 1] [ql Node.av p.nodes, ql Node.av p.nodes, qp h0, qp h1, qp h2, qp h3, ql Con.av p.cons, ql Con.av p.cons, qp h4] [rn 11, aL p.nodes, rn 2, aL p.nodes, rn 2, bf 14, rn 4, pB y0, rn 3, bf 22, rn 7, bf 29, rn 2, aL p.cons, rn 2, aL p.cons, rn 3, bf 37, rn 9] trivial
theorem rsS_0_1 (p : Prog) (i5 : Int) (y0 : Con) (h0 : decide (i5 < (p.cons.length : Int)) = true) (h1 : 0 ≤ i5) (h2 : ((p.cons)[i5.toNat]?) = some y0) (h3 : (!((strEq y0.name.length (bytesNat y0.name) y0.name.length (bytesNat y0.name)) && ((y0.args == y0.args) && true))) = false) (h4 : (IntKind.i64.wrap (i5 + (1 : Int))) = (i5 + (1 : Int))) :
  LeadsM PP 0 (rsS_c0 p i5).as (rsS_c0 p (i5 + (1 : Int))).as :=
 wW 2 [0, 1] [ql Con.av p.cons, qp h0, qp h1, qg Con.av h2, qp h1, qg Con.av h2, qp h3, qp (congrArg (AV.int .i64) h4)] [rn 6, aL p.cons, rn 2, bt 42, rn 5, .reg [.d, .d, .d, .ans (.idx (Con.av y0)), .d, .d, .d, .d, .ans (.idx (Con.av y0)), .d, .d], bf 55, rn 6, sI 44 (i5 + (1 : Int)), rn 3] trivial
theorem rsS_0_2 (p : Prog) (i5 : Int) (h0 : decide (i5 < (p.cons.length : Int)) = false) :
  LeadsM PP 0 (rsS_c0 p i5).as (rsS_c1 p 0).as :=
 wW 2 [0, 1] [ql Con.av p.cons, qp h0] [rn 6, aL p.cons, rn 2, bf 42, rn 9] trivial
theorem rsS_1_1 (p : Prog) (i6 : Int) (y0 : Node) (y1 : Bool) (h0 : decide (i6 < (p.nodes.length : Int)) = true) (h1 : 0 ≤ i6) (h2 : ((p.nodes)[i6.toNat]?) = some y0) (h3 : Pure PP 43 [(Node.av y0), (Node.av y0)] (bV y1)) (h4 : (!y1) = false) (h5 : (IntKind.i64.wrap (i6 + (1 : Int))) = (i6 + (1 : Int))) :
  LeadsM PP 0 (rsS_c1 p i6).as (rsS_c1 p (i6 + (1 : Int))).as :=
 wW 2 [0, 1] [ql Node.av p.nodes, qp h0, qp h1, qg Node.av h2, qp h1, qg Node.av h2, qp h3, qp h4, qp (congrArg (AV.int .i64) h5)] [rn 6, aL p.nodes, rn 2, bt 60, rn 5, .reg [.d, .d, .d, .ans (.idx (Node.av y0)), .d, .d, .d, .d, .ans (.idx (Node.av y0)), .d, .pure (bV y1), .d], bf 74, rn 6, sI 62 (i6 + (1 : Int)), rn 3] trivial
theorem rsS_1_2 (p : Prog) (i6 : Int) (h0 : decide (i6 < (p.nodes.length : Int)) = false) :
  Ends PP 0 (rsS_c1 p i6).as (.ret (bV true)) (hpOf [] 0) :=
 wE 2 [] [ql Node.av p.nodes, qp h0] [rn 6, aL p.nodes, rn 2, bf 60, rn 7] trivial
end Go.Hb
namespace Go.Hb
open Go.Proofs
/-! ## ref.Same of a program and itself -/
theorem strEq_refl (s : Str) : strEq (List.length s) (bytesNat s) (List.length s) (bytesNat s) = true := by rw [strEq_eq]; simp
theorem rsI_loop (a : List Int) (ha : a.length < 1000000) : ∀ (t : List Int) (i : Nat), a.drop i = t → Ends PP 0 (rsI_c0 a (i : Int)).as (.ret (.bool true)) (hpOf [] 0)
 | [], i, h => by
  have := dropN h
  exact rsI_0_2 a i sd
 | y :: t, i, h => by
  obtain ⟨g1, g2, g3⟩ := dropC h
  have h1 := rsI_0_1 a i y sd sd sd (by simp) sd
  exact h1.ends (rsI_loop a ha t (i + 1) g2)
theorem rsI_pure (a : List Int) (ha : a.length < 1000000) : Pure PP 37 [.ilst 1 (List.map avI a) false, .ilst 1 (List.map avI a) false] (.bool true) :=
 pure_at (by kernel_rfl) rfl rfl ((rsI_E_1 a (by simp)).ends (rsI_loop a ha a 0 rfl))
theorem rsP_loop (f n : Int) (s : Str) (ps : List Pat) (hl : ps.length < 1000000) (ih : ∀ p ∈ ps, Pure PP 96 [Pat.av p, Pat.av p] (.bool true)) : ∀ (t : List Pat) (i : Nat), ps.drop i = t → Ends PP 0 (rsP_c0 f n s ps (i : Int)).as (.ret (.bool true)) (hpOf [] 0)
 | [], i, h => by
  have := dropN h
  exact rsP_0_2 f n s ps i sd
 | .mk f1 n1 s1 ps1 :: t, i, h => by
  obtain ⟨g1, g2, g3⟩ := dropC h
  have h1 := rsP_0_1 f n s ps i f1 n1 s1 ps1 true sd sd sd (ih (.mk f1 n1 s1 ps1) (List.mem_of_getElem? g1)) rfl sd
  exact h1.ends (rsP_loop f n s ps hl ih t (i + 1) g2)
mutual
theorem rsP_pure : ∀ (q : Pat), psize q < 1000000 → Pure PP 96 [Pat.av q, Pat.av q] (.bool true)
 | .mk f n s ps, h => by
  simp only [psize] at h
  have := psizes_len ps
  exact pure_at (by kernel_rfl) (by simp [AV.keylessL, pat_kl]) rfl ((rsP_E_4 f n s ps (by simp) (by simp) (by rw [strEq_refl]; rfl) (by simp)).ends (rsP_loop f n s ps (by omega) (rsP_all ps (by omega)) ps 0 rfl))
theorem rsP_all : ∀ (ps : List Pat), psizes ps < 1000000 → ∀ p ∈ ps, Pure PP 96 [Pat.av p, Pat.av p] (.bool true)
 | [], _, p, hp => by cases hp
 | q :: ps, h, p, hp => by
  simp only [psizes] at h
  rcases List.mem_cons.1 hp with e | hp
  · rw [e]; exact rsP_pure q (by omega)
  · exact rsP_all ps (by omega) p hp
end
theorem rsN_loop (x : Node) (hl : x.pats.length < 1000000) (ih : ∀ p ∈ x.pats, Pure PP 96 [Pat.av p, Pat.av p] (.bool true)) : ∀ (t : List Pat) (i : Nat), x.pats.drop i = t → Ends PP 0 (rsN_c0 x (i : Int)).as (.ret (.bool true)) (hpOf [] 0)
 | [], i, h => by
  have := dropN h
  exact rsN_0_2 x i sd
 | .mk f1 n1 s1 ps1 :: t, i, h => by
  obtain ⟨g1, g2, g3⟩ := dropC h
  have h1 := rsN_0_1 x i f1 n1 s1 ps1 true sd sd sd (ih (.mk f1 n1 s1 ps1) (List.mem_of_getElem? g1)) rfl sd
  exact h1.ends (rsN_loop x hl ih t (i + 1) g2)
/-- its lists are not long -/
def fitN (x : Node) : Prop := x.kids.length < 1000000 ∧ psizes x.pats < 1000000
structure FitP (q : Prog) : Prop where
 nodes : q.nodes.length ≤ 1000000
 funs : q.funs.length < 1000000
 cons : q.cons.length < 1000000
 node : ∀ x ∈ q.nodes, fitN x
theorem rsN_pure (x : Node) (h : fitN x) : Pure PP 43 [Node.av x, Node.av x] (.bool true) := by
 have := psizes_len x.pats
 have h1 := h.1
 have h2 := h.2
 exact pure_at (by kernel_rfl) (by simp [AV.keylessL, Node.av, AV.keyless]) rfl ((rsN_E_4 x true (by simp) (by simp) (rsI_pure x.kids h.1) rfl (by simp)).ends (rsN_loop x (by omega) (rsP_all x.pats h.2) x.pats 0 rfl))
theorem rsS_1 (p : Prog) (hp : FitP p) : ∀ (t : List Node) (i : Nat), p.nodes.drop i = t → Ends PP 0 (rsS_c1 p (i : Int)).as (.ret (.bool true)) (hpOf [] 0)
 | [], i, h => by
  have := dropN h
  exact rsS_1_2 p i sd
 | x :: t, i, h => by
  obtain ⟨g1, g2, g3⟩ := dropC h
  have hn := hp.nodes
  have h1 := rsS_1_1 p i x true sd sd sd (rsN_pure x (hp.node x (List.mem_of_getElem? g1))) rfl sd
  exact h1.ends (rsS_1 p hp t (i + 1) g2)
theorem rsS_0 (p : Prog) (hp : FitP p) : ∀ (t : List Con) (i : Nat), p.cons.drop i = t → Ends PP 0 (rsS_c0 p (i : Int)).as (.ret (.bool true)) (hpOf [] 0)
 | [], i, h => by
  have := dropN h
  exact (rsS_0_2 p i sd).ends (rsS_1 p hp p.nodes 0 rfl)
 | c :: t, i, h => by
  obtain ⟨g1, g2, g3⟩ := dropC h
  have hn := hp.cons
  have h1 := rsS_0_1 p i c sd sd sd (by rw [strEq_refl]; simp) sd
  exact h1.ends (rsS_0 p hp t (i + 1) g2)
theorem rSame_pure (p : Prog) (hp : FitP p) : Pure PP 19 [Prog.av p, Prog.av p] (.bool true) :=
 pure_at (by kernel_rfl) (by simp [AV.keylessL, Prog.av, AV.keyless]) rfl ((rsS_E_4 p true (by simp) (rsI_pure p.funs hp.funs) rfl (by simp) (by simp)).ends (rsS_0 p hp p.cons 0 rfl))
/-! ## Canon: one program and one error -/
theorem pure_weak {f : Nat} {args : List AV} {v v' : AV} (h : Pure PP f args v) (hv : ∀ (E : Emb) (cv : Value), VR E v cv → VR E v' cv) : Pure PP f args v' := fun hh => by
 obtain ⟨g, hg, he⟩ := h hh
 exact ⟨g, hg, ends_weak he hv⟩
theorem vr_errT {E : Emb} {e : Int} {cv : Value} (h : VR E (.tup [errProg, .int .i64 e]) cv) : VR E (.tup [Prog.av ⟨[], [], 0, []⟩, .int .i64 e]) cv := by
 simp only [VR] at h ⊢
 obtain ⟨us, h1, h2⟩ := h
 obtain ⟨u, us', rfl, h3, h4⟩ := h2.cons_inv
 simp only [errProg, VR] at h3
 obtain ⟨ws, rfl, h5⟩ := h3
 obtain ⟨a1, w1, rfl, c1, h5⟩ := h5.cons_inv
 obtain ⟨a2, w2, rfl, c2, h5⟩ := h5.cons_inv
 obtain ⟨a3, w3, rfl, c3, h5⟩ := h5.cons_inv
 obtain ⟨a4, w4, rfl, c4, h5⟩ := h5.cons_inv
 refine ⟨_, h1, VRs.cons ?_ h4⟩
 simp only [Prog.av, VR]
 exact ⟨_, rfl, VRs.cons (vr_ilst_weak c1) (VRs.cons (vr_ilst_weak c2) (VRs.cons c3 (VRs.cons (vr_ilst_weak c4) h5)))⟩
/-! ## what comes of Canon is not long -/
mutual
theorem cPat_size (mc : List (Int × Int)) : ∀ q : Pat, psize (cPat mc q) = psize q
 | .mk f n t ps => by rw [cPat, psize, psize, cPats_size mc ps]
theorem cPats_size (mc : List (Int × Int)) : ∀ ps : List Pat, psizes (cPats mc ps) = psizes ps
 | [] => rfl
 | q :: ps => by rw [cPats, psizes, psizes, cPat_size mc q, cPats_size mc ps]
end
theorem wB_mem {p : Prog} {mf mc : List (Int × Int)} {to : List Int} : ∀ (f : Nat) (a : Int), ∀ y ∈ wB p mf mc to f a, ∃ (i : Nat) (x : Node), p.nodes[i]? = some x ∧ y = bNode mf mc to x
 | 0, a, y, hy => by cases hy
 | f + 1, a, y, hy => by
  rw [wB] at hy
  cases hx : p.nodes[a.toNat]? with
  | none => rw [hx] at hy; cases hy
  | some x =>
   rw [hx] at hy
   rcases List.mem_cons.1 hy with e | hy
   · exact ⟨_, x, hx, e⟩
   · obtain ⟨l, hl, hy⟩ := List.mem_flatten.1 hy
     obtain ⟨k, _, rfl⟩ := List.mem_map.1 hl
     exact wB_mem f k y hy
theorem nodesB_fit {p : Prog} {mf mc : List (Int × Int)} {to : List Int} {f : Nat} (h : ∀ (i : Nat) (x : Node), p.nodes[i]? = some x → fitN x) : ∀ y ∈ nodesB p mf mc to f, fitN y := fun y hy => by
 obtain ⟨l, hl, hy⟩ := List.mem_flatten.1 hy
 obtain ⟨k, _, rfl⟩ := List.mem_map.1 hl
 obtain ⟨i, x, hx, rfl⟩ := wB_mem f k y hy
 have := h i x hx
 exact ⟨by simpa [bNode] using this.1, by simpa [bNode, cPats_size] using this.2⟩
end Go.Hb
namespace Go.Hb
open Go.Proofs
/-! ## the plain law of Join -/
theorem hasS_mem {l : List Str} {s : Str} : hasS l s = true ↔ s ∈ l := by
 simp [hasS]
theorem differ_nodup : ∀ (l pre : List Str), differFrom pre l = true → l.Nodup ∧ ∀ x ∈ l, x ∉ pre
 | [], pre, _ => ⟨List.nodup_nil, fun x hx => by cases hx⟩
 | x :: t, pre, h => by
  simp only [differFrom, Bool.and_eq_true, Bool.not_eq_true'] at h
  obtain ⟨h1, h2⟩ := differ_nodup t (pre ++ [x]) h.2
  have hx : x ∉ pre := fun hm => by
   have := hasS_mem.2 hm
   rw [h.1] at this; cases this
  refine ⟨List.nodup_cons.2 ⟨fun hm => h2 x hm (by simp), h1⟩, fun y hy => ?_⟩
  rcases List.mem_cons.1 hy with rfl | hy
  · exact hx
  · exact fun hm => h2 y hy (List.mem_append_left _ hm)
theorem conIx_none (s : Str) : ∀ (A : List Con) (i : Int), s ∉ A.map Con.name → conIx s A i = -1
 | [], i, _ => rfl
 | c :: A, i, h => by
  simp only [List.map_cons, List.mem_cons, not_or] at h
  rw [conIx, if_neg (fun e => h.1 e.symm), conIx_none s A (i + 1) h.2]
theorem conIx_app (s : Str) (A : List Con) (hA : s ∉ A.map Con.name) : ∀ (l : List Con) (i : Int), conIx s (l ++ A) i = conIx s l i
 | [], i => by rw [List.nil_append, conIx_none s A i hA]; rfl
 | c :: l, i => by rw [List.cons_append, conIx, conIx, conIx_app s A hA l (i + 1)]
theorem mAt_ins (k v j : Int) (m : List (Int × Int)) : mAt (mIns k v m) j = if j = k then v else mAt m j := by
 unfold mAt
 rw [mGet_ins]
 split <;> rfl
/-- both roads through the second program's constructors -/
def JR (n : Nat) : Option (List Con × List Int) → Option (List Con × List (Int × Int)) → Prop
 | none, none => True
 | some a, some b => a.1 = b.1 ∧ a.2.length = n ∧ ∀ j : Nat, j < n → a.2[j]? = some (mAt b.2 (j : Int))
 | _, _ => False
theorem join_same (pc : List Con) : ∀ (t : List Con) (i : Nat) (A : List Con) (to : List Int) (m : List (Int × Int)), (t.map Con.name).Nodup → (∀ c ∈ t, c.name ∉ A.map Con.name) → to.length = i → (∀ j : Nat, j < i → to[j]? = some (mAt m (j : Int))) →
  JR (i + t.length) (joinC pc t (pc ++ A) to) (joinB t (i : Int) (pc ++ A) m)
 | [], i, A, to, m, _, _, hl, hm => ⟨rfl, by simpa using hl, by simpa using hm⟩
 | c :: t, i, A, to, m, hd, hA, hl, hm => by
  have hd' := List.nodup_cons.1 (by simpa using hd : (c.name :: t.map Con.name).Nodup)
  have hc := hA c (List.mem_cons_self ..)
  have hup : ∀ v : Int, ∀ j : Nat, j < i + 1 → (to ++ [v])[j]? = some (mAt (mIns (i : Int) v m) (j : Int)) := fun v j hj => by
   rw [mAt_ins]
   by_cases e : j = i
   · subst e
     rw [if_pos rfl, List.getElem?_append_right (by omega), hl]; simp
   · rw [if_neg (by omega), List.getElem?_append_left (by omega)]
     exact hm j (by omega)
  have hlen : i + (c :: t).length = (i + 1) + t.length := by rw [List.length_cons]; omega
  rw [hlen]
  simp only [joinC, joinB]
  rw [conIx_app c.name A hc]
  by_cases hk : conIx c.name pc 0 < 0
  · rw [if_pos hk, if_pos hk]
    have := join_same pc t (i + 1) (A ++ [c]) (to ++ [(((pc ++ A).length : Nat) : Int)]) (mIns (i : Int) (((pc ++ A).length : Nat) : Int) m) hd'.2 (fun d hdm => by
     rw [List.map_append, List.mem_append, not_or]
     refine ⟨hA d (List.mem_cons_of_mem _ hdm), fun e => ?_⟩
     simp only [List.map_cons, List.map_nil, List.mem_singleton] at e
     exact hd'.1 (e ▸ List.mem_map.2 ⟨d, hdm, rfl⟩)) (by simp [hl]) (hup _)
    rw [List.append_assoc]
    exact this
  · rw [if_neg hk, if_neg hk]
    rcases conIx_range c.name pc 0 (by omega) with g | ⟨e1, e2, d, e3, e4⟩
    · omega
    · have e3 : pc[(conIx c.name pc 0).toNat]? = some d := by simpa using e3
      have hlt := (List.getElem?_eq_some_iff.1 e3).1
      rw [List.getElem?_append_left hlt, e3]
      simp only
      by_cases hd2 : d.args = c.args
      · rw [if_pos hd2, if_pos hd2]
        exact join_same pc t (i + 1) A (to ++ [conIx c.name pc 0]) (mIns (i : Int) (conIx c.name pc 0) m) hd'.2 (fun d hdm => hA d (List.mem_cons_of_mem _ hdm)) (by simp [hl]) (hup _)
      · rw [if_neg hd2, if_neg hd2]
        trivial
structure Fm (p : Prog) : Prop where
 fine : FineP p
 cons : p.cons.length ≤ 25
 dup : ((p.funs.map (pre p p.nodes.length)).flatten).Nodup
 len : ((p.funs.map (pre p p.nodes.length)).flatten).length = p.nodes.length
 into : ∀ x ∈ (p.funs.map (pre p p.nodes.length)).flatten, 0 ≤ x ∧ x < p.nodes.length
 node : ∀ (i : Nat) (x : Node), p.nodes[i]? = some x → nodeOk p x = true ∧ x.pats.length ≤ 10
 names : (p.cons.map Con.name).Nodup
theorem formed_all {p : Prog} (hs : smallProg p = true) (hf : refFormed p = true) : Fm p := by
 have hss := hs
 simp only [smallProg, Bool.and_eq_true, decide_eq_true_eq] at hss
 obtain ⟨⟨⟨⟨s1, s2⟩, s3⟩, _⟩, s5⟩ := hss
 obtain ⟨a, b, c, d⟩ := formed_pre hs hf
 refine ⟨formed_fine hs hf, s3, a, b, c, fun i x hx => ⟨d i x hx, ?_⟩, ?_⟩
 · have h10 := List.all_eq_true.1 s5 x (List.mem_of_getElem? hx)
   simp only [smallNode, Bool.and_eq_true, decide_eq_true_eq] at h10
   omega
 · simp only [refFormed, Bool.and_eq_true, consOk] at hf
   exact (differ_nodup _ _ hf.1.2.2).1
theorem Fm.fit {p : Prog} (h : Fm p) (i : Nat) (x : Node) (hx : p.nodes[i]? = some x) : fitN x := by
 obtain ⟨h1, h2⟩ := h.node i x hx
 have := (h.fine.node i x hx).2.1
 exact ⟨by omega, (node_both h.fine.fsmall h1 h2).1.1⟩
theorem mfJ_at {a n : Nat} {i : Int} (h0 : 0 ≤ i) (h1 : i < n) : mAt (mfJ a n) i = (a : Int) + i := by unfold mAt; rw [mfJ_get a n i h0 h1]; rfl
theorem join_fit {p q : Prog} (hsp : smallProg p = true) (hsq : smallProg q = true) : ∃ (r : Prog) (e : Int), FitP r ∧ Pure PP 20 [Prog.av p, Prog.av q] (.tup [Prog.av r, .int .i64 e]) ∧ Pure PP 21 [Prog.av p, Prog.av q] (.tup [Prog.av r, .int .i64 e]) := by
 have hp10 := check_of hsp
 have hq10 := check_of hsq
 have hp33 := rFormed_pure p hsp
 have hq33 := rFormed_pure q hsq
 have fit0 : FitP ⟨[], [], 0, []⟩ := ⟨by simp, by simp, by simp, fun x hx => by cases hx⟩
 by_cases hfp : refFormed p = true
 · by_cases hfq : refFormed q = true
   · rw [hfp] at hp10 hp33
     rw [hfq] at hq10 hq33
     have hP := formed_all hsp hfp
     have hQ := formed_all hsq hfq
     have sp := hP.fine.small; have fp := hP.fine.fsmall
     have sq := hQ.fine.small; have fq := hQ.fine.fsmall
     have bp : ∀ (i : Nat) (x : Node), p.nodes[i]? = some x → _ := fun i x hx => node_both fp (hP.node i x hx).1 (hP.node i x hx).2
     obtain ⟨to, n, hA, hO, hB⟩ := canon_agree hP.fine (fun i x hx => (bp i x hx).1) (Nat.le_refl _) hP.dup (by rw [hP.len]; omega) hP.into
     rw [hP.len] at hB
     have hlenP : (nodesB p (sM p.funs.length) (sM p.cons.length) to p.nodes.length).length ≤ 1000000 := by omega
     have h17 := bCanonN hP.fine (fun i x hx => (bp i x hx).2) p.nodes.length (Nat.le_refl _) to n (by have := hP.cons; omega) hlenP hA hp10
     have hfit : ∀ y ∈ nodesB p (sM p.funs.length) (sM p.cons.length) to p.nodes.length, fitN y := nodesB_fit hP.fit
     generalize hzn : nodesB p (sM p.funs.length) (sM p.cons.length) to p.nodes.length = zn at *
     have hzu : (p.funs.map (toAt to)).length ≤ 320 := by rw [List.length_map]; exact fp
     generalize p.funs.map (toAt to) = zu at *
     have J := join_same p.cons q.cons 0 [] [] [] hQ.names (fun c _ => by simp) rfl (fun j hj => by omega)
     rw [List.append_nil, Nat.zero_add] at J
     have B := bJoin_ok ⟨hP.cons, fp, sp⟩ ⟨hQ.cons, fq, sq⟩ hp10 hq10 (by omega) hzu hP.cons h17
     have move : ∀ (al : List Con) (to2 : List Int) (mc : List (Int × Int)), JR q.cons.length (some (al, to2)) (some (al, mc)) →
       ∃ toq nq, toOf q ((zn.length : Nat) : Int) q.nodes.length = some (toq, nq) ∧ mKids (mNodes q (numsL (p.funs.length : Int) q.funs.length) to2 q.nodes.length) zn.length q.funs = some (q.funs.map (toAt toq), nodesB q (mfJ p.funs.length q.funs.length) mc toq q.nodes.length) ∧
        (nodesB q (mfJ p.funs.length q.funs.length) mc toq q.nodes.length).length = q.nodes.length ∧ (∀ (i : Nat) (x : Node), q.nodes[i]? = some x → nOk (mfJ p.funs.length q.funs.length) x) := fun al to2 mc hj => by
      have bq : ∀ (i : Nat) (x : Node), q.nodes[i]? = some x → (psizes x.pats < 1000000 ∧ mN (numsL (p.funs.length : Int) q.funs.length) to2 x.op x.n = some (bN (mfJ p.funs.length q.funs.length) mc x.op x.n) ∧ mPats to2 x.pats = some (cPats mc x.pats)) ∧ nOk (mfJ p.funs.length q.funs.length) x := fun i x hx =>
       node_any (fun i h0 h1 => by rw [numsL_get _ (by omega), mfJ_at h0 h1]; congr 1; omega) (fun i h0 h1 => by
        have := hj.2.2 i.toNat (by omega)
        rwa [show ((i.toNat : Nat) : Int) = i by omega] at this) (fun i h0 h1 => by rw [mfJ_at h0 h1]; omega) fq (hQ.node i x hx).1 (hQ.node i x hx).2
      obtain ⟨toq, nq, h1, h2, h3⟩ := moved_agree hQ.fine (fun i x hx => (bq i x hx).1) zn.length (Nat.le_refl _) hQ.dup (by rw [hQ.len]; omega) hQ.into
      exact ⟨toq, nq, h1, h2, by rw [h3, hQ.len], fun i x hx => (bq i x hx).2⟩
     have R := rJoin_ok ⟨hP.cons, fp, sp⟩ ⟨hQ.cons, fq, sq⟩ hp33 hq33 hO (k2 := q.nodes.length) (fun al to2 hj => by
      rw [hj] at J
      generalize joinB q.cons ((0 : Nat) : Int) p.cons [] = jb at J
      cases jb with
      | none => exact J.elim
      | some b =>
       obtain ⟨al', mc⟩ := b
       have e : al = al' := J.1
       subst e
       obtain ⟨toq, nq, h1, h2, h3, h4⟩ := move al to2 mc J
       exact ⟨_, _, h2⟩) hzu
     simp only [Int.natCast_zero] at J
     generalize joinC p.cons q.cons p.cons [] = jc at J R
     generalize joinB q.cons 0 p.cons [] = jb at J B
     cases jc with
     | none =>
      cases jb with
      | none => exact ⟨_, 7, fit0, pure_weak B (fun E cv h => vr_errT h), pure_weak R (fun E cv h => vr_errT h)⟩
      | some b => exact J.elim
     | some a =>
      cases jb with
      | none => exact J.elim
      | some b =>
       obtain ⟨al, to2⟩ := a
       obtain ⟨al', mc⟩ := b
       have e : al = al' := J.1
       subst e
       obtain ⟨toq, nq, h1, h2, h3, h4⟩ := move al to2 mc J
       have hb : (nodesB q (mfJ p.funs.length q.funs.length) mc toq q.nodes.length).length ≤ 1000000 := by omega
       have h38 := ordered_spec hQ.fine h4 ((zn.length : Nat) : Int) q.nodes.length (Nat.le_refl _) toq nq hb h1
       have hfitq : ∀ y ∈ nodesB q (mfJ p.funs.length q.funs.length) mc toq q.nodes.length, fitN y := nodesB_fit hQ.fit
       have hwu : (q.funs.map (toAt toq)).length ≤ 320 := by rw [List.length_map]; exact fq
       have B := B _ _ (by omega) hwu h38
       simp only at R
       by_cases hbig : al.length > 20 ∨ p.nodes.length + q.nodes.length > 300
       · rw [if_pos hbig] at R
         rw [if_pos (by omega)] at B
         exact ⟨_, 3, fit0, pure_weak B (fun E cv h => vr_errT h), pure_weak R (fun E cv h => vr_errT h)⟩
       · rw [if_neg hbig] at R
         rw [if_neg (by omega)] at B
         refine ⟨_, 0, ⟨?_, ?_, ?_, fun y hy => ?_⟩, B, R _ _ h2⟩
         · simp only [List.length_append]; omega
         · simp only [List.length_append]; omega
         · simp only; omega
         · rcases List.mem_append.1 hy with hy | hy
           · exact hfit y hy
           · exact hfitq y hy
   · have hfq : refFormed q = false := by simpa using hfq
     rw [hfp] at hp10 hp33
     rw [hfq] at hq10 hq33
     exact ⟨_, 2, fit0, pure_weak (bJoin_err hp10 hq10 (.inr (by decide))) (fun E cv h => vr_errT h), pure_weak (rJoin_err hp33 hq33 (.inr rfl)) (fun E cv h => vr_errT h)⟩
 · have hfp : refFormed p = false := by simpa using hfp
   rw [hfp] at hp10 hp33
   exact ⟨_, 2, fit0, pure_weak (bJoin_err hp10 hq10 (.inl (by decide))) (fun E cv h => vr_errT h), pure_weak (rJoin_err hp33 hq33 (.inl rfl)) (fun E cv h => vr_errT h)⟩
end Go.Hb
namespace Go.Hb
open Go.Proofs
variable {P : Program}
noncomputable section
/-- one way of the outermost call, to the place where it hands its value back -/
def wayL (P : Program) (is : List Ins) (s : TS) : Option (AV × Nat × List Prop) :=
 match xexec P is s.as with
 | some (s1, ps) => match s1.cs, s1.fr.kind, s1.fr.mode, s1.fr.roundOf, s1.fr.defers with
  | [], .normal, .ret, none, [] => match P.funcs[s1.fr.fn]? with
   | some fd => match aresults P s1.h s1.fr.tm fd.results.toList with
    | some [v] => some (v, s1.fr.fn, ps)
    | _ => none
   | none => none
  | _, _, _, _, _ => none
 | none => none
theorem calls_of_way {f : Nat} {args : List AV} {is : List Ins} {b : Bool} {ps : List Prop} {cargs : List Value} (hb : hasBody P f = true) (hk : AV.keylessL args = true) (h0 : wayL P is (start P f args) = some (.bool b, f, ps)) (hps : AllP ps) (w : World) (hv : VRs (embOf w) args cargs) :
  Calls P f ⟨cargs⟩ w fun e w' => e = .returned (.bool b) ∧ RowKit.Grown w w' := by
 intro base
 unfold hasBody at hb
 split at hb
 · rename_i fn hf
   split at hb
   · rename_i c hc
     have hg : enterFrame P f args .normal = some ⟨f, putArgs .leaf 0 args, max fn.ntmps args.length, [.code c], [], .run, .normal, none⟩ := by simp [enterFrame, hf, hc]
     have fr' : FR (embOf w) _ (Frame.enter P f ⟨cargs⟩ .normal) := enterFrame_sound hg hv
     have f1 : FR (embOf w) (start P f args).as.fr (Frame.enter P f ⟨cargs⟩ .normal) := by
      have e1 : (start P f args).as.fr = ⟨f, mkT ((List.range args.length).zip args), max fn.ntmps args.length, [.code c], [], .run, .normal, none⟩ := by simp [start, hf, hc, TS.as, TF.fr]
      rw [e1]
      refine ⟨fr'.fn, ⟨fr'.tm.1, fun t a e => ?_⟩, fr'.todo, fr'.defers, fr'.mode, fr'.kind, fr'.round⟩
      have h1 := at_range (at_mkT e)
      have hlt := (List.getElem?_eq_some_iff.1 h1).1
      have h2 : (putArgs .leaf 0 args).at t = some a := by
       unfold putArgs; rw [at_put_leaf, if_pos hlt]; exact h1
      exact fr'.tm.2 t a h2
     have e2 : (start P f args).as.cs = [] := by unfold start; split; · split <;> rfl
                                                 · rfl
     have e3 : (start P f args).as.h = ⟨.leaf, 0⟩ := by unfold start; split; · split <;> rfl
                                                        · rfl
     unfold wayL at h0
     split at h0
     · rename_i s1 qs h1
       split at h0
       · rename_i hcs hkd hmo hro hde
         split at h0
         · rename_i fd hfd
           split at h0
           · rename_i v hrs
             simp only [Option.some.injEq, Prod.mk.injEq] at h0
             obtain ⟨rfl, hfn, rfl⟩ := h0
             have hl : LeadsM P 0 (start P f args).as s1 := xexec_sound h1 (fun p hpp => hps.mem p hpp)
             obtain ⟨E', g, ccs, w', s2, f2, fs2, r2, x⟩ := hl (by rw [e3]; exact Nat.le_refl _) (embOf w) _ [] w base f1 (by rw [e2]; rfl) (by rw [e3]; exact embOf_rel w)
             rw [hcs] at fs2
             have := fs2.nil_inv
             subst this
             obtain ⟨cv, g1, g2⟩ := run_results r2 f2.tm hrs
             simp only [tupled, VR] at g2
             subst g2
             have fm := f2.mode
             rw [hmo] at fm
             simp only [MR] at fm
             have fdd := f2.defers
             rw [hde] at fdd
             rw [e3] at x
             have hno : ∀ {b o}, ¬ (⟨.leaf, 0⟩ : Hp).look b = some o := fun {b o} e => by simp [Hp.look, T.at_leaf] at e
             refine ⟨.returned (.bool b), w', g, ⟨rfl, ⟨x.os, x.output, fun i hi => ?_⟩, x.froz, x.size⟩, s2, by rw [f2.fn, hfn], fm, fdd.nil_inv, by rw [f2.kind, hkd], fd, by rw [f2.fn]; exact hfd, g1⟩
             have := x.keep i hi (fun b o L e => absurd e hno)
             rw [this]
             cases w.heap[i]? with
             | none => rfl
             | some ob => cases ob <;> simp
           · cases h0
         · cases h0
       · cases h0
     · cases h0
   · cases hb
 · cases hb
end
end Go.Hb
namespace Go.Hb
open Go.Proofs
theorem lJoins_E_0 (p : Prog) (q : Prog) (y0 : Bool) (y1 : Bool) (h0 : Pure PP 8 [(.agg [(.ilst 4 (List.map Node.av p.nodes) false), (.ilst 1 (List.map avI p.funs) false), (.int .i64 p.main), (.ilst 2 (List.map Con.av p.cons) false)])] (.bool y0)) (h1 : (!y0) = true) (h2 : Pure PP 9 [] (.bool y1)) :
  ∀ (w : World) (cargs : List Value), VRs (embOf w) [(.agg [(.ilst 4 (List.map Node.av p.nodes) false), (.ilst 1 (List.map avI p.funs) false), (.int .i64 p.main), (.ilst 2 (List.map Con.av p.cons) false)]), (.agg [(.ilst 4 (List.map Node.av q.nodes) false), (.ilst 1 (List.map avI q.funs) false), (.int .i64 q.main), (.ilst 2 (List.map Con.av q.cons) false)])] cargs → Calls PP 6 ⟨cargs⟩ w fun e w' => e = .returned (.bool y1) ∧ RowKit.Grown w w' :=
 fun w cargs hv => calls_of_way (ps := [Pure PP 8 [(.agg [(.ilst 4 (List.map Node.av p.nodes) false), (.ilst 1 (List.map avI p.funs) false), (.int .i64 p.main), (.ilst 2 (List.map Con.av p.cons) false)])] (.bool y0), (!y0) = true, Pure PP 9 [] (.bool y1)]) (is := [.run 10, .pure (.bool y0), .run 2, .b 12 true, .run 8, .pure (.bool y1), .run 3]) (by kernel_rfl) rfl (by kernel_rfl) ⟨h0, h1, h2⟩ w hv
theorem lJoins_E_1 (p : Prog) (q : Prog) (y0 : Bool) (y1 : Bool) (y2 : Bool) (h0 : Pure PP 8 [(.agg [(.ilst 4 (List.map Node.av p.nodes) false), (.ilst 1 (List.map avI p.funs) false), (.int .i64 p.main), (.ilst 2 (List.map Con.av p.cons) false)])] (.bool y0)) (h1 : (!y0) = false) (h2 : Pure PP 8 [(.agg [(.ilst 4 (List.map Node.av q.nodes) false), (.ilst 1 (List.map avI q.funs) false), (.int .i64 q.main), (.ilst 2 (List.map Con.av q.cons) false)])] (.bool y1)) (h3 : (!y1) = true) (h4 : Pure PP 9 [] (.bool y2)) :
  ∀ (w : World) (cargs : List Value), VRs (embOf w) [(.agg [(.ilst 4 (List.map Node.av p.nodes) false), (.ilst 1 (List.map avI p.funs) false), (.int .i64 p.main), (.ilst 2 (List.map Con.av p.cons) false)]), (.agg [(.ilst 4 (List.map Node.av q.nodes) false), (.ilst 1 (List.map avI q.funs) false), (.int .i64 q.main), (.ilst 2 (List.map Con.av q.cons) false)])] cargs → Calls PP 6 ⟨cargs⟩ w fun e w' => e = .returned (.bool y2) ∧ RowKit.Grown w w' :=
 fun w cargs hv => calls_of_way (ps := [Pure PP 8 [(.agg [(.ilst 4 (List.map Node.av p.nodes) false), (.ilst 1 (List.map avI p.funs) false), (.int .i64 p.main), (.ilst 2 (List.map Con.av p.cons) false)])] (.bool y0), (!y0) = false, Pure PP 8 [(.agg [(.ilst 4 (List.map Node.av q.nodes) false), (.ilst 1 (List.map avI q.funs) false), (.int .i64 q.main), (.ilst 2 (List.map Con.av q.cons) false)])] (.bool y1), (!y1) = true, Pure PP 9 [] (.bool y2)]) (is := [.run 10, .pure (.bool y0), .run 2, .b 12 false, .run 1, .pure (.bool y1), .run 3, .b 16 true, .run 3, .pure (.bool y2), .run 3]) (by kernel_rfl) rfl (by kernel_rfl) ⟨h0, h1, h2, h3, h4⟩ w hv
theorem lJoins_E_2 (p : Prog) (q : Prog) (y0 : Bool) (y1 : Bool) (y2 : Prog) (y3 : Int) (y4 : Prog) (y5 : Int) (y6 : Bool) (y7 : Bool) (h0 : Pure PP 8 [(.agg [(.ilst 4 (List.map Node.av p.nodes) false), (.ilst 1 (List.map avI p.funs) false), (.int .i64 p.main), (.ilst 2 (List.map Con.av p.cons) false)])] (.bool y0)) (h1 : (!y0) = false) (h2 : Pure PP 8 [(.agg [(.ilst 4 (List.map Node.av q.nodes) false), (.ilst 1 (List.map avI q.funs) false), (.int .i64 q.main), (.ilst 2 (List.map Con.av q.cons) false)])] (.bool y1)) (h3 : (!y1) = false) (h4 : Pure PP 20 [(.agg [(.ilst 4 (List.map Node.av p.nodes) false), (.ilst 1 (List.map avI p.funs) false), (.int .i64 p.main), (.ilst 2 (List.map Con.av p.cons) false)]), (.agg [(.ilst 4 (List.map Node.av q.nodes) false), (.ilst 1 (List.map avI q.funs) false), (.int .i64 q.main), (.ilst 2 (List.map Con.av q.cons) false)])] (.tup [(.agg [(.ilst 4 (List.map Node.av y2.nodes) false), (.ilst 1 (List.map avI y2.funs) false), (.int .i64 y2.main), (.ilst 2 (List.map Con.av y2.cons) false)]), (.int .i64 y3)])) (h5 : Pure PP 21 [(.agg [(.ilst 4 (List.map Node.av p.nodes) false), (.ilst 1 (List.map avI p.funs) false), (.int .i64 p.main), (.ilst 2 (List.map Con.av p.cons) false)]), (.agg [(.ilst 4 (List.map Node.av q.nodes) false), (.ilst 1 (List.map avI q.funs) false), (.int .i64 q.main), (.ilst 2 (List.map Con.av q.cons) false)])] (.tup [(.agg [(.ilst 4 (List.map Node.av y4.nodes) false), (.ilst 1 (List.map avI y4.funs) false), (.int .i64 y4.main), (.ilst 2 (List.map Con.av y4.cons) false)]), (.int .i64 y5)])) (h6 : (y3 == y5) = true) (h7 : Pure PP 19 [(.agg [(.ilst 4 (List.map Node.av y2.nodes) false), (.ilst 1 (List.map avI y2.funs) false), (.int .i64 y2.main), (.ilst 2 (List.map Con.av y2.cons) false)]), (.agg [(.ilst 4 (List.map Node.av y4.nodes) false), (.ilst 1 (List.map avI y4.funs) false), (.int .i64 y4.main), (.ilst 2 (List.map Con.av y4.cons) false)])] (.bool y6)) (h8 : y6 = true) (h9 : Pure PP 9 [] (.bool y7)) :
  ∀ (w : World) (cargs : List Value), VRs (embOf w) [(.agg [(.ilst 4 (List.map Node.av p.nodes) false), (.ilst 1 (List.map avI p.funs) false), (.int .i64 p.main), (.ilst 2 (List.map Con.av p.cons) false)]), (.agg [(.ilst 4 (List.map Node.av q.nodes) false), (.ilst 1 (List.map avI q.funs) false), (.int .i64 q.main), (.ilst 2 (List.map Con.av q.cons) false)])] cargs → Calls PP 6 ⟨cargs⟩ w fun e w' => e = .returned (.bool y7) ∧ RowKit.Grown w w' :=
 fun w cargs hv => calls_of_way (ps := [Pure PP 8 [(.agg [(.ilst 4 (List.map Node.av p.nodes) false), (.ilst 1 (List.map avI p.funs) false), (.int .i64 p.main), (.ilst 2 (List.map Con.av p.cons) false)])] (.bool y0), (!y0) = false, Pure PP 8 [(.agg [(.ilst 4 (List.map Node.av q.nodes) false), (.ilst 1 (List.map avI q.funs) false), (.int .i64 q.main), (.ilst 2 (List.map Con.av q.cons) false)])] (.bool y1), (!y1) = false, Pure PP 20 [(.agg [(.ilst 4 (List.map Node.av p.nodes) false), (.ilst 1 (List.map avI p.funs) false), (.int .i64 p.main), (.ilst 2 (List.map Con.av p.cons) false)]), (.agg [(.ilst 4 (List.map Node.av q.nodes) false), (.ilst 1 (List.map avI q.funs) false), (.int .i64 q.main), (.ilst 2 (List.map Con.av q.cons) false)])] (.tup [(.agg [(.ilst 4 (List.map Node.av y2.nodes) false), (.ilst 1 (List.map avI y2.funs) false), (.int .i64 y2.main), (.ilst 2 (List.map Con.av y2.cons) false)]), (.int .i64 y3)]), Pure PP 21 [(.agg [(.ilst 4 (List.map Node.av p.nodes) false), (.ilst 1 (List.map avI p.funs) false), (.int .i64 p.main), (.ilst 2 (List.map Con.av p.cons) false)]), (.agg [(.ilst 4 (List.map Node.av q.nodes) false), (.ilst 1 (List.map avI q.funs) false), (.int .i64 q.main), (.ilst 2 (List.map Con.av q.cons) false)])] (.tup [(.agg [(.ilst 4 (List.map Node.av y4.nodes) false), (.ilst 1 (List.map avI y4.funs) false), (.int .i64 y4.main), (.ilst 2 (List.map Con.av y4.cons) false)]), (.int .i64 y5)]), (y3 == y5) = true, Pure PP 19 [(.agg [(.ilst 4 (List.map Node.av y2.nodes) false), (.ilst 1 (List.map avI y2.funs) false), (.int .i64 y2.main), (.ilst 2 (List.map Con.av y2.cons) false)]), (.agg [(.ilst 4 (List.map Node.av y4.nodes) false), (.ilst 1 (List.map avI y4.funs) false), (.int .i64 y4.main), (.ilst 2 (List.map Con.av y4.cons) false)])] (.bool y6), y6 = true, Pure PP 9 [] (.bool y7)]) (is := [.run 10, .pure (.bool y0), .run 2, .b 12 false, .run 1, .pure (.bool y1), .run 3, .b 16 false, .run 6, .pure (.tup [(.agg [(.ilst 4 (List.map Node.av y2.nodes) false), (.ilst 1 (List.map avI y2.funs) false), (.int .i64 y2.main), (.ilst 2 (List.map Con.av y2.cons) false)]), (.int .i64 y3)]), .run 11, .pure (.tup [(.agg [(.ilst 4 (List.map Node.av y4.nodes) false), (.ilst 1 (List.map avI y4.funs) false), (.int .i64 y4.main), (.ilst 2 (List.map Con.av y4.cons) false)]), (.int .i64 y5)]), .run 13, .b 33 true, .run 2, .pure (.bool y6), .run 2, .b 38 true, .pure (.bool y7), .run 4]) (by kernel_rfl) rfl (by kernel_rfl) ⟨h0, h1, h2, h3, h4, h5, h6, h7, h8, h9⟩ w hv
end Go.Hb
namespace Go.Hb
open Go.Proofs
/-- the law: whatever the programs, it answers true -/
theorem lJoins_calls (p q : Prog) (hk : Pure PP 9 [] (.bool true)) (w : World) (cargs : List Value) (hv : VRs (embOf w) [Prog.av p, Prog.av q] cargs) :
  Calls Tryz.prog 6 ⟨cargs⟩ w fun e w' => e = .returned (.bool true) ∧ RowKit.Grown w w' := by
 have h0 := rSmallProg_pure p
 have h1 := rSmallProg_pure q
 cases hs : smallProg p with
 | false =>
  rw [hs] at h0
  exact lJoins_E_0 p q false true h0 (by rfl) hk w cargs hv
 | true =>
  rw [hs] at h0
  cases hs2 : smallProg q with
  | false =>
   rw [hs2] at h1
   exact lJoins_E_1 p q true false true h0 (by rfl) h1 (by rfl) hk w cargs hv
  | true =>
   rw [hs2] at h1
   obtain ⟨r, e, hfit, g1, g2⟩ := join_fit hs hs2
   exact lJoins_E_2 p q true true r e r e true true h0 (by rfl) h1 (by rfl) g1 g2 (beq_self_eq_true _) (rSame_pure r hfit) rfl hk w cargs hv
end Go.Hb
