/-
  OWN WORK (H23, V72, V73, V30, H8, H9, V31, V32, V33, H10, V34): a machine on abstract values, its soundness, ways through the text (the ways WRITTEN BY A PROGRAM), plain laws.
-/
import Derived.Test.YtogkjcpighphfaaGreatHF
import Derived.Test.YtogkjcpighphfaaGreatHG
import Derived.Test.YtogkjcpighphfaaGreatHI
set_option linter.unusedVariables false
set_option linter.unusedSimpArgs false
set_option linter.unusedSectionVars false
set_option maxRecDepth 100000
namespace Go.Hb
open Go.Proofs
noncomputable abbrev hoq230  :Nat×AObj×Bool:= (9,(.loop .ready none 38 (mkT [(4,(.ptr 5 0)),(6,(.ptr 6 0)),(7,(.ptr 16 0)),(10,(.ptr 7 0)),(13,(.ptr 8 0))]) 106 [41] (cd Tryz.f38 [1,1,1,1,1,0,1,0,0]) (cd Tryz.f38 [1,1,1,1,1,0,1,0,1]) 10),false)
noncomputable abbrev hoq231  :Nat×AObj×Bool:= (9,(.loop .busy none 38 (mkT [(4,(.ptr 5 0)),(6,(.ptr 6 0)),(7,(.ptr 16 0)),(10,(.ptr 7 0)),(13,(.ptr 8 0))]) 106 [41] (cd Tryz.f38 [1,1,1,1,1,0,1,0,0]) (cd Tryz.f38 [1,1,1,1,1,0,1,0,1]) 10),false)
noncomputable abbrev hoq232 (p:Prog) :Nat×AObj×Bool:= (12,(.cells (putCells .leaf 0 [(iN p.nodes),(iI p.funs),(nI p.main),(iC p.cons)]) 4 [] false),false)
noncomputable abbrev hoq233 (p:Prog) :Nat×AObj×Bool:= (13,(.cells (putCells .leaf 0 [(iN p.nodes),(iI p.funs),(nI p.main),(iC p.cons)]) 4 [] false),false)
noncomputable abbrev hoq234 (p:Prog) :Nat×AObj×Bool:= (5,(.cells (putCells .leaf 0 [(iN p.nodes),(iI p.funs),(nI p.main),(iC p.cons)]) 4 [] false),false)
noncomputable abbrev hoq235  :Nat×AObj×Bool:= (9,(.loop .ready none 38 (mkT [(6,(.ptr 6 0)),(10,(.ptr 8 0)),(11,(.ptr 14 0))]) 106 [27] (cd Tryz.f38 [1,1,1,0,1,0,0]) (cd Tryz.f38 [1,1,1,0,1,0,1]) 10),false)
noncomputable abbrev hoq236  :Nat×AObj×Bool:= (4,(.cells (putCells .leaf 0 [(.func 86 [] [(.ptr 11 0),(.ptr 12 0),(.ptr 4 0)])]) 1 [] false),false)
noncomputable abbrev hoq237  :Nat×AObj×Bool:= (4,(.cells (putCells .leaf 0 [(.func 86 [] [(.ptr 12 0),(.ptr 13 0),(.ptr 4 0)])]) 1 [] false),false)
noncomputable abbrev hoq238 (at0 fn0 sz:Int) :Nat×AObj×Bool:= (15,(.cells (putCells .leaf 0 [(nI at0),(nI fn0),(nI sz)]) 3 [] false),false)
noncomputable abbrev hoq239 (at0 fn0 sz:Int) :Nat×AObj×Bool:= (17,(.cells (putCells .leaf 0 [(nI at0),(nI fn0),(nI sz)]) 3 [] false),false)
noncomputable abbrev hoq2310 (at0 fn0 sz:Int) :Nat×AObj×Bool:= (18,(.cells (putCells .leaf 0 [(nI at0),(nI fn0),(nI sz)]) 3 [] false),false)
noncomputable abbrev hoq2311 (l15 zm1:List Node) :Nat×AObj×Bool:= (8,(.cells (putCells .leaf 0 [(.gl 17 4 0 (l15++zm1).length false)]) 1 [] false),false)
noncomputable abbrev hoq2312 (l18 zm3:List Node) :Nat×AObj×Bool:= (8,(.cells (putCells .leaf 0 [(.gl 19 4 0 (l18++zm3).length false)]) 1 [] false),false)
noncomputable abbrev hoq2313 (p:Prog) :Nat×AObj×Bool:= (8,(.cells (putCells .leaf 0 [(.gl 13 1 0 p.nodes.length true)]) 1 [] false),false)
noncomputable abbrev hoq2314 (p:Prog) :Nat×AObj×Bool:= (7,(.cells (putCells .leaf 0 [(.gl 14 1 0 p.nodes.length true)]) 1 [] false),false)
noncomputable abbrev hoq2315 (l15:List Node) :Nat×AObj×Bool:= (8,(.cells (putCells .leaf 0 [(.gl 15 4 0 l15.length false)]) 1 [] false),false)
noncomputable abbrev hoq2316 (l18:List Node) :Nat×AObj×Bool:= (8,(.cells (putCells .leaf 0 [(.gl 18 4 0 l18.length false)]) 1 [] false),false)
noncomputable abbrev hoq2317  :Nat×AObj×Bool:= (6,(.cells (putCells .leaf 0 [(.func 52 [] [(.ptr 2 0)])]) 1 [] false),false)
noncomputable abbrev hoq2318  :Nat×AObj×Bool:= (16,(.cells (putCells .leaf 0 [(.map 0),(.map 1)]) 2 [] false),false)
noncomputable abbrev hoq2319  :Nat×AObj×Bool:= (20,(.cells (putCells .leaf 0 [(.map 0),(.map 1)]) 2 [] false),false)
noncomputable abbrev hoq2320  :Nat×AObj×Bool:= (21,(.cells (putCells .leaf 0 [(.map 0),(.map 1)]) 2 [] false),false)
noncomputable abbrev hoq2321  :Nat×AObj×Bool:= (7,(.cells (putCells .leaf 0 [(.map 0),(.map 1)]) 2 [] false),false)
noncomputable abbrev hoq2322 (c14_0:Int) :Nat×AObj×Bool:= (14,(.cells (putCells .leaf 0 [(nI c14_0)]) 1 [] false),false)
noncomputable abbrev hoq2323 (zn2:Int) :Nat×AObj×Bool:= (14,(.cells (putCells .leaf 0 [(nI zn2)]) 1 [] false),false)
noncomputable abbrev hoq2324 (zn4:Int) :Nat×AObj×Bool:= (14,(.cells (putCells .leaf 0 [(nI zn4)]) 1 [] false),false)
noncomputable abbrev hoq2325 (n0:Int) :Nat×AObj×Bool:= (14,(.cells (putCells .leaf 0 [(nI n0)]) 1 [] false),false)
noncomputable abbrev hoq2326  :Nat×AObj×Bool:= (11,(.cells (putCells .leaf 0 [(.yield 9)]) 1 [] false),false)
noncomputable abbrev hoq2327  :Nat×AObj×Bool:= (12,(.cells (putCells .leaf 0 [(.yield 9)]) 1 [] false),false)
noncomputable abbrev hoq2328  :Nat×AObj×Bool:= (2,(.cells (putCells .leaf 0 [(.map 3)]) 1 [] false),false)
noncomputable abbrev hoq2329 (mf:List (Int×Int)) :Nat×AObj×Bool:= (0,(.map (mEnts avI avI 0 mf) mf.length),true)
noncomputable abbrev hoq2330 (mc:List (Int×Int)) :Nat×AObj×Bool:= (1,(.map (mEnts avI avI 0 mc) mc.length),true)
noncomputable abbrev hoq2331 (ml: (List (Int×Bool))) :Nat×AObj×Bool:= (3,(.map (mEnts avI avB 0 ml) ml.length),true)
noncomputable abbrev hoq2332 (l15 zm1:List Node) :Nat×AObj×Bool:= (17,(.lst 4 (jN (l15++zm1))),true)
noncomputable abbrev hoq2333 (l18 zm3:List Node) :Nat×AObj×Bool:= (19,(.lst 4 (jN (l18++zm3))),true)
noncomputable abbrev HTA (p:Prog)(mf mc:List (Int×Int))(ml:List (Int×Bool))(l:List Int)(n0:Int) :List (Nat×AObj×Bool) :=[hoq2329 mf,hoq2330 mc,hoq2328,hoq2331 ml,hoq236,hoq234 p,hoq2317,hoq2321,hoq2313 p,hoq235,(10,(.defd false),false),hoq2326,hoq232 p,(13,(.lst 1 (jI l)),true),hoq2325 n0]
noncomputable abbrev HTB (p:Prog)(mf mc:List (Int×Int))(ml:List (Int×Bool))(to:List Int)(l:List Node) :List (Nat×AObj×Bool) :=[hoq2329 mf,hoq2330 mc,hoq2328,hoq2331 ml,hoq237,hoq234 p,hoq2317,hoq2314 p,(8,(.cells (putCells .leaf 0 [(.gl 15 4 0 l.length false)]) 1 [] false),false),hoq230,(10,(.defd false),false),(11,(.defd false),false),hoq2327,hoq233 p,(14,(.lst 1 (jI to)),true),(15,(.lst 4 (jN l)),true),hoq2318]
noncomputable abbrev HTB1 (p:Prog)(mf mc:List (Int×Int))(ml:List (Int×Bool))(to:List Int)(l:List Node) :List (Nat×AObj×Bool) :=[hoq2329 mf,hoq2330 mc,hoq2328,hoq2331 ml,hoq237,hoq234 p,hoq2317,hoq2314 p,(8,(.cells (putCells .leaf 0 [(.gl 17 4 0 l.length false)]) 1 [] false),false),hoq230,(10,(.defd false),false),(11,(.defd false),false),hoq2327,hoq233 p,(14,(.lst 1 (jI to)),true),hoq2318,(17,(.lst 4 (jN l)),true)]
noncomputable def otr_s (p:Prog)(mf mc:List (Int×Int))(ml: (List (Int×Bool)))(from0:Int) :TS:=startH PP 38 [(Prog.av p),(nI from0),(.func 52 [] [(.ptr 2 0)]),(.agg [(.map 0),(.map 1)])] [hoq2329 mf,hoq2330 mc,hoq2328,hoq2331 ml] 4
noncomputable def otr_c0 (p:Prog)(mf mc:List (Int×Int))(ml: (List (Int×Bool)))(from0 t11:Int)(l13:List Int)(c14_0:Int) :TS:=
 {fr:={fn:=85,nt:=23,sl:=[(3,(.ptr 4 0)),(9,(iI p.funs)),(10,(nI (p.funs.length:Int))),(11,(nI t11))],todo:=[.code (cd Tryz.f85 [1,1,1,1,0,0]),.inLoop (cd Tryz.f85 [1,1,1,1,0,0]),.inBlock 0]},cs:=[{fn:=38,nt:=106,sl:=[(4,(.ptr 5 0)),(6,(.ptr 6 0)),(7,(.ptr 7 0)),(8,.nils),(9,.nils),(10,(.ptr 8 0))],todo:=[.inRF 9,.inBlock 0,.code (cd Tryz.f38 [1,1,1,1])],defers:=[.col 10]}],hp:=[hoq2329 mf,hoq2330 mc,hoq2328,hoq2331 ml,hoq236,hoq234 p,hoq2317,hoq2321,hoq2313 p,hoq235,(10,(.defd false),false),hoq2326,hoq232 p,(13,(.lst 1 (jI l13)),true),hoq2322 c14_0],nb:=15}
noncomputable def otr_c1 (p:Prog)(mf mc:List (Int×Int))(ml: (List (Int×Bool)))(from0:Int)(l14:List Int)(t11:Int)(l15:List Node) :TS:=
 {fr:={fn:=85,nt:=23,sl:=[(3,(.ptr 4 0)),(9,(iI p.funs)),(10,(nI (p.funs.length:Int))),(11,(nI t11))],todo:=[.code (cd Tryz.f85 [1,1,1,1,0,0]),.inLoop (cd Tryz.f85 [1,1,1,1,0,0]),.inBlock 0]},cs:=[{fn:=38,nt:=106,sl:=[(4,(.ptr 5 0)),(6,(.ptr 6 0)),(8,.nils),(9,.nils),(10,(.ptr 7 0)),(13,(.ptr 8 0))],todo:=[.inRF 9,.inBlock 2,.code (cd Tryz.f38 [1,1,1,1,1,1])],defers:=[.col 10,.col 11]}],hp:=[hoq2329 mf,hoq2330 mc,hoq2328,hoq2331 ml,hoq237,hoq234 p,hoq2317,hoq2314 p,hoq2315 l15,hoq230,(10,(.defd false),false),(11,(.defd false),false),hoq2327,hoq233 p,(14,(.lst 1 (jI l14)),true),(15,(.lst 4 (jN l15)),true),hoq2318],nb:=17}
noncomputable def otr_c2 (p:Prog)(mf mc:List (Int×Int))(ml: (List (Int×Bool)))(from0:Int)(vl14:List Int)(l11:List Node)(t88:Int)(l7:List Int) :TS:=
 {fr:={fn:=38,nt:=106,sl:=[(6,(.ptr 4 0)),(8,.nils),(9,.nils),(10,(.ptr 5 0)),(13,(.ptr 6 0)),(16,(.gl 7 1 0 l7.length false)),(86,(iI p.funs)),(87,(nI (p.funs.length:Int))),(88,(nI t88))],todo:=[.code (cd Tryz.f38 [1,1,1,1,1,1,1,0,1,0,0]),.inLoop (cd Tryz.f38 [1,1,1,1,1,1,1,0,1,0,0]),.inBlock 5,.code (cd Tryz.f38 [1,1,1,1,1,1,1,1])],defers:=[.col 8,.col 9]},cs:=[],hp:=[hoq2329 mf,hoq2330 mc,hoq2328,hoq2331 ml,(4,(.cells (putCells .leaf 0 [(.func 52 [] [(.ptr 2 0)])]) 1 [] false),false),(5,(.cells (putCells .leaf 0 [(.gl 10 1 0 p.nodes.length true)]) 1 [] false),false),(6,(.cells (putCells .leaf 0 [(.gl 11 4 0 l11.length false)]) 1 [] false),false),(7,(.lst 1 (jI l7)),true),(8,(.defd false),false),(9,(.defd false),false),(10,(.lst 1 (jI vl14)),true),(11,(.lst 4 (jN l11)),true)],nb:=12}
theorem otr_E_0 (p:Prog)(mf mc:List (Int×Int))(ml: (List (Int×Bool)))(from0:Int)(h0:p.nodes.length<100000) :
  LeadsM PP 4 (otr_s p mf mc ml from0).as (otr_c0 p mf mc ml from0 0 (List.replicate p.nodes.length (0:Int)) from0).as:=
 wW 15 [14,4,5,6,8,12,11,13,10,7,9] [ql Node.av p.nodes,qp (p:= (p.nodes.length:Int) = ((p.nodes.length:Nat) :Int)) rfl,qp (p:= (p.nodes.length:Int) = ((p.nodes.length:Nat) :Int)) rfl,qp h0,qp (p:=List.replicate p.nodes.length (avI (0:Int)) = (jI (List.replicate p.nodes.length (0:Int)))) (rep_map _ _ _),ql avI p.funs] [rn 13,aL p.nodes,.mk p.nodes.length,.lset 7 (jI (List.replicate p.nodes.length (0:Int))),rn 29,.lkeep 12 [6,10,11],rn 18,aL p.funs,rn 4] ⟨kl_map (fun _=>rfl) (fun _=>rfl) _ _ _,⟨kl_map (fun _=>rfl) (fun _=>rfl) _ _ _,⟨kl_map (fun _=>rfl) (fun _=>rfl) _ _ _,⟨kk,trivial⟩⟩⟩⟩
theorem otr_0_0 (p:Prog)(mf mc:List (Int×Int))(ml: (List (Int×Bool)))(from0 t11:Int)(l13:List Int)(c14_0 y0:Int)(h0:decide (t11< (p.funs.length:Int)) =true)(h1:0≤t11)(h2: ((p.funs)[t11.toNat]?) =some y0)(h3:Spec PP (.enter 86 [(.agg [(nI y0),(nI t11),(nI 1)]),(.ptr 11 0),(.ptr 12 0),(.ptr 4 0)]) (hpOf [hoq2329 mf,hoq2330 mc,hoq2328,hoq2331 ml,hoq236,hoq234 p,hoq2317,hoq2321,hoq2313 p,hoq235,(10,(.defd false),false),hoq2326,hoq232 p,(13,(.lst 1 (jI l13)),true),hoq2322 c14_0] 15) (.ret (bV true)) (hpOf [hoq2329 mf,hoq2330 mc,hoq2328,hoq2331 ml,hoq236,hoq234 p,hoq2317,hoq2321,hoq2313 p,hoq235,(10,(.defd false),false),hoq2326,hoq232 p,(13,(.lst 1 (jI l13)),true),hoq2322 c14_0] 15))(h4: (IntKind.i64.wrap (t11+ (1:Int))) = (t11+ (1:Int))) :
  LeadsM PP 4 (otr_c0 p mf mc ml from0 t11 l13 c14_0).as (otr_c0 p mf mc ml from0 (t11+ (1:Int)) l13 c14_0).as:=
 wW 15 [4,5,6,7,8,9,10,11,12,13,14] [qp h0,qp h1,qg avI h2,qp h3,qp (congrArg (AV.int .i64) h4)] [rn 5,bt 12,rn 7,aI (avI y0),rn 10,.call (bV true) (hpOf [hoq2329 mf,hoq2330 mc,hoq2328,hoq2331 ml,hoq236,hoq234 p,hoq2317,hoq2321,hoq2313 p,hoq235,(10,(.defd false),false),hoq2326,hoq232 p,(13,(.lst 1 (jI l13)),true),hoq2322 c14_0] 15),rn 7,sI 22 (t11+ (1:Int)),rn 3] ⟨kl_map (fun _=>rfl) (fun _=>rfl) _ _ _,⟨kl_map (fun _=>rfl) (fun _=>rfl) _ _ _,⟨kl_map (fun _=>rfl) (fun _=>rfl) _ _ _,⟨kk,trivial⟩⟩⟩⟩
theorem otr_0_1 (p:Prog)(mf mc:List (Int×Int))(ml: (List (Int×Bool)))(from0 t11:Int)(l13:List Int)(c14_0 y0:Int)(zl1:List Int)(zn2:Int)(h0:decide (t11< (p.funs.length:Int)) =true)(h1:0≤t11)(h2: ((p.funs)[t11.toNat]?) =some y0)(h3:Spec PP (.enter 86 [(.agg [(nI y0),(nI t11),(nI 1)]),(.ptr 11 0),(.ptr 12 0),(.ptr 4 0)]) (hpOf [hoq2329 mf,hoq2330 mc,hoq2328,hoq2331 ml,hoq236,hoq234 p,hoq2317,hoq2321,hoq2313 p,hoq235,(10,(.defd false),false),hoq2326,hoq232 p,(13,(.lst 1 (jI l13)),true),hoq2322 c14_0] 15) (.ret (bV true)) (hpOf [hoq2329 mf,hoq2330 mc,hoq2328,hoq2331 ml,hoq236,hoq234 p,hoq2317,hoq2321,hoq2313 p,hoq235,(10,(.defd false),false),hoq2326,hoq232 p,(13,(.lst 1 (jI zl1)),true),hoq2323 zn2] 15))(h4: (IntKind.i64.wrap (t11+ (1:Int))) = (t11+ (1:Int))) :
  LeadsM PP 4 (otr_c0 p mf mc ml from0 t11 l13 c14_0).as (otr_c0 p mf mc ml from0 (t11+ (1:Int)) zl1 zn2).as:=
 wW 15 [4,5,6,7,8,9,10,11,12,13,14] [qp h0,qp h1,qg avI h2,qp h3,qp (congrArg (AV.int .i64) h4)] [rn 5,bt 12,rn 7,aI (avI y0),rn 10,.call (bV true) (hpOf [hoq2329 mf,hoq2330 mc,hoq2328,hoq2331 ml,hoq236,hoq234 p,hoq2317,hoq2321,hoq2313 p,hoq235,(10,(.defd false),false),hoq2326,hoq232 p,(13,(.lst 1 (jI zl1)),true),hoq2323 zn2] 15),rn 7,sI 22 (t11+ (1:Int)),rn 3] ⟨kl_map (fun _=>rfl) (fun _=>rfl) _ _ _,⟨kl_map (fun _=>rfl) (fun _=>rfl) _ _ _,⟨kl_map (fun _=>rfl) (fun _=>rfl) _ _ _,⟨kk,trivial⟩⟩⟩⟩
theorem otr_0_2 (p:Prog)(mf mc:List (Int×Int))(ml: (List (Int×Bool)))(from0 t11:Int)(l13:List Int)(c14_0:Int)(h0:decide (t11< (p.funs.length:Int)) =false) :
  LeadsM PP 4 (otr_c0 p mf mc ml from0 t11 l13 c14_0).as (otr_c1 p mf mc ml from0 l13 0 ([] :List Node)).as:=
 wW 22 [20,5,6,8,15,18,17,10,19,16,13,21,7] [qp h0,ql avI p.funs,qp (p:= ([] :List AV) = (jN ([] :List Node))) rfl,qp (p:= (AV.gl 21 4 0 0 false) = (.gl 21 4 0 ([] :List Node).length false)) rfl] [rn 5,bf 12,rn 30,.lkeep 18 [4,6,7,10,13],rn 18,aL p.funs,rn 4,.cnil 15 0 4,.lset 21 (jN ([] :List Node)),.cset 15 0 (.gl 21 4 0 ([] :List Node).length false)] ⟨kl_map (fun _=>rfl) (fun _=>rfl) _ _ _,⟨kl_map (fun _=>rfl) (fun _=>rfl) _ _ _,⟨kl_map (fun _=>rfl) (fun _=>rfl) _ _ _,⟨kk,⟨kk,trivial⟩⟩⟩⟩⟩
theorem otr_1_0 (p:Prog)(mf mc:List (Int×Int))(ml: (List (Int×Bool)))(from0:Int)(l14:List Int)(t11:Int)(l15:List Node)(y0:Int)(h0:decide (t11< (p.funs.length:Int)) =true)(h1:0≤t11)(h2: ((p.funs)[t11.toNat]?) =some y0)(h3:Spec PP (.enter 86 [(.agg [(nI y0),(nI t11),(nI 1)]),(.ptr 12 0),(.ptr 13 0),(.ptr 4 0)]) (hpOf [hoq2329 mf,hoq2330 mc,hoq2328,hoq2331 ml,hoq237,hoq234 p,hoq2317,hoq2314 p,hoq2315 l15,hoq230,(10,(.defd false),false),(11,(.defd false),false),hoq2327,hoq233 p,(14,(.lst 1 (jI l14)),true),(15,(.lst 4 (jN l15)),true),hoq2318] 17) (.ret (bV true)) (hpOf [hoq2329 mf,hoq2330 mc,hoq2328,hoq2331 ml,hoq237,hoq234 p,hoq2317,hoq2314 p,hoq2315 l15,hoq230,(10,(.defd false),false),(11,(.defd false),false),hoq2327,hoq233 p,(14,(.lst 1 (jI l14)),true),(15,(.lst 4 (jN l15)),true),hoq2318] 17))(h4: (IntKind.i64.wrap (t11+ (1:Int))) = (t11+ (1:Int))) :
  LeadsM PP 4 (otr_c1 p mf mc ml from0 l14 t11 l15).as (otr_c1 p mf mc ml from0 l14 (t11+ (1:Int)) l15).as:=
 wW 17 [4,5,6,7,8,9,10,11,12,13,14,15,16] [qp h0,qp h1,qg avI h2,qp h3,qp (congrArg (AV.int .i64) h4)] [rn 5,bt 12,rn 7,aI (avI y0),rn 10,.call (bV true) (hpOf [hoq2329 mf,hoq2330 mc,hoq2328,hoq2331 ml,hoq237,hoq234 p,hoq2317,hoq2314 p,hoq2315 l15,hoq230,(10,(.defd false),false),(11,(.defd false),false),hoq2327,hoq233 p,(14,(.lst 1 (jI l14)),true),(15,(.lst 4 (jN l15)),true),hoq2318] 17),rn 7,sI 22 (t11+ (1:Int)),rn 3] ⟨kl_map (fun _=>rfl) (fun _=>rfl) _ _ _,⟨kl_map (fun _=>rfl) (fun _=>rfl) _ _ _,⟨kl_map (fun _=>rfl) (fun _=>rfl) _ _ _,⟨kk,⟨kk,trivial⟩⟩⟩⟩⟩
theorem otr_1_1 (p:Prog)(mf mc:List (Int×Int))(ml: (List (Int×Bool)))(from0:Int)(l14:List Int)(t11:Int)(l15:List Node)(y0:Int)(zm1:List Node)(h0:decide (t11< (p.funs.length:Int)) =true)(h1:0≤t11)(h2: ((p.funs)[t11.toNat]?) =some y0)(h3:Spec PP (.enter 86 [(.agg [(nI y0),(nI t11),(nI 1)]),(.ptr 12 0),(.ptr 13 0),(.ptr 4 0)]) (hpOf [hoq2329 mf,hoq2330 mc,hoq2328,hoq2331 ml,hoq237,hoq234 p,hoq2317,hoq2314 p,hoq2315 l15,hoq230,(10,(.defd false),false),(11,(.defd false),false),hoq2327,hoq233 p,(14,(.lst 1 (jI l14)),true),(15,(.lst 4 (jN l15)),true),hoq2318] 17) (.ret (bV true)) (hpOf [hoq2329 mf,hoq2330 mc,hoq2328,hoq2331 ml,hoq237,hoq234 p,hoq2317,hoq2314 p,hoq2311 l15 zm1,hoq230,(10,(.defd false),false),(11,(.defd false),false),hoq2327,hoq233 p,(14,(.lst 1 (jI l14)),true),hoq2318,hoq2332 l15 zm1] 18))(h4: (IntKind.i64.wrap (t11+ (1:Int))) = (t11+ (1:Int))) :
  LeadsM PP 4 (otr_c1 p mf mc ml from0 l14 t11 l15).as (otr_c1 p mf mc ml from0 l14 (t11+ (1:Int)) (l15++zm1)).as:=
 wW 18 [4,5,6,7,8,9,10,11,12,13,14,17,16] [qp h0,qp h1,qg avI h2,qp h3,qp (congrArg (AV.int .i64) h4)] [rn 5,bt 12,rn 7,aI (avI y0),rn 10,.call (bV true) (hpOf [hoq2329 mf,hoq2330 mc,hoq2328,hoq2331 ml,hoq237,hoq234 p,hoq2317,hoq2314 p,hoq2311 l15 zm1,hoq230,(10,(.defd false),false),(11,(.defd false),false),hoq2327,hoq233 p,(14,(.lst 1 (jI l14)),true),hoq2318,hoq2332 l15 zm1] 18),rn 7,sI 22 (t11+ (1:Int)),rn 3] ⟨kl_map (fun _=>rfl) (fun _=>rfl) _ _ _,⟨kl_map (fun _=>rfl) (fun _=>rfl) _ _ _,⟨kl_map (fun _=>rfl) (fun _=>rfl) _ _ _,⟨kk,⟨kk,trivial⟩⟩⟩⟩⟩
theorem otr_1_2 (p:Prog)(mf mc:List (Int×Int))(ml: (List (Int×Bool)))(from0:Int)(l14:List Int)(t11:Int)(l15:List Node)(h0:decide (t11< (p.funs.length:Int)) =false) :
  LeadsM PP 4 (otr_c1 p mf mc ml from0 l14 t11 l15).as (otr_c2 p mf mc ml from0 l14 l15 0 ([] :List Int)).as:=
 wW 18 [6,7,8,17,10,11,14,15] [qp h0,ql avI p.funs,qp (p:= ([] :List AV) = (jI ([] :List Int))) rfl,qp (p:= (AV.gl 17 1 0 0 false) = (.gl 17 1 0 ([] :List Int).length false)) rfl] [rn 5,bf 12,rn 16,aL p.funs,rn 4,.nilL 16 1,.lset 17 (jI ([] :List Int)),.set 16 (.gl 17 1 0 ([] :List Int).length false)] ⟨kl_map (fun _=>rfl) (fun _=>rfl) _ _ _,⟨kl_map (fun _=>rfl) (fun _=>rfl) _ _ _,⟨kl_map (fun _=>rfl) (fun _=>rfl) _ _ _,⟨kk,⟨kk,⟨kk,trivial⟩⟩⟩⟩⟩⟩
theorem otr_2_0 (p:Prog)(mf mc:List (Int×Int))(ml: (List (Int×Bool)))(from0:Int)(vl14:List Int)(l11:List Node)(t88:Int)(l7:List Int)(y0 y1:Int)(h0:decide (t88< (p.funs.length:Int)) =true)(h1:0≤t88)(h2: ((p.funs)[t88.toNat]?) =some y0)(h3:mGet t88 ml=some true)(h4:0≤y0)(h5:y0< ((p.nodes.length:Nat) :Int))(h6: ((vl14)[y0.toNat]?) =some y1)(h7:List.length (l7++ [y1]) ≤1000000)(h8: (IntKind.i64.wrap (t88+ (1:Int))) = (t88+ (1:Int))) :
  LeadsM PP 4 (otr_c2 p mf mc ml from0 vl14 l11 t88 l7).as (otr_c2 p mf mc ml from0 vl14 l11 (t88+ (1:Int)) (l7++ [y1])).as:=
 wW 14 [4,5,6,13,8,9,10,11] [qp h0,qp h1,qg avI h2,qp (p:=findK (avI t88) (mEnts avI avB 0 ml) 0=some (some (mIdx t88 ml,(avB true)))) (look_some key_avI h3),qp h4,qp h5,qh avI h6,qp (app_p1 avI l7),qp h7,qp (app_p3 avI l7 [y1]),qp (app_p4 avI l7 [y1]),qp (congrArg (AV.int .i64) h8)] [rn 5,bt 89,rn 7,aI (avI y0),rn 17,.ans (.look (some (mIdx t88 ml,(avB true)))),rn 10,.ans (.ix),aI (avI y1),rn 1,.app (jI (l7++ [y1])) (l7++ [y1]).length,rn 5,sI 103 (t88+ (1:Int)),rn 3] ⟨kl_map (fun _=>rfl) (fun _=>rfl) _ _ _,⟨kl_map (fun _=>rfl) (fun _=>rfl) _ _ _,⟨kl_map (fun _=>rfl) (fun _=>rfl) _ _ _,⟨kk,⟨kk,⟨kk,trivial⟩⟩⟩⟩⟩⟩
theorem otr_2_1 (p:Prog)(mf mc:List (Int×Int))(ml: (List (Int×Bool)))(from0:Int)(vl14:List Int)(l11:List Node)(t88:Int)(l7:List Int)(y0:Int)(h0:decide (t88< (p.funs.length:Int)) =true)(h1:0≤t88)(h2: ((p.funs)[t88.toNat]?) =some y0)(h3:mGet t88 ml=none)(h4: (IntKind.i64.wrap (t88+ (1:Int))) = (t88+ (1:Int))) :
  LeadsM PP 4 (otr_c2 p mf mc ml from0 vl14 l11 t88 l7).as (otr_c2 p mf mc ml from0 vl14 l11 (t88+ (1:Int)) l7).as:=
 wW 12 [4,5,6,7,8,9,10,11] [qp h0,qp h1,qg avI h2,qp (p:=findK (avI t88) (mEnts avI avB 0 ml) 0=some none) (look_none key_avI h3),qp (congrArg (AV.int .i64) h4)] [rn 5,bt 89,rn 7,aI (avI y0),rn 17,.ans (.look none),rn 10,sI 103 (t88+ (1:Int)),rn 3] ⟨kl_map (fun _=>rfl) (fun _=>rfl) _ _ _,⟨kl_map (fun _=>rfl) (fun _=>rfl) _ _ _,⟨kl_map (fun _=>rfl) (fun _=>rfl) _ _ _,⟨kk,⟨kk,⟨kk,trivial⟩⟩⟩⟩⟩⟩
theorem otr_2_2 (p:Prog)(mf mc:List (Int×Int))(ml: (List (Int×Bool)))(from0:Int)(vl14:List Int)(l11:List Node)(t88:Int)(l7:List Int)(h0:decide (t88< (p.funs.length:Int)) =false) :
  Ends PP 4 (otr_c2 p mf mc ml from0 vl14 l11 t88 l7).as (.ret (.tup [(iN l11),(iI l7)])) (hpOf [hoq2329 mf,hoq2330 mc,hoq2328,hoq2331 ml] 4) :=
 wE 12 [] [qp h0,qp (p:=AV.keylessL (jN l11) =true) (keylessL_map _ (fun _=>rfl) _),qp (p:=AV.frzOk 11 4 (jN l11) (jN l11) (.gl 11 4 0 l11.length false)) (frz_whole _ _),qp (p:=AV.keylessL (jI l7) =true) (keylessL_map _ (fun _=>rfl) _),qp (p:=AV.frzOk 7 1 (jI l7) (jI l7) (.gl 7 1 0 l7.length false)) (frz_whole _ _)] [rn 5,bf 89,rn 12,.frz 8 11 (jN l11),.frz 9 7 (jI l7)] ⟨kl_map (fun _=>rfl) (fun _=>rfl) _ _ _,⟨kl_map (fun _=>rfl) (fun _=>rfl) _ _ _,⟨kl_map (fun _=>rfl) (fun _=>rfl) _ _ _,trivial⟩⟩⟩
noncomputable def wtTA_s (p:Prog)(mf mc:List (Int×Int))(ml: (List (Int×Bool)))(l:List Int)(n0 at0:Int)(fn0 sz:Int) :TS:=startH PP 86 [(.agg [(nI at0),(nI fn0),(nI sz)]),(.ptr 11 0),(.ptr 12 0),(.ptr 4 0)] [hoq2329 mf,hoq2330 mc,hoq2328,hoq2331 ml,hoq236,hoq234 p,hoq2317,hoq2321,hoq2313 p,hoq235,(10,(.defd false),false),hoq2326,hoq232 p,(13,(.lst 1 (jI l)),true),hoq2325 n0] 15
noncomputable def wtTA_c0 (p:Prog)(mf mc:List (Int×Int))(ml: (List (Int×Bool)))(l:List Int)(n0 at0:Int)(fn0 sz:Int)(t19:List Int)(t20 t21:Int)(l13:List Int)(c14_0:Int) :TS:=
 {fr:={fn:=86,nt:=46,sl:=[(2,(.ptr 12 0)),(3,(.ptr 4 0)),(4,(.ptr 15 0)),(5,(bV false)),(19,(iI t19)),(20,(nI t20)),(21,(nI t21))],todo:=[.code (cd Tryz.f86 [1,1,0,1,0,0]),.inLoop (cd Tryz.f86 [1,1,0,1,0,0]),.inBlock 0,.code (cd Tryz.f86 [1,1,1])]},cs:=[],hp:=[hoq2329 mf,hoq2330 mc,hoq2328,hoq2331 ml,hoq236,hoq234 p,hoq2317,hoq2321,hoq2313 p,hoq235,(10,(.defd false),false),hoq2326,hoq232 p,(13,(.lst 1 (jI l13)),true),hoq2322 c14_0,hoq238 at0 fn0 sz],nb:=16}
theorem wtTA_E_0 (p:Prog)(mf mc:List (Int×Int))(ml: (List (Int×Bool)))(l:List Int)(n0 at0:Int)(fn0 sz y0:Int)(y1:Node)(h0:mGet fn0 ml=some true)(h1:0≤at0)(h2:at0< ((p.nodes.length:Nat) :Int))(h3: ((l)[at0.toNat]?) =some y0)(h4: (IntKind.i64.wrap (n0+ (1:Int))) = (n0+ (1:Int)))(h5: ((p.nodes)[at0.toNat]?) =some y1) :
  LeadsM PP 15 (wtTA_s p mf mc ml l n0 at0 fn0 sz).as (wtTA_c0 p mf mc ml l n0 at0 fn0 sz y1.kids (y1.kids.length:Int) 0 (List.set l at0.toNat n0) (n0+ (1:Int))).as:=
 wW 17 [15] [qp (p:=findK (avI fn0) (mEnts avI avB 0 ml) 0=some (some (mIdx fn0 ml,(avB true)))) (look_some key_avI h0),qp h1,qp h2,qh avI h3,qp (p:=setElem (avI y0) 0 [(nI n0)] =some (avI n0)) rfl,qp (p:= (jI l).set (0+at0.toNat) (avI n0) = (jI (List.set l at0.toNat n0))) (set_map0 _ _ _ _),qp (congrArg (AV.int .i64) h4),qp h1,qg Node.av h5,ql avI y1.kids] [rn 31,.ans (.look (some (mIdx fn0 ml,(avB true)))),rn 12,.ans (.ix),.st (avI y0) (avI n0),.lset 13 (jI (List.set l at0.toNat n0)),rn 4,sI 38 (n0+ (1:Int)),rn 16,aI (Node.av y1),rn 2,aL y1.kids,rn 4] ⟨kl_map (fun _=>rfl) (fun _=>rfl) _ _ _,⟨kl_map (fun _=>rfl) (fun _=>rfl) _ _ _,⟨kl_map (fun _=>rfl) (fun _=>rfl) _ _ _,⟨kk,trivial⟩⟩⟩⟩
theorem wtTA_0_0 (p:Prog)(mf mc:List (Int×Int))(ml: (List (Int×Bool)))(l:List Int)(n0 at0:Int)(fn0 sz:Int)(t19:List Int)(t20 t21:Int)(l13:List Int)(c14_0 y0:Int)(y1:Node)(y2:Int)(zl3:List Int)(zn4:Int)(h0:decide (t21<t20) =true)(h1:0≤t21)(h2: ((t19)[t21.toNat]?) =some y0)(h3:0≤at0)(h4: ((p.nodes)[at0.toNat]?) =some y1)(h5:Pure PP 87 [(Node.av y1),(nI t21)] (nI y2))(h6:Spec PP (.enter 86 [(.agg [(nI y0),(nI fn0),(nI (IntKind.i64.wrap (sz+y2)))]),(.ptr 11 0),(.ptr 12 0),(.ptr 4 0)]) (hpOf [hoq2329 mf,hoq2330 mc,hoq2328,hoq2331 ml,hoq236,hoq234 p,hoq2317,hoq2321,hoq2313 p,hoq235,(10,(.defd false),false),hoq2326,hoq232 p,(13,(.lst 1 (jI l13)),true),hoq2322 c14_0,hoq238 at0 fn0 sz] 16) (.ret (bV true)) (hpOf [hoq2329 mf,hoq2330 mc,hoq2328,hoq2331 ml,hoq236,hoq234 p,hoq2317,hoq2321,hoq2313 p,hoq235,(10,(.defd false),false),hoq2326,hoq232 p,(13,(.lst 1 (jI zl3)),true),hoq2324 zn4,hoq238 at0 fn0 sz] 16))(h7: (IntKind.i64.wrap (t21+ (1:Int))) = (t21+ (1:Int))) :
  LeadsM PP 15 (wtTA_c0 p mf mc ml l n0 at0 fn0 sz t19 t20 t21 l13 c14_0).as (wtTA_c0 p mf mc ml l n0 at0 fn0 sz t19 t20 (t21+ (1:Int)) zl3 zn4).as:=
 wW 16 [15] [qp h0,qp h1,qg avI h2,qp h3,qg Node.av h4,qp h5,qp h6,qr (nI sz),qr (nI sz),qr (nI fn0),qr (nI fn0),qr (AV.func 86 [] [(.ptr 11 0),(.ptr 12 0),(.ptr 4 0)]),qr (AV.func 86 [] [(.ptr 11 0),(.ptr 12 0),(.ptr 4 0)]),qp (congrArg (AV.int .i64) h7)] [rn 5,bt 22,rn 7,aI (avI y0),rn 5,.reg [.d,.d,.d,.d,.d,.d,.d,.d,.d,.d,.d,.ans (.idx (Node.av y1)),.d,.d,.pure (nI y2),.d,.d,.call (bV true) (hpOf [hoq2329 mf,hoq2330 mc,hoq2328,hoq2331 ml,hoq236,hoq234 p,hoq2317,hoq2321,hoq2313 p,hoq235,(10,(.defd false),false),hoq2326,hoq232 p,(13,(.lst 1 (jI zl3)),true),hoq2324 zn4,hoq238 at0 fn0 sz] 16),.d],rn 5,sI 45 (t21+ (1:Int)),rn 3] ⟨kl_map (fun _=>rfl) (fun _=>rfl) _ _ _,⟨kl_map (fun _=>rfl) (fun _=>rfl) _ _ _,⟨kl_map (fun _=>rfl) (fun _=>rfl) _ _ _,⟨kk,trivial⟩⟩⟩⟩
theorem wtTA_0_1 (p:Prog)(mf mc:List (Int×Int))(ml: (List (Int×Bool)))(l:List Int)(n0 at0:Int)(fn0 sz:Int)(t19:List Int)(t20 t21:Int)(l13:List Int)(c14_0:Int)(h0:decide (t21<t20) =false) :
  Ends PP 15 (wtTA_c0 p mf mc ml l n0 at0 fn0 sz t19 t20 t21 l13 c14_0).as (.ret (bV true)) (hpOf [hoq2329 mf,hoq2330 mc,hoq2328,hoq2331 ml,hoq236,hoq234 p,hoq2317,hoq2321,hoq2313 p,hoq235,(10,(.defd false),false),hoq2326,hoq232 p,(13,(.lst 1 (jI l13)),true),hoq2322 c14_0] 15) :=
 wE 16 [] [qp h0] [rn 5,bf 22,rn 7] ⟨kl_map (fun _=>rfl) (fun _=>rfl) _ _ _,⟨kl_map (fun _=>rfl) (fun _=>rfl) _ _ _,⟨kl_map (fun _=>rfl) (fun _=>rfl) _ _ _,⟨kk,trivial⟩⟩⟩⟩
noncomputable def wtNA_s (p:Prog)(mf mc:List (Int×Int))(ml: (List (Int×Bool)))(l:List Int)(n0 at0:Int)(fn0 sz:Int) :TS:=startH PP 86 [(.agg [(nI at0),(nI fn0),(nI sz)]),(.ptr 11 0),(.ptr 12 0),(.ptr 4 0)] [hoq2329 mf,hoq2330 mc,hoq2328,hoq2331 ml,hoq236,hoq234 p,hoq2317,hoq2321,hoq2313 p,hoq235,(10,(.defd false),false),hoq2326,hoq232 p,(13,(.lst 1 (jI l)),true),hoq2325 n0] 15
noncomputable def wtNA_c0 (p:Prog)(mf mc:List (Int×Int))(ml: (List (Int×Bool)))(l:List Int)(n0 at0:Int)(fn0 sz:Int)(t19:List Int)(t20 t21:Int) :TS:=
 {fr:={fn:=86,nt:=46,sl:=[(2,(.ptr 12 0)),(3,(.ptr 4 0)),(4,(.ptr 15 0)),(5,(bV false)),(19,(iI t19)),(20,(nI t20)),(21,(nI t21))],todo:=[.code (cd Tryz.f86 [1,1,0,1,0,0]),.inLoop (cd Tryz.f86 [1,1,0,1,0,0]),.inBlock 0,.code (cd Tryz.f86 [1,1,1])]},cs:=[],hp:=[hoq2329 mf,hoq2330 mc,hoq2328,hoq2331 ml,hoq236,hoq234 p,hoq2317,hoq2321,hoq2313 p,hoq235,(10,(.defd false),false),hoq2326,hoq232 p,(13,(.lst 1 (jI l)),true),hoq2325 n0,hoq238 at0 fn0 sz],nb:=16}
theorem wtNA_E_0 (p:Prog)(mf mc:List (Int×Int))(ml: (List (Int×Bool)))(l:List Int)(n0 at0:Int)(fn0 sz:Int)(y0:Node)(h0:mGet fn0 ml=none)(h1:0≤at0)(h2: ((p.nodes)[at0.toNat]?) =some y0) :
  LeadsM PP 15 (wtNA_s p mf mc ml l n0 at0 fn0 sz).as (wtNA_c0 p mf mc ml l n0 at0 fn0 sz y0.kids (y0.kids.length:Int) 0).as:=
 wW 17 [15] [qp (p:=findK (avI fn0) (mEnts avI avB 0 ml) 0=some none) (look_none key_avI h0),qp h1,qg Node.av h2,ql avI y0.kids] [rn 31,.ans (.look none),rn 21,aI (Node.av y0),rn 2,aL y0.kids,rn 4] ⟨kl_map (fun _=>rfl) (fun _=>rfl) _ _ _,⟨kl_map (fun _=>rfl) (fun _=>rfl) _ _ _,⟨kl_map (fun _=>rfl) (fun _=>rfl) _ _ _,⟨kk,trivial⟩⟩⟩⟩
theorem wtNA_0_0 (p:Prog)(mf mc:List (Int×Int))(ml: (List (Int×Bool)))(l:List Int)(n0 at0:Int)(fn0 sz:Int)(t19:List Int)(t20 t21 y0:Int)(y1:Node)(y2:Int)(h0:decide (t21<t20) =true)(h1:0≤t21)(h2: ((t19)[t21.toNat]?) =some y0)(h3:0≤at0)(h4: ((p.nodes)[at0.toNat]?) =some y1)(h5:Pure PP 87 [(Node.av y1),(nI t21)] (nI y2))(h6:Spec PP (.enter 86 [(.agg [(nI y0),(nI fn0),(nI (IntKind.i64.wrap (sz+y2)))]),(.ptr 11 0),(.ptr 12 0),(.ptr 4 0)]) (hpOf [hoq2329 mf,hoq2330 mc,hoq2328,hoq2331 ml,hoq236,hoq234 p,hoq2317,hoq2321,hoq2313 p,hoq235,(10,(.defd false),false),hoq2326,hoq232 p,(13,(.lst 1 (jI l)),true),hoq2325 n0,hoq238 at0 fn0 sz] 16) (.ret (bV true)) (hpOf [hoq2329 mf,hoq2330 mc,hoq2328,hoq2331 ml,hoq236,hoq234 p,hoq2317,hoq2321,hoq2313 p,hoq235,(10,(.defd false),false),hoq2326,hoq232 p,(13,(.lst 1 (jI l)),true),hoq2325 n0,hoq238 at0 fn0 sz] 16))(h7: (IntKind.i64.wrap (t21+ (1:Int))) = (t21+ (1:Int))) :
  LeadsM PP 15 (wtNA_c0 p mf mc ml l n0 at0 fn0 sz t19 t20 t21).as (wtNA_c0 p mf mc ml l n0 at0 fn0 sz t19 t20 (t21+ (1:Int))).as:=
 wW 16 [15] [qp h0,qp h1,qg avI h2,qp h3,qg Node.av h4,qp h5,qp h6,qr (nI sz),qr (nI sz),qr (nI fn0),qr (nI fn0),qr (AV.func 86 [] [(.ptr 11 0),(.ptr 12 0),(.ptr 4 0)]),qr (AV.func 86 [] [(.ptr 11 0),(.ptr 12 0),(.ptr 4 0)]),qp (congrArg (AV.int .i64) h7)] [rn 5,bt 22,rn 7,aI (avI y0),rn 5,.reg [.d,.d,.d,.d,.d,.d,.d,.d,.d,.d,.d,.ans (.idx (Node.av y1)),.d,.d,.pure (nI y2),.d,.d,.call (bV true) (hpOf [hoq2329 mf,hoq2330 mc,hoq2328,hoq2331 ml,hoq236,hoq234 p,hoq2317,hoq2321,hoq2313 p,hoq235,(10,(.defd false),false),hoq2326,hoq232 p,(13,(.lst 1 (jI l)),true),hoq2325 n0,hoq238 at0 fn0 sz] 16),.d],rn 5,sI 45 (t21+ (1:Int)),rn 3] ⟨kl_map (fun _=>rfl) (fun _=>rfl) _ _ _,⟨kl_map (fun _=>rfl) (fun _=>rfl) _ _ _,⟨kl_map (fun _=>rfl) (fun _=>rfl) _ _ _,⟨kk,trivial⟩⟩⟩⟩
theorem wtNA_0_1 (p:Prog)(mf mc:List (Int×Int))(ml: (List (Int×Bool)))(l:List Int)(n0 at0:Int)(fn0 sz:Int)(t19:List Int)(t20 t21:Int)(h0:decide (t21<t20) =false) :
  Ends PP 15 (wtNA_c0 p mf mc ml l n0 at0 fn0 sz t19 t20 t21).as (.ret (bV true)) (hpOf [hoq2329 mf,hoq2330 mc,hoq2328,hoq2331 ml,hoq236,hoq234 p,hoq2317,hoq2321,hoq2313 p,hoq235,(10,(.defd false),false),hoq2326,hoq232 p,(13,(.lst 1 (jI l)),true),hoq2325 n0] 15) :=
 wE 16 [] [qp h0] [rn 5,bf 22,rn 7] ⟨kl_map (fun _=>rfl) (fun _=>rfl) _ _ _,⟨kl_map (fun _=>rfl) (fun _=>rfl) _ _ _,⟨kl_map (fun _=>rfl) (fun _=>rfl) _ _ _,⟨kk,trivial⟩⟩⟩⟩
noncomputable def wtTB_s (p:Prog)(mf mc:List (Int×Int))(ml: (List (Int×Bool)))(to:List Int)(l:List Node)(at0 fn0 sz:Int) :TS:=startH PP 86 [(.agg [(nI at0),(nI fn0),(nI sz)]),(.ptr 12 0),(.ptr 13 0),(.ptr 4 0)] [hoq2329 mf,hoq2330 mc,hoq2328,hoq2331 ml,hoq237,hoq234 p,hoq2317,hoq2314 p,(8,(.cells (putCells .leaf 0 [(.gl 15 4 0 l.length false)]) 1 [] false),false),hoq230,(10,(.defd false),false),(11,(.defd false),false),hoq2327,hoq233 p,(14,(.lst 1 (jI to)),true),(15,(.lst 4 (jN l)),true),hoq2318] 17
noncomputable def wtTB_c0 (p:Prog)(mf mc:List (Int×Int))(ml: (List (Int×Bool)))(to:List Int)(l:List Node)(at0 fn0 sz:Int)(t19:List Int)(t20:Int)(l18:List Node)(t21:Int) :TS:=
 {fr:={fn:=86,nt:=46,sl:=[(2,(.ptr 13 0)),(3,(.ptr 4 0)),(4,(.ptr 17 0)),(5,(bV false)),(19,(iI t19)),(20,(nI t20)),(21,(nI t21))],todo:=[.code (cd Tryz.f86 [1,1,0,1,0,0]),.inLoop (cd Tryz.f86 [1,1,0,1,0,0]),.inBlock 0,.code (cd Tryz.f86 [1,1,1])]},cs:=[],hp:=[hoq2329 mf,hoq2330 mc,hoq2328,hoq2331 ml,hoq237,hoq234 p,hoq2317,hoq2314 p,hoq2316 l18,hoq230,(10,(.defd false),false),(11,(.defd false),false),hoq2327,hoq233 p,(14,(.lst 1 (jI to)),true),hoq2318,hoq239 at0 fn0 sz,(18,(.lst 4 (jN l18)),true)],nb:=19}
theorem wtTB_E_0 (p:Prog)(mf mc:List (Int×Int))(ml: (List (Int×Bool)))(to:List Int)(l:List Node)(at0 fn0 sz:Int)(y0:Node)(zk1:List Int)(zs2:List Pat)(h0:mGet fn0 ml=some true)(h1:0≤at0)(h2: ((p.nodes)[at0.toNat]?) =some y0)(h3: (y0.op== (4:Int)) =true)(h4:decide (y0.n≥ (0:Int)) =true)(h5:Spec PP (.enter 91 [(iI y0.kids),(.func 92 [] [(.ptr 7 0)])]) (hpOf [hoq2329 mf,hoq2330 mc,hoq2328,hoq2331 ml,hoq237,hoq234 p,hoq2317,hoq2314 p,(8,(.cells (putCells .leaf 0 [(.gl 15 4 0 l.length false)]) 1 [] false),false),hoq231,(10,(.defd false),false),(11,(.defd false),false),hoq2327,hoq233 p,(14,(.lst 1 (jI to)),true),(15,(.lst 4 (jN l)),true),hoq2318,hoq239 at0 fn0 sz,hoq2310 at0 fn0 sz,(19,(.cells (putCells .leaf 0 [(nI y0.op),(nI y0.n),(iI y0.kids),(iP y0.pats)]) 4 [] false),false),hoq2319] 21) (.ret (iI zk1)) (hpOf [hoq2329 mf,hoq2330 mc,hoq2328,hoq2331 ml,hoq237,hoq234 p,hoq2317,hoq2314 p,(8,(.cells (putCells .leaf 0 [(.gl 15 4 0 l.length false)]) 1 [] false),false),hoq231,(10,(.defd false),false),(11,(.defd false),false),hoq2327,hoq233 p,(14,(.lst 1 (jI to)),true),(15,(.lst 4 (jN l)),true),hoq2318,hoq239 at0 fn0 sz,hoq2310 at0 fn0 sz,(19,(.cells (putCells .leaf 0 [(nI y0.op),(nI y0.n),(iI y0.kids),(iP y0.pats)]) 4 [] false),false),hoq2319] 21))(h6:Spec PP (.enter 93 [(iP y0.pats),(.func 94 [] [(.ptr 16 0)])]) (hpOf [hoq2329 mf,hoq2330 mc,hoq2328,hoq2331 ml,hoq237,hoq234 p,hoq2317,hoq2314 p,(8,(.cells (putCells .leaf 0 [(.gl 15 4 0 l.length false)]) 1 [] false),false),hoq231,(10,(.defd false),false),(11,(.defd false),false),hoq2327,hoq233 p,(14,(.lst 1 (jI to)),true),(15,(.lst 4 (jN l)),true),hoq2318,hoq239 at0 fn0 sz,hoq2310 at0 fn0 sz,(19,(.cells (putCells .leaf 0 [(nI y0.op),(nI y0.n),(iI zk1),(iP y0.pats)]) 4 [] false),false),hoq2319] 21) (.ret (iP zs2)) (hpOf [hoq2329 mf,hoq2330 mc,hoq2328,hoq2331 ml,hoq237,hoq234 p,hoq2317,hoq2314 p,(8,(.cells (putCells .leaf 0 [(.gl 15 4 0 l.length false)]) 1 [] false),false),hoq231,(10,(.defd false),false),(11,(.defd false),false),hoq2327,hoq233 p,(14,(.lst 1 (jI to)),true),(15,(.lst 4 (jN l)),true),hoq2318,hoq239 at0 fn0 sz,hoq2310 at0 fn0 sz,(19,(.cells (putCells .leaf 0 [(nI y0.op),(nI y0.n),(iI zk1),(iP y0.pats)]) 4 [] false),false),hoq2319] 21))(h7:List.length (l++ [(Node.mk y0.op y0.n zk1 zs2)]) ≤1000000) :
  LeadsM PP 17 (wtTB_s p mf mc ml to l at0 fn0 sz).as (wtTB_c0 p mf mc ml to l at0 fn0 sz y0.kids (y0.kids.length:Int) (l++ [(Node.mk y0.op y0.n zk1 zs2)]) 0).as:=
 wW 23 [17,22] [qp (p:=findK (avI fn0) (mEnts avI avB 0 ml) 0=some (some (mIdx fn0 ml,(avB true)))) (look_some key_avI h0),qp h1,qg Node.av h2,qp h3,qp h4,qp h5,qp h6,qp (app_p1 Node.av l),qp h7,qp (app_p3 Node.av l [(Node.mk y0.op y0.n zk1 zs2)]),qp (app_p4 Node.av l [(Node.mk y0.op y0.n zk1 zs2)]),qp h1,qg Node.av h2,ql avI y0.kids] [rn 32,.ans (.look (some (mIdx fn0 ml,(avB true)))),rn 15,aI (Node.av y0),rn 16,bt 56,rn 17,bt 6,rn 17,.call (iI zk1) (hpOf [hoq2329 mf,hoq2330 mc,hoq2328,hoq2331 ml,hoq237,hoq234 p,hoq2317,hoq2314 p,(8,(.cells (putCells .leaf 0 [(.gl 15 4 0 l.length false)]) 1 [] false),false),hoq231,(10,(.defd false),false),(11,(.defd false),false),hoq2327,hoq233 p,(14,(.lst 1 (jI to)),true),(15,(.lst 4 (jN l)),true),hoq2318,hoq239 at0 fn0 sz,hoq2310 at0 fn0 sz,(19,(.cells (putCells .leaf 0 [(nI y0.op),(nI y0.n),(iI y0.kids),(iP y0.pats)]) 4 [] false),false),hoq2319] 21),rn 8,.call (iP zs2) (hpOf [hoq2329 mf,hoq2330 mc,hoq2328,hoq2331 ml,hoq237,hoq234 p,hoq2317,hoq2314 p,(8,(.cells (putCells .leaf 0 [(.gl 15 4 0 l.length false)]) 1 [] false),false),hoq231,(10,(.defd false),false),(11,(.defd false),false),hoq2327,hoq233 p,(14,(.lst 1 (jI to)),true),(15,(.lst 4 (jN l)),true),hoq2318,hoq239 at0 fn0 sz,hoq2310 at0 fn0 sz,(19,(.cells (putCells .leaf 0 [(nI y0.op),(nI y0.n),(iI zk1),(iP y0.pats)]) 4 [] false),false),hoq2319] 21),rn 7,.app (jN (l++ [(Node.mk y0.op y0.n zk1 zs2)])) (l++ [(Node.mk y0.op y0.n zk1 zs2)]).length,rn 16,aI (Node.av y0),rn 2,aL y0.kids,rn 4] ⟨kl_map (fun _=>rfl) (fun _=>rfl) _ _ _,⟨kl_map (fun _=>rfl) (fun _=>rfl) _ _ _,⟨kl_map (fun _=>rfl) (fun _=>rfl) _ _ _,⟨kk,⟨kk,trivial⟩⟩⟩⟩⟩
theorem wtTB_E_1 (p:Prog)(mf mc:List (Int×Int))(ml: (List (Int×Bool)))(to:List Int)(l:List Node)(at0 fn0 sz:Int)(y0:Node)(y1:Int)(zk2:List Int)(zs3:List Pat)(h0:mGet fn0 ml=some true)(h1:0≤at0)(h2: ((p.nodes)[at0.toNat]?) =some y0)(h3: (y0.op== (4:Int)) =true)(h4:decide (y0.n≥ (0:Int)) =false)(h5: (IntKind.i64.wrap ((-1:Int) -y0.n)) = ((-1:Int) -y0.n))(h6:mGet ((-1:Int) -y0.n) mf=some y1)(h7: (IntKind.i64.wrap ((-1:Int) -y1)) = ((-1:Int) -y1))(h8:Spec PP (.enter 91 [(iI y0.kids),(.func 92 [] [(.ptr 7 0)])]) (hpOf [hoq2329 mf,hoq2330 mc,hoq2328,hoq2331 ml,hoq237,hoq234 p,hoq2317,hoq2314 p,(8,(.cells (putCells .leaf 0 [(.gl 15 4 0 l.length false)]) 1 [] false),false),hoq231,(10,(.defd false),false),(11,(.defd false),false),hoq2327,hoq233 p,(14,(.lst 1 (jI to)),true),(15,(.lst 4 (jN l)),true),hoq2318,hoq239 at0 fn0 sz,hoq2310 at0 fn0 sz,(19,(.cells (putCells .leaf 0 [(nI y0.op),(nI ((-1:Int) -y1)),(iI y0.kids),(iP y0.pats)]) 4 [] false),false),hoq2319,hoq2320] 22) (.ret (iI zk2)) (hpOf [hoq2329 mf,hoq2330 mc,hoq2328,hoq2331 ml,hoq237,hoq234 p,hoq2317,hoq2314 p,(8,(.cells (putCells .leaf 0 [(.gl 15 4 0 l.length false)]) 1 [] false),false),hoq231,(10,(.defd false),false),(11,(.defd false),false),hoq2327,hoq233 p,(14,(.lst 1 (jI to)),true),(15,(.lst 4 (jN l)),true),hoq2318,hoq239 at0 fn0 sz,hoq2310 at0 fn0 sz,(19,(.cells (putCells .leaf 0 [(nI y0.op),(nI ((-1:Int) -y1)),(iI y0.kids),(iP y0.pats)]) 4 [] false),false),hoq2319,hoq2320] 22))(h9:Spec PP (.enter 93 [(iP y0.pats),(.func 94 [] [(.ptr 16 0)])]) (hpOf [hoq2329 mf,hoq2330 mc,hoq2328,hoq2331 ml,hoq237,hoq234 p,hoq2317,hoq2314 p,(8,(.cells (putCells .leaf 0 [(.gl 15 4 0 l.length false)]) 1 [] false),false),hoq231,(10,(.defd false),false),(11,(.defd false),false),hoq2327,hoq233 p,(14,(.lst 1 (jI to)),true),(15,(.lst 4 (jN l)),true),hoq2318,hoq239 at0 fn0 sz,hoq2310 at0 fn0 sz,(19,(.cells (putCells .leaf 0 [(nI y0.op),(nI ((-1:Int) -y1)),(iI zk2),(iP y0.pats)]) 4 [] false),false),hoq2319,hoq2320] 22) (.ret (iP zs3)) (hpOf [hoq2329 mf,hoq2330 mc,hoq2328,hoq2331 ml,hoq237,hoq234 p,hoq2317,hoq2314 p,(8,(.cells (putCells .leaf 0 [(.gl 15 4 0 l.length false)]) 1 [] false),false),hoq231,(10,(.defd false),false),(11,(.defd false),false),hoq2327,hoq233 p,(14,(.lst 1 (jI to)),true),(15,(.lst 4 (jN l)),true),hoq2318,hoq239 at0 fn0 sz,hoq2310 at0 fn0 sz,(19,(.cells (putCells .leaf 0 [(nI y0.op),(nI ((-1:Int) -y1)),(iI zk2),(iP y0.pats)]) 4 [] false),false),hoq2319,hoq2320] 22))(h10:List.length (l++ [(Node.mk y0.op ((-1:Int) -y1) zk2 zs3)]) ≤1000000) :
  LeadsM PP 17 (wtTB_s p mf mc ml to l at0 fn0 sz).as (wtTB_c0 p mf mc ml to l at0 fn0 sz y0.kids (y0.kids.length:Int) (l++ [(Node.mk y0.op ((-1:Int) -y1) zk2 zs3)]) 0).as:=
 wW 24 [17,23] [qp (p:=findK (avI fn0) (mEnts avI avB 0 ml) 0=some (some (mIdx fn0 ml,(avB true)))) (look_some key_avI h0),qp h1,qg Node.av h2,qp h3,qp h4,qp (congrArg (AV.int .i64) h5),qp (p:=findK (avI ((-1:Int) -y0.n)) (mEnts avI avI 0 mf) 0=some (some (mIdx ((-1:Int) -y0.n) mf,(avI y1)))) (look_some key_avI h6),qp (congrArg (AV.int .i64) h7),qp h8,qp h9,qp (app_p1 Node.av l),qp h10,qp (app_p3 Node.av l [(Node.mk y0.op ((-1:Int) -y1) zk2 zs3)]),qp (app_p4 Node.av l [(Node.mk y0.op ((-1:Int) -y1) zk2 zs3)]),qp h1,qg Node.av h2,ql avI y0.kids] [rn 32,.ans (.look (some (mIdx fn0 ml,(avB true)))),rn 15,aI (Node.av y0),rn 16,bt 56,rn 17,bf 6,rn 7,sI 10 ((-1:Int) -y0.n),rn 11,.ans (.look (some (mIdx ((-1:Int) -y0.n) mf,(avI y1)))),rn 5,sI 12 ((-1:Int) -y1),rn 13,.call (iI zk2) (hpOf [hoq2329 mf,hoq2330 mc,hoq2328,hoq2331 ml,hoq237,hoq234 p,hoq2317,hoq2314 p,(8,(.cells (putCells .leaf 0 [(.gl 15 4 0 l.length false)]) 1 [] false),false),hoq231,(10,(.defd false),false),(11,(.defd false),false),hoq2327,hoq233 p,(14,(.lst 1 (jI to)),true),(15,(.lst 4 (jN l)),true),hoq2318,hoq239 at0 fn0 sz,hoq2310 at0 fn0 sz,(19,(.cells (putCells .leaf 0 [(nI y0.op),(nI ((-1:Int) -y1)),(iI y0.kids),(iP y0.pats)]) 4 [] false),false),hoq2319,hoq2320] 22),rn 8,.call (iP zs3) (hpOf [hoq2329 mf,hoq2330 mc,hoq2328,hoq2331 ml,hoq237,hoq234 p,hoq2317,hoq2314 p,(8,(.cells (putCells .leaf 0 [(.gl 15 4 0 l.length false)]) 1 [] false),false),hoq231,(10,(.defd false),false),(11,(.defd false),false),hoq2327,hoq233 p,(14,(.lst 1 (jI to)),true),(15,(.lst 4 (jN l)),true),hoq2318,hoq239 at0 fn0 sz,hoq2310 at0 fn0 sz,(19,(.cells (putCells .leaf 0 [(nI y0.op),(nI ((-1:Int) -y1)),(iI zk2),(iP y0.pats)]) 4 [] false),false),hoq2319,hoq2320] 22),rn 7,.app (jN (l++ [(Node.mk y0.op ((-1:Int) -y1) zk2 zs3)])) (l++ [(Node.mk y0.op ((-1:Int) -y1) zk2 zs3)]).length,rn 16,aI (Node.av y0),rn 2,aL y0.kids,rn 4] ⟨kl_map (fun _=>rfl) (fun _=>rfl) _ _ _,⟨kl_map (fun _=>rfl) (fun _=>rfl) _ _ _,⟨kl_map (fun _=>rfl) (fun _=>rfl) _ _ _,⟨kk,⟨kk,trivial⟩⟩⟩⟩⟩
theorem wtTB_E_2 (p:Prog)(mf mc:List (Int×Int))(ml: (List (Int×Bool)))(to:List Int)(l:List Node)(at0 fn0 sz:Int)(y0:Node)(zk1:List Int)(zs2:List Pat)(h0:mGet fn0 ml=some true)(h1:0≤at0)(h2: ((p.nodes)[at0.toNat]?) =some y0)(h3: (y0.op== (4:Int)) =true)(h4:decide (y0.n≥ (0:Int)) =false)(h5: (IntKind.i64.wrap ((-1:Int) -y0.n)) = ((-1:Int) -y0.n))(h6:mGet ((-1:Int) -y0.n) mf=none)(h7:Spec PP (.enter 91 [(iI y0.kids),(.func 92 [] [(.ptr 7 0)])]) (hpOf [hoq2329 mf,hoq2330 mc,hoq2328,hoq2331 ml,hoq237,hoq234 p,hoq2317,hoq2314 p,(8,(.cells (putCells .leaf 0 [(.gl 15 4 0 l.length false)]) 1 [] false),false),hoq231,(10,(.defd false),false),(11,(.defd false),false),hoq2327,hoq233 p,(14,(.lst 1 (jI to)),true),(15,(.lst 4 (jN l)),true),hoq2318,hoq239 at0 fn0 sz,hoq2310 at0 fn0 sz,(19,(.cells (putCells .leaf 0 [(nI y0.op),(nI (-1)),(iI y0.kids),(iP y0.pats)]) 4 [] false),false),hoq2319,hoq2320] 22) (.ret (iI zk1)) (hpOf [hoq2329 mf,hoq2330 mc,hoq2328,hoq2331 ml,hoq237,hoq234 p,hoq2317,hoq2314 p,(8,(.cells (putCells .leaf 0 [(.gl 15 4 0 l.length false)]) 1 [] false),false),hoq231,(10,(.defd false),false),(11,(.defd false),false),hoq2327,hoq233 p,(14,(.lst 1 (jI to)),true),(15,(.lst 4 (jN l)),true),hoq2318,hoq239 at0 fn0 sz,hoq2310 at0 fn0 sz,(19,(.cells (putCells .leaf 0 [(nI y0.op),(nI (-1)),(iI y0.kids),(iP y0.pats)]) 4 [] false),false),hoq2319,hoq2320] 22))(h8:Spec PP (.enter 93 [(iP y0.pats),(.func 94 [] [(.ptr 16 0)])]) (hpOf [hoq2329 mf,hoq2330 mc,hoq2328,hoq2331 ml,hoq237,hoq234 p,hoq2317,hoq2314 p,(8,(.cells (putCells .leaf 0 [(.gl 15 4 0 l.length false)]) 1 [] false),false),hoq231,(10,(.defd false),false),(11,(.defd false),false),hoq2327,hoq233 p,(14,(.lst 1 (jI to)),true),(15,(.lst 4 (jN l)),true),hoq2318,hoq239 at0 fn0 sz,hoq2310 at0 fn0 sz,(19,(.cells (putCells .leaf 0 [(nI y0.op),(nI (-1)),(iI zk1),(iP y0.pats)]) 4 [] false),false),hoq2319,hoq2320] 22) (.ret (iP zs2)) (hpOf [hoq2329 mf,hoq2330 mc,hoq2328,hoq2331 ml,hoq237,hoq234 p,hoq2317,hoq2314 p,(8,(.cells (putCells .leaf 0 [(.gl 15 4 0 l.length false)]) 1 [] false),false),hoq231,(10,(.defd false),false),(11,(.defd false),false),hoq2327,hoq233 p,(14,(.lst 1 (jI to)),true),(15,(.lst 4 (jN l)),true),hoq2318,hoq239 at0 fn0 sz,hoq2310 at0 fn0 sz,(19,(.cells (putCells .leaf 0 [(nI y0.op),(nI (-1)),(iI zk1),(iP y0.pats)]) 4 [] false),false),hoq2319,hoq2320] 22))(h9:List.length (l++ [(Node.mk y0.op (-1) zk1 zs2)]) ≤1000000) :
  LeadsM PP 17 (wtTB_s p mf mc ml to l at0 fn0 sz).as (wtTB_c0 p mf mc ml to l at0 fn0 sz y0.kids (y0.kids.length:Int) (l++ [(Node.mk y0.op (-1) zk1 zs2)]) 0).as:=
 wW 24 [17,23] [qp (p:=findK (avI fn0) (mEnts avI avB 0 ml) 0=some (some (mIdx fn0 ml,(avB true)))) (look_some key_avI h0),qp h1,qg Node.av h2,qp h3,qp h4,qp (congrArg (AV.int .i64) h5),qp (p:=findK (avI ((-1:Int) -y0.n)) (mEnts avI avI 0 mf) 0=some none) (look_none key_avI h6),qp h7,qp h8,qp (app_p1 Node.av l),qp h9,qp (app_p3 Node.av l [(Node.mk y0.op (-1) zk1 zs2)]),qp (app_p4 Node.av l [(Node.mk y0.op (-1) zk1 zs2)]),qp h1,qg Node.av h2,ql avI y0.kids] [rn 32,.ans (.look (some (mIdx fn0 ml,(avB true)))),rn 15,aI (Node.av y0),rn 16,bt 56,rn 17,bf 6,rn 7,sI 10 ((-1:Int) -y0.n),rn 11,.ans (.look none),rn 18,.call (iI zk1) (hpOf [hoq2329 mf,hoq2330 mc,hoq2328,hoq2331 ml,hoq237,hoq234 p,hoq2317,hoq2314 p,(8,(.cells (putCells .leaf 0 [(.gl 15 4 0 l.length false)]) 1 [] false),false),hoq231,(10,(.defd false),false),(11,(.defd false),false),hoq2327,hoq233 p,(14,(.lst 1 (jI to)),true),(15,(.lst 4 (jN l)),true),hoq2318,hoq239 at0 fn0 sz,hoq2310 at0 fn0 sz,(19,(.cells (putCells .leaf 0 [(nI y0.op),(nI (-1)),(iI y0.kids),(iP y0.pats)]) 4 [] false),false),hoq2319,hoq2320] 22),rn 8,.call (iP zs2) (hpOf [hoq2329 mf,hoq2330 mc,hoq2328,hoq2331 ml,hoq237,hoq234 p,hoq2317,hoq2314 p,(8,(.cells (putCells .leaf 0 [(.gl 15 4 0 l.length false)]) 1 [] false),false),hoq231,(10,(.defd false),false),(11,(.defd false),false),hoq2327,hoq233 p,(14,(.lst 1 (jI to)),true),(15,(.lst 4 (jN l)),true),hoq2318,hoq239 at0 fn0 sz,hoq2310 at0 fn0 sz,(19,(.cells (putCells .leaf 0 [(nI y0.op),(nI (-1)),(iI zk1),(iP y0.pats)]) 4 [] false),false),hoq2319,hoq2320] 22),rn 7,.app (jN (l++ [(Node.mk y0.op (-1) zk1 zs2)])) (l++ [(Node.mk y0.op (-1) zk1 zs2)]).length,rn 16,aI (Node.av y0),rn 2,aL y0.kids,rn 4] ⟨kl_map (fun _=>rfl) (fun _=>rfl) _ _ _,⟨kl_map (fun _=>rfl) (fun _=>rfl) _ _ _,⟨kl_map (fun _=>rfl) (fun _=>rfl) _ _ _,⟨kk,⟨kk,trivial⟩⟩⟩⟩⟩
theorem wtTB_E_3 (p:Prog)(mf mc:List (Int×Int))(ml: (List (Int×Bool)))(to:List Int)(l:List Node)(at0 fn0 sz:Int)(y0:Node)(y1:Int)(zk2:List Int)(zs3:List Pat)(h0:mGet fn0 ml=some true)(h1:0≤at0)(h2: ((p.nodes)[at0.toNat]?) =some y0)(h3: (y0.op== (4:Int)) =false)(h4: (y0.op== (14:Int)) =true)(h5:mGet y0.n mc=some y1)(h6:Spec PP (.enter 91 [(iI y0.kids),(.func 92 [] [(.ptr 7 0)])]) (hpOf [hoq2329 mf,hoq2330 mc,hoq2328,hoq2331 ml,hoq237,hoq234 p,hoq2317,hoq2314 p,(8,(.cells (putCells .leaf 0 [(.gl 15 4 0 l.length false)]) 1 [] false),false),hoq231,(10,(.defd false),false),(11,(.defd false),false),hoq2327,hoq233 p,(14,(.lst 1 (jI to)),true),(15,(.lst 4 (jN l)),true),hoq2318,hoq239 at0 fn0 sz,hoq2310 at0 fn0 sz,(19,(.cells (putCells .leaf 0 [(nI y0.op),(nI y1),(iI y0.kids),(iP y0.pats)]) 4 [] false),false),hoq2319] 21) (.ret (iI zk2)) (hpOf [hoq2329 mf,hoq2330 mc,hoq2328,hoq2331 ml,hoq237,hoq234 p,hoq2317,hoq2314 p,(8,(.cells (putCells .leaf 0 [(.gl 15 4 0 l.length false)]) 1 [] false),false),hoq231,(10,(.defd false),false),(11,(.defd false),false),hoq2327,hoq233 p,(14,(.lst 1 (jI to)),true),(15,(.lst 4 (jN l)),true),hoq2318,hoq239 at0 fn0 sz,hoq2310 at0 fn0 sz,(19,(.cells (putCells .leaf 0 [(nI y0.op),(nI y1),(iI y0.kids),(iP y0.pats)]) 4 [] false),false),hoq2319] 21))(h7:Spec PP (.enter 93 [(iP y0.pats),(.func 94 [] [(.ptr 16 0)])]) (hpOf [hoq2329 mf,hoq2330 mc,hoq2328,hoq2331 ml,hoq237,hoq234 p,hoq2317,hoq2314 p,(8,(.cells (putCells .leaf 0 [(.gl 15 4 0 l.length false)]) 1 [] false),false),hoq231,(10,(.defd false),false),(11,(.defd false),false),hoq2327,hoq233 p,(14,(.lst 1 (jI to)),true),(15,(.lst 4 (jN l)),true),hoq2318,hoq239 at0 fn0 sz,hoq2310 at0 fn0 sz,(19,(.cells (putCells .leaf 0 [(nI y0.op),(nI y1),(iI zk2),(iP y0.pats)]) 4 [] false),false),hoq2319] 21) (.ret (iP zs3)) (hpOf [hoq2329 mf,hoq2330 mc,hoq2328,hoq2331 ml,hoq237,hoq234 p,hoq2317,hoq2314 p,(8,(.cells (putCells .leaf 0 [(.gl 15 4 0 l.length false)]) 1 [] false),false),hoq231,(10,(.defd false),false),(11,(.defd false),false),hoq2327,hoq233 p,(14,(.lst 1 (jI to)),true),(15,(.lst 4 (jN l)),true),hoq2318,hoq239 at0 fn0 sz,hoq2310 at0 fn0 sz,(19,(.cells (putCells .leaf 0 [(nI y0.op),(nI y1),(iI zk2),(iP y0.pats)]) 4 [] false),false),hoq2319] 21))(h8:List.length (l++ [(Node.mk y0.op y1 zk2 zs3)]) ≤1000000) :
  LeadsM PP 17 (wtTB_s p mf mc ml to l at0 fn0 sz).as (wtTB_c0 p mf mc ml to l at0 fn0 sz y0.kids (y0.kids.length:Int) (l++ [(Node.mk y0.op y1 zk2 zs3)]) 0).as:=
 wW 23 [17,22] [qp (p:=findK (avI fn0) (mEnts avI avB 0 ml) 0=some (some (mIdx fn0 ml,(avB true)))) (look_some key_avI h0),qp h1,qg Node.av h2,qp h3,qp h4,qp (p:=findK (avI y0.n) (mEnts avI avI 0 mc) 0=some (some (mIdx y0.n mc,(avI y1)))) (look_some key_avI h5),qp h6,qp h7,qp (app_p1 Node.av l),qp h8,qp (app_p3 Node.av l [(Node.mk y0.op y1 zk2 zs3)]),qp (app_p4 Node.av l [(Node.mk y0.op y1 zk2 zs3)]),qp h1,qg Node.av h2,ql avI y0.kids] [rn 32,.ans (.look (some (mIdx fn0 ml,(avB true)))),rn 15,aI (Node.av y0),rn 16,bf 56,rn 6,bt 63,rn 16,.ans (.look (some (mIdx y0.n mc,(avI y1)))),rn 13,.call (iI zk2) (hpOf [hoq2329 mf,hoq2330 mc,hoq2328,hoq2331 ml,hoq237,hoq234 p,hoq2317,hoq2314 p,(8,(.cells (putCells .leaf 0 [(.gl 15 4 0 l.length false)]) 1 [] false),false),hoq231,(10,(.defd false),false),(11,(.defd false),false),hoq2327,hoq233 p,(14,(.lst 1 (jI to)),true),(15,(.lst 4 (jN l)),true),hoq2318,hoq239 at0 fn0 sz,hoq2310 at0 fn0 sz,(19,(.cells (putCells .leaf 0 [(nI y0.op),(nI y1),(iI y0.kids),(iP y0.pats)]) 4 [] false),false),hoq2319] 21),rn 8,.call (iP zs3) (hpOf [hoq2329 mf,hoq2330 mc,hoq2328,hoq2331 ml,hoq237,hoq234 p,hoq2317,hoq2314 p,(8,(.cells (putCells .leaf 0 [(.gl 15 4 0 l.length false)]) 1 [] false),false),hoq231,(10,(.defd false),false),(11,(.defd false),false),hoq2327,hoq233 p,(14,(.lst 1 (jI to)),true),(15,(.lst 4 (jN l)),true),hoq2318,hoq239 at0 fn0 sz,hoq2310 at0 fn0 sz,(19,(.cells (putCells .leaf 0 [(nI y0.op),(nI y1),(iI zk2),(iP y0.pats)]) 4 [] false),false),hoq2319] 21),rn 7,.app (jN (l++ [(Node.mk y0.op y1 zk2 zs3)])) (l++ [(Node.mk y0.op y1 zk2 zs3)]).length,rn 16,aI (Node.av y0),rn 2,aL y0.kids,rn 4] ⟨kl_map (fun _=>rfl) (fun _=>rfl) _ _ _,⟨kl_map (fun _=>rfl) (fun _=>rfl) _ _ _,⟨kl_map (fun _=>rfl) (fun _=>rfl) _ _ _,⟨kk,⟨kk,trivial⟩⟩⟩⟩⟩
theorem wtTB_E_4 (p:Prog)(mf mc:List (Int×Int))(ml: (List (Int×Bool)))(to:List Int)(l:List Node)(at0 fn0 sz:Int)(y0:Node)(zk1:List Int)(zs2:List Pat)(h0:mGet fn0 ml=some true)(h1:0≤at0)(h2: ((p.nodes)[at0.toNat]?) =some y0)(h3: (y0.op== (4:Int)) =false)(h4: (y0.op== (14:Int)) =true)(h5:mGet y0.n mc=none)(h6:Spec PP (.enter 91 [(iI y0.kids),(.func 92 [] [(.ptr 7 0)])]) (hpOf [hoq2329 mf,hoq2330 mc,hoq2328,hoq2331 ml,hoq237,hoq234 p,hoq2317,hoq2314 p,(8,(.cells (putCells .leaf 0 [(.gl 15 4 0 l.length false)]) 1 [] false),false),hoq231,(10,(.defd false),false),(11,(.defd false),false),hoq2327,hoq233 p,(14,(.lst 1 (jI to)),true),(15,(.lst 4 (jN l)),true),hoq2318,hoq239 at0 fn0 sz,hoq2310 at0 fn0 sz,(19,(.cells (putCells .leaf 0 [(nI y0.op),(nI 0),(iI y0.kids),(iP y0.pats)]) 4 [] false),false),hoq2319] 21) (.ret (iI zk1)) (hpOf [hoq2329 mf,hoq2330 mc,hoq2328,hoq2331 ml,hoq237,hoq234 p,hoq2317,hoq2314 p,(8,(.cells (putCells .leaf 0 [(.gl 15 4 0 l.length false)]) 1 [] false),false),hoq231,(10,(.defd false),false),(11,(.defd false),false),hoq2327,hoq233 p,(14,(.lst 1 (jI to)),true),(15,(.lst 4 (jN l)),true),hoq2318,hoq239 at0 fn0 sz,hoq2310 at0 fn0 sz,(19,(.cells (putCells .leaf 0 [(nI y0.op),(nI 0),(iI y0.kids),(iP y0.pats)]) 4 [] false),false),hoq2319] 21))(h7:Spec PP (.enter 93 [(iP y0.pats),(.func 94 [] [(.ptr 16 0)])]) (hpOf [hoq2329 mf,hoq2330 mc,hoq2328,hoq2331 ml,hoq237,hoq234 p,hoq2317,hoq2314 p,(8,(.cells (putCells .leaf 0 [(.gl 15 4 0 l.length false)]) 1 [] false),false),hoq231,(10,(.defd false),false),(11,(.defd false),false),hoq2327,hoq233 p,(14,(.lst 1 (jI to)),true),(15,(.lst 4 (jN l)),true),hoq2318,hoq239 at0 fn0 sz,hoq2310 at0 fn0 sz,(19,(.cells (putCells .leaf 0 [(nI y0.op),(nI 0),(iI zk1),(iP y0.pats)]) 4 [] false),false),hoq2319] 21) (.ret (iP zs2)) (hpOf [hoq2329 mf,hoq2330 mc,hoq2328,hoq2331 ml,hoq237,hoq234 p,hoq2317,hoq2314 p,(8,(.cells (putCells .leaf 0 [(.gl 15 4 0 l.length false)]) 1 [] false),false),hoq231,(10,(.defd false),false),(11,(.defd false),false),hoq2327,hoq233 p,(14,(.lst 1 (jI to)),true),(15,(.lst 4 (jN l)),true),hoq2318,hoq239 at0 fn0 sz,hoq2310 at0 fn0 sz,(19,(.cells (putCells .leaf 0 [(nI y0.op),(nI 0),(iI zk1),(iP y0.pats)]) 4 [] false),false),hoq2319] 21))(h8:List.length (l++ [(Node.mk y0.op 0 zk1 zs2)]) ≤1000000) :
  LeadsM PP 17 (wtTB_s p mf mc ml to l at0 fn0 sz).as (wtTB_c0 p mf mc ml to l at0 fn0 sz y0.kids (y0.kids.length:Int) (l++ [(Node.mk y0.op 0 zk1 zs2)]) 0).as:=
 wW 23 [17,22] [qp (p:=findK (avI fn0) (mEnts avI avB 0 ml) 0=some (some (mIdx fn0 ml,(avB true)))) (look_some key_avI h0),qp h1,qg Node.av h2,qp h3,qp h4,qp (p:=findK (avI y0.n) (mEnts avI avI 0 mc) 0=some none) (look_none key_avI h5),qp h6,qp h7,qp (app_p1 Node.av l),qp h8,qp (app_p3 Node.av l [(Node.mk y0.op 0 zk1 zs2)]),qp (app_p4 Node.av l [(Node.mk y0.op 0 zk1 zs2)]),qp h1,qg Node.av h2,ql avI y0.kids] [rn 32,.ans (.look (some (mIdx fn0 ml,(avB true)))),rn 15,aI (Node.av y0),rn 16,bf 56,rn 6,bt 63,rn 16,.ans (.look none),rn 13,.call (iI zk1) (hpOf [hoq2329 mf,hoq2330 mc,hoq2328,hoq2331 ml,hoq237,hoq234 p,hoq2317,hoq2314 p,(8,(.cells (putCells .leaf 0 [(.gl 15 4 0 l.length false)]) 1 [] false),false),hoq231,(10,(.defd false),false),(11,(.defd false),false),hoq2327,hoq233 p,(14,(.lst 1 (jI to)),true),(15,(.lst 4 (jN l)),true),hoq2318,hoq239 at0 fn0 sz,hoq2310 at0 fn0 sz,(19,(.cells (putCells .leaf 0 [(nI y0.op),(nI 0),(iI y0.kids),(iP y0.pats)]) 4 [] false),false),hoq2319] 21),rn 8,.call (iP zs2) (hpOf [hoq2329 mf,hoq2330 mc,hoq2328,hoq2331 ml,hoq237,hoq234 p,hoq2317,hoq2314 p,(8,(.cells (putCells .leaf 0 [(.gl 15 4 0 l.length false)]) 1 [] false),false),hoq231,(10,(.defd false),false),(11,(.defd false),false),hoq2327,hoq233 p,(14,(.lst 1 (jI to)),true),(15,(.lst 4 (jN l)),true),hoq2318,hoq239 at0 fn0 sz,hoq2310 at0 fn0 sz,(19,(.cells (putCells .leaf 0 [(nI y0.op),(nI 0),(iI zk1),(iP y0.pats)]) 4 [] false),false),hoq2319] 21),rn 7,.app (jN (l++ [(Node.mk y0.op 0 zk1 zs2)])) (l++ [(Node.mk y0.op 0 zk1 zs2)]).length,rn 16,aI (Node.av y0),rn 2,aL y0.kids,rn 4] ⟨kl_map (fun _=>rfl) (fun _=>rfl) _ _ _,⟨kl_map (fun _=>rfl) (fun _=>rfl) _ _ _,⟨kl_map (fun _=>rfl) (fun _=>rfl) _ _ _,⟨kk,⟨kk,trivial⟩⟩⟩⟩⟩
theorem wtTB_E_5 (p:Prog)(mf mc:List (Int×Int))(ml: (List (Int×Bool)))(to:List Int)(l:List Node)(at0 fn0 sz:Int)(y0:Node)(zk1:List Int)(zs2:List Pat)(h0:mGet fn0 ml=some true)(h1:0≤at0)(h2: ((p.nodes)[at0.toNat]?) =some y0)(h3: (y0.op== (4:Int)) =false)(h4: (y0.op== (14:Int)) =false)(h5:Spec PP (.enter 91 [(iI y0.kids),(.func 92 [] [(.ptr 7 0)])]) (hpOf [hoq2329 mf,hoq2330 mc,hoq2328,hoq2331 ml,hoq237,hoq234 p,hoq2317,hoq2314 p,(8,(.cells (putCells .leaf 0 [(.gl 15 4 0 l.length false)]) 1 [] false),false),hoq231,(10,(.defd false),false),(11,(.defd false),false),hoq2327,hoq233 p,(14,(.lst 1 (jI to)),true),(15,(.lst 4 (jN l)),true),hoq2318,hoq239 at0 fn0 sz,hoq2310 at0 fn0 sz,(19,(.cells (putCells .leaf 0 [(nI y0.op),(nI y0.n),(iI y0.kids),(iP y0.pats)]) 4 [] false),false)] 20) (.ret (iI zk1)) (hpOf [hoq2329 mf,hoq2330 mc,hoq2328,hoq2331 ml,hoq237,hoq234 p,hoq2317,hoq2314 p,(8,(.cells (putCells .leaf 0 [(.gl 15 4 0 l.length false)]) 1 [] false),false),hoq231,(10,(.defd false),false),(11,(.defd false),false),hoq2327,hoq233 p,(14,(.lst 1 (jI to)),true),(15,(.lst 4 (jN l)),true),hoq2318,hoq239 at0 fn0 sz,hoq2310 at0 fn0 sz,(19,(.cells (putCells .leaf 0 [(nI y0.op),(nI y0.n),(iI y0.kids),(iP y0.pats)]) 4 [] false),false)] 20))(h6:Spec PP (.enter 93 [(iP y0.pats),(.func 94 [] [(.ptr 16 0)])]) (hpOf [hoq2329 mf,hoq2330 mc,hoq2328,hoq2331 ml,hoq237,hoq234 p,hoq2317,hoq2314 p,(8,(.cells (putCells .leaf 0 [(.gl 15 4 0 l.length false)]) 1 [] false),false),hoq231,(10,(.defd false),false),(11,(.defd false),false),hoq2327,hoq233 p,(14,(.lst 1 (jI to)),true),(15,(.lst 4 (jN l)),true),hoq2318,hoq239 at0 fn0 sz,hoq2310 at0 fn0 sz,(19,(.cells (putCells .leaf 0 [(nI y0.op),(nI y0.n),(iI zk1),(iP y0.pats)]) 4 [] false),false)] 20) (.ret (iP zs2)) (hpOf [hoq2329 mf,hoq2330 mc,hoq2328,hoq2331 ml,hoq237,hoq234 p,hoq2317,hoq2314 p,(8,(.cells (putCells .leaf 0 [(.gl 15 4 0 l.length false)]) 1 [] false),false),hoq231,(10,(.defd false),false),(11,(.defd false),false),hoq2327,hoq233 p,(14,(.lst 1 (jI to)),true),(15,(.lst 4 (jN l)),true),hoq2318,hoq239 at0 fn0 sz,hoq2310 at0 fn0 sz,(19,(.cells (putCells .leaf 0 [(nI y0.op),(nI y0.n),(iI zk1),(iP y0.pats)]) 4 [] false),false)] 20))(h7:List.length (l++ [(Node.mk y0.op y0.n zk1 zs2)]) ≤1000000) :
  LeadsM PP 17 (wtTB_s p mf mc ml to l at0 fn0 sz).as (wtTB_c0 p mf mc ml to l at0 fn0 sz y0.kids (y0.kids.length:Int) (l++ [(Node.mk y0.op y0.n zk1 zs2)]) 0).as:=
 wW 22 [17,21] [qp (p:=findK (avI fn0) (mEnts avI avB 0 ml) 0=some (some (mIdx fn0 ml,(avB true)))) (look_some key_avI h0),qp h1,qg Node.av h2,qp h3,qp h4,qp h5,qp h6,qp (app_p1 Node.av l),qp h7,qp (app_p3 Node.av l [(Node.mk y0.op y0.n zk1 zs2)]),qp (app_p4 Node.av l [(Node.mk y0.op y0.n zk1 zs2)]),qp h1,qg Node.av h2,ql avI y0.kids] [rn 32,.ans (.look (some (mIdx fn0 ml,(avB true)))),rn 15,aI (Node.av y0),rn 16,bf 56,rn 6,bf 63,rn 8,.call (iI zk1) (hpOf [hoq2329 mf,hoq2330 mc,hoq2328,hoq2331 ml,hoq237,hoq234 p,hoq2317,hoq2314 p,(8,(.cells (putCells .leaf 0 [(.gl 15 4 0 l.length false)]) 1 [] false),false),hoq231,(10,(.defd false),false),(11,(.defd false),false),hoq2327,hoq233 p,(14,(.lst 1 (jI to)),true),(15,(.lst 4 (jN l)),true),hoq2318,hoq239 at0 fn0 sz,hoq2310 at0 fn0 sz,(19,(.cells (putCells .leaf 0 [(nI y0.op),(nI y0.n),(iI y0.kids),(iP y0.pats)]) 4 [] false),false)] 20),rn 8,.call (iP zs2) (hpOf [hoq2329 mf,hoq2330 mc,hoq2328,hoq2331 ml,hoq237,hoq234 p,hoq2317,hoq2314 p,(8,(.cells (putCells .leaf 0 [(.gl 15 4 0 l.length false)]) 1 [] false),false),hoq231,(10,(.defd false),false),(11,(.defd false),false),hoq2327,hoq233 p,(14,(.lst 1 (jI to)),true),(15,(.lst 4 (jN l)),true),hoq2318,hoq239 at0 fn0 sz,hoq2310 at0 fn0 sz,(19,(.cells (putCells .leaf 0 [(nI y0.op),(nI y0.n),(iI zk1),(iP y0.pats)]) 4 [] false),false)] 20),rn 7,.app (jN (l++ [(Node.mk y0.op y0.n zk1 zs2)])) (l++ [(Node.mk y0.op y0.n zk1 zs2)]).length,rn 16,aI (Node.av y0),rn 2,aL y0.kids,rn 4] ⟨kl_map (fun _=>rfl) (fun _=>rfl) _ _ _,⟨kl_map (fun _=>rfl) (fun _=>rfl) _ _ _,⟨kl_map (fun _=>rfl) (fun _=>rfl) _ _ _,⟨kk,⟨kk,trivial⟩⟩⟩⟩⟩
theorem wtTB_0_0 (p:Prog)(mf mc:List (Int×Int))(ml: (List (Int×Bool)))(to:List Int)(l:List Node)(at0 fn0 sz:Int)(t19:List Int)(t20:Int)(l18:List Node)(t21 y0:Int)(y1:Node)(y2:Int)(zm3:List Node)(h0:decide (t21<t20) =true)(h1:0≤t21)(h2: ((t19)[t21.toNat]?) =some y0)(h3:0≤at0)(h4: ((p.nodes)[at0.toNat]?) =some y1)(h5:Pure PP 87 [(Node.av y1),(nI t21)] (nI y2))(h6:Spec PP (.enter 86 [(.agg [(nI y0),(nI fn0),(nI (IntKind.i64.wrap (sz+y2)))]),(.ptr 12 0),(.ptr 13 0),(.ptr 4 0)]) (hpOf [hoq2329 mf,hoq2330 mc,hoq2328,hoq2331 ml,hoq237,hoq234 p,hoq2317,hoq2314 p,hoq2316 l18,hoq230,(10,(.defd false),false),(11,(.defd false),false),hoq2327,hoq233 p,(14,(.lst 1 (jI to)),true),hoq2318,hoq239 at0 fn0 sz,(18,(.lst 4 (jN l18)),true)] 19) (.ret (bV true)) (hpOf [hoq2329 mf,hoq2330 mc,hoq2328,hoq2331 ml,hoq237,hoq234 p,hoq2317,hoq2314 p,hoq2312 l18 zm3,hoq230,(10,(.defd false),false),(11,(.defd false),false),hoq2327,hoq233 p,(14,(.lst 1 (jI to)),true),hoq2318,hoq239 at0 fn0 sz,hoq2333 l18 zm3] 20))(h7: (IntKind.i64.wrap (t21+ (1:Int))) = (t21+ (1:Int))) :
  LeadsM PP 17 (wtTB_c0 p mf mc ml to l at0 fn0 sz t19 t20 l18 t21).as (wtTB_c0 p mf mc ml to l at0 fn0 sz t19 t20 (l18++zm3) (t21+ (1:Int))).as:=
 wW 20 [17,19] [qp h0,qp h1,qg avI h2,qp h3,qg Node.av h4,qp h5,qp h6,qr (nI sz),qr (nI sz),qr (nI fn0),qr (nI fn0),qr (AV.func 86 [] [(.ptr 12 0),(.ptr 13 0),(.ptr 4 0)]),qr (AV.func 86 [] [(.ptr 12 0),(.ptr 13 0),(.ptr 4 0)]),qp (congrArg (AV.int .i64) h7)] [rn 5,bt 22,rn 7,aI (avI y0),rn 5,.reg [.d,.d,.d,.d,.d,.d,.d,.d,.d,.d,.d,.ans (.idx (Node.av y1)),.d,.d,.pure (nI y2),.d,.d,.call (bV true) (hpOf [hoq2329 mf,hoq2330 mc,hoq2328,hoq2331 ml,hoq237,hoq234 p,hoq2317,hoq2314 p,hoq2312 l18 zm3,hoq230,(10,(.defd false),false),(11,(.defd false),false),hoq2327,hoq233 p,(14,(.lst 1 (jI to)),true),hoq2318,hoq239 at0 fn0 sz,hoq2333 l18 zm3] 20),.d],rn 5,sI 45 (t21+ (1:Int)),rn 3] ⟨kl_map (fun _=>rfl) (fun _=>rfl) _ _ _,⟨kl_map (fun _=>rfl) (fun _=>rfl) _ _ _,⟨kl_map (fun _=>rfl) (fun _=>rfl) _ _ _,⟨kk,⟨kk,trivial⟩⟩⟩⟩⟩
theorem wtTB_0_1 (p:Prog)(mf mc:List (Int×Int))(ml: (List (Int×Bool)))(to:List Int)(l:List Node)(at0 fn0 sz:Int)(t19:List Int)(t20:Int)(l18:List Node)(t21:Int)(h0:decide (t21<t20) =false) :
  Ends PP 17 (wtTB_c0 p mf mc ml to l at0 fn0 sz t19 t20 l18 t21).as (.ret (bV true)) (hpOf [hoq2329 mf,hoq2330 mc,hoq2328,hoq2331 ml,hoq237,hoq234 p,hoq2317,hoq2314 p,(8,(.cells (putCells .leaf 0 [(.gl 17 4 0 l18.length false)]) 1 [] false),false),hoq230,(10,(.defd false),false),(11,(.defd false),false),hoq2327,hoq233 p,(14,(.lst 1 (jI to)),true),hoq2318,(17,(.lst 4 (jN l18)),true)] 18) :=
 wE 19 [18] [qp h0] [rn 5,bf 22,rn 7] ⟨kl_map (fun _=>rfl) (fun _=>rfl) _ _ _,⟨kl_map (fun _=>rfl) (fun _=>rfl) _ _ _,⟨kl_map (fun _=>rfl) (fun _=>rfl) _ _ _,⟨kk,⟨kk,trivial⟩⟩⟩⟩⟩
noncomputable def wtNB_s (p:Prog)(mf mc:List (Int×Int))(ml: (List (Int×Bool)))(to:List Int)(l:List Node)(at0 fn0 sz:Int) :TS:=startH PP 86 [(.agg [(nI at0),(nI fn0),(nI sz)]),(.ptr 12 0),(.ptr 13 0),(.ptr 4 0)] [hoq2329 mf,hoq2330 mc,hoq2328,hoq2331 ml,hoq237,hoq234 p,hoq2317,hoq2314 p,(8,(.cells (putCells .leaf 0 [(.gl 15 4 0 l.length false)]) 1 [] false),false),hoq230,(10,(.defd false),false),(11,(.defd false),false),hoq2327,hoq233 p,(14,(.lst 1 (jI to)),true),(15,(.lst 4 (jN l)),true),hoq2318] 17
noncomputable def wtNB_c0 (p:Prog)(mf mc:List (Int×Int))(ml: (List (Int×Bool)))(to:List Int)(l:List Node)(at0 fn0 sz:Int)(t19:List Int)(t20 t21:Int) :TS:=
 {fr:={fn:=86,nt:=46,sl:=[(2,(.ptr 13 0)),(3,(.ptr 4 0)),(4,(.ptr 17 0)),(5,(bV false)),(19,(iI t19)),(20,(nI t20)),(21,(nI t21))],todo:=[.code (cd Tryz.f86 [1,1,0,1,0,0]),.inLoop (cd Tryz.f86 [1,1,0,1,0,0]),.inBlock 0,.code (cd Tryz.f86 [1,1,1])]},cs:=[],hp:=[hoq2329 mf,hoq2330 mc,hoq2328,hoq2331 ml,hoq237,hoq234 p,hoq2317,hoq2314 p,(8,(.cells (putCells .leaf 0 [(.gl 15 4 0 l.length false)]) 1 [] false),false),hoq230,(10,(.defd false),false),(11,(.defd false),false),hoq2327,hoq233 p,(14,(.lst 1 (jI to)),true),(15,(.lst 4 (jN l)),true),hoq2318,hoq239 at0 fn0 sz],nb:=18}
theorem wtNB_E_0 (p:Prog)(mf mc:List (Int×Int))(ml: (List (Int×Bool)))(to:List Int)(l:List Node)(at0 fn0 sz:Int)(y0:Node)(h0:mGet fn0 ml=none)(h1:0≤at0)(h2: ((p.nodes)[at0.toNat]?) =some y0) :
  LeadsM PP 17 (wtNB_s p mf mc ml to l at0 fn0 sz).as (wtNB_c0 p mf mc ml to l at0 fn0 sz y0.kids (y0.kids.length:Int) 0).as:=
 wW 19 [17] [qp (p:=findK (avI fn0) (mEnts avI avB 0 ml) 0=some none) (look_none key_avI h0),qp h1,qg Node.av h2,ql avI y0.kids] [rn 32,.ans (.look none),rn 21,aI (Node.av y0),rn 2,aL y0.kids,rn 4] ⟨kl_map (fun _=>rfl) (fun _=>rfl) _ _ _,⟨kl_map (fun _=>rfl) (fun _=>rfl) _ _ _,⟨kl_map (fun _=>rfl) (fun _=>rfl) _ _ _,⟨kk,⟨kk,trivial⟩⟩⟩⟩⟩
theorem wtNB_0_0 (p:Prog)(mf mc:List (Int×Int))(ml: (List (Int×Bool)))(to:List Int)(l:List Node)(at0 fn0 sz:Int)(t19:List Int)(t20 t21 y0:Int)(y1:Node)(y2:Int)(h0:decide (t21<t20) =true)(h1:0≤t21)(h2: ((t19)[t21.toNat]?) =some y0)(h3:0≤at0)(h4: ((p.nodes)[at0.toNat]?) =some y1)(h5:Pure PP 87 [(Node.av y1),(nI t21)] (nI y2))(h6:Spec PP (.enter 86 [(.agg [(nI y0),(nI fn0),(nI (IntKind.i64.wrap (sz+y2)))]),(.ptr 12 0),(.ptr 13 0),(.ptr 4 0)]) (hpOf [hoq2329 mf,hoq2330 mc,hoq2328,hoq2331 ml,hoq237,hoq234 p,hoq2317,hoq2314 p,(8,(.cells (putCells .leaf 0 [(.gl 15 4 0 l.length false)]) 1 [] false),false),hoq230,(10,(.defd false),false),(11,(.defd false),false),hoq2327,hoq233 p,(14,(.lst 1 (jI to)),true),(15,(.lst 4 (jN l)),true),hoq2318,hoq239 at0 fn0 sz] 18) (.ret (bV true)) (hpOf [hoq2329 mf,hoq2330 mc,hoq2328,hoq2331 ml,hoq237,hoq234 p,hoq2317,hoq2314 p,(8,(.cells (putCells .leaf 0 [(.gl 15 4 0 l.length false)]) 1 [] false),false),hoq230,(10,(.defd false),false),(11,(.defd false),false),hoq2327,hoq233 p,(14,(.lst 1 (jI to)),true),(15,(.lst 4 (jN l)),true),hoq2318,hoq239 at0 fn0 sz] 18))(h7: (IntKind.i64.wrap (t21+ (1:Int))) = (t21+ (1:Int))) :
  LeadsM PP 17 (wtNB_c0 p mf mc ml to l at0 fn0 sz t19 t20 t21).as (wtNB_c0 p mf mc ml to l at0 fn0 sz t19 t20 (t21+ (1:Int))).as:=
 wW 18 [17] [qp h0,qp h1,qg avI h2,qp h3,qg Node.av h4,qp h5,qp h6,qr (nI sz),qr (nI sz),qr (nI fn0),qr (nI fn0),qr (AV.func 86 [] [(.ptr 12 0),(.ptr 13 0),(.ptr 4 0)]),qr (AV.func 86 [] [(.ptr 12 0),(.ptr 13 0),(.ptr 4 0)]),qp (congrArg (AV.int .i64) h7)] [rn 5,bt 22,rn 7,aI (avI y0),rn 5,.reg [.d,.d,.d,.d,.d,.d,.d,.d,.d,.d,.d,.ans (.idx (Node.av y1)),.d,.d,.pure (nI y2),.d,.d,.call (bV true) (hpOf [hoq2329 mf,hoq2330 mc,hoq2328,hoq2331 ml,hoq237,hoq234 p,hoq2317,hoq2314 p,(8,(.cells (putCells .leaf 0 [(.gl 15 4 0 l.length false)]) 1 [] false),false),hoq230,(10,(.defd false),false),(11,(.defd false),false),hoq2327,hoq233 p,(14,(.lst 1 (jI to)),true),(15,(.lst 4 (jN l)),true),hoq2318,hoq239 at0 fn0 sz] 18),.d],rn 5,sI 45 (t21+ (1:Int)),rn 3] ⟨kl_map (fun _=>rfl) (fun _=>rfl) _ _ _,⟨kl_map (fun _=>rfl) (fun _=>rfl) _ _ _,⟨kl_map (fun _=>rfl) (fun _=>rfl) _ _ _,⟨kk,⟨kk,trivial⟩⟩⟩⟩⟩
theorem wtNB_0_1 (p:Prog)(mf mc:List (Int×Int))(ml: (List (Int×Bool)))(to:List Int)(l:List Node)(at0 fn0 sz:Int)(t19:List Int)(t20 t21:Int)(h0:decide (t21<t20) =false) :
  Ends PP 17 (wtNB_c0 p mf mc ml to l at0 fn0 sz t19 t20 t21).as (.ret (bV true)) (hpOf [hoq2329 mf,hoq2330 mc,hoq2328,hoq2331 ml,hoq237,hoq234 p,hoq2317,hoq2314 p,(8,(.cells (putCells .leaf 0 [(.gl 15 4 0 l.length false)]) 1 [] false),false),hoq230,(10,(.defd false),false),(11,(.defd false),false),hoq2327,hoq233 p,(14,(.lst 1 (jI to)),true),(15,(.lst 4 (jN l)),true),hoq2318] 17) :=
 wE 18 [] [qp h0] [rn 5,bf 22,rn 7] ⟨kl_map (fun _=>rfl) (fun _=>rfl) _ _ _,⟨kl_map (fun _=>rfl) (fun _=>rfl) _ _ _,⟨kl_map (fun _=>rfl) (fun _=>rfl) _ _ _,⟨kk,⟨kk,trivial⟩⟩⟩⟩⟩
end Go.Hb
namespace Go.Hb
open Go.Proofs
set_option maxHeartbeats 2000000
noncomputable section
abbrev MB (m:List (Int×Bool)) :AObj:=.map (mEnts avI avB 0 m) (List.length m)
theorem mb_kl (m:List (Int×Bool)) : (MB m).kl:=kl_map (fun _=>rfl) (fun _=>rfl) _ _ _
abbrev wargsTA (a fn sz:Int) :List AV:=[stepAV a fn sz,.ptr 11 0,.ptr 12 0,.ptr 4 0]
section
variable (p :Prog) (mf mc:List (Int×Int)) (ml:List (Int×Bool))
def WalkTA (a fn sz:Int)(s s':List Int×Int) :Prop:=Spec PP (.enter 86 (wargsTA a fn sz)) (hpOf (HTA p mf mc ml s.1 s.2) 15) (.ret (.bool true)) (hpOf (HTA p mf mc ml s'.1 s'.2) 15)
variable {p mf mc ml}
theorem wtTA_frame {s s':List Int×Int}{a fn sz b gn tz:Int}(h:WalkTA p mf mc ml a fn sz s s') :
  Spec PP (.enter 86 (wargsTA a fn sz)) (hpOf (HTA p mf mc ml s.1 s.2++boxS 15 b gn tz) 16) (.ret (.bool true)) (hpOf (HTA p mf mc ml s'.1 s'.2++boxS 15 b gn tz) 16) :=
 spec_frame h (by kernel_rfl) (by rfl) (by rfl) (by kernel_rfl) (by kernel_rfl) ⟨mo_kl mf,mo_kl mc,mb_kl ml,keylessL_map _ (fun _=>rfl) _,trivial⟩ (by kernel_rfl) (by kernel_rfl) (by kernel_rfl)
theorem wtTA_start {l:List Int}{n a fn sz:Int}{s':List Int×Int}(h:Ends PP 15 (wtTA_s p mf mc ml l n a fn sz).as (.ret (.bool true)) (hpOf (HTA p mf mc ml s'.1 s'.2) 15)) :WalkTA p mf mc ml a fn sz (l,n) s':=
 ⟨(wtTA_s p mf mc ml l n a fn sz).as.fr,by kernel_rfl,Eq.mp (by kernel_rfl) h⟩
theorem wtTA_loop (hp:FineP p){f:Nat}{a fn sz:Int}(l0:List Int)(n0:Int){x:Node}(ha:0≤a)(hx:p.nodes[a.toNat]?=some x)(hs0:0≤sz)(hs:sz≤1000* (a+1))
  (ih:∀ (k tz:Int) (s s':List Int×Int),a<k→k<p.nodes.length→s.1.length=p.nodes.length→0≤tz→tz≤1000* (k+1) →wA p f k s=some s'→WalkTA p mf mc ml k fn tz s s') :
  ∀ (t:List Int) (j:Nat) (s s':List Int×Int),s.1.length=p.nodes.length→x.kids.drop j=t→wAs (wA p f) t s=some s'→Ends PP 15 (wtTA_c0 p mf mc ml l0 n0 a fn sz x.kids ((List.length x.kids:Nat) :Int) (j:Int) s.1 s.2).as (.ret (.bool true)) (hpOf (HTA p mf mc ml s'.1 s'.2) 15)
 | [],j,s,s',hl,h,hw=>by
  have:=dropN h
  cases hw
  exact wtTA_0_1 p mf mc ml l0 n0 a fn sz x.kids _ j s.1 s.2 sd
 | k ::t,j,s,s',hl,h,hw=>by
  obtain⟨g1,g2,g3⟩ :=dropC h
  obtain⟨hf,hk10,hks⟩ :=hp.node _ _ hx
  have hk:=hks k (List.mem_of_getElem? g1)
  have hb:=addsN_le hf (j:Int)
  have hn:=hp.small
  have ew:IntKind.i64.wrap (sz+addsN x j) =sz+addsN x j:=wrap64 (by omega) (by omega)
  simp only [wAs]at hw
  split at hw
  · rename_i s1 h1
    have hsp:Spec PP (.enter 86 (wargsTA k fn (IntKind.i64.wrap (sz+addsN x j)))) (hpOf (HTA p mf mc ml s.1 s.2++boxS 15 a fn sz) 16) (.ret (.bool true)) (hpOf (HTA p mf mc ml s1.1 s1.2++boxS 15 a fn sz) 16) :=by
     rw [ew]
     exact wtTA_frame (ih k (sz+addsN x j) s s1 (by omega) (by omega) hl (by omega) (by omega) h1)
    have hstep:=wtTA_0_0 p mf mc ml l0 n0 a fn sz x.kids ((List.length x.kids:Nat) :Int) j s.1 s.2 k x _ s1.1 s1.2 sd sd sd ha hx (bAdds_pure hf (by omega) (by omega) hk10) hsp sd
    exact hstep.ends (wtTA_loop hp l0 n0 ha hx hs0 hs ih t (j+1) s1 s' (by rw [wA_len p f k s s1 h1,hl]) g2 hw)
  ·cases hw
theorem wtTA_walk (hp:FineP p)(fn:Int)(hT:mGet fn ml=some true) :∀ (f:Nat) (a sz:Int) (s s':List Int×Int),0≤a→a<p.nodes.length→s.1.length=p.nodes.length→0≤sz→sz≤1000* (a+1) →wA p f a s=some s'→WalkTA p mf mc ml a fn sz s s'
 |0,a,sz,s,s',ha,hn,hl,_,_,h=>by cases h
 | f + 1,a,sz,(l,n),s',ha,hn,hl,h0,h1,h=>by
  have hl:l.length=p.nodes.length:=hl
  simp only [wA]at h
  split at h
  · rename_i hr
    split at h
    · rename_i x hx
      obtain⟨y,hy⟩ :∃y,l[a.toNat]?=some y:= ⟨_,List.getElem?_eq_getElem (by omega)⟩
      refine wtTA_start ?_
      refine(wtTA_E_0 p mf mc ml l n a fn sz y x hT ha hn hy sd hx).ends ?_
      exact wtTA_loop hp l n ha hx h0 h1 (fun k tz s s' hk hkn hl ht0 ht hw=>wtTA_walk hp fn hT f k tz s s' (by omega) hkn hl ht0 ht hw) x.kids 0 (l.set a.toNat n,n+1) s' (by simpa using hl) rfl h
    ·cases h
  ·cases h
theorem wtNA_start {l:List Int}{n a fn sz:Int}{s':List Int×Int}(h:Ends PP 15 (wtNA_s p mf mc ml l n a fn sz).as (.ret (.bool true)) (hpOf (HTA p mf mc ml s'.1 s'.2) 15)) :WalkTA p mf mc ml a fn sz (l,n) s':=
 ⟨(wtNA_s p mf mc ml l n a fn sz).as.fr,by kernel_rfl,Eq.mp (by kernel_rfl) h⟩
theorem wtNA_loop (hp:FineP p){f:Nat}{a fn sz:Int}(l:List Int)(n:Int){x:Node}(ha:0≤a)(hx:p.nodes[a.toNat]?=some x)(hs0:0≤sz)(hs:sz≤1000* (a+1))
  (ih:∀ (k tz:Int),a<k→k<p.nodes.length→0≤tz→tz≤1000* (k+1) →p.nodes.length-k.toNat≤f→WalkTA p mf mc ml k fn tz (l,n) (l,n)) (hf':p.nodes.length-a.toNat≤f+1) :
  ∀ (t:List Int) (j:Nat),x.kids.drop j=t→Ends PP 15 (wtNA_c0 p mf mc ml l n a fn sz x.kids ((List.length x.kids:Nat) :Int) (j:Int)).as (.ret (.bool true)) (hpOf (HTA p mf mc ml l n) 15)
 | [],j,h=>by
  have:=dropN h
  exact wtNA_0_1 p mf mc ml l n a fn sz x.kids _ j sd
 | k::t,j,h=>by
  obtain⟨g1,g2,g3⟩ :=dropC h
  obtain⟨hf,hk10,hks⟩ :=hp.node _ _ hx
  have hk:=hks k (List.mem_of_getElem? g1)
  have hb:=addsN_le hf (j:Int)
  have hn:=hp.small
  have ew:IntKind.i64.wrap (sz+addsN x j) =sz+addsN x j:=wrap64 (by omega) (by omega)
  have hsp:Spec PP (.enter 86 (wargsTA k fn (IntKind.i64.wrap (sz+addsN x j)))) (hpOf (HTA p mf mc ml l n++boxS 15 a fn sz) 16) (.ret (.bool true)) (hpOf (HTA p mf mc ml l n++boxS 15 a fn sz) 16) :=by
   rw [ew]
   exact wtTA_frame (s:= (l,n)) (s':= (l,n)) (ih k (sz+addsN x j) (by omega) (by omega) (by omega) (by omega) (by omega))
  have hstep:=wtNA_0_0 p mf mc ml l n a fn sz x.kids ((List.length x.kids:Nat) :Int) j k x _ sd sd sd ha hx (bAdds_pure hf (by omega) (by omega) hk10) hsp sd
  exact hstep.ends (wtNA_loop hp l n ha hx hs0 hs ih hf' t (j+1) g2)
theorem wtNA_walk (hp:FineP p)(fn:Int)(hN:mGet fn ml=none) :∀ (f:Nat) (a sz:Int) (s:List Int×Int),0≤a→a<p.nodes.length→p.nodes.length-a.toNat≤f→0≤sz→sz≤1000* (a+1) →WalkTA p mf mc ml a fn sz s s
 |0,a,sz,s,ha,hn,hf,_,_=>by omega
 | f+1,a,sz,(l,n),ha,hn,hf,h0,h1=>by
  obtain⟨x,hx⟩ :∃x,p.nodes[a.toNat]?=some x:= ⟨_,List.getElem?_eq_getElem (by omega)⟩
  refine wtNA_start ?_
  refine(wtNA_E_0 p mf mc ml l n a fn sz x hN ha hx).ends ?_
  exact wtNA_loop hp (f:=f) l n ha hx h0 h1 (fun k tz hk hkn ht0 ht hkf=>wtNA_walk hp fn hN f k tz (l,n) (by omega) hkn hkf ht0 ht) hf x.kids 0 rfl
end
abbrev wargsTB (a fn sz:Int) :List AV:=[stepAV a fn sz,.ptr 12 0,.ptr 13 0,.ptr 4 0]
section
variable (p :Prog) (mf mc:List (Int×Int)) (ml:List (Int×Bool)) (to:List Int)
def WalkTB (a fn sz:Int)(l l':List Node) :Prop:=SpecM PP 17 (.enter 86 (wargsTB a fn sz)) (hpOf (HTB p mf mc ml to l) 17) (.ret (.bool true)) (hpOf (HTB1 p mf mc ml to l') 18)
variable {p mf mc ml to}
theorem wtTB_start {l l':List Node}{a fn sz:Int}(h:Ends PP 17 (wtTB_s p mf mc ml to l a fn sz).as (.ret (.bool true)) (hpOf (HTB1 p mf mc ml to l') 18)) :WalkTB p mf mc ml to a fn sz l l':=
 ⟨(wtTB_s p mf mc ml to l a fn sz).as.fr,by kernel_rfl,Eq.mp (by kernel_rfl) h⟩
theorem wtTB_loop (hp:FineP p){f:Nat}{a fn sz:Int}(l0:List Node){x:Node}(ha:0≤a)(hx:p.nodes[a.toNat]?=some x)(hs0:0≤sz)(hs:sz≤1000* (a+1))(hto:to.length=p.nodes.length)
  (ih:∀ (k tz:Int) (l:List Node),a<k→k<p.nodes.length→0≤tz→tz≤1000* (k+1) →l.length+ (wB p mf mc to f k).length≤1000000→WalkTB p mf mc ml to k fn tz l (l++wB p mf mc to f k)) :
  ∀ (t:List Int) (j:Nat) (l:List Node),x.kids.drop j=t→l.length+ ((t.map (wB p mf mc to f)).flatten).length≤1000000→Ends PP 17 (wtTB_c0 p mf mc ml to l0 a fn sz x.kids ((List.length x.kids:Nat) :Int) l (j:Int)).as (.ret (.bool true)) (hpOf (HTB1 p mf mc ml to (l++ (t.map (wB p mf mc to f)).flatten)) 18)
 | [],j,l,h,hb=>by
  have:=dropN h
  rw [List.map_nil,List.flatten_nil,List.append_nil]
  exact wtTB_0_1 p mf mc ml to l0 a fn sz x.kids _ l j sd
 | k ::t,j,l,h,hlen=>by
  obtain⟨g1,g2,g3⟩ :=dropC h
  obtain⟨hf,hk10,hks⟩ :=hp.node _ _ hx
  have hk:=hks k (List.mem_of_getElem? g1)
  have hb:=addsN_le hf (j:Int)
  have hn:=hp.small
  have ew:IntKind.i64.wrap (sz+addsN x j) =sz+addsN x j:=wrap64 (by omega) (by omega)
  simp only [List.map_cons,List.flatten_cons,List.length_append]at hlen
  have hw:WalkTB p mf mc ml to k fn (IntKind.i64.wrap (sz+addsN x j)) l (l++wB p mf mc to f k) :=by
   rw [ew]
   exact ih k (sz+addsN x j) l (by omega) (by omega) (by omega) (by omega) (by omega)
  have hstep:=wtTB_0_0 p mf mc ml to l0 a fn sz x.kids ((List.length x.kids:Nat) :Int) l j k x _ (wB p mf mc to f k) sd sd sd ha hx (bAdds_pure hf (by omega) (by omega) hk10)
   (spec_gen2 (m:=17) (ks:=[0,1,2,3,4,5,6,7,8,9,10,11,12,13,14,18,16]) hw (by rfl) (by rfl) (by kernel_rfl) (by rfl) (by rfl) (by kernel_rfl) (by kernel_rfl)
    ⟨mo_kl mf,mo_kl mc,mb_kl ml,keylessL_map _ (fun _=>rfl) _,keylessL_map _ (fun _=>rfl) _,trivial⟩ (by kernel_rfl) ⟨mo_kl mf,mo_kl mc,mb_kl ml,keylessL_map _ (fun _=>rfl) _,keylessL_map _ (fun _=>rfl) _,trivial⟩
    (by kernel_rfl) (by kernel_rfl) (by kernel_rfl) (by kernel_rfl) (by kernel_rfl) (by kernel_rfl) (by kernel_rfl)) sd
  have h2:=wtTB_loop hp l0 ha hx hs0 hs hto ih t (j+1) (l++wB p mf mc to f k) g2 (by rw [List.length_append];omega)
  rw [List.map_cons,List.flatten_cons,←List.append_assoc]
  exact hstep.ends h2
theorem wtTB_walk (hp:FineP p)(hok:∀ (i:Nat) (x:Node),p.nodes[i]?=some x→nOk mf x)(hto:to.length=p.nodes.length)(fn:Int)(hT:mGet fn ml=some true) :∀ (f:Nat) (a sz:Int) (l:List Node),0≤a→a<p.nodes.length→p.nodes.length-a.toNat≤f→0≤sz→sz≤1000* (a+1) →l.length+ (wB p mf mc to f a).length≤1000000→WalkTB p mf mc ml to a fn sz l (l++wB p mf mc to f a)
 |0,a,sz,l,ha,hn,hf,_,_,_=>by omega
 | f + 1,a,sz,l,ha,hn,hf,h0,h1,hb=>by
  obtain⟨x,hx⟩ :∃x,p.nodes[a.toNat]?=some x:= ⟨_,List.getElem?_eq_getElem (by omega)⟩
  obtain⟨hfx,hk10,hks⟩ :=hp.node _ _ hx
  obtain⟨hps,hnn⟩ :=hok _ _ hx
  have e:wB p mf mc to (f+1) a=bNode mf mc to x:: (x.kids.map (wB p mf mc to f)).flatten:=by rw [wB,hx]
  rw [e]at hb ⊢
  simp only [List.length_cons]at hb
  have hC:=wtTB_loop (mf:=mf) (mc:=mc) (ml:=ml) (to:=to) (fn:=fn) hp (f:=f) l ha hx h0 h1 hto (fun k tz l hk hkn ht0 ht hl=>wtTB_walk hp hok hto fn hT f k tz l (by omega) hkn (by omega) ht0 ht hl) x.kids 0 (l++ [bNode mf mc to x]) rfl (by simp only [List.length_append,List.length_cons,List.length_nil];omega)
  rw [List.append_assoc,List.singleton_append]at hC
  have hI:=mapI_spec x.kids to p.nodes.length (by omega) hto (fun k hk=>by have:=hks k hk;omega)
  have hM:=mapC_spec mf mc x.pats hps
  have hlen:∀y:Node,List.length (l++ [y]) ≤1000000:=fun y=>by rw [List.length_append];simp only [List.length_cons,List.length_nil];omega
  refine wtTB_start ?_
  by_cases h4:x.op=4
  · by_cases hN:0≤x.n
    · have eN:bNode mf mc to x= ⟨x.op,x.n,x.kids.map (toAt to),cPats mc x.pats⟩ :=by unfold bNode bN;rw [if_pos h4,if_pos hN]
      rw [eN]at hC ⊢
      exact(wtTB_E_0 p mf mc ml to l a fn sz x _ _ hT ha hx (by simp [h4]) (by simp;omega) (spec_in (ks:=[7,14]) hI (by kernel_rfl) rfl (by kernel_rfl) (by kernel_rfl) ⟨keylessL_map _ (fun _=>rfl) _,trivial⟩ (by kernel_rfl) ⟨keylessL_map _ (fun _=>rfl) _,trivial⟩ (by kernel_rfl) (by kernel_rfl) (by kernel_rfl) (by kernel_rfl) (by kernel_rfl) (by kernel_rfl) (by kernel_rfl) (by kernel_rfl)) (spec_in (ks:=[0,1,16]) hM (by kernel_rfl) rfl (by kernel_rfl) (by kernel_rfl) ⟨mo_kl mf,mo_kl mc,trivial⟩ (by kernel_rfl) ⟨mo_kl mf,mo_kl mc,trivial⟩ (by kernel_rfl) (by kernel_rfl) (by kernel_rfl) (by kernel_rfl) (by kernel_rfl) (by kernel_rfl) (by kernel_rfl) (by kernel_rfl)) (hlen _)).ends hC
    · obtain⟨r1,r2,r3⟩ :=hnn h4 (by omega)
      cases hm:mGet (-1-x.n) mf with
      | some y=>
       have em:mAt mf (-1-x.n) =y:=by unfold mAt;rw [hm];rfl
       have eN:bNode mf mc to x= ⟨x.op,-1-y,x.kids.map (toAt to),cPats mc x.pats⟩ :=by unfold bNode bN;rw [if_pos h4,if_neg hN,em]
       rw [em]at r2 r3
       rw [eN]at hC ⊢
       exact(wtTB_E_1 p mf mc ml to l a fn sz x y _ _ hT ha hx (by simp [h4]) (by simp;omega) sd hm sd (spec_in (ks:=[7,14]) hI (by kernel_rfl) rfl (by kernel_rfl) (by kernel_rfl) ⟨keylessL_map _ (fun _=>rfl) _,trivial⟩ (by kernel_rfl) ⟨keylessL_map _ (fun _=>rfl) _,trivial⟩ (by kernel_rfl) (by kernel_rfl) (by kernel_rfl) (by kernel_rfl) (by kernel_rfl) (by kernel_rfl) (by kernel_rfl) (by kernel_rfl)) (spec_in (ks:=[0,1,16]) hM (by kernel_rfl) rfl (by kernel_rfl) (by kernel_rfl) ⟨mo_kl mf,mo_kl mc,trivial⟩ (by kernel_rfl) ⟨mo_kl mf,mo_kl mc,trivial⟩ (by kernel_rfl) (by kernel_rfl) (by kernel_rfl) (by kernel_rfl) (by kernel_rfl) (by kernel_rfl) (by kernel_rfl) (by kernel_rfl)) (hlen _)).ends hC
      | none=>
       have em:mAt mf (-1-x.n) =0:=by unfold mAt;rw [hm];rfl
       have eN:bNode mf mc to x= ⟨x.op,-1,x.kids.map (toAt to),cPats mc x.pats⟩ :=by unfold bNode bN;rw [if_pos h4,if_neg hN,em];rfl
       rw [eN]at hC ⊢
       exact(wtTB_E_2 p mf mc ml to l a fn sz x _ _ hT ha hx (by simp [h4]) (by simp;omega) sd hm (spec_in (ks:=[7,14]) hI (by kernel_rfl) rfl (by kernel_rfl) (by kernel_rfl) ⟨keylessL_map _ (fun _=>rfl) _,trivial⟩ (by kernel_rfl) ⟨keylessL_map _ (fun _=>rfl) _,trivial⟩ (by kernel_rfl) (by kernel_rfl) (by kernel_rfl) (by kernel_rfl) (by kernel_rfl) (by kernel_rfl) (by kernel_rfl) (by kernel_rfl)) (spec_in (ks:=[0,1,16]) hM (by kernel_rfl) rfl (by kernel_rfl) (by kernel_rfl) ⟨mo_kl mf,mo_kl mc,trivial⟩ (by kernel_rfl) ⟨mo_kl mf,mo_kl mc,trivial⟩ (by kernel_rfl) (by kernel_rfl) (by kernel_rfl) (by kernel_rfl) (by kernel_rfl) (by kernel_rfl) (by kernel_rfl) (by kernel_rfl)) (hlen _)).ends hC
  · by_cases h14:x.op=14
    · cases hm:mGet x.n mc with
      | some y=>
       have eN:bNode mf mc to x= ⟨x.op,y,x.kids.map (toAt to),cPats mc x.pats⟩ :=by unfold bNode bN;rw [if_neg h4,if_pos h14];unfold mAt;rw [hm];rfl
       rw [eN]at hC ⊢
       exact(wtTB_E_3 p mf mc ml to l a fn sz x y _ _ hT ha hx (by simp [h4]) (by simp [h14]) hm (spec_in (ks:=[7,14]) hI (by kernel_rfl) rfl (by kernel_rfl) (by kernel_rfl) ⟨keylessL_map _ (fun _=>rfl) _,trivial⟩ (by kernel_rfl) ⟨keylessL_map _ (fun _=>rfl) _,trivial⟩ (by kernel_rfl) (by kernel_rfl) (by kernel_rfl) (by kernel_rfl) (by kernel_rfl) (by kernel_rfl) (by kernel_rfl) (by kernel_rfl)) (spec_in (ks:=[0,1,16]) hM (by kernel_rfl) rfl (by kernel_rfl) (by kernel_rfl) ⟨mo_kl mf,mo_kl mc,trivial⟩ (by kernel_rfl) ⟨mo_kl mf,mo_kl mc,trivial⟩ (by kernel_rfl) (by kernel_rfl) (by kernel_rfl) (by kernel_rfl) (by kernel_rfl) (by kernel_rfl) (by kernel_rfl) (by kernel_rfl)) (hlen _)).ends hC
      | none=>
       have eN:bNode mf mc to x= ⟨x.op,0,x.kids.map (toAt to),cPats mc x.pats⟩ :=by unfold bNode bN;rw [if_neg h4,if_pos h14];unfold mAt;rw [hm];rfl
       rw [eN]at hC ⊢
       exact(wtTB_E_4 p mf mc ml to l a fn sz x _ _ hT ha hx (by simp [h4]) (by simp [h14]) hm (spec_in (ks:=[7,14]) hI (by kernel_rfl) rfl (by kernel_rfl) (by kernel_rfl) ⟨keylessL_map _ (fun _=>rfl) _,trivial⟩ (by kernel_rfl) ⟨keylessL_map _ (fun _=>rfl) _,trivial⟩ (by kernel_rfl) (by kernel_rfl) (by kernel_rfl) (by kernel_rfl) (by kernel_rfl) (by kernel_rfl) (by kernel_rfl) (by kernel_rfl)) (spec_in (ks:=[0,1,16]) hM (by kernel_rfl) rfl (by kernel_rfl) (by kernel_rfl) ⟨mo_kl mf,mo_kl mc,trivial⟩ (by kernel_rfl) ⟨mo_kl mf,mo_kl mc,trivial⟩ (by kernel_rfl) (by kernel_rfl) (by kernel_rfl) (by kernel_rfl) (by kernel_rfl) (by kernel_rfl) (by kernel_rfl) (by kernel_rfl)) (hlen _)).ends hC
    · have eN:bNode mf mc to x= ⟨x.op,x.n,x.kids.map (toAt to),cPats mc x.pats⟩ :=by unfold bNode bN;rw [if_neg h4,if_neg h14]
      rw [eN]at hC ⊢
      exact(wtTB_E_5 p mf mc ml to l a fn sz x _ _ hT ha hx (by simp [h4]) (by simp [h14]) (spec_in (ks:=[7,14]) hI (by kernel_rfl) rfl (by kernel_rfl) (by kernel_rfl) ⟨keylessL_map _ (fun _=>rfl) _,trivial⟩ (by kernel_rfl) ⟨keylessL_map _ (fun _=>rfl) _,trivial⟩ (by kernel_rfl) (by kernel_rfl) (by kernel_rfl) (by kernel_rfl) (by kernel_rfl) (by kernel_rfl) (by kernel_rfl) (by kernel_rfl)) (spec_in (ks:=[0,1,16]) hM (by kernel_rfl) rfl (by kernel_rfl) (by kernel_rfl) ⟨mo_kl mf,mo_kl mc,trivial⟩ (by kernel_rfl) ⟨mo_kl mf,mo_kl mc,trivial⟩ (by kernel_rfl) (by kernel_rfl) (by kernel_rfl) (by kernel_rfl) (by kernel_rfl) (by kernel_rfl) (by kernel_rfl) (by kernel_rfl)) (hlen _)).ends hC
def WalkNB (p:Prog)(mf mc:List (Int×Int))(ml:List (Int×Bool))(to:List Int)(a fn sz:Int)(l:List Node) :Prop:=Spec PP (.enter 86 (wargsTB a fn sz)) (hpOf (HTB p mf mc ml to l) 17) (.ret (.bool true)) (hpOf (HTB p mf mc ml to l) 17)
theorem wtNB_frame {l:List Node}{a fn sz b gn tz:Int}(h:WalkNB p mf mc ml to a fn sz l) :
  Spec PP (.enter 86 (wargsTB a fn sz)) (hpOf (HTB p mf mc ml to l++boxS 17 b gn tz) 18) (.ret (.bool true)) (hpOf (HTB p mf mc ml to l++boxS 17 b gn tz) 18) :=
 spec_frame h (by kernel_rfl) (by rfl) (by rfl) (by kernel_rfl) (by kernel_rfl) ⟨mo_kl mf,mo_kl mc,mb_kl ml,keylessL_map _ (fun _=>rfl) _,keylessL_map _ (fun _=>rfl) _,trivial⟩ (by kernel_rfl) (by kernel_rfl) (by kernel_rfl)
theorem wtNB_start {l:List Node}{a fn sz:Int}(h:Ends PP 17 (wtNB_s p mf mc ml to l a fn sz).as (.ret (.bool true)) (hpOf (HTB p mf mc ml to l) 17)) :WalkNB p mf mc ml to a fn sz l:=
 ⟨(wtNB_s p mf mc ml to l a fn sz).as.fr,by kernel_rfl,Eq.mp (by kernel_rfl) h⟩
theorem wtNB_loop (hp:FineP p){f:Nat}{a fn sz:Int}(l:List Node){x:Node}(ha:0≤a)(hx:p.nodes[a.toNat]?=some x)(hs0:0≤sz)(hs:sz≤1000* (a+1))
  (ih:∀ (k tz:Int),a<k→k<p.nodes.length→0≤tz→tz≤1000* (k+1) →p.nodes.length-k.toNat≤f→WalkNB p mf mc ml to k fn tz l) (hf':p.nodes.length-a.toNat≤f+1) :
  ∀ (t:List Int) (j:Nat),x.kids.drop j=t→Ends PP 17 (wtNB_c0 p mf mc ml to l a fn sz x.kids ((List.length x.kids:Nat) :Int) (j:Int)).as (.ret (.bool true)) (hpOf (HTB p mf mc ml to l) 17)
 | [],j,h=>by
  have:=dropN h
  exact wtNB_0_1 p mf mc ml to l a fn sz x.kids _ j sd
 | k::t,j,h=>by
  obtain⟨g1,g2,g3⟩ :=dropC h
  obtain⟨hf,hk10,hks⟩ :=hp.node _ _ hx
  have hk:=hks k (List.mem_of_getElem? g1)
  have hb:=addsN_le hf (j:Int)
  have hn:=hp.small
  have ew:IntKind.i64.wrap (sz+addsN x j) =sz+addsN x j:=wrap64 (by omega) (by omega)
  have hsp:Spec PP (.enter 86 (wargsTB k fn (IntKind.i64.wrap (sz+addsN x j)))) (hpOf (HTB p mf mc ml to l++boxS 17 a fn sz) 18) (.ret (.bool true)) (hpOf (HTB p mf mc ml to l++boxS 17 a fn sz) 18) :=by
   rw [ew]
   exact wtNB_frame (ih k (sz+addsN x j) (by omega) (by omega) (by omega) (by omega) (by omega))
  have hstep:=wtNB_0_0 p mf mc ml to l a fn sz x.kids ((List.length x.kids:Nat) :Int) j k x _ sd sd sd ha hx (bAdds_pure hf (by omega) (by omega) hk10) hsp sd
  exact hstep.ends (wtNB_loop hp l ha hx hs0 hs ih hf' t (j+1) g2)
theorem wtNB_walk (hp:FineP p)(fn:Int)(hN:mGet fn ml=none) :∀ (f:Nat) (a sz:Int) (l:List Node),0≤a→a<p.nodes.length→p.nodes.length-a.toNat≤f→0≤sz→sz≤1000* (a+1) →WalkNB p mf mc ml to a fn sz l
 |0,a,sz,l,ha,hn,hf,_,_=>by omega
 | f+1,a,sz,l,ha,hn,hf,h0,h1=>by
  obtain⟨x,hx⟩ :∃x,p.nodes[a.toNat]?=some x:= ⟨_,List.getElem?_eq_getElem (by omega)⟩
  refine wtNB_start ?_
  refine(wtNB_E_0 p mf mc ml to l a fn sz x hN ha hx).ends ?_
  exact wtNB_loop hp (f:=f) l ha hx h0 h1 (fun k tz hk hkn ht0 ht hkf=>wtNB_walk hp fn hN f k tz l (by omega) hkn hkf ht0 ht) hf x.kids 0 rfl
end
end
end Go.Hb
namespace Go.Hb
open Go.Proofs
set_option maxHeartbeats 2000000
noncomputable section
def keepM {α:Type}(ml:List (Int×Bool)) :Nat→List α→List α
 |_,[] =>[]
 |i,k::ks=>if(mGet (i:Int) ml).isSome=true then k::keepM ml (i+1) ks else keepM ml (i+1) ks
def AllT (ml:List (Int×Bool)) :Prop:=∀ (k:Int) (v:Bool),mGet k ml=some v→v=true
def toOfT (p:Prog)(ml:List (Int×Bool))(frm:Int)(f:Nat) :Option (List Int×Int) :=wAs (wA p f) (keepM ml 0 p.funs) (List.replicate p.nodes.length (0:Int),frm)
def nodesT (p:Prog)(ml:List (Int×Bool))(mf mc:List (Int×Int))(to:List Int)(f:Nat) :List Node:= ((keepM ml 0 p.funs).map (wB p mf mc to f)).flatten
section
variable {p :Prog} {mf mc:List (Int×Int)} {ml:List (Int×Bool)}
abbrev OrdResT (p:Prog)(ml:List (Int×Bool))(mf mc:List (Int×Int))(to:List Int)(f:Nat) :AV:=.tup [.ilst 4 (List.map Node.av (nodesT p ml mf mc to f)) false,.ilst 1 (List.map avI ((keepM ml 0 p.funs).map (toAt to))) false]
theorem otr_3 (hp:FineP p)(hml:AllT ml)(frm:Int)(to:List Int)(l:List Node)(hto:to.length=p.nodes.length) :∀ (t:List Int) (i:Nat) (acc:List Int),p.funs.drop i=t→acc.length≤i→i≤p.funs.length →
  LeadsM PP 4 (otr_c2 p mf mc ml frm to l (i:Int) acc).as (otr_c2 p mf mc ml frm to l ((p.funs.length:Nat) :Int) (acc++ (keepM ml i t).map (toAt to))).as
 | [],i,acc,h,ha,hi=>by
  have:=dropN h
  obtain rfl:i=p.funs.length:=by omega
  rw [keepM,List.map_nil,List.append_nil]
  exact LeadsM.refl _
 | k::t,i,acc,h,ha,hi=>by
  obtain⟨g1,g2,g3⟩ :=dropC h
  have hfs:=hp.fsmall
  obtain⟨k0,k1⟩ :=hp.funs k (List.mem_of_getElem? g1)
  have hg:to[k.toNat]?=some (toAt to k) :=by
   unfold toAt
   rw [List.getD_eq_getElem?_getD,List.getElem?_eq_getElem (by omega)];rfl
  rw [keepM]
  cases hm:mGet (i:Int) ml with
  | none=>
   have h0:=otr_2_1 p mf mc ml frm to l i acc k sd sd sd hm sd
   exact h0.trans (otr_3 hp hml frm to l hto t (i+1) acc g2 (by omega) (by omega))
  | some v=>
   obtain rfl:=hml _ _ hm
   have h0:=otr_2_0 p mf mc ml frm to l i acc k _ sd sd sd hm k0 k1 hg (by simp;omega) sd
   have h1:=otr_3 hp hml frm to l hto t (i+1) (acc++ [toAt to k]) g2 (by simp;omega) (by omega)
   rw [if_pos (show(some true).isSome=true from rfl),List.map_cons,show acc++toAt to k::List.map (toAt to) (keepM ml (i+1) t) = (acc++ [toAt to k]) ++List.map (toAt to) (keepM ml (i+1) t)by simp]
   exact h0.trans h1
theorem otr_2 (hp:FineP p)(hml:AllT ml)(hok:∀ (i:Nat) (x:Node),p.nodes[i]?=some x→nOk mf x)(frm:Int)(to:List Int)(f:Nat)(hf:p.nodes.length≤f)(hto:to.length=p.nodes.length) :∀ (t:List Int) (i:Nat) (l:List Node),p.funs.drop i=t→l.length+ (((keepM ml i t).map (wB p mf mc to f)).flatten).length≤1000000 →
  LeadsM PP 4 (otr_c1 p mf mc ml frm to (i:Int) l).as (otr_c2 p mf mc ml frm to (l++ ((keepM ml i t).map (wB p mf mc to f)).flatten) ((p.funs.length:Nat) :Int) ((keepM ml 0 p.funs).map (toAt to))).as
 | [],i,l,h,hb=>by
  have:=dropN h
  rw [keepM,List.map_nil,List.flatten_nil,List.append_nil]
  exact(otr_1_2 p mf mc ml frm to i l sd).trans (otr_3 hp hml frm to l hto p.funs 0 [] rfl (Nat.zero_le _) (Nat.zero_le _))
 | k::t,i,l,h,hb=>by
  obtain⟨g1,g2,g3⟩ :=dropC h
  have hfs:=hp.fsmall
  obtain⟨k0,k1⟩ :=hp.funs k (List.mem_of_getElem? g1)
  rw [keepM]at hb ⊢
  cases hm:mGet (i:Int) ml with
  | none=>
   rw [hm]at hb
   have hw:=wtNB_walk (mf:=mf) (mc:=mc) (to:=to) hp (i:Int) hm f k 1 l k0 k1 (by omega) (by omega) (by omega)
   have h0:=otr_1_0 p mf mc ml frm to i l k sd sd sd hw sd
   exact h0.trans (otr_2 hp hml hok frm to f hf hto t (i+1) l g2 hb)
  | some v=>
   obtain rfl:=hml _ _ hm
   rw [hm,if_pos (show(some true).isSome=true from rfl)]at hb
   simp only [List.map_cons,List.flatten_cons,List.length_append]at hb
   have hw:=wtTB_walk (mf:=mf) (mc:=mc) (to:=to) hp hok hto (i:Int) hm f k 1 l k0 k1 (by omega) (by omega) (by omega) (by omega)
   have h0:=otr_1_1 p mf mc ml frm to i l k (wB p mf mc to f k) sd sd sd hw sd
   have h1:=otr_2 hp hml hok frm to f hf hto t (i+1) (l++wB p mf mc to f k) g2 (by rw [List.length_append];omega)
   rw [if_pos (show(some true).isSome=true from rfl),List.map_cons,List.flatten_cons,←List.append_assoc]
   exact h0.trans h1
theorem otr_1 (hp:FineP p)(hml:AllT ml)(hok:∀ (i:Nat) (x:Node),p.nodes[i]?=some x→nOk mf x)(frm:Int)(f:Nat)(hf:p.nodes.length≤f)(to:List Int)(n:Int)(hb: (nodesT p ml mf mc to f).length≤1000000) :∀ (t:List Int) (i:Nat) (s:List Int×Int),s.1.length=p.nodes.length→p.funs.drop i=t→wAs (wA p f) (keepM ml i t) s=some (to,n) →
  LeadsM PP 4 (otr_c0 p mf mc ml frm (i:Int) s.1 s.2).as (otr_c2 p mf mc ml frm to (nodesT p ml mf mc to f) ((p.funs.length:Nat) :Int) ((keepM ml 0 p.funs).map (toAt to))).as
 | [],i,s,hl,h,hw=>by
  have:=dropN h
  rw [keepM]at hw
  cases hw
  have h1:=otr_2 (mf:=mf) (mc:=mc) hp hml hok frm to f hf hl p.funs 0 [] rfl (by simpa [nodesT]using hb)
  rw [List.nil_append]at h1
  exact(otr_0_2 p mf mc ml frm i to n sd).trans h1
 | k ::t,i,s,hl,h,hw=>by
  obtain⟨g1,g2,g3⟩ :=dropC h
  have hfs:=hp.fsmall
  obtain⟨k0,k1⟩ :=hp.funs k (List.mem_of_getElem? g1)
  rw [keepM]at hw
  cases hm:mGet (i:Int) ml with
  | none=>
   rw [hm]at hw
   have hwk:=wtNA_walk (mf:=mf) (mc:=mc) hp (i:Int) hm f k 1 s k0 k1 (by omega) (by omega) (by omega)
   have h0:=otr_0_0 p mf mc ml frm i s.1 s.2 k sd sd sd hwk sd
   exact h0.trans (otr_1 hp hml hok frm f hf to n hb t (i+1) s hl g2 hw)
  | some v=>
   obtain rfl:=hml _ _ hm
   rw [hm,if_pos (show(some true).isSome=true from rfl)]at hw
   simp only [wAs]at hw
   split at hw
   · rename_i s1 h1
     have hwk:=wtTA_walk (mf:=mf) (mc:=mc) hp (i:Int) hm f k 1 s s1 k0 k1 hl (by omega) (by omega) h1
     have h0:=otr_0_1 p mf mc ml frm i s.1 s.2 k s1.1 s1.2 sd sd sd hwk sd
     exact h0.trans (otr_1 hp hml hok frm f hf to n hb t (i+1) s1 (by rw [wA_len p f k s s1 h1,hl]) g2 hw)
   ·cases hw
theorem orderedT_spec (hp:FineP p)(hml:AllT ml)(hok:∀ (i:Nat) (x:Node),p.nodes[i]?=some x→nOk mf x)(frm:Int)(f:Nat)(hf:p.nodes.length≤f)(to:List Int)(n:Int)(hb: (nodesT p ml mf mc to f).length≤1000000)(hw:toOfT p ml frm f=some (to,n)) :
  Spec PP (.enter 38 [.agg [(.ilst 4 (List.map Node.av p.nodes) false),(.ilst 1 (List.map avI p.funs) false),(.int .i64 p.main),(.ilst 2 (List.map Con.av p.cons) false)],.int .i64 frm,.func 52 [] [.ptr 2 0],.agg [.map 0,.map 1]])
   (hpOf [(0,MO mf,true),(1,MO mc,true),(2,.cells (putCells .leaf 0 [.map 3]) 1 [] false,false),(3,MB ml,true)] 4) (.ret (OrdResT p ml mf mc to f))
   (hpOf [(0,MO mf,true),(1,MO mc,true),(2,.cells (putCells .leaf 0 [.map 3]) 1 [] false,false),(3,MB ml,true)] 4) :=
 have hs:=hp.small
 ⟨(otr_s p mf mc ml frm).as.fr,by kernel_rfl,Eq.mp (by kernel_rfl) (((otr_E_0 p mf mc ml frm (by omega)).trans (otr_1 hp hml hok frm f hf to n hb p.funs 0 (List.replicate p.nodes.length (0:Int),frm) (by simp) rfl hw)).ends (otr_2_2 p mf mc ml frm to _ _ _ (by simp)))⟩
end
end
end Go.Hb
namespace Go.Hb
open Go.Proofs
noncomputable section
inductive KV where
 |row (l:List Int)
 |nil
 |val (u:Value)
def KV.av :KV→AV
 | .row l=>.ilst 1 (List.map avI l) false
 | .nil=>.nils
 | .val u=>.val u
structure ONode where
 op:Int
 n:Int
 kv:KV
 pats:List Pat
def ONode.av (x:ONode) :AV:=.agg [.int .i64 x.op,.int .i64 x.n,x.kv.av,.ilst 4 (Pats.av x.pats) false]
def Node.o (x:Node) :ONode:= ⟨x.op,x.n,.row x.kids,x.pats⟩
theorem nodes_o (l:List Node) :List.map ONode.av (List.map Node.o l) =List.map Node.av l:=by
 rw [List.map_map];rfl
theorem kv_kl :∀k:KV,AV.keyless k.av=true
 | .row l=>by simp only [KV.av,AV.keyless]
 | .nil=>rfl
 | .val u=>rfl
theorem onode_kl (x:ONode) :AV.keyless x.av=true:=by
 simp only [ONode.av,AV.keyless,AV.keylessL,kv_kl,pats_klx,Bool.and_true]
theorem vrs_set {E:Emb}{x y:AV}(hv:∀v,VR E x v→VR E y v) :∀ {xs:List AV} {i:Nat},xs[i]?=some x→∀vs,VRs E xs vs→VRs E (xs.set i y) vs
 | [],i,h,vs,hvs=>by simp at h
 | a::xs,0,h,vs,hvs=>by
  simp only [VRs]at hvs
  obtain⟨u,us,rfl,h1,h2⟩ :=hvs
  simp at h;subst h
  simp only [List.set_cons_zero,VRs]
  exact⟨u,us,rfl,hv u h1,h2⟩
 | a::xs,i+1,h,vs,hvs=>by
  simp only [VRs]at hvs
  obtain⟨u,us,rfl,h1,h2⟩ :=hvs
  simp only [List.getElem?_cons_succ]at h
  simp only [List.set_cons_succ,VRs]
  exact⟨u,us,rfl,h1,vrs_set hv h us h2⟩
theorem onode_vr {E:Emb}{x:ONode}{k:KV}(hk:∀v,VR E x.kv.av v→VR E k.av v) :∀v,VR E x.av v→VR E (ONode.av ⟨x.op,x.n,k,x.pats⟩) v:=fun v h=>by
 simp only [ONode.av,VR,VRs]at h ⊢
 obtain⟨us,rfl,u1,r1,rfl,q1,u2,r2,rfl,q2,u3,r3,rfl,q3,q4⟩ :=h
 exact⟨_,rfl,_,_,rfl,q1,_,_,rfl,q2,_,_,rfl,hk _ q3,q4⟩
theorem vr_nil_row {E:Emb}:∀v,VR E KV.nil.av v→VR E (KV.row []).av v:=fun v h=>by
 simp only [KV.av,VR]at h
 simp only [KV.av,VR,List.map_nil]
 exact⟨[],VRs.nil _,fun _ hu=>by(cases hu),.inl ⟨rfl,none,0,h,fun _=>rfl,fun _=>rfl⟩⟩
theorem vw_nil {l:List ONode}{i:Nat}{y:ONode}(h:l[i]?=some y)(hk:y.kv= .nil) :VW (List.map ONode.av l) (List.map ONode.av (l.set i ⟨y.op,y.n,.row [],y.pats⟩)) :=fun E vs hvs=>by
 have h1: (List.map ONode.av l)[i]?=some y.av:=by rw [List.getElem?_map,h];rfl
 rw [List.map_set]
 exact vrs_set (onode_vr (by rw [hk];exact vr_nil_row)) h1 vs hvs
theorem vq_val {l:List ONode}{i:Nat}{y:ONode}{u:Value}{ks:List Int}(h:l[i]?=some y)(hk:y.kv= .val u) :VQ u 1 (List.map avI ks) (List.map ONode.av l) (List.map ONode.av (l.set i ⟨y.op,y.n,.row ks,y.pats⟩)) :=fun E vs hu hvs=>by
 have h1: (List.map ONode.av l)[i]?=some y.av:=by rw [List.getElem?_map,h];rfl
 rw [List.map_set]
 refine vrs_set (onode_vr (fun v hv=>?_)) h1 vs hvs
 rw [hk]at hv
 simp only [KV.av,VR]at hv
 subst hv
 exact hu
theorem map_ne {α:Type}{f:α→AV}{l:List α}{i:Nat}{y:α}(h:l[i]?=some y) :List.map f l≠ [] :=fun e=>by
 cases l with
 |nil=>simp at h
 |cons _ _=>cases e
end
end Go.Hb
namespace Go.Hb
open Go.Proofs
noncomputable abbrev hoh80 (p:Prog) :Nat×AObj×Bool:= (1,(.cells (putCells .leaf 0 [(iN p.nodes),(iI p.funs),(nI p.main),(iC p.cons)]) 4 [] false),false)
noncomputable abbrev hoh81 (ua:Option Addr)(un uc:Nat)(l2:List Int) :Nat×AObj×Bool:= (2,(.lstv (Value.slice ua un uc) 1 (jI l2)),true)
noncomputable def mov_s (p:Prog)(l:List ONode)(at0:Int)(funs cons:List Int) :TS:=startH PP 47 [(.gl 0 4 0 l.length false),(Prog.av p),(nI at0),(iI funs),(iI cons)] [(0,(.lst 4 (List.map ONode.av l)),true)] 1
noncomputable def mov_c0 (p:Prog)(l:List ONode)(at0:Int)(funs cons:List Int)(c2_0 vy2:Int)(c2_2:List Int)(c2_3:List Pat)(i14:Int)(l3:List Pat) :TS:=
 {fr:={fn:=47,nt:=104,sl:=[(0,(.gl 0 4 0 l.length false)),(3,(iI funs)),(4,(iI cons)),(6,(.ptr 1 0)),(10,.nils),(11,(.ptr 2 0)),(12,(nI ((l.length:Nat) :Int))),(13,(.gl 3 4 0 l3.length false)),(14,(nI i14))],todo:=[.code (cd Tryz.f47 [1,1,1,1,1,1,0,1,0,0]),.inLoop (cd Tryz.f47 [1,1,1,1,1,1,0,1,0,0]),.inBlock 0,.code (cd Tryz.f47 [1,1,1,1,1,1,1])]},cs:=[],hp:=[(0,(.lst 4 (List.map ONode.av l)),true),hoh80 p,(2,(.cells (putCells .leaf 0 [(nI c2_0),(nI vy2),(iI c2_2),(iP c2_3)]) 4 [] false),false),(3,(.lst 4 (Pats.av l3)),true)],nb:=4}
noncomputable def mov_c1 (p:Prog)(l:List ONode)(at0:Int)(funs cons c2_2:List Int)(l0:List ONode) :TS:=
 {fr:={fn:=47,nt:=104,sl:=[(0,(.gl 0 4 0 l0.length false)),(3,(iI funs)),(4,(iI cons)),(6,(.ptr 1 0)),(10,.nils),(12,(nI ((l.length:Nat) :Int))),(15,(iI c2_2)),(16,(nI 0))],todo:=[.code (cd Tryz.f47 [1,1,1,1,1,1,1,1,1,1,1,0,1,0,0]),.inLoop (cd Tryz.f47 [1,1,1,1,1,1,1,1,1,1,1,0,1,0,0]),.inBlock 2,.code (cd Tryz.f47 [1,1,1,1,1,1,1,1,1,1,1,1])]},cs:=[],hp:=[(0,(.lst 4 (List.map ONode.av l0)),true),hoh80 p],nb:=2}
noncomputable def mov_c2 (p:Prog)(l:List ONode)(at0:Int)(funs cons c2_2:List Int)(vl0:List ONode)(l2:List Int)(i16:Int) :TS:=
 {fr:={fn:=47,nt:=104,sl:=[(0,(.gl 0 4 0 vl0.length false)),(3,(iI funs)),(4,(iI cons)),(6,(.ptr 1 0)),(10,.nils),(12,(nI ((l.length:Nat) :Int))),(15,(iI c2_2)),(16,(nI i16)),(91,(.gl 2 1 0 l2.length false)),(93,(.ep 0 4 (0+ ((l.length:Nat) :Int).toNat) 2))],todo:=[opsAt Tryz.f47 [1,1,1,1,1,1,1,1,1,1,1,0,1,0,0,1,0,0,0] 13,.code (cd Tryz.f47 [1,1,1,1,1,1,1,1,1,1,1,0,1,0,0,1,0,0,1]),.inBlock 3,.code (cd Tryz.f47 [1,1,1,1,1,1,1,1,1,1,1,0,1,0,0,1,1]),.inLoop (cd Tryz.f47 [1,1,1,1,1,1,1,1,1,1,1,0,1,0,0]),.inBlock 2,.code (cd Tryz.f47 [1,1,1,1,1,1,1,1,1,1,1,1])]},cs:=[],hp:=[(0,(.lst 4 (List.map ONode.av vl0)),true),hoh80 p,(2,(.lst 1 (jI l2)),true)],nb:=3}
noncomputable def mov_c2n (p:Prog)(l:List ONode)(at0:Int)(funs cons c2_2:List Int)(vl0:List ONode)(l2:List Int)(i16:Int)(ua:Option Addr)(un uc:Nat) :TS:=
 {fr:={fn:=47,nt:=104,sl:=[(0,(.gl 0 4 0 vl0.length false)),(3,(iI funs)),(4,(iI cons)),(6,(.ptr 1 0)),(10,.nils),(12,(nI ((l.length:Nat) :Int))),(15,(iI c2_2)),(16,(nI i16)),(91,(.val (Value.slice ua un uc))),(93,(.ep 0 4 (0+ ((l.length:Nat) :Int).toNat) 2))],todo:=[opsAt Tryz.f47 [1,1,1,1,1,1,1,1,1,1,1,0,1,0,0,1,0,0,0] 13,.code (cd Tryz.f47 [1,1,1,1,1,1,1,1,1,1,1,0,1,0,0,1,0,0,1]),.inBlock 3,.code (cd Tryz.f47 [1,1,1,1,1,1,1,1,1,1,1,0,1,0,0,1,1]),.inLoop (cd Tryz.f47 [1,1,1,1,1,1,1,1,1,1,1,0,1,0,0]),.inBlock 2,.code (cd Tryz.f47 [1,1,1,1,1,1,1,1,1,1,1,1])]},cs:=[],hp:=[(0,(.lst 4 (List.map ONode.av vl0)),true),hoh80 p,hoh81 ua un uc l2],nb:=3}
noncomputable def mov_c3 (p:Prog)(l:List ONode)(at0:Int)(funs cons c2_2:List Int)(l0:List ONode)(k2:List Int)(u2:Value)(i16:Int) :TS:=
 {fr:={fn:=47,nt:=104,sl:=[(0,(.gl 0 4 0 l0.length false)),(3,(iI funs)),(4,(iI cons)),(6,(.ptr 1 0)),(10,.nils),(12,(nI ((l.length:Nat) :Int))),(15,(iI c2_2)),(16,(nI i16))],todo:=[.code (cd Tryz.f47 [1,1,1,1,1,1,1,1,1,1,1,0,1,0,0]),.inLoop (cd Tryz.f47 [1,1,1,1,1,1,1,1,1,1,1,0,1,0,0]),.inBlock 2,.code (cd Tryz.f47 [1,1,1,1,1,1,1,1,1,1,1,1])]},cs:=[],hp:=[(0,(.lst 4 (List.map ONode.av l0)),true),hoh80 p,(2,(.lstv u2 1 (jI k2)),true)],nb:=3}
theorem mov_E_1 (p:Prog)(l:List ONode)(at0:Int)(funs cons:List Int)(y0:Node)(y1:Int)(h0:0≤at0)(h1: ((p.nodes)[at0.toNat]?) =some y0)(h2: (y0.op== (4:Int)) =true)(h3:decide (y0.n< (0:Int)) =true)(h4: (IntKind.i64.wrap ((-1:Int) -y0.n)) = ((-1:Int) -y0.n))(h5:0≤ ((-1:Int) -y0.n))(h6: ((funs)[((-1:Int) -y0.n).toNat]?) =some y1)(h7: (IntKind.i64.wrap ((-1:Int) -y1)) = ((-1:Int) -y1))(h8: (y0.op== (14:Int)) =false) :
  LeadsM PP 0 (mov_s p l at0 funs cons).as (mov_c0 p l at0 funs cons y0.op ((-1:Int) -y1) y0.kids y0.pats 0 ([] :List Pat)).as:=
 wW 4 [0,1,2,3] [qp h0,qg Node.av h1,qp h2,qp h3,qp (congrArg (AV.int .i64) h4),qp h5,qg avI h6,qp (congrArg (AV.int .i64) h7),qp h8,qp (p:= ([] :List AV) = (Pats.av ([] :List Pat))) rfl,qp (p:= (AV.gl 3 4 0 0 false) = (.gl 3 4 0 ([] :List Pat).length false)) rfl] [rn 10,aI (Node.av y0),rn 17,bt 27,rn 5,bt 31,rn 6,sI 35 ((-1:Int) -y0.n),aI (avI y1),rn 2,sI 38 ((-1:Int) -y1),rn 10,bf 42,rn 13,.nilL 13 4,.lset 3 (Pats.av ([] :List Pat)),.set 13 (.gl 3 4 0 ([] :List Pat).length false)] ⟨(keylessL_map _ (fun _=>onode_kl _) _),⟨pats_kl,trivial⟩⟩
theorem mov_E_3 (p:Prog)(l:List ONode)(at0:Int)(funs cons:List Int)(y0:Node)(h0:0≤at0)(h1: ((p.nodes)[at0.toNat]?) =some y0)(h2: (y0.op== (4:Int)) =true)(h3:decide (y0.n< (0:Int)) =false)(h4: (y0.op== (14:Int)) =false) :
  LeadsM PP 0 (mov_s p l at0 funs cons).as (mov_c0 p l at0 funs cons y0.op y0.n y0.kids y0.pats 0 ([] :List Pat)).as:=
 wW 4 [0,1,2,3] [qp h0,qg Node.av h1,qp h2,qp h3,qp h4,qp (p:= ([] :List AV) = (Pats.av ([] :List Pat))) rfl,qp (p:= (AV.gl 3 4 0 0 false) = (.gl 3 4 0 ([] :List Pat).length false)) rfl] [rn 10,aI (Node.av y0),rn 17,bt 27,rn 5,bf 31,rn 9,bf 42,rn 13,.nilL 13 4,.lset 3 (Pats.av ([] :List Pat)),.set 13 (.gl 3 4 0 ([] :List Pat).length false)] ⟨(keylessL_map _ (fun _=>onode_kl _) _),⟨pats_kl,trivial⟩⟩
theorem mov_E_4 (p:Prog)(l:List ONode)(at0:Int)(funs cons:List Int)(y0:Node)(y1:Int)(h0:0≤at0)(h1: ((p.nodes)[at0.toNat]?) =some y0)(h2: (y0.op== (4:Int)) =false)(h3: (y0.op== (14:Int)) =true)(h4:0≤y0.n)(h5: ((cons)[y0.n.toNat]?) =some y1) :
  LeadsM PP 0 (mov_s p l at0 funs cons).as (mov_c0 p l at0 funs cons y0.op y1 y0.kids y0.pats 0 ([] :List Pat)).as:=
 wW 4 [0,1,2,3] [qp h0,qg Node.av h1,qp h2,qp h3,qp h4,qg avI h5,qp (p:= ([] :List AV) = (Pats.av ([] :List Pat))) rfl,qp (p:= (AV.gl 3 4 0 0 false) = (.gl 3 4 0 ([] :List Pat).length false)) rfl] [rn 10,aI (Node.av y0),rn 17,bf 27,rn 14,bt 42,rn 5,aI (avI y1),rn 15,.nilL 13 4,.lset 3 (Pats.av ([] :List Pat)),.set 13 (.gl 3 4 0 ([] :List Pat).length false)] ⟨(keylessL_map _ (fun _=>onode_kl _) _),⟨pats_kl,trivial⟩⟩
theorem mov_E_5 (p:Prog)(l:List ONode)(at0:Int)(funs cons:List Int)(y0:Node)(h0:0≤at0)(h1: ((p.nodes)[at0.toNat]?) =some y0)(h2: (y0.op== (4:Int)) =false)(h3: (y0.op== (14:Int)) =false) :
  LeadsM PP 0 (mov_s p l at0 funs cons).as (mov_c0 p l at0 funs cons y0.op y0.n y0.kids y0.pats 0 ([] :List Pat)).as:=
 wW 4 [0,1,2,3] [qp h0,qg Node.av h1,qp h2,qp h3,qp (p:= ([] :List AV) = (Pats.av ([] :List Pat))) rfl,qp (p:= (AV.gl 3 4 0 0 false) = (.gl 3 4 0 ([] :List Pat).length false)) rfl] [rn 10,aI (Node.av y0),rn 17,bf 27,rn 14,bf 42,rn 13,.nilL 13 4,.lset 3 (Pats.av ([] :List Pat)),.set 13 (.gl 3 4 0 ([] :List Pat).length false)] ⟨(keylessL_map _ (fun _=>onode_kl _) _),⟨pats_kl,trivial⟩⟩
theorem mov_0_0 (p:Prog)(l:List ONode)(at0:Int)(funs cons:List Int)(c2_0 vy2:Int)(c2_2:List Int)(c2_3:List Pat)(i14:Int)(l3:List Pat)(y_form0 y_n1:Int)(y_text2:Str)(y_parts3:List Pat)(y_form4 y_n5:Int)(y_text6:Str)(y_parts7:List Pat)(h0:decide (i14< (c2_3.length:Int)) =true)(h1:0≤i14)(h2: ((c2_3)[i14.toNat]?) =some (Pat.mk y_form0 y_n1 y_text2 y_parts3))(h3:Pure PP 97 [(.agg [(nI y_form0),(nI y_n1),(avS y_text2),(iP y_parts3)]),(iI cons)] (.agg [(nI y_form4),(nI y_n5),(avS y_text6),(iP y_parts7)]))(h4:List.length (l3++ [(Pat.mk y_form4 y_n5 y_text6 y_parts7)]) ≤1000000)(h5: (IntKind.i64.wrap (i14+ (1:Int))) = (i14+ (1:Int))) :
  LeadsM PP 0 (mov_c0 p l at0 funs cons c2_0 vy2 c2_2 c2_3 i14 l3).as (mov_c0 p l at0 funs cons c2_0 vy2 c2_2 c2_3 (i14+ (1:Int)) (l3++ [(Pat.mk y_form4 y_n5 y_text6 y_parts7)])).as:=
 wW 6 [0,1,2,5] [qlP c2_3,qp h0,qp h1,qgP h2,qp h3,qp (p:=0+l3.length≤List.length (Pats.av l3)) (app_p1F pats_map _),qp h4,qp (p:=List.take l3.length (List.drop 0 (Pats.av l3)) ++ (Pats.av [(Pat.mk y_form4 y_n5 y_text6 y_parts7)]) = (Pats.av (l3++ [(Pat.mk y_form4 y_n5 y_text6 y_parts7)]))) (app_p3F pats_map _ _),qp (p:=l3.length+List.length (Pats.av [(Pat.mk y_form4 y_n5 y_text6 y_parts7)]) =List.length (l3++ [(Pat.mk y_form4 y_n5 y_text6 y_parts7)])) (app_p4F pats_map _ _),qp (congrArg (AV.int .i64) h5)] [rn 6,aL c2_3,rn 2,bt 53,rn 9,aI (Pat.av (Pat.mk y_form0 y_n1 y_text2 y_parts3)),rn 2,.pure (.agg [(nI y_form4),(nI y_n5),(avS y_text6),(iP y_parts7)]),rn 1,.app (Pats.av (l3++ [(Pat.mk y_form4 y_n5 y_text6 y_parts7)])) (l3++ [(Pat.mk y_form4 y_n5 y_text6 y_parts7)]).length,rn 6,sI 55 (i14+ (1:Int)),rn 3] ⟨(keylessL_map _ (fun _=>onode_kl _) _),⟨pats_kl,trivial⟩⟩
theorem mov_0_1 (p:Prog)(l:List ONode)(at0:Int)(funs cons:List Int)(c2_0 vy2:Int)(c2_2:List Int)(c2_3:List Pat)(i14:Int)(l3:List Pat)(h0:decide (i14< (c2_3.length:Int)) =false)(h1:List.length (l++ [(ONode.mk c2_0 vy2 KV.nil l3)]) ≤1000000) :
  LeadsM PP 0 (mov_c0 p l at0 funs cons c2_0 vy2 c2_2 c2_3 i14 l3).as (mov_c1 p l at0 funs cons c2_2 (l++ [(ONode.mk c2_0 vy2 KV.nil l3)])).as:=
 wW 6 [5,1] [qlP c2_3,qp h0,qp (p:=AV.keylessL (Pats.av l3) =true) pats_kl,qp (p:=AV.frzOk 3 4 (Pats.av l3) (Pats.av l3) (.gl 3 4 0 l3.length false)) (frz_wholeF pats_map _),qp (app_p1 ONode.av l),qp h1,qp (app_p3 ONode.av l [(ONode.mk c2_0 vy2 KV.nil l3)]),qp (app_p4 ONode.av l [(ONode.mk c2_0 vy2 KV.nil l3)])] [rn 6,aL c2_3,rn 2,bf 53,rn 6,.frz 66 3 (Pats.av l3),rn 18,.app (List.map ONode.av (l++ [(ONode.mk c2_0 vy2 KV.nil l3)])) (l++ [(ONode.mk c2_0 vy2 KV.nil l3)]).length,rn 9] ⟨(keylessL_map _ (fun _=>onode_kl _) _),trivial⟩
theorem mov_1_0 (p:Prog)(l:List ONode)(at0:Int)(funs cons c2_2:List Int)(l0:List ONode)(y0:ONode)(h0:decide ((0:Int) < (c2_2.length:Int)) =true)(h1:0≤ ((l.length:Nat) :Int))(h2: ((l.length:Nat) :Int) < ((l0.length:Nat) :Int))(h3: ((l0)[((l.length:Nat) :Int).toNat]?) =some y0)(h4:y0.kv=KV.nil)(h5:List.length (([] :List Int) ++ [((l0.length:Nat) :Int)]) ≤1000000) :
  LeadsM PP 0 (mov_c1 p l at0 funs cons c2_2 l0).as (mov_c2 p l at0 funs cons c2_2 l0 (([] :List Int) ++ [((l0.length:Nat) :Int)]) 0).as:=
 wW 5 [0,1,4] [ql avI c2_2,qp h0,qp h1,qp h2,qh ONode.av h3,qp (congrArg KV.av h4),qp (p:= ([] :List AV) = (jI ([] :List Int))) rfl,qp (p:= (AV.gl 3 1 0 0 false) = (.gl 3 1 0 ([] :List Int).length false)) rfl,qp (app_p1 avI ([] :List Int)),qp h5,qp (app_p3 avI ([] :List Int) [((l0.length:Nat) :Int)]),qp (app_p4 avI ([] :List Int) [((l0.length:Nat) :Int)]),qp h1,qp h2] [rn 5,aL c2_2,rn 2,bt 78,rn 10,.ans (.ix),rn 1,aI (ONode.av y0),.set 87 .nils,rn 3,.nilL 87 1,.lset 3 (jI ([] :List Int)),.set 87 (.gl 3 1 0 ([] :List Int).length false),.app (jI (([] :List Int) ++ [((l0.length:Nat) :Int)])) (([] :List Int) ++ [((l0.length:Nat) :Int)]).length,.ans (.ix),rn 1] ⟨(keylessL_map _ (fun _=>onode_kl _) _),⟨kk,trivial⟩⟩
theorem mov_1_1 (p:Prog)(l:List ONode)(at0:Int)(funs cons c2_2:List Int)(l0:List ONode)(y0:ONode)(h0:decide ((0:Int) < (c2_2.length:Int)) =false)(h1:l0[l.length]?=some y0)(h2:y0.kv=KV.nil) :
  Ends PP 0 (mov_c1 p l at0 funs cons c2_2 l0).as (.ret (.gl 0 4 0 (List.set l0 l.length (ONode.mk y0.op y0.n (KV.row []) y0.pats)).length false)) (hpOf [(0,(.lst 4 (List.map ONode.av (List.set l0 l.length (ONode.mk y0.op y0.n (KV.row []) y0.pats)))),true)] 1) :=
 wE 2 [0] [ql avI c2_2,qp h0,qp (p:= (List.map ONode.av l0) ≠ []) (map_ne h1),qp (p:=VW (List.map ONode.av l0) (List.map ONode.av (List.set l0 l.length (ONode.mk y0.op y0.n (KV.row []) y0.pats)))) (vw_nil h1 h2),qs 0 4 0 l0 l.length (ONode.mk y0.op y0.n (KV.row []) y0.pats) false,qs 0 4 0 l0 l.length (ONode.mk y0.op y0.n (KV.row []) y0.pats) false,qs 0 4 0 l0 l.length (ONode.mk y0.op y0.n (KV.row []) y0.pats) false] [rn 5,aL c2_2,rn 2,bf 78,rn 8,.lw 0 (List.map ONode.av (List.set l0 l.length (ONode.mk y0.op y0.n (KV.row []) y0.pats))),.set 0 (.gl 0 4 0 (List.set l0 l.length (ONode.mk y0.op y0.n (KV.row []) y0.pats)).length false),.set 10 (.gl 0 4 0 (List.set l0 l.length (ONode.mk y0.op y0.n (KV.row []) y0.pats)).length false),.set 103 (.gl 0 4 0 (List.set l0 l.length (ONode.mk y0.op y0.n (KV.row []) y0.pats)).length false)] ⟨(keylessL_map _ (fun _=>onode_kl _) _),trivial⟩
theorem mov_2_0 (p:Prog)(l:List ONode)(at0:Int)(funs cons c2_2:List Int)(vl0:List ONode)(l2:List Int)(i16:Int)(ua:Option Addr)(un uc:Nat)(y0:ONode)(y1:Int)(m2:List Node)(h0: ((vl0)[((l.length:Nat) :Int).toNat]?) =some y0)(h1:0≤i16)(h2: ((c2_2)[i16.toNat]?) =some y1)(h3:Spec PP (.enter 47 [(.gl 0 4 0 (List.set vl0 (((l.length:Nat) :Int).toNat) (ONode.mk y0.op y0.n (KV.val (Value.slice ua un uc)) y0.pats)).length false),(Prog.av p),(nI y1),(iI funs),(iI cons)]) (hpOf [(0,(.lst 4 (List.map ONode.av (List.set vl0 (((l.length:Nat) :Int).toNat) (ONode.mk y0.op y0.n (KV.val (Value.slice ua un uc)) y0.pats)))),true),hoh80 p,hoh81 ua un uc l2] 3) (.ret (.gl 3 4 0 ((List.set vl0 (((l.length:Nat) :Int).toNat) (ONode.mk y0.op y0.n (KV.val (Value.slice ua un uc)) y0.pats)) ++List.map Node.o m2).length false)) (hpOf [hoh80 p,hoh81 ua un uc l2,(3,(.lst 4 (List.map ONode.av ((List.set vl0 (((l.length:Nat) :Int).toNat) (ONode.mk y0.op y0.n (KV.val (Value.slice ua un uc)) y0.pats)) ++List.map Node.o m2))),true)] 4))(h4: (IntKind.i64.wrap (i16+ (1:Int))) = (i16+ (1:Int))) :
  LeadsM PP 0 (mov_c2n p l at0 funs cons c2_2 vl0 l2 i16 ua un uc).as (mov_c3 p l at0 funs cons c2_2 ((List.set vl0 (((l.length:Nat) :Int).toNat) (ONode.mk y0.op y0.n (KV.val (Value.slice ua un uc)) y0.pats)) ++List.map Node.o m2) l2 (Value.slice ua un uc) (i16+ (1:Int))).as:=
 wW 4 [3,1,2] [qh ONode.av h0,qp (p:=setElem (ONode.av y0) 2 [(.val (Value.slice ua un uc))] =some (ONode.av (ONode.mk y0.op y0.n (KV.val (Value.slice ua un uc)) y0.pats))) rfl,qp (p:= (List.map ONode.av vl0).set (0+ ((l.length:Nat) :Int).toNat) (ONode.av (ONode.mk y0.op y0.n (KV.val (Value.slice ua un uc)) y0.pats)) = (List.map ONode.av (List.set vl0 (((l.length:Nat) :Int).toNat) (ONode.mk y0.op y0.n (KV.val (Value.slice ua un uc)) y0.pats)))) (set_map0 _ _ _ _),qs 0 4 0 vl0 (((l.length:Nat) :Int).toNat) (ONode.mk y0.op y0.n (KV.val (Value.slice ua un uc)) y0.pats) false,qp h1,qg avI h2,qp h3,qp (congrArg (AV.int .i64) h4)] [.st (ONode.av y0) (ONode.av (ONode.mk y0.op y0.n (KV.val (Value.slice ua un uc)) y0.pats)),.lset 0 (List.map ONode.av (List.set vl0 (((l.length:Nat) :Int).toNat) (ONode.mk y0.op y0.n (KV.val (Value.slice ua un uc)) y0.pats))),.set 0 (.gl 0 4 0 (List.set vl0 (((l.length:Nat) :Int).toNat) (ONode.mk y0.op y0.n (KV.val (Value.slice ua un uc)) y0.pats)).length false),rn 1,.reg [.d,.d,.d,.d,.ans (.idx (avI y1)),.d,.d,.d,.call (.gl 3 4 0 ((List.set vl0 (((l.length:Nat) :Int).toNat) (ONode.mk y0.op y0.n (KV.val (Value.slice ua un uc)) y0.pats)) ++List.map Node.o m2).length false) (hpOf [hoh80 p,hoh81 ua un uc l2,(3,(.lst 4 (List.map ONode.av ((List.set vl0 (((l.length:Nat) :Int).toNat) (ONode.mk y0.op y0.n (KV.val (Value.slice ua un uc)) y0.pats)) ++List.map Node.o m2))),true)] 4),.d],rn 4,sI 80 (i16+ (1:Int)),rn 3] ⟨(keylessL_map _ (fun _=>onode_kl _) _),⟨kk,trivial⟩⟩
theorem mov_3_0 (p:Prog)(l:List ONode)(at0:Int)(funs cons c2_2:List Int)(l0:List ONode)(k2:List Int)(u2:Value)(i16:Int)(y0:ONode)(h0:decide (i16< (c2_2.length:Int)) =true)(h1:0≤ ((l.length:Nat) :Int))(h2: ((l.length:Nat) :Int) < ((l0.length:Nat) :Int))(h3: ((l0)[((l.length:Nat) :Int).toNat]?) =some y0)(h4:y0.kv=KV.val u2)(h5:List.length (k2++ [((l0.length:Nat) :Int)]) ≤1000000) :
  LeadsM PP 0 (mov_c3 p l at0 funs cons c2_2 l0 k2 u2 i16).as (mov_c2 p l at0 funs cons c2_2 l0 (k2++ [((l0.length:Nat) :Int)]) i16).as:=
 wW 5 [0,1,4] [ql avI c2_2,qp h0,qp h1,qp h2,qh ONode.av h3,qp (congrArg KV.av h4),qr u2,qp (p:= (AV.gl 2 1 0 (jI k2).length false) = (.gl 2 1 0 k2.length false)) (gl_len (List.length_map ..)),qp (app_p1 avI k2),qp h5,qp (app_p3 avI k2 [((l0.length:Nat) :Int)]),qp (app_p4 avI k2 [((l0.length:Nat) :Int)]),qp h1,qp h2] [rn 5,aL c2_2,rn 2,bt 78,rn 10,.ans (.ix),rn 1,aI (ONode.av y0),.set 87 (.val u2),.unname 87 2,.set 87 (.gl 2 1 0 k2.length false),rn 3,.app (jI (k2++ [((l0.length:Nat) :Int)])) (k2++ [((l0.length:Nat) :Int)]).length,.ans (.ix),rn 1] ⟨(keylessL_map _ (fun _=>onode_kl _) _),⟨kk,trivial⟩⟩
theorem mov_3_1 (p:Prog)(l:List ONode)(at0:Int)(funs cons c2_2:List Int)(l0:List ONode)(k2:List Int)(u2:Value)(i16:Int)(y0:ONode)(h0:decide (i16< (c2_2.length:Int)) =false)(h1:l0[l.length]?=some y0)(h2:y0.kv=KV.val u2) :
  Ends PP 0 (mov_c3 p l at0 funs cons c2_2 l0 k2 u2 i16).as (.ret (.gl 0 4 0 (List.set l0 l.length (ONode.mk y0.op y0.n (KV.row k2) y0.pats)).length false)) (hpOf [(0,(.lst 4 (List.map ONode.av (List.set l0 l.length (ONode.mk y0.op y0.n (KV.row k2) y0.pats)))),true)] 1) :=
 wE 3 [0] [ql avI c2_2,qp h0,qp (p:= (List.map ONode.av l0) ≠ []) (map_ne h1),qp (p:=AV.keylessL (jI k2) =true) (keylessL_map _ (fun _=>rfl) _),qp (p:=VQ u2 1 (jI k2) (List.map ONode.av l0) (List.map ONode.av (List.set l0 l.length (ONode.mk y0.op y0.n (KV.row k2) y0.pats)))) (vq_val h1 h2),qs 0 4 0 l0 l.length (ONode.mk y0.op y0.n (KV.row k2) y0.pats) false,qs 0 4 0 l0 l.length (ONode.mk y0.op y0.n (KV.row k2) y0.pats) false,qs 0 4 0 l0 l.length (ONode.mk y0.op y0.n (KV.row k2) y0.pats) false] [rn 5,aL c2_2,rn 2,bf 78,rn 8,.vfrz 2 0 (List.map ONode.av (List.set l0 l.length (ONode.mk y0.op y0.n (KV.row k2) y0.pats))),.set 0 (.gl 0 4 0 (List.set l0 l.length (ONode.mk y0.op y0.n (KV.row k2) y0.pats)).length false),.set 10 (.gl 0 4 0 (List.set l0 l.length (ONode.mk y0.op y0.n (KV.row k2) y0.pats)).length false),.set 103 (.gl 0 4 0 (List.set l0 l.length (ONode.mk y0.op y0.n (KV.row k2) y0.pats)).length false)] ⟨(keylessL_map _ (fun _=>onode_kl _) _),trivial⟩
end Go.Hb
namespace Go.Hb
open Go.Proofs
noncomputable def movP_c0 (q_form q_n:Int)(q_text:Str)(q_parts:List Pat)(cons:List Int)(vy0 i6:Int)(l2:List Pat) :TS:=
 {fr:={fn:=97,nt:=36,sl:=[(1,(iI cons)),(2,(.ptr 0 0)),(4,(.ptr 1 0)),(5,(.gl 2 4 0 l2.length false)),(6,(nI i6))],todo:=[.code (cd Tryz.f97 [1,1,1,0,1,0,0]),.inLoop (cd Tryz.f97 [1,1,1,0,1,0,0]),.inBlock 0,.code (cd Tryz.f97 [1,1,1,1])]},cs:=[],hp:=[(0,(.cells (putCells .leaf 0 [(nI q_form),(nI vy0),(avS q_text),(iP q_parts)]) 4 [] false),false),(1,(.cells (putCells .leaf 0 [(nI 0),(nI 0),(.str 0 0),.nils]) 4 [] false),false),(2,(.lst 4 (Pats.av l2)),true)],nb:=3}
theorem movP_E_0 (q_form q_n:Int)(q_text:Str)(q_parts:List Pat)(cons:List Int)(y0:Int)(h0: (q_form== (6:Int)) =true)(h1:0≤q_n)(h2: ((cons)[q_n.toNat]?) =some y0) :
  LeadsM PP 0 (start PP 97 [(.agg [(nI q_form),(nI q_n),(avS q_text),(iP q_parts)]),(iI cons)]).as (movP_c0 q_form q_n q_text q_parts cons y0 0 ([] :List Pat)).as:=
 wW 3 [0,1,2] [qp h0,qp h1,qg avI h2,qp (p:= ([] :List AV) = (Pats.av ([] :List Pat))) rfl,qp (p:= (AV.gl 2 4 0 0 false) = (.gl 2 4 0 ([] :List Pat).length false)) rfl] [rn 12,bt 9,rn 5,aI (avI y0),rn 15,.nilL 5 4,.lset 2 (Pats.av ([] :List Pat)),.set 5 (.gl 2 4 0 ([] :List Pat).length false)] ⟨pats_kl,trivial⟩
theorem movP_E_1 (q_form q_n:Int)(q_text:Str)(q_parts:List Pat)(cons:List Int)(h0: (q_form== (6:Int)) =false) :
  LeadsM PP 0 (start PP 97 [(.agg [(nI q_form),(nI q_n),(avS q_text),(iP q_parts)]),(iI cons)]).as (movP_c0 q_form q_n q_text q_parts cons q_n 0 ([] :List Pat)).as:=
 wW 3 [0,1,2] [qp h0,qp (p:= ([] :List AV) = (Pats.av ([] :List Pat))) rfl,qp (p:= (AV.gl 2 4 0 0 false) = (.gl 2 4 0 ([] :List Pat).length false)) rfl] [rn 12,bf 9,rn 13,.nilL 5 4,.lset 2 (Pats.av ([] :List Pat)),.set 5 (.gl 2 4 0 ([] :List Pat).length false)] ⟨pats_kl,trivial⟩
theorem movP_0_0 (q_form q_n:Int)(q_text:Str)(q_parts:List Pat)(cons:List Int)(vy0 i6:Int)(l2:List Pat)(y_form0 y_n1:Int)(y_text2:Str)(y_parts3:List Pat)(y_form4 y_n5:Int)(y_text6:Str)(y_parts7:List Pat)(h0:decide (i6< (q_parts.length:Int)) =true)(h1:0≤i6)(h2: ((q_parts)[i6.toNat]?) =some (Pat.mk y_form0 y_n1 y_text2 y_parts3))(h3:Pure PP 97 [(.agg [(nI y_form0),(nI y_n1),(avS y_text2),(iP y_parts3)]),(iI cons)] (.agg [(nI y_form4),(nI y_n5),(avS y_text6),(iP y_parts7)]))(h4:List.length (l2++ [(Pat.mk y_form4 y_n5 y_text6 y_parts7)]) ≤1000000)(h5: (IntKind.i64.wrap (i6+ (1:Int))) = (i6+ (1:Int))) :
  LeadsM PP 0 (movP_c0 q_form q_n q_text q_parts cons vy0 i6 l2).as (movP_c0 q_form q_n q_text q_parts cons vy0 (i6+ (1:Int)) (l2++ [(Pat.mk y_form4 y_n5 y_text6 y_parts7)])).as:=
 wW 5 [0,1,4] [qlP q_parts,qp h0,qp h1,qgP h2,qp h3,qp (p:=0+l2.length≤List.length (Pats.av l2)) (app_p1F pats_map _),qp h4,qp (p:=List.take l2.length (List.drop 0 (Pats.av l2)) ++ (Pats.av [(Pat.mk y_form4 y_n5 y_text6 y_parts7)]) = (Pats.av (l2++ [(Pat.mk y_form4 y_n5 y_text6 y_parts7)]))) (app_p3F pats_map _ _),qp (p:=l2.length+List.length (Pats.av [(Pat.mk y_form4 y_n5 y_text6 y_parts7)]) =List.length (l2++ [(Pat.mk y_form4 y_n5 y_text6 y_parts7)])) (app_p4F pats_map _ _),qp (congrArg (AV.int .i64) h5)] [rn 6,aL q_parts,rn 2,bt 20,rn 9,aI (Pat.av (Pat.mk y_form0 y_n1 y_text2 y_parts3)),rn 2,.pure (.agg [(nI y_form4),(nI y_n5),(avS y_text6),(iP y_parts7)]),rn 1,.app (Pats.av (l2++ [(Pat.mk y_form4 y_n5 y_text6 y_parts7)])) (l2++ [(Pat.mk y_form4 y_n5 y_text6 y_parts7)]).length,rn 6,sI 22 (i6+ (1:Int)),rn 3] ⟨pats_kl,trivial⟩
theorem movP_0_1 (q_form q_n:Int)(q_text:Str)(q_parts:List Pat)(cons:List Int)(vy0 i6:Int)(l2:List Pat)(h0:decide (i6< (q_parts.length:Int)) =false) :
  Ends PP 0 (movP_c0 q_form q_n q_text q_parts cons vy0 i6 l2).as (.ret (.agg [(nI q_form),(nI vy0),(avS q_text),(iP l2)])) (hpOf [] 0) :=
 wE 3 [] [qlP q_parts,qp h0,qp (p:=AV.keylessL (Pats.av l2) =true) pats_kl,qp (p:=AV.frzOk 2 4 (Pats.av l2) (Pats.av l2) (.gl 2 4 0 l2.length false)) (frz_wholeF pats_map _)] [rn 6,aL q_parts,rn 2,bf 20,rn 6,.frz 33 2 (Pats.av l2),rn 8] trivial
noncomputable def nums_c0 (from0 n i6:Int)(l0:List Int) :TS:=
 {fr:={fn:=48,nt:=19,sl:=[(0,(nI from0)),(1,(nI n)),(4,.nils),(5,(.gl 0 1 0 l0.length false)),(6,(nI i6))],todo:=[.code (cd Tryz.f48 [1,1,0,1,0,0]),.inLoop (cd Tryz.f48 [1,1,0,1,0,0]),.inBlock 0,.code (cd Tryz.f48 [1,1,1])]},cs:=[],hp:=[(0,(.lst 1 (jI l0)),true)],nb:=1}
theorem nums_E_0 (from0 n:Int) :
  LeadsM PP 0 (start PP 48 [(nI from0),(nI n)]).as (nums_c0 from0 n 0 ([] :List Int)).as:=
 wW 1 [0] [qp (p:= ([] :List AV) = (jI ([] :List Int))) rfl,qp (p:= (AV.gl 0 1 0 0 false) = (.gl 0 1 0 ([] :List Int).length false)) rfl] [rn 15,.nilL 5 1,.lset 0 (jI ([] :List Int)),.set 5 (.gl 0 1 0 ([] :List Int).length false)] ⟨kk,trivial⟩
theorem nums_0_0 (from0 n i6:Int)(l0:List Int)(h0:decide (i6<n) =true)(h1: (IntKind.i64.wrap (from0+i6)) = (from0+i6))(h2:List.length (l0++ [(from0+i6)]) ≤1000000)(h3: (IntKind.i64.wrap (i6+ (1:Int))) = (i6+ (1:Int))) :
  LeadsM PP 0 (nums_c0 from0 n i6 l0).as (nums_c0 from0 n (i6+ (1:Int)) (l0++ [(from0+i6)])).as:=
 wW 3 [2] [qp h0,qp (congrArg (AV.int .i64) h1),qp (app_p1 avI l0),qp h2,qp (app_p3 avI l0 [(from0+i6)]),qp (app_p4 avI l0 [(from0+i6)]),qp (congrArg (AV.int .i64) h3)] [rn 7,bt 9,rn 9,sI 15 (from0+i6),rn 1,.app (jI (l0++ [(from0+i6)])) (l0++ [(from0+i6)]).length,rn 6,sI 11 (i6+ (1:Int)),rn 3] ⟨kk,trivial⟩
theorem nums_0_1 (from0 n i6:Int)(l0:List Int)(h0:decide (i6<n) =false) :
  Ends PP 0 (nums_c0 from0 n i6 l0).as (.ret (iI l0)) (hpOf [] 0) :=
 wE 1 [] [qp h0,qp (p:=AV.keylessL (jI l0) =true) (keylessL_map _ (fun _=>rfl) _),qp (p:=AV.frzOk 0 1 (jI l0) (jI l0) (.gl 0 1 0 l0.length false)) (frz_whole _ _)] [rn 7,bf 9,rn 8,.frz 4 0 (jI l0)] trivial
end Go.Hb
namespace Go.Hb
open Go.Proofs
def mPatN (cons:List Int)(f n:Int) :Option Int:=if f=6 then(if 0≤n then cons[n.toNat]? else none)else some n
mutual
def mPat (cons:List Int) :Pat→Option Pat
 | .mk f n t ps=>match mPatN cons f n with
  | some n'=>match mPats cons ps with
   |some ps'=>some (.mk f n' t ps')
   |none=>none
  |none=>none
def mPats (cons:List Int) :List Pat→Option (List Pat)
 | [] =>some []
 | p::ps=>match mPat cons p with
  | some p'=>match mPats cons ps with
   |some ps'=>some (p'::ps')
   |none=>none
  |none=>none
end
theorem movP_loop (f n:Int)(s:Str)(ps:List Pat)(cons:List Int)(n':Int)(hl:ps.length<1000000)(ih:∀p∈ps,∀p',mPat cons p=some p'→Pure PP 97 [Pat.av p,.ilst 1 (List.map avI cons) false] (Pat.av p')) :
  ∀ (t:List Pat) (i:Nat) (acc t':List Pat),ps.drop i=t→acc.length=i→mPats cons t=some t'→Ends PP 0 (movP_c0 f n s ps cons n' (i:Int) acc).as (.ret (Pat.av (.mk f n' s (acc++t')))) (hpOf [] 0)
 | [],i,acc,t',h,ha,ht=>by
  have:=dropN h
  cases ht
  rw [List.append_nil]
  exact movP_0_1 f n s ps cons n' i acc sd
 | .mk f1 n1 s1 ps1::t,i,acc,t',h,ha,ht=>by
  obtain⟨g1,g2,g3⟩ :=dropC h
  simp only [mPats]at ht
  split at ht
  · rename_i p' hp'
    split at ht
    · rename_i t1 ht1
      cases ht
      obtain⟨f2,n2,s2,ps2⟩ :=p'
      refine(movP_0_0 f n s ps cons n' i acc f1 n1 s1 ps1 f2 n2 s2 ps2 sd sd sd (ih (.mk f1 n1 s1 ps1) (List.mem_of_getElem? g1) _ hp') (by simp;omega) sd).ends ?_
      have:=movP_loop f n s ps cons n' hl ih t (i+1) (acc++ [.mk f2 n2 s2 ps2]) t1 g2 (by simp [ha]) ht1
      rw [List.append_assoc]at this
      exact this
    ·cases ht
  ·cases ht
mutual
theorem movP_pure (cons:List Int) :∀ (p:Pat),psize p<1000000→∀p',mPat cons p=some p'→Pure PP 97 [Pat.av p,.ilst 1 (List.map avI cons) false] (Pat.av p')
 | .mk f n s ps,h,p',hp'=>by
  refine pure_at (by kernel_rfl) (by simp [AV.keylessL,pat_kl,AV.keyless]) (pat_kl _) ?_
  simp only [psize]at h
  have:=psizes_len ps
  simp only [mPat]at hp'
  split at hp'
  · rename_i n' hn'
    split at hp'
    · rename_i ps' hps'
      cases hp'
      have hloop:=movP_loop f n s ps cons n' (by omega) (movP_all cons ps (by omega)) ps 0 [] ps' rfl rfl hps'
      unfold mPatN at hn'
      split at hn'
      · rename_i hf
        split at hn'
        · rename_i h0
          exact(movP_E_0 f n s ps cons n' (by simp [hf]) h0 hn').ends hloop
        ·cases hn'
      · rename_i hf
        cases hn'
        exact(movP_E_1 f n s ps cons (by simp [hf])).ends hloop
    ·cases hp'
  ·cases hp'
theorem movP_all (cons:List Int) :∀ (ps:List Pat),psizes ps<1000000→∀p∈ps,∀p',mPat cons p=some p'→Pure PP 97 [Pat.av p,.ilst 1 (List.map avI cons) false] (Pat.av p')
 | [],_,p,hp=>by cases hp
 | q::ps,h,p,hp=>by
  simp only [psizes]at h
  rcases List.mem_cons.1 hp with e|hp
  ·rw [e];exact movP_pure cons q (by omega)
  ·exact movP_all cons ps (by omega) p hp
end
end Go.Hb
namespace Go.Hb
open Go.Proofs
noncomputable section
def mN (funs cons:List Int)(op n:Int) :Option Int:=
 if op=4∧n<0 then
  match funs[(-1-n).toNat]? with
  |some g=>if -1000000000≤n∧ -1000000000≤g∧g≤1000000000 then some (-1-g)else none
  |none=>none
 else if op=14 then(if 0≤n then cons[n.toNat]? else none)else some n
def mKids (f:Nat→Int→Option (List Node)) :Nat→List Int→Option (List Int×List Node)
 |_,[] =>some ([],[])
 | len,c::cs=>match f len c with
  | some ns=>match mKids f (len+ns.length) cs with
   |some (ks,r) =>some ((len:Int) ::ks,ns++r)
   |none=>none
  |none=>none
def mNodes (p:Prog)(funs cons:List Int) :Nat→Nat→Int→Option (List Node)
 |0,_,_=>none
 | k+1, len,at0=>if 0≤at0∧len<1000000 then
   match p.nodes[at0.toNat]? with
   | some y=>if y.kids.length<1000000∧psizes y.pats<1000000 then
     match mN funs cons y.op y.n with
     | some n'=>match mPats cons y.pats with
      | some ps'=>match mKids (mNodes p funs cons k) (len+1) y.kids with
       |some (ks,r) =>some (⟨y.op,n',ks,ps'⟩ ::r)
       |none=>none
      |none=>none
     |none=>none
    else none
   |none=>none
  else none
abbrev PA (p:Prog) :AV:=.agg [(.ilst 4 (List.map Node.av p.nodes) false),(.ilst 1 (List.map avI p.funs) false),(.int .i64 p.main),(.ilst 2 (List.map Con.av p.cons) false)]
abbrev PCell (p:Prog) :AObj:=.cells (putCells .leaf 0 [(.ilst 4 (List.map Node.av p.nodes) false),(.ilst 1 (List.map avI p.funs) false),(.int .i64 p.main),(.ilst 2 (List.map Con.av p.cons) false)]) 4 [] false
abbrev OL (L:List ONode) :AObj:=.lst 4 (List.map ONode.av L)
abbrev EndsL (s:TS)(L:List ONode) :Prop:=Ends PP 0 s.as (.ret (.gl 0 4 0 (List.length L) false)) (hpOf [(0,OL L,true)] 1)
def MovSpec (p:Prog)(funs cons:List Int)(c:Int)(L:List ONode)(ns:List Node) :Prop:=
 SpecN PP (.enter 47 [.gl 0 4 0 (List.length L) false,PA p,.int .i64 c,.ilst 1 (List.map avI funs) false,.ilst 1 (List.map avI cons) false]) (hpOf [(0,OL L,true)] 1)
  (.ret (.gl 0 4 0 (List.length (L++List.map Node.o ns)) false)) (hpOf [(0,OL (L++List.map Node.o ns),true)] 1)
theorem ol_kl (L:List ONode) : (OL L).kl:=keylessL_map _ (fun _=>onode_kl _) _
theorem mov_call {p:Prog}{funs cons:List Int}{c:Int}{L:List ONode}{ns:List Node}(h:MovSpec p funs cons c L ns)(u:Value)(l2:List Int) :
  Spec PP (.enter 47 [.gl 0 4 0 (List.length L) false,PA p,.int .i64 c,.ilst 1 (List.map avI funs) false,.ilst 1 (List.map avI cons) false])
   (hpOf [(0,OL L,true),(1,PCell p,false),(2,.lstv u 1 (List.map avI l2),true)] 3)
   (.ret (.gl 3 4 0 (List.length (L++List.map Node.o ns)) false))
   (hpOf [(1,PCell p,false),(2,.lstv u 1 (List.map avI l2),true),(3,OL (L++List.map Node.o ns),true)] 4) :=
 Eq.mp (by kernel_rfl) (spec_new (ks:=[0]) (n2:=3) (lc:=[(0,OL L,true),(1,PCell p,false),(2,.lstv u 1 (List.map avI l2),true)])
  (x:=[(1,PCell p,false),(2,.lstv u 1 (List.map avI l2),true)])
  (args':=[.gl 0 4 0 (List.length L) false,PA p,.int .i64 c,.ilst 1 (List.map avI funs) false,.ilst 1 (List.map avI cons) false])
  h (by kernel_rfl) (by kernel_rfl) (by kernel_rfl) ⟨ol_kl L,trivial⟩ (by kernel_rfl) (by kernel_rfl) (by kernel_rfl) (by kernel_rfl) ⟨ol_kl _,trivial⟩ (by kernel_rfl))
theorem mov_named (p:Prog)(l:List ONode)(at0:Int)(funs cons c2_2:List Int)(vl0:List ONode)(l2:List Int)(i16:Int)(ua:Option Addr)(un uc:Nat) :
  (⟨{(mov_c2 p l at0 funs cons c2_2 vl0 l2 i16).as.fr with tm:= (mov_c2 p l at0 funs cons c2_2 vl0 l2 i16).as.fr.tm.put 91 (.val (.slice ua un uc))},(mov_c2 p l at0 funs cons c2_2 vl0 l2 i16).as.cs,(mov_c2 p l at0 funs cons c2_2 vl0 l2 i16).as.h.set 2 (.lstv (.slice ua un uc) 1 (List.map avI l2))⟩ :AS) = (mov_c2n p l at0 funs cons c2_2 vl0 l2 i16 ua un uc).as:=by kernel_rfl
theorem mov_name {p:Prog}{l:List ONode}{at0:Int}{funs cons c2_2:List Int}{vl0:List ONode}{l2:List Int}{i16:Int}{L:List ONode}(h0:0<l2.length)
  (hk:∀ua un uc,EndsL (mov_c2n p l at0 funs cons c2_2 vl0 l2 i16 ua un uc) L) :EndsL (mov_c2 p l at0 funs cons c2_2 vl0 l2 i16) L:=by
 refine ends_name (j:=91) (b:=2) (e:=1) (n:=List.length l2) (ex:=false) (xs:=List.map avI l2) (by kernel_rfl) (by kernel_rfl) (List.length_map ..) h0 (fun ua un uc=>?_)
 have:=hk ua un uc
 unfold EndsL at this
 rw [←mov_named]at this
 exact this
end
end Go.Hb
namespace Go.Hb
open Go.Proofs
noncomputable section
theorem hdr_get (l:List ONode)(y:ONode)(r:List ONode) : (l++y::r)[((List.length l:Nat) :Int).toNat]?=some y:=by simp
theorem hdr_get' (l:List ONode)(y:ONode)(r:List ONode) : (l++y::r)[List.length l]?=some y:=by simp
theorem hdr_set (l:List ONode)(y z:ONode)(r:List ONode) :List.set (l++y::r) (((List.length l:Nat) :Int).toNat) z=l++z::r:=by simp
theorem hdr_set' (l:List ONode)(y z:ONode)(r:List ONode) :List.set (l++y::r) (List.length l) z=l++z::r:=by simp
theorem EndsL.of {s:TS}{L L':List ONode}(h:EndsL s L)(e:L=L') :EndsL s L':=e ▸ h
section
variable (p :Prog) (funs cons:List Int) (k:Nat) (ih:∀ (L:List ONode) (c:Int) (ns:List Node),mNodes p funs cons k L.length c=some ns→MovSpec p funs cons c L ns)
 (l:List ONode) (at0 op n':Int) (ps':List Pat) (kids:List Int) (hkids:kids.length<1000000)
include ih hkids
theorem mov_kid (c:Int)(i:Nat)(kv:KV)(r0:List Node)(l2:List Int)(ns:List Node)(L:List ONode)(hc:kids[i]?=some c)(h0:0<l2.length)(hns:mNodes p funs cons k (l++ ⟨op,n',kv,ps'⟩ ::List.map Node.o r0).length c=some ns)
  (hk:∀u,EndsL (mov_c3 p l at0 funs cons kids (l++ ⟨op,n',.val u,ps'⟩ ::List.map Node.o (r0++ns)) l2 u ((i+1:Nat) :Int)) L) :
  EndsL (mov_c2 p l at0 funs cons kids (l++ ⟨op,n',kv,ps'⟩ ::List.map Node.o r0) l2 (i:Int)) L:=by
 have hi:= (List.getElem?_eq_some_iff.1 hc).1
 refine mov_name h0 (fun ua un uc=>?_)
 have hs:=ih (l++ ⟨op,n',.val (.slice ua un uc),ps'⟩ ::List.map Node.o r0) c ns (by rw [←hns];simp)
 have hcall:=mov_call hs (.slice ua un uc) l2
 have h1:=mov_2_0 p l at0 funs cons kids (l++ ⟨op,n',kv,ps'⟩ ::List.map Node.o r0) l2 i ua un uc ⟨op,n',kv,ps'⟩ c ns (hdr_get ..) sd (by simpa using hc) (by rw [hdr_set];exact hcall) sd
 rw [hdr_set]at h1
 refine h1.ends ?_
 have:=hk (.slice ua un uc)
 rw [List.map_append]at this
 rw [show(l++ ⟨op,n',.val (.slice ua un uc),ps'⟩ ::List.map Node.o r0) ++List.map Node.o ns=l++ ⟨op,n',.val (.slice ua un uc),ps'⟩ :: (List.map Node.o r0++List.map Node.o ns)by simp]
 exact this
theorem mov_loop :∀ (cs:List Int) (i:Nat) (u:Value) (r0:List Node) (ks0 ks:List Int) (r:List Node),kids.drop i=cs→ks0.length=i→0<i →
  mKids (mNodes p funs cons k) (l.length+1+r0.length) cs=some (ks,r) →
  EndsL (mov_c3 p l at0 funs cons kids (l++ ⟨op,n',.val u,ps'⟩ ::List.map Node.o r0) ks0 u (i:Int)) (l++List.map Node.o (⟨op,n',ks0++ks,ps'⟩ :: (r0++r)))
 | [],i,u,r0,ks0,ks,r,h,hl,hi,hm=>by
  have:=dropN h
  cases hm
  have h1:=mov_3_1 p l at0 funs cons kids (l++ ⟨op,n',.val u,ps'⟩ ::List.map Node.o r0) ks0 u i ⟨op,n',.val u,ps'⟩ sd (hdr_get' ..) rfl
  rw [hdr_set']at h1
  rw [List.append_nil,List.append_nil]
  exact h1
 | c ::cs,i,u,r0,ks0,ks,r,h,hl,hi,hm=>by
  obtain⟨g1,g2,g3⟩ :=dropC h
  simp only [mKids]at hm
  split at hm
  · rename_i ns hns
    split at hm
    · rename_i ks1 r1 hm1
      cases hm
      have hlen: (l++ (⟨op,n',.val u,ps'⟩ :ONode) ::List.map Node.o r0).length=l.length+1+r0.length:=by simp;omega
      refine(mov_3_0 p l at0 funs cons kids (l++ ⟨op,n',.val u,ps'⟩ ::List.map Node.o r0) ks0 u i ⟨op,n',.val u,ps'⟩ sd (by omega) (by rw [hlen];omega) (hdr_get ..) rfl (by simp;omega)).ends ?_
      refine mov_kid p funs cons k ih l at0 op n' ps' kids hkids c i (.val u) r0 _ ns _ g1 (by simp) (by rw [hlen];exact hns) (fun u'=>?_)
      have:=mov_loop cs (i+1) u' (r0++ns) (ks0++ [((l.length+1+r0.length:Nat) :Int)]) ks1 r1 g2 (by simp [hl]) (by omega) (by rw [List.length_append,←Nat.add_assoc];exact hm1)
      rw [hlen]
      exact this.of (by simp)
    ·cases hm
  ·cases hm
theorem mov_kids (ks:List Int)(r:List Node)(hm:mKids (mNodes p funs cons k) (l.length+1) kids=some (ks,r)) :
  EndsL (mov_c1 p l at0 funs cons kids (l++ [⟨op,n',.nil,ps'⟩])) (l++List.map Node.o (⟨op,n',ks,ps'⟩ ::r)) :=by
 cases kids with
 | nil=>
  cases hm
  have h1:=mov_1_1 p l at0 funs cons [] (l++ [⟨op,n',.nil,ps'⟩]) ⟨op,n',.nil,ps'⟩ sd (hdr_get' ..) rfl
  rw [hdr_set']at h1
  exact h1
 | cons c cs=>
  simp only [mKids]at hm
  split at hm
  · rename_i ns hns
    split at hm
    · rename_i ks1 r1 hm1
      cases hm
      have hlen: (l++ [(⟨op,n',.nil,ps'⟩ :ONode)]).length=l.length+1:=by simp
      refine(mov_1_0 p l at0 funs cons (c::cs) (l++ [⟨op,n',.nil,ps'⟩]) ⟨op,n',.nil,ps'⟩ (by simp<;>omega) (by omega) (by rw [hlen];omega) (hdr_get ..) rfl (by simp)).ends ?_
      refine mov_kid p funs cons k ih l at0 op n' ps' (c::cs) hkids c 0 .nil [] _ ns _ rfl (by simp) (by simpa using hns) (fun u'=>?_)
      have:=mov_loop p funs cons k ih l at0 op n' ps' (c::cs) hkids cs 1 u' ns [((l.length+1:Nat) :Int)] ks1 r1 rfl rfl (by omega) hm1
      rw [hlen]
      exact this.of (by simp)
    ·cases hm
  ·cases hm
end
theorem mov_pats (p:Prog)(funs cons:List Int)(l:List ONode)(at0 op n':Int)(kids:List Int)(ps:List Pat)(hps:psizes ps<1000000)(hl:l.length<1000000)(L:List ONode) :∀ (t:List Pat) (i:Nat) (acc t':List Pat),ps.drop i=t→acc.length=i→mPats cons t=some t' →
  EndsL (mov_c1 p l at0 funs cons kids (l++ [⟨op,n',.nil,acc++t'⟩])) L→EndsL (mov_c0 p l at0 funs cons op n' kids ps (i:Int) acc) L
 | [],i,acc,t',h,ha,ht,hk=>by
  have:=dropN h
  cases ht
  rw [List.append_nil]at hk
  exact(mov_0_1 p l at0 funs cons op n' kids ps i acc sd (by simp;omega)).ends hk
 | .mk f1 n1 s1 ps1::t,i,acc,t',h,ha,ht,hk=>by
  obtain⟨g1,g2,g3⟩ :=dropC h
  have:=psizes_len ps
  simp only [mPats]at ht
  split at ht
  · rename_i p' hp'
    split at ht
    · rename_i t1 ht1
      cases ht
      obtain⟨f2,n2,s2,ps2⟩ :=p'
      rw [show acc++ .mk f2 n2 s2 ps2::t1= (acc++ [.mk f2 n2 s2 ps2]) ++t1 by simp]at hk
      have h2:=mov_pats p funs cons l at0 op n' kids ps hps hl L t (i+1) (acc++ [.mk f2 n2 s2 ps2]) t1 g2 (by simp [ha]) ht1 hk
      have h1:=mov_0_0 p l at0 funs cons op n' kids ps i acc f1 n1 s1 ps1 f2 n2 s2 ps2 sd sd sd (movP_all cons ps hps (.mk f1 n1 s1 ps1) (List.mem_of_getElem? g1) _ hp') (by simp;omega) sd
      exact h1.ends h2
    ·cases ht
  ·cases ht
theorem mov_start (p:Prog)(l:List ONode)(at0:Int)(funs cons:List Int){L:List ONode}{ns:List Node}(e:L=l++List.map Node.o ns)(h:EndsL (mov_s p l at0 funs cons) L) :MovSpec p funs cons at0 l ns:=by
 subst e
 exact⟨(mov_s p l at0 funs cons).as.fr,by kernel_rfl,Eq.mp (by kernel_rfl) h⟩
theorem wrap_m {n:Int}(h0: -1000000000≤n)(h1:n≤1000000000) :IntKind.i64.wrap (-1-n) = -1-n:=sd
theorem moved_spec (p:Prog)(funs cons:List Int) :∀ (k:Nat) (l:List ONode) (at0:Int) (ns:List Node),mNodes p funs cons k l.length at0=some ns→MovSpec p funs cons at0 l ns
 |0,l,at0,ns,h=>by cases h
 | k+1, l, at0, ns, h=>by
  simp only [mNodes]at h
  split at h
  · rename_i hh
    obtain⟨hat,hlen⟩ :=hh
    split at h
    · rename_i y hy
      split at h
      · rename_i hb
        split at h
        · rename_i n' hn'
          split at h
          · rename_i ps' hps'
            split at h
            · rename_i ks r hks
              cases h
              have hC:=mov_pats p funs cons l at0 y.op n' y.kids y.pats hb.2 hlen _ y.pats 0 [] ps' rfl rfl hps' (mov_kids p funs cons k (moved_spec p funs cons k) l at0 y.op n' ps' y.kids hb.1 ks r hks)
              refine mov_start p l at0 funs cons rfl ?_
              unfold mN at hn'
              split at hn'
              · rename_i h4
                have ho: (y.op== (14:Int)) =false:=by rw [h4.1];rfl
                split at hn'
                · rename_i g hg
                  split at hn'
                  · rename_i hr
                    cases hn'
                    exact(mov_E_1 p l at0 funs cons y g hat hy (by simp [h4.1]) (by simp [h4.2]) (wrap_m (by omega) (by omega)) (by omega) hg (wrap_m (by omega) (by omega)) ho).ends hC
                  ·cases hn'
                ·cases hn'
              · rename_i h4
                split at hn'
                · rename_i h14
                  split at hn'
                  · rename_i h0
                    exact(mov_E_4 p l at0 funs cons y n' hat hy (by simp [h14]) (by simp [h14]) h0 hn').ends hC
                  ·cases hn'
                · rename_i h14
                  cases hn'
                  by_cases ho:y.op=4
                  ·exact(mov_E_3 p l at0 funs cons y hat hy (by simp [ho]) (by simp;omega) (by simp [ho])).ends hC
                  ·exact(mov_E_5 p l at0 funs cons y hat hy (by simp [ho]) (by simp [h14])).ends hC
            ·cases h
          ·cases h
        ·cases h
      ·cases h
    ·cases h
  ·cases h
end
end Go.Hb
namespace Go.Hb
open Go.Proofs
noncomputable def cpd_s (p:Prog) :TS:=startH PP 55 [(Prog.av p)] [] 0
theorem cpd_E_0 (p:Prog)(h0:List.length p.cons≤1000000) :
  Ends PP 0 (cpd_s p).as (.ret (.agg [.nils,.nils,(nI p.main),(iC p.cons)])) (hpOf [] 0) :=
 wE 3 [] [qp h0,qr (jC p.cons),qp (p:=List.length (jC p.cons) =List.length p.cons) (List.length_map ..),qr (nI p.main),qr (nI p.main),qp (p:=AV.keylessL (jC p.cons) =true) (keylessL_map _ (fun _=>rfl) _),qp (p:=AV.frzOk 2 2 (jC p.cons) (jC p.cons) (.gl 2 2 0 p.cons.length false)) (frz_whole _ _)] [rn 6,.reg [.d,.d,.d,.d,.app (jC p.cons) p.cons.length,.d,.d],rn 1,.cfrz 1 3 2 (jC p.cons)] trivial
end Go.Hb
namespace Go.Hb
open Go.Proofs
noncomputable section
def numsL (a:Int) :Nat→List Int
 |0=>[]
 |n+1=>numsL a n++ [a+ (n:Int)]
theorem numsL_len (a:Int) :∀n,(numsL a n).length=n
 |0=>rfl
 |n+1=>by simp [numsL,numsL_len a n]
theorem numsL_get (a:Int) :∀ {n i:Nat},i<n→ (numsL a n)[i]?=some (a+ (i:Int))
 | n+1,i,h=>by
  rw [numsL]
  by_cases hi:i<n
  ·rw [List.getElem?_append_left (by rw [numsL_len];exact hi),numsL_get a hi]
  · have:i=n:=by omega
    subst this
    rw [List.getElem?_append_right (by rw [numsL_len];omega),numsL_len]
    simp
theorem nums_loop (a:Int)(n:Nat)(hn:n<1000000)(ha: -1000000000≤a)(hb:a≤1000000000) :∀ (j i:Nat),i+j=n→Ends PP 0 (nums_c0 a (n:Int) (i:Int) (numsL a i)).as (.ret (.ilst 1 (List.map avI (numsL a n)) false)) (hpOf [] 0)
 | 0,i,h=>by
  have:i=n:=by omega
  subst this
  exact nums_0_1 a i i _ sd
 | j+1,i,h=>by
  have h1:=nums_0_0 a n i (numsL a i) sd sd (by rw [List.length_append,numsL_len];simp;omega) sd
  exact h1.ends (nums_loop a n hn ha hb j (i+1) (by omega))
theorem nums_pure (a:Int)(n:Nat)(hn:n<1000000)(ha: -1000000000≤a)(hb:a≤1000000000) :Pure PP 48 [.int .i64 a,.int .i64 (n:Int)] (.ilst 1 (List.map avI (numsL a n)) false) :=
 pure_at (by kernel_rfl) rfl rfl ((nums_E_0 a n).ends (nums_loop a n hn ha hb n 0 (by omega)))
theorem pure_atH {f:Nat}{args:List AV}{v:AV}{s:TS}(e: (start PP f args).as=s.as)(hb:hasBody PP f=true)(hk:AV.keylessL args=true)(hv:AV.keyless v=true)(he:Ends PP 0 s.as (.ret v) (hpOf [] 0)) :Pure PP f args v:=
 pure_at hb hk hv (by rw [e];exact he)
theorem cpd_pure {p:Prog}(h:p.cons.length≤1000000) :Pure PP 55 [PA p] (.agg [.nils,.nils,.int .i64 p.main,.ilst 2 (List.map Con.av p.cons) false]) :=
 pure_atH (s:=cpd_s p) (by kernel_rfl) (by kernel_rfl) (by simp [AV.keylessL,AV.keyless]) (by simp [AV.keylessL,AV.keyless]) (cpd_E_0 p h)
theorem movN_spec {p:Prog}{funs cons:List Int}{k:Nat}{l ns:List Node}{c:Int}(h:mNodes p funs cons k l.length c=some ns) :
  SpecN PP (.enter 47 [.gl 0 4 0 (List.length l) false,PA p,.int .i64 c,.ilst 1 (List.map avI funs) false,.ilst 1 (List.map avI cons) false]) (hpOf [(0,.lst 4 (List.map Node.av l),true)] 1)
   (.ret (.gl 0 4 0 (List.length (l++ns)) false)) (hpOf [(0,.lst 4 (List.map Node.av (l++ns)),true)] 1) :=by
 have:=moved_spec p funs cons k (List.map Node.o l) c ns (by rw [List.length_map];exact h)
 unfold MovSpec OL at this
 rw [←List.map_append,nodes_o,nodes_o,List.length_map,List.length_map]at this
 exact this
end
end Go.Hb
