/-
  OWN WORK (H16, V47, H17, V48, H22, V70, V71, V75, H27, V85, V79, V80, V81, V76, V77, V78, V86, V84): a machine on abstract values, its soundness, ways through the text (the ways WRITTEN BY A PROGRAM), plain laws.
-/
import Derived.Test.YtogkjcpighphfaaGreatHE
import Derived.Test.YtogkjcpighphfaaGreatHF
import Derived.Test.YtogkjcpighphfaaGreatHI
import Derived.Test.YtogkjcpighphfaaGreatHJ
import Derived.Test.YtogkjcpighphfaaGreatHK
import Derived.Shelf.SlGeneric
import Derived.Shelf.SlIterI.Nil
import Derived.Shelf.SortM.Plain
import Derived.Shelf.SortM.SortNone
set_option linter.unusedVariables false
set_option linter.unusedSimpArgs false
set_option linter.unusedSectionVars false
set_option maxRecDepth 100000
namespace Go.Hb
open Go.Proofs
end Go.Hb
namespace Go.Hb
open Go.Proofs
set_option maxHeartbeats 2000000
noncomputable section
abbrev LN (l:List Node) :AObj:=.lst 4 (List.map Node.av l)
abbrev LI (l:List Int) :AObj:=.lst 1 (List.map avI l)
abbrev gN (b:Nat)(l:List Node) :AV:=.gl b 4 0 (List.length l) false
theorem ln_kl (l:List Node) : (LN l).kl:=keylessL_map _ (fun _=>rfl) _
end
end Go.Hb
namespace Go.Hb
open Go.Proofs
noncomputable abbrev hoh170 (p:Prog) :Nat×AObj×Bool:= (0,(.cells (putCells .leaf 0 [(iN p.nodes),(iI p.funs),(nI p.main),(iC p.cons)]) 4 [] false),false)
noncomputable abbrev hoh171 (q:Prog) :Nat×AObj×Bool:= (1,(.cells (putCells .leaf 0 [(iN q.nodes),(iI q.funs),(nI q.main),(iC q.cons)]) 4 [] false),false)
noncomputable abbrev hoh173  :Nat×AObj×Bool:= (2,(.cells (putCells .leaf 0 [.nils,.nils,(nI 0),.nils]) 4 [] false),false)
noncomputable def rJn_c0 (p q:Prog)(i8:Int)(l3:List Con)(l4:List Int) :TS:=
 {fr:={fn:=21,nt:=122,sl:=[(2,(.ptr 0 0)),(3,(.ptr 1 0)),(4,(.ptr 2 0)),(5,(nI 0)),(6,(.gl 3 2 0 l3.length false)),(7,(.gl 4 1 0 l4.length false)),(8,(nI i8))],todo:=[.code (cd Tryz.f21 [1,1,1,1,0,1,0,0]),.inLoop (cd Tryz.f21 [1,1,1,1,0,1,0,0]),.inBlock 0,.code (cd Tryz.f21 [1,1,1,1,1])]},cs:=[],hp:=[hoh170 p,hoh171 q,hoh173,(3,(.lst 2 (jC l3)),true),(4,(.lst 1 (jI l4)),true)],nb:=5}
end Go.Hb
namespace Go.Hb
open Go.Proofs
set_option maxHeartbeats 2000000
noncomputable section
def ConsGoal (p q:Prog)(i:Int)(al:List Con)(to:List Int) :Option (List Con×List Int) →Prop
 |none=>Ends PP 0 (rJn_c0 p q i al to).as (.ret (.tup [errProg,.int .i64 7])) (hpOf [] 0)
 |some r=>LeadsM PP 0 (rJn_c0 p q i al to).as (rJn_c0 p q ((q.cons.length:Nat) :Int) r.1 r.2).as
theorem ConsGoal.of {p q:Prog}{i i':Int}{al al':List Con}{to to':List Int}(h:LeadsM PP 0 (rJn_c0 p q i al to).as (rJn_c0 p q i' al' to').as) :∀ {r:Option (List Con×List Int)},ConsGoal p q i' al' to' r→ConsGoal p q i al to r
 |none,g=>h.ends g
 |some _,g=>h.trans g
end
end Go.Hb
namespace Go.Hb
open Go.Proofs
noncomputable abbrev hoq220 (p:Prog) :Nat×AObj×Bool:= (0,(.cells (putCells .leaf 0 [(iN p.nodes),(iI p.funs),(nI p.main),(iC p.cons)]) 4 [] false),false)
noncomputable abbrev hoq221 (l3:List Node)(l4:List Int)(vy2:Int)(cs1:List Con) :Nat×AObj×Bool:= (2,(.cells (putCells .leaf 0 [(.gl 3 4 0 l3.length false),(.gl 4 1 0 l4.length false),(nI vy2),(iC cs1)]) 4 [] false),false)
noncomputable abbrev hoq222  :Nat×AObj×Bool:= (1,(.cells (putCells .leaf 0 [.nils,.nils,(nI 0),.nils]) 4 [] false),false)
noncomputable def own_c0 (p:Prog)(i4:Int)(l1:List Int) :TS:=
 {fr:={fn:=102,nt:=60,sl:=[(1,(.ptr 0 0)),(2,.nils),(3,(.gl 1 1 0 l1.length true)),(4,(nI i4))],todo:=[.code (cd Tryz.f102 [1,1,0,1,0,0]),.inLoop (cd Tryz.f102 [1,1,0,1,0,0]),.inBlock 0,.code (cd Tryz.f102 [1,1,1])]},cs:=[],hp:=[hoq220 p,(1,(.lst 1 (jI l1)),true)],nb:=2}
noncomputable def own_c1 (p:Prog)(l1:List Int)(i5:Int) :TS:=
 {fr:={fn:=102,nt:=60,sl:=[(1,(.ptr 0 0)),(2,.nils),(3,(.gl 1 1 0 l1.length true)),(5,(nI i5))],todo:=[.code (cd Tryz.f102 [1,1,1,0,1,0,0]),.inLoop (cd Tryz.f102 [1,1,1,0,1,0,0]),.inBlock 2,.code (cd Tryz.f102 [1,1,1,1])]},cs:=[],hp:=[hoq220 p,(1,(.lst 1 (jI l1)),true)],nb:=2}
noncomputable def own_c2 (p:Prog)(vl1:List Int)(k6 i5:Int) :TS:=
 {fr:={fn:=102,nt:=60,sl:=[(1,(.ptr 0 0)),(2,.nils),(3,(.gl 1 1 0 vl1.length true)),(5,(nI i5)),(6,(nI k6))],todo:=[.code (cd Tryz.f102 [1,1,1,0,1,0,0,1,0,0,1,0,0]),.inLoop (cd Tryz.f102 [1,1,1,0,1,0,0,1,0,0,1,0,0]),.inBlock 4,.inBlock 3,.code (cd Tryz.f102 [1,1,1,0,1,0,0,1,1]),.inLoop (cd Tryz.f102 [1,1,1,0,1,0,0]),.inBlock 2,.code (cd Tryz.f102 [1,1,1,1])]},cs:=[],hp:=[hoq220 p,(1,(.lst 1 (jI vl1)),true)],nb:=2}
theorem own_E_0 (p:Prog)(h0:p.nodes.length<100000) :
  LeadsM PP 0 (start PP 102 [(Prog.av p)]).as (own_c0 p 0 (List.replicate p.nodes.length (0:Int))).as:=
 wW 2 [0,1] [ql Node.av p.nodes,qp (p:= (p.nodes.length:Int) = ((p.nodes.length:Nat) :Int)) rfl,qp (p:= (p.nodes.length:Int) = ((p.nodes.length:Nat) :Int)) rfl,qp h0,qp (p:=List.replicate p.nodes.length (avI (0:Int)) = (jI (List.replicate p.nodes.length (0:Int)))) (rep_map _ _ _),qp (p:= (AV.gl 1 1 0 p.nodes.length true) = (.gl 1 1 0 (List.replicate p.nodes.length (0:Int)).length true)) (gl_len (List.length_replicate ..).symm)] [rn 9,aL p.nodes,.mk p.nodes.length,.lset 1 (jI (List.replicate p.nodes.length (0:Int))),.set 10 (.gl 1 1 0 (List.replicate p.nodes.length (0:Int)).length true),rn 9] ⟨kk,trivial⟩
theorem own_0_0 (p:Prog)(i4:Int)(l1:List Int)(y0 y1:Int)(h0:decide (i4< (p.funs.length:Int)) =true)(h1:0≤i4)(h2: ((p.funs)[i4.toNat]?) =some y0)(h3:0≤y0)(h4:y0< ((l1.length:Nat) :Int))(h5: ((l1)[y0.toNat]?) =some y1)(h6: (IntKind.i64.wrap (i4+ (1:Int))) = (i4+ (1:Int))) :
  LeadsM PP 0 (own_c0 p i4 l1).as (own_c0 p (i4+ (1:Int)) (List.set l1 y0.toNat i4)).as:=
 wW 2 [0,1] [ql avI p.funs,qp h0,qp h1,qg avI h2,qp h3,qp h4,qh avI h5,qp (p:=setElem (avI y1) 0 [(nI i4)] =some (avI i4)) rfl,qp (p:= (jI l1).set (0+y0.toNat) (avI i4) = (jI (List.set l1 y0.toNat i4))) (set_map0 _ _ _ _),qs 1 1 0 l1 y0.toNat i4 true,qs 1 1 0 l1 y0.toNat i4 true,qp (congrArg (AV.int .i64) h6)] [rn 6,aL p.funs,rn 2,bt 15,rn 9,aI (avI y0),rn 2,.ans (.ix),.st (avI y1) (avI i4),.lset 1 (jI (List.set l1 y0.toNat i4)),.set 3 (.gl 1 1 0 (List.set l1 y0.toNat i4).length true),.set 18 (.gl 1 1 0 (List.set l1 y0.toNat i4).length true),rn 5,sI 17 (i4+ (1:Int)),rn 3] ⟨kk,trivial⟩
theorem own_0_1 (p:Prog)(i4:Int)(l1:List Int)(h0:decide (i4< (p.funs.length:Int)) =false) :
  LeadsM PP 0 (own_c0 p i4 l1).as (own_c1 p l1 0).as:=
 wW 2 [0,1] [ql avI p.funs,qp h0] [rn 6,aL p.funs,rn 2,bf 15,rn 9] ⟨kk,trivial⟩
theorem own_1_0 (p:Prog)(l1:List Int)(i5:Int)(h0:decide (i5< (p.nodes.length:Int)) =true) :
  LeadsM PP 0 (own_c1 p l1 i5).as (own_c2 p l1 0 i5).as:=
 wW 2 [0,1] [ql Node.av p.nodes,qp h0] [rn 6,aL p.nodes,rn 2,bt 30,rn 10] ⟨kk,trivial⟩
theorem own_1_1 (p:Prog)(l1:List Int)(i5:Int)(h0:decide (i5< (p.nodes.length:Int)) =false) :
  Ends PP 0 (own_c1 p l1 i5).as (.ret (.ilst 1 (jI l1) true)) (hpOf [] 0) :=
 wE 2 [] [ql Node.av p.nodes,qp h0,qp (p:=AV.keylessL (jI l1) =true) (keylessL_map _ (fun _=>rfl) _),qp (p:=AV.frzOk 1 1 (jI l1) (jI l1) (.gl 1 1 0 l1.length true)) (frz_whole _ _)] [rn 6,aL p.nodes,rn 2,bf 30,rn 8,.frz 2 1 (jI l1)] trivial
theorem own_2_0 (p:Prog)(vl1:List Int)(k6 i5:Int)(y0:Node)(y1 y2 y3:Int)(h0:0≤i5)(h1: ((p.nodes)[i5.toNat]?) =some y0)(h2:decide (k6< (y0.kids.length:Int)) =true)(h3:0≤k6)(h4: ((y0.kids)[k6.toNat]?) =some y1)(h5:i5< ((vl1.length:Nat) :Int))(h6: ((vl1)[i5.toNat]?) =some y2)(h7:0≤y1)(h8:y1< ((vl1.length:Nat) :Int))(h9: ((vl1)[y1.toNat]?) =some y3)(h10: (IntKind.i64.wrap (k6+ (1:Int))) = (k6+ (1:Int))) :
  LeadsM PP 0 (own_c2 p vl1 k6 i5).as (own_c2 p (List.set vl1 y1.toNat y2) (k6+ (1:Int)) i5).as:=
 wW 2 [0,1] [qp h0,qg Node.av h1,ql avI y0.kids,qp h2,qp h0,qg Node.av h1,qp h3,qg avI h4,qp h0,qp h5,qh avI h6,qp h7,qp h8,qh avI h9,qp (p:=setElem (avI y3) 0 [(nI y2)] =some (avI y2)) rfl,qp (p:= (jI vl1).set (0+y1.toNat) (avI y2) = (jI (List.set vl1 y1.toNat y2))) (set_map0 _ _ _ _),qs 1 1 0 vl1 y1.toNat y2 true,qs 1 1 0 vl1 y1.toNat y2 true,qs 1 1 0 vl1 y1.toNat y2 true,qp (congrArg (AV.int .i64) h10)] [rn 7,aI (Node.av y0),rn 2,aL y0.kids,rn 2,bt 41,rn 4,.reg [.d,.d,.d,.d,.ans (.idx (Node.av y0)),.d,.d,.d,.ans (.idx (avI y1)),.d,.d,.d,.ans (.ix),.ans (.idx (avI y2)),.ans (.ix),.st (avI y3) (avI y2)],.lset 1 (jI (List.set vl1 y1.toNat y2)),.set 3 (.gl 1 1 0 (List.set vl1 y1.toNat y2).length true),.set 44 (.gl 1 1 0 (List.set vl1 y1.toNat y2).length true),.set 54 (.gl 1 1 0 (List.set vl1 y1.toNat y2).length true),rn 4,sI 43 (k6+ (1:Int)),rn 3] ⟨kk,trivial⟩
theorem own_2_1 (p:Prog)(vl1:List Int)(k6 i5:Int)(y0:Node)(h0:0≤i5)(h1: ((p.nodes)[i5.toNat]?) =some y0)(h2:decide (k6< (y0.kids.length:Int)) =false)(h3: (IntKind.i64.wrap (i5+ (1:Int))) = (i5+ (1:Int))) :
  LeadsM PP 0 (own_c2 p vl1 k6 i5).as (own_c1 p vl1 (i5+ (1:Int))).as:=
 wW 2 [0,1] [qp h0,qg Node.av h1,ql avI y0.kids,qp h2,qp (congrArg (AV.int .i64) h3)] [rn 7,aI (Node.av y0),rn 2,aL y0.kids,rn 2,bf 41,rn 6,sI 32 (i5+ (1:Int)),rn 3] ⟨kk,trivial⟩
noncomputable def rRe_c0 (p:Prog)(vy1:List Int)(round5:Int)(l1:List Bool) :TS:=
 {fr:={fn:=54,nt:=60,sl:=[(1,(.ptr 0 0)),(2,.nils),(3,(.gl 1 1 0 l1.length true)),(4,(iI vy1)),(5,(nI round5))],todo:=[.code (cd Tryz.f54 [1,1,1,1,0,1,0,0]),.inLoop (cd Tryz.f54 [1,1,1,1,0,1,0,0]),.inBlock 0,.code (cd Tryz.f54 [1,1,1,1,1])]},cs:=[],hp:=[hoq220 p,(1,(.lst 1 (List.map avB l1)),true)],nb:=2}
noncomputable def rRe_c1 (p:Prog)(vy1:List Int)(i6:Int)(l1:List Bool)(round5:Int) :TS:=
 {fr:={fn:=54,nt:=60,sl:=[(1,(.ptr 0 0)),(2,.nils),(3,(.gl 1 1 0 l1.length true)),(4,(iI vy1)),(5,(nI round5)),(6,(nI i6))],todo:=[.code (cd Tryz.f54 [1,1,1,1,0,1,0,0,1,0,0,1,0,0]),.inLoop (cd Tryz.f54 [1,1,1,1,0,1,0,0,1,0,0,1,0,0]),.inBlock 2,.inBlock 1,.code (cd Tryz.f54 [1,1,1,1,0,1,0,0,1,1]),.inLoop (cd Tryz.f54 [1,1,1,1,0,1,0,0]),.inBlock 0,.code (cd Tryz.f54 [1,1,1,1,1])]},cs:=[],hp:=[hoq220 p,(1,(.lst 1 (List.map avB l1)),true)],nb:=2}
theorem rRe_E_0 (p:Prog)(y0:Bool)(y1:List Int)(h0:p.funs.length<100000)(h1:0≤p.main)(h2:p.main< (((List.replicate p.funs.length false).length:Nat) :Int))(h3: (((List.replicate p.funs.length false))[p.main.toNat]?) =some y0)(h4:Pure PP 102 [(Prog.av p)] (iI y1)) :
  LeadsM PP 0 (start PP 54 [(Prog.av p)]).as (rRe_c0 p y1 0 (List.set (List.replicate p.funs.length false) p.main.toNat true)).as:=
 wW 2 [0,1] [ql avI p.funs,qp (p:= (p.funs.length:Int) = ((p.funs.length:Nat) :Int)) rfl,qp (p:= (p.funs.length:Int) = ((p.funs.length:Nat) :Int)) rfl,qp h0,qp (p:=List.replicate p.funs.length (avB false) = (List.map avB (List.replicate p.funs.length false))) (rep_map _ _ _),qp (p:= (AV.gl 1 1 0 p.funs.length true) = (.gl 1 1 0 (List.replicate p.funs.length false).length true)) (gl_len (List.length_replicate ..).symm),qp h1,qp h2,qh avB h3,qp (p:=setElem (avB y0) 0 [(bV true)] =some (avB true)) rfl,qp (p:= (List.map avB (List.replicate p.funs.length false)).set (0+p.main.toNat) (avB true) = (List.map avB (List.set (List.replicate p.funs.length false) p.main.toNat true))) (set_map0 _ _ _ _),qp (p:= (AV.gl 1 1 0 (List.replicate p.funs.length false).length true) = (.gl 1 1 0 (List.set (List.replicate p.funs.length false) p.main.toNat true).length true)) (gl_len (List.length_set ..).symm),qp (p:= (AV.gl 1 1 0 (List.replicate p.funs.length false).length true) = (.gl 1 1 0 (List.set (List.replicate p.funs.length false) p.main.toNat true).length true)) (gl_len (List.length_set ..).symm),qp (p:= (AV.gl 1 1 0 (List.replicate p.funs.length false).length true) = (.gl 1 1 0 (List.set (List.replicate p.funs.length false) p.main.toNat true).length true)) (gl_len (List.length_set ..).symm),qp h4] [rn 9,aL p.funs,.mk p.funs.length,.lset 1 (List.map avB (List.replicate p.funs.length false)),.set 11 (.gl 1 1 0 (List.replicate p.funs.length false).length true),rn 7,.ans (.ix),.st (avB y0) (avB true),.lset 1 (List.map avB (List.set (List.replicate p.funs.length false) p.main.toNat true)),.set 11 (.gl 1 1 0 (List.set (List.replicate p.funs.length false) p.main.toNat true).length true),.set 3 (.gl 1 1 0 (List.set (List.replicate p.funs.length false) p.main.toNat true).length true),.set 12 (.gl 1 1 0 (List.set (List.replicate p.funs.length false) p.main.toNat true).length true),rn 4,.pure (iI y1),rn 9] ⟨kk,trivial⟩
theorem rRe_0_0 (p:Prog)(vy1:List Int)(round5:Int)(l1:List Bool)(h0:decide (round5< (p.funs.length:Int)) =true) :
  LeadsM PP 0 (rRe_c0 p vy1 round5 l1).as (rRe_c1 p vy1 0 l1 round5).as:=
 wW 2 [0,1] [ql avI p.funs,qp h0] [rn 6,aL p.funs,rn 2,bt 22,rn 10] ⟨kk,trivial⟩
theorem rRe_0_1 (p:Prog)(vy1:List Int)(round5:Int)(l1:List Bool)(h0:decide (round5< (p.funs.length:Int)) =false) :
  Ends PP 0 (rRe_c0 p vy1 round5 l1).as (.ret (.ilst 1 (List.map avB l1) true)) (hpOf [] 0) :=
 wE 2 [] [ql avI p.funs,qp h0,qp (p:=AV.keylessL (List.map avB l1) =true) (keylessL_map _ (fun _=>rfl) _),qp (p:=AV.frzOk 1 1 (List.map avB l1) (List.map avB l1) (.gl 1 1 0 l1.length true)) (frz_whole _ _)] [rn 6,aL p.funs,rn 2,bf 22,rn 8,.frz 2 1 (List.map avB l1)] trivial
theorem rRe_1_0 (p:Prog)(vy1:List Int)(i6:Int)(l1:List Bool)(round5:Int)(y0:Node)(y1:Int)(y2 y3:Bool)(h0:decide (i6< (p.nodes.length:Int)) =true)(h1:0≤i6)(h2: ((p.nodes)[i6.toNat]?) =some y0)(h3: (y0.op== (4:Int)) =true)(h4:decide (y0.n< (0:Int)) =true)(h5: ((vy1)[i6.toNat]?) =some y1)(h6:0≤y1)(h7:y1< ((l1.length:Nat) :Int))(h8: ((l1)[y1.toNat]?) =some y2)(h9:y2=true)(h10: (IntKind.i64.wrap ((-1:Int) -y0.n)) = ((-1:Int) -y0.n))(h11:0≤ ((-1:Int) -y0.n))(h12: ((-1:Int) -y0.n) < ((l1.length:Nat) :Int))(h13: ((l1)[((-1:Int) -y0.n).toNat]?) =some y3)(h14: (IntKind.i64.wrap (i6+ (1:Int))) = (i6+ (1:Int))) :
  LeadsM PP 0 (rRe_c1 p vy1 i6 l1 round5).as (rRe_c1 p vy1 (i6+ (1:Int)) (List.set l1 (((-1:Int) -y0.n).toNat) true) round5).as:=
 wW 3 [0,1] [ql Node.av p.nodes,qp h0,qp h1,qg Node.av h2,qp h3,qp h4,qp h1,qg avI h5,qp h6,qp h7,qh avB h8,qp h9,qp (congrArg (AV.int .i64) h10),qp h11,qp h12,qh avB h13,qp (p:=setElem (avB y3) 0 [(bV true)] =some (avB true)) rfl,qp (p:= (List.map avB l1).set (0+ ((-1:Int) -y0.n).toNat) (avB true) = (List.map avB (List.set l1 (((-1:Int) -y0.n).toNat) true))) (set_map0 _ _ _ _),qs 1 1 0 l1 (((-1:Int) -y0.n).toNat) true true,qs 1 1 0 l1 (((-1:Int) -y0.n).toNat) true true,qs 1 1 0 l1 (((-1:Int) -y0.n).toNat) true true,qp (congrArg (AV.int .i64) h14)] [rn 6,aL p.nodes,rn 2,bt 29,rn 9,aI (Node.av y0),rn 10,bt 40,rn 5,bt 45,rn 3,aI (avI y1),rn 1,.ans (.ix),aI (avB y2),rn 2,bt 53,rn 6,sI 57 ((-1:Int) -y0.n),.ans (.ix),.st (avB y3) (avB true),.lset 1 (List.map avB (List.set l1 (((-1:Int) -y0.n).toNat) true)),.set 3 (.gl 1 1 0 (List.set l1 (((-1:Int) -y0.n).toNat) true).length true),.set 46 (.gl 1 1 0 (List.set l1 (((-1:Int) -y0.n).toNat) true).length true),.set 54 (.gl 1 1 0 (List.set l1 (((-1:Int) -y0.n).toNat) true).length true),rn 5,sI 31 (i6+ (1:Int)),rn 3] ⟨kk,trivial⟩
theorem rRe_1_1 (p:Prog)(vy1:List Int)(i6:Int)(l1:List Bool)(round5:Int)(y0:Node)(y1:Int)(y2:Bool)(h0:decide (i6< (p.nodes.length:Int)) =true)(h1:0≤i6)(h2: ((p.nodes)[i6.toNat]?) =some y0)(h3: (y0.op== (4:Int)) =true)(h4:decide (y0.n< (0:Int)) =true)(h5: ((vy1)[i6.toNat]?) =some y1)(h6:0≤y1)(h7:y1< ((l1.length:Nat) :Int))(h8: ((l1)[y1.toNat]?) =some y2)(h9:y2=false)(h10: (IntKind.i64.wrap (i6+ (1:Int))) = (i6+ (1:Int))) :
  LeadsM PP 0 (rRe_c1 p vy1 i6 l1 round5).as (rRe_c1 p vy1 (i6+ (1:Int)) l1 round5).as:=
 wW 3 [0,1] [ql Node.av p.nodes,qp h0,qp h1,qg Node.av h2,qp h3,qp h4,qp h1,qg avI h5,qp h6,qp h7,qh avB h8,qp h9,qp (congrArg (AV.int .i64) h10)] [rn 6,aL p.nodes,rn 2,bt 29,rn 9,aI (Node.av y0),rn 10,bt 40,rn 5,bt 45,rn 3,aI (avI y1),rn 1,.ans (.ix),aI (avB y2),rn 2,bf 53,rn 6,sI 31 (i6+ (1:Int)),rn 3] ⟨kk,trivial⟩
theorem rRe_1_2 (p:Prog)(vy1:List Int)(i6:Int)(l1:List Bool)(round5:Int)(y0:Node)(h0:decide (i6< (p.nodes.length:Int)) =true)(h1:0≤i6)(h2: ((p.nodes)[i6.toNat]?) =some y0)(h3: (y0.op== (4:Int)) =true)(h4:decide (y0.n< (0:Int)) =false)(h5: (IntKind.i64.wrap (i6+ (1:Int))) = (i6+ (1:Int))) :
  LeadsM PP 0 (rRe_c1 p vy1 i6 l1 round5).as (rRe_c1 p vy1 (i6+ (1:Int)) l1 round5).as:=
 wW 3 [0,1] [ql Node.av p.nodes,qp h0,qp h1,qg Node.av h2,qp h3,qp h4,qp (congrArg (AV.int .i64) h5)] [rn 6,aL p.nodes,rn 2,bt 29,rn 9,aI (Node.av y0),rn 10,bt 40,rn 5,bf 45,rn 15,sI 31 (i6+ (1:Int)),rn 3] ⟨kk,trivial⟩
theorem rRe_1_3 (p:Prog)(vy1:List Int)(i6:Int)(l1:List Bool)(round5:Int)(y0:Node)(h0:decide (i6< (p.nodes.length:Int)) =true)(h1:0≤i6)(h2: ((p.nodes)[i6.toNat]?) =some y0)(h3: (y0.op== (4:Int)) =false)(h4: (IntKind.i64.wrap (i6+ (1:Int))) = (i6+ (1:Int))) :
  LeadsM PP 0 (rRe_c1 p vy1 i6 l1 round5).as (rRe_c1 p vy1 (i6+ (1:Int)) l1 round5).as:=
 wW 3 [0,1] [ql Node.av p.nodes,qp h0,qp h1,qg Node.av h2,qp h3,qp (congrArg (AV.int .i64) h4)] [rn 6,aL p.nodes,rn 2,bt 29,rn 9,aI (Node.av y0),rn 10,bf 40,rn 20,sI 31 (i6+ (1:Int)),rn 3] ⟨kk,trivial⟩
theorem rRe_1_4 (p:Prog)(vy1:List Int)(i6:Int)(l1:List Bool)(round5:Int)(h0:decide (i6< (p.nodes.length:Int)) =false)(h1: (IntKind.i64.wrap (round5+ (1:Int))) = (round5+ (1:Int))) :
  LeadsM PP 0 (rRe_c1 p vy1 i6 l1 round5).as (rRe_c0 p vy1 (round5+ (1:Int)) l1).as:=
 wW 2 [0,1] [ql Node.av p.nodes,qp h0,qp (congrArg (AV.int .i64) h1)] [rn 6,aL p.nodes,rn 2,bf 29,rn 6,sI 24 (round5+ (1:Int)),rn 3] ⟨kk,trivial⟩
noncomputable def rTr_s (p:Prog) :TS:=startH PP 23 [(Prog.av p)] [] 0
noncomputable def rTr_c0 (p:Prog)(vy1:List Bool)(n6 i7:Int)(l2:List Int) :TS:=
 {fr:={fn:=23,nt:=75,sl:=[(1,(.ptr 0 0)),(2,(.ptr 1 0)),(3,(nI 0)),(4,(.ilst 1 (List.map avB vy1) false)),(5,(.gl 2 1 0 l2.length false)),(6,(nI n6)),(7,(nI i7))],todo:=[.code (cd Tryz.f23 [1,1,1,1,1,0,1,0,0]),.inLoop (cd Tryz.f23 [1,1,1,1,1,0,1,0,0]),.inBlock 0,.code (cd Tryz.f23 [1,1,1,1,1,1])]},cs:=[],hp:=[hoq220 p,hoq222,(2,(.lst 1 (jI l2)),true)],nb:=3}
noncomputable def rTr_c1 (p:Prog)(vy1:List Bool)(vy2:Int)(cs1:List Con)(to5:List Int)(i9:Int)(l3:List Node)(l4:List Int) :TS:=
 {fr:={fn:=23,nt:=75,sl:=[(1,(.ptr 0 0)),(2,(.ptr 1 0)),(3,(nI 0)),(4,(.ilst 1 (List.map avB vy1) false)),(5,(iI to5)),(8,(.ptr 2 0)),(9,(nI i9))],todo:=[.code (cd Tryz.f23 [1,1,1,1,1,1,1,1,0,1,0,0]),.inLoop (cd Tryz.f23 [1,1,1,1,1,1,1,1,0,1,0,0]),.inBlock 2,.code (cd Tryz.f23 [1,1,1,1,1,1,1,1,1])]},cs:=[],hp:=[hoq220 p,hoq222,hoq221 l3 l4 vy2 cs1,(3,(.lst 4 (jN l3)),true),(4,(.lst 1 (jI l4)),true)],nb:=5}
noncomputable def rTr_c2 (p:Prog)(vy1:List Bool)(to5:List Int)(vy2:Int)(cs1:List Con)(i9:Int)(l3:List Node)(l4:List Int) :TS:=
 {fr:={fn:=23,nt:=75,sl:=[(1,(.ptr 0 0)),(2,(.ptr 1 0)),(3,(nI 0)),(4,(.ilst 1 (List.map avB vy1) false)),(5,(iI to5)),(8,(.ptr 2 0)),(9,(nI i9))],todo:=[.code (cd Tryz.f23 [1,1,1,1,1,1,1,1,0,1,0,0,1,0,0,1,0,1]),.inBlock 3,.code (cd Tryz.f23 [1,1,1,1,1,1,1,1,0,1,0,0,1,1]),.inLoop (cd Tryz.f23 [1,1,1,1,1,1,1,1,0,1,0,0]),.inBlock 2,.code (cd Tryz.f23 [1,1,1,1,1,1,1,1,1])]},cs:=[],hp:=[hoq220 p,hoq222,hoq221 l3 l4 vy2 cs1,(3,(.lst 4 (jN l3)),true),(4,(.lst 1 (jI l4)),true)],nb:=5}
theorem rTr_E_0 (p:Prog)(y0:Bool)(h0:Pure PP 33 [(Prog.av p)] (bV y0))(h1: (!y0) =true) :
  Ends PP 0 (rTr_s p).as (.ret (.tup [(.agg [(.ilst 4 (jN ([] :List Node)) true),(.ilst 1 (jI ([] :List Int)) true),(nI 0),(.ilst 2 (jC ([] :List Con)) true)]),(nI 2)])) (hpOf [] 0) :=
 wE 2 [] [qp h0,qp h1] [rn 10,pB y0,rn 2,bt 12,rn 8,.cnilI 1 0 4,.cnilI 1 1 1,.cnilI 1 3 2] trivial
theorem rTr_E_1 (p:Prog)(y0:Bool)(y1:List Bool)(h0:Pure PP 33 [(Prog.av p)] (bV y0))(h1: (!y0) =false)(h2:Pure PP 54 [(Prog.av p)] (.ilst 1 (List.map avB y1) false)) :
  LeadsM PP 0 (rTr_s p).as (rTr_c0 p y1 0 0 ([] :List Int)).as:=
 wW 3 [0,1,2] [qp h0,qp h1,qp h2,qp (p:= ([] :List AV) = (jI ([] :List Int))) rfl,qp (p:= (AV.gl 2 1 0 0 false) = (.gl 2 1 0 ([] :List Int).length false)) rfl] [rn 10,pB y0,rn 2,bf 12,rn 5,.pure (.ilst 1 (List.map avB y1) false),rn 17,.nilL 5 1,.lset 2 (jI ([] :List Int)),.set 5 (.gl 2 1 0 ([] :List Int).length false)] ⟨kk,trivial⟩
theorem rTr_0_0 (p:Prog)(vy1:List Bool)(n6 i7:Int)(l2:List Int)(y0:Bool)(h0:decide (i7< (vy1.length:Int)) =true)(h1:List.length (l2++ [n6]) ≤1000000)(h2:0≤i7)(h3: ((vy1)[i7.toNat]?) =some y0)(h4:y0=true)(h5: (IntKind.i64.wrap (n6+ (1:Int))) = (n6+ (1:Int)))(h6: (IntKind.i64.wrap (i7+ (1:Int))) = (i7+ (1:Int))) :
  LeadsM PP 0 (rTr_c0 p vy1 n6 i7 l2).as (rTr_c0 p vy1 (n6+ (1:Int)) (i7+ (1:Int)) (l2++ [n6])).as:=
 wW 5 [0,1,4] [ql avB vy1,qp h0,qp (app_p1 avI l2),qp h1,qp (app_p3 avI l2 [n6]),qp (app_p4 avI l2 [n6]),qp h2,qg avB h3,qp h4,qp (congrArg (AV.int .i64) h5),qp (congrArg (AV.int .i64) h6)] [rn 5,aL vy1,rn 2,bt 19,rn 9,.app (jI (l2++ [n6])) (l2++ [n6]).length,rn 6,aI (avB y0),rn 2,bt 29,rn 4,sI 31 (n6+ (1:Int)),rn 6,sI 21 (i7+ (1:Int)),rn 3] ⟨kk,trivial⟩
theorem rTr_0_1 (p:Prog)(vy1:List Bool)(n6 i7:Int)(l2:List Int)(y0:Bool)(h0:decide (i7< (vy1.length:Int)) =true)(h1:List.length (l2++ [n6]) ≤1000000)(h2:0≤i7)(h3: ((vy1)[i7.toNat]?) =some y0)(h4:y0=false)(h5: (IntKind.i64.wrap (i7+ (1:Int))) = (i7+ (1:Int))) :
  LeadsM PP 0 (rTr_c0 p vy1 n6 i7 l2).as (rTr_c0 p vy1 n6 (i7+ (1:Int)) (l2++ [n6])).as:=
 wW 5 [0,1,4] [ql avB vy1,qp h0,qp (app_p1 avI l2),qp h1,qp (app_p3 avI l2 [n6]),qp (app_p4 avI l2 [n6]),qp h2,qg avB h3,qp h4,qp (congrArg (AV.int .i64) h5)] [rn 5,aL vy1,rn 2,bt 19,rn 9,.app (jI (l2++ [n6])) (l2++ [n6]).length,rn 6,aI (avB y0),rn 2,bf 29,rn 6,sI 21 (i7+ (1:Int)),rn 3] ⟨kk,trivial⟩
theorem rTr_0_2 (p:Prog)(vy1:List Bool)(n6 i7:Int)(l2:List Int)(mn0:Int)(cs1:List Con)(y2:Int)(h0:decide (i7< (vy1.length:Int)) =false)(h1:Pure PP 55 [(Prog.av p)] (.agg [.nils,.nils,(nI mn0),(iC cs1)]))(h2:0≤p.main)(h3: ((l2)[p.main.toNat]?) =some y2) :
  LeadsM PP 0 (rTr_c0 p vy1 n6 i7 l2).as (rTr_c1 p vy1 y2 cs1 l2 0 ([] :List Node) ([] :List Int)).as:=
 wW 6 [0,1,3,4,5] [ql avB vy1,qp h0,qp (p:=AV.keylessL (jI l2) =true) (keylessL_map _ (fun _=>rfl) _),qp (p:=AV.frzOk 2 1 (jI l2) (jI l2) (.gl 2 1 0 l2.length false)) (frz_whole _ _),qp h1,qp h2,qg avI h3,qp (p:= ([] :List AV) = (jN ([] :List Node))) rfl,qp (p:= (AV.gl 4 4 0 0 false) = (.gl 4 4 0 ([] :List Node).length false)) rfl,qp (p:= ([] :List AV) = (jI ([] :List Int))) rfl,qp (p:= (AV.gl 5 1 0 0 false) = (.gl 5 1 0 ([] :List Int).length false)) rfl] [rn 5,aL vy1,rn 2,bf 19,rn 3,.frz 5 2 (jI l2),rn 2,.pure (.agg [.nils,.nils,(nI mn0),(iC cs1)]),rn 8,aI (avI y2),rn 11,.cnil 3 0 4,.lset 4 (jN ([] :List Node)),.cset 3 0 (.gl 4 4 0 ([] :List Node).length false),.cnil 3 1 1,.lset 5 (jI ([] :List Int)),.cset 3 1 (.gl 5 1 0 ([] :List Int).length false)] ⟨kk,⟨kk,trivial⟩⟩
theorem rTr_1_0 (p:Prog)(vy1:List Bool)(vy2:Int)(cs1:List Con)(to5:List Int)(i9:Int)(l3:List Node)(l4:List Int)(y0:Bool)(h0:decide (i9< (p.funs.length:Int)) =true)(h1:0≤i9)(h2: ((vy1)[i9.toNat]?) =some y0)(h3:y0=true)(h4:List.length (l4++ [((l3.length:Nat) :Int)]) ≤1000000) :
  LeadsM PP 0 (rTr_c1 p vy1 vy2 cs1 to5 i9 l3 l4).as (rTr_c2 p vy1 to5 vy2 cs1 i9 l3 (l4++ [((l3.length:Nat) :Int)])).as:=
 wW 7 [0,1,2,3,6] [ql avI p.funs,qp h0,qp h1,qg avB h2,qp h3,qp (app_p1 avI l4),qp h4,qp (app_p3 avI l4 [((l3.length:Nat) :Int)]),qp (app_p4 avI l4 [((l3.length:Nat) :Int)])] [rn 6,aL p.funs,rn 2,bt 44,rn 8,aI (avB y0),rn 2,bt 50,rn 9,.app (jI (l4++ [((l3.length:Nat) :Int)])) (l4++ [((l3.length:Nat) :Int)]).length,rn 3] ⟨kk,⟨kk,trivial⟩⟩
theorem rTr_1_1 (p:Prog)(vy1:List Bool)(vy2:Int)(cs1:List Con)(to5:List Int)(i9:Int)(l3:List Node)(l4:List Int)(y0:Bool)(h0:decide (i9< (p.funs.length:Int)) =true)(h1:0≤i9)(h2: ((vy1)[i9.toNat]?) =some y0)(h3:y0=false)(h4: (IntKind.i64.wrap (i9+ (1:Int))) = (i9+ (1:Int))) :
  LeadsM PP 0 (rTr_c1 p vy1 vy2 cs1 to5 i9 l3 l4).as (rTr_c1 p vy1 vy2 cs1 to5 (i9+ (1:Int)) l3 l4).as:=
 wW 5 [0,1,2,3,4] [ql avI p.funs,qp h0,qp h1,qg avB h2,qp h3,qp (congrArg (AV.int .i64) h4)] [rn 6,aL p.funs,rn 2,bt 44,rn 8,aI (avB y0),rn 2,bf 50,rn 6,sI 46 (i9+ (1:Int)),rn 3] ⟨kk,⟨kk,trivial⟩⟩
theorem rTr_1_2 (p:Prog)(vy1:List Bool)(vy2:Int)(cs1:List Con)(to5:List Int)(i9:Int)(l3:List Node)(l4:List Int)(h0:decide (i9< (p.funs.length:Int)) =false) :
  Ends PP 0 (rTr_c1 p vy1 vy2 cs1 to5 i9 l3 l4).as (.ret (.tup [(.agg [(iN l3),(iI l4),(nI vy2),(iC cs1)]),(nI 0)])) (hpOf [] 0) :=
 wE 5 [] [ql avI p.funs,qp h0,qp (p:=AV.keylessL (jN l3) =true) (keylessL_map _ (fun _=>rfl) _),qp (p:=AV.frzOk 3 4 (jN l3) (jN l3) (.gl 3 4 0 l3.length false)) (frz_whole _ _),qp (p:=AV.keylessL (jI l4) =true) (keylessL_map _ (fun _=>rfl) _),qp (p:=AV.frzOk 4 1 (jI l4) (jI l4) (.gl 4 1 0 l4.length false)) (frz_whole _ _)] [rn 6,aL p.funs,rn 2,bf 44,rn 9,.cfrz 1 0 3 (jN l3),.cfrz 1 1 4 (jI l4)] trivial
theorem rTr_2_0 (p:Prog)(vy1:List Bool)(to5:List Int)(vy2:Int)(cs1:List Con)(i9:Int)(l3:List Node)(l4:List Int)(y0:Int)(y1:List Int)(m2:List Node)(h0:0≤i9)(h1: ((p.funs)[i9.toNat]?) =some y0)(h2:Pure PP 48 [(nI 0),(nI (p.cons.length:Int))] (iI y1))(h3:Spec PP (.enter 47 [(.gl 3 4 0 l3.length false),(Prog.av p),(nI y0),(iI to5),(iI y1)]) (hpOf [hoq220 p,hoq222,hoq221 l3 l4 vy2 cs1,(3,(.lst 4 (jN l3)),true),(4,(.lst 1 (jI l4)),true)] 5) (.ret (.gl 5 4 0 (l3++m2).length false)) (hpOf [hoq220 p,hoq222,hoq221 l3 l4 vy2 cs1,(4,(.lst 1 (jI l4)),true),(5,(.lst 4 (jN (l3++m2))),true)] 6))(h4: (IntKind.i64.wrap (i9+ (1:Int))) = (i9+ (1:Int))) :
  LeadsM PP 0 (rTr_c2 p vy1 to5 vy2 cs1 i9 l3 l4).as (rTr_c1 p vy1 vy2 cs1 to5 (i9+ (1:Int)) (l3++m2) l4).as:=
 wW 6 [0,1,2,5,4] [qp h0,qg avI h1,ql Con.av p.cons,qp h2,qp h3,qr (nI y0),qr (nI y0),qr (AV.ilst 1 (jI p.funs) false),qr (AV.ilst 1 (jI p.funs) false),qr (Prog.av p),qr (Prog.av p),qr (AV.gl 3 4 0 l3.length false),qr (AV.gl 3 4 0 l3.length false),qp (congrArg (AV.int .i64) h4)] [.reg [.d,.d,.d,.d,.d,.d,.ans (.idx (avI y0)),.d,.d,.d,.d,.ans (.len (p.cons.length:Int)),.pure (iI y1),.call (.gl 5 4 0 (l3++m2).length false) (hpOf [hoq220 p,hoq222,hoq221 l3 l4 vy2 cs1,(4,(.lst 1 (jI l4)),true),(5,(.lst 4 (jN (l3++m2))),true)] 6),.d,.d],rn 4,sI 46 (i9+ (1:Int)),rn 3] ⟨kk,⟨kk,trivial⟩⟩
end Go.Hb
namespace Go.Hb
open Go.Proofs
set_option maxHeartbeats 2000000
noncomputable section
def ownK (i:Nat) :List Int→List Int→List Int
 | [],l=>l
 |k::t,l=>ownK i t (l.set k.toNat (l.getD i 0))
def ownN :List Node→Nat→List Int→List Int
 | [],_,l=>l
 |x::t,i,l=>ownN t (i+1) (ownK i x.kids l)
def ownF :List Int→Nat→List Int→List Int
 | [],_,l=>l
 |f::t,i,l=>ownF t (i+1) (l.set f.toNat (i:Int))
def ownR (p:Prog) :List Int:=ownN p.nodes 0 (ownF p.funs 0 (List.replicate p.nodes.length 0))
theorem ownK_len (i:Nat) :∀ (t l:List Int),(ownK i t l).length=l.length
 | [],_=>rfl
 |k::t,l=>by rw [ownK,ownK_len i t];simp
theorem ownN_len :∀ (t:List Node) (i:Nat) (l:List Int),(ownN t i l).length=l.length
 | [],_,_=>rfl
 |x::t,i,l=>by rw [ownN,ownN_len t,ownK_len]
theorem ownF_len :∀ (t:List Int) (i:Nat) (l:List Int),(ownF t i l).length=l.length
 | [],_,_=>rfl
 |f::t,i,l=>by rw [ownF,ownF_len t];simp
theorem ownR_len (p:Prog) : (ownR p).length=p.nodes.length:=by rw [ownR,ownN_len,ownF_len];simp
theorem own2 {p:Prog}(hp:FineP p){i:Nat}{x:Node}(hx:p.nodes[i]?=some x) :∀ (t:List Int) (j:Nat) (l:List Int),l.length=p.nodes.length→x.kids.drop j=t →
  LeadsM PP 0 (own_c2 p l (j:Int) (i:Int)).as (own_c1 p (ownK i t l) ((i:Int) +1)).as
 | [],j,l,hl,h=>by
  have:=dropN h
  have hi:= (List.getElem?_eq_some_iff.1 hx).1
  have hn:=hp.small
  exact own_2_1 p l j i x sd sd sd sd
 | k::t,j,l,hl,h=>by
  obtain⟨g1,g2,g3⟩ :=dropC h
  obtain⟨hf,hk10,hks⟩ :=hp.node _ _ hx
  have hk':=hks k (List.mem_of_getElem? g1)
  have hi:= (List.getElem?_eq_some_iff.1 hx).1
  have hn:=hp.small
  have hli:l[i]?=some (l.getD i 0) :=by rw [List.getD_eq_getElem?_getD,List.getElem?_eq_getElem (by omega)];rfl
  obtain⟨y,hy⟩ :∃y,l[k.toNat]?=some y:= ⟨_,List.getElem?_eq_getElem (by omega)⟩
  exact(own_2_0 p l j i x k (l.getD i 0) y sd sd sd sd sd (by omega) sd (by omega) (by omega) hy sd).trans
   (own2 hp hx t (j+1) _ (by simpa using hl) g2)
theorem own1 {p:Prog}(hp:FineP p) :∀ (t:List Node) (i:Nat) (l:List Int),l.length=p.nodes.length→p.nodes.drop i=t →
  Ends PP 0 (own_c1 p l (i:Int)).as (.ret (.ilst 1 (List.map avI (ownN t i l)) true)) (hpOf [] 0)
 | [],i,l,hl,h=>by
  have:=dropN h
  exact own_1_1 p l i sd
 | x::t,i,l,hl,h=>by
  obtain⟨g1,g2,g3⟩ :=dropC h
  exact(own_1_0 p l i sd).ends ((own2 hp g1 x.kids 0 l hl rfl).ends (own1 hp t (i+1) _ (by rw [ownK_len,hl]) g2))
theorem own0 {p:Prog}(hp:FineP p) :∀ (t:List Int) (i:Nat) (l:List Int),l.length=p.nodes.length→p.funs.drop i=t →
  Ends PP 0 (own_c0 p (i:Int) l).as (.ret (.ilst 1 (List.map avI (ownN p.nodes 0 (ownF t i l))) true)) (hpOf [] 0)
 | [],i,l,hl,h=>by
  have:=dropN h
  exact(own_0_1 p i l sd).ends (own1 hp p.nodes 0 l hl rfl)
 | a::t,i,l,hl,h=>by
  obtain⟨g1,g2,g3⟩ :=dropC h
  have ha:=hp.funs a (List.mem_of_getElem? g1)
  have hf:=hp.fsmall
  obtain⟨y,hy⟩ :∃y,l[a.toNat]?=some y:= ⟨_,List.getElem?_eq_getElem (by omega)⟩
  exact(own_0_0 p i l a y sd sd sd (by omega) (by omega) hy sd).ends (own0 hp t (i+1) _ (by simpa using hl) g2)
theorem own_pure {p:Prog}(hp:FineP p) :Pure PP 102 [PA p] (.ilst 1 (List.map avI (ownR p)) false) :=by
 refine pure_at (by kernel_rfl) rfl rfl ?_
 have hn:=hp.small
 refine Ends.val ?_ (fun E cv=>vr_inexact)
 exact(own_E_0 p (by omega)).ends (own0 hp p.funs 0 _ (by simp) rfl)
def markN (own:List Int) :List Node→Nat→List Bool→List Bool
 | [],_,l=>l
 |x::t,i,l=>markN own t (i+1) (if x.op=4∧x.n<0∧l.getD (own.getD i 0).toNat false=true then l.set (-1-x.n).toNat true else l)
def markR (p:Prog)(own:List Int) :Nat→List Bool→List Bool
 |0,l=>l
 |k+1,l=>markR p own k (markN own p.nodes 0 l)
def reachR (p:Prog) :List Bool:=markR p (ownR p) p.funs.length ((List.replicate p.funs.length false).set p.main.toNat true)
theorem markN_len (own:List Int) :∀ (t:List Node) (i:Nat) (l:List Bool),(markN own t i l).length=l.length
 | [],_,_=>rfl
 |x::t,i,l=>by rw [markN,markN_len own t];split<;>simp
theorem markR_len (p:Prog)(own:List Int) :∀ (k:Nat) (l:List Bool),(markR p own k l).length=l.length
 |0,_=>rfl
 |k+1,l=>by rw [markR,markR_len p own k,markN_len]
theorem reachR_len (p:Prog) : (reachR p).length=p.funs.length:=by rw [reachR,markR_len];simp
structure OwnsP (p:Prog) (own:List Int) :Prop where
 len:own.length=p.nodes.length
 own:∀i:Nat,i<p.nodes.length→0≤own.getD i 0∧own.getD i 0<p.funs.length
 name:∀ (i:Nat) (x:Node),p.nodes[i]?=some x→x.op=4→x.n<0→ -1-x.n<p.funs.length
 small:p.nodes.length≤320
 fsmall:p.funs.length≤320
 main:0≤p.main∧p.main<p.funs.length
theorem rre1 {p:Prog}{own:List Int}(hp:OwnsP p own)(r:Int)(hr:0≤r∧r<1000) :∀ (t:List Node) (i:Nat) (l:List Bool),l.length=p.funs.length→p.nodes.drop i=t →
  LeadsM PP 0 (rRe_c1 p own (i:Int) l r).as (rRe_c0 p own (r+1) (markN own t i l)).as
 | [],i,l,hl,h=>by
  have:=dropN h
  exact rRe_1_4 p own i l r sd sd
 | x :: t,i,l,hl,h=>by
  obtain⟨g1,g2,g3⟩ :=dropC h
  have hn:=hp.small;have hf:=hp.fsmall
  have hlen:=hp.len
  obtain⟨o1,o2⟩ :=hp.own i g3
  have hoi:own[i]?=some (own.getD i 0) :=by rw [List.getD_eq_getElem?_getD,List.getElem?_eq_getElem (by omega)];rfl
  rw [markN]
  generalize own.getD i 0=o at hoi o1 o2 ⊢
  have hli:l[o.toNat]?=some (l.getD o.toNat false) :=by rw [List.getD_eq_getElem?_getD,List.getElem?_eq_getElem (by omega)];rfl
  by_cases e4:x.op=4
  · by_cases e0:x.n<0
    · have hnm:=hp.name i x g1 e4 e0
      cases hb:l.getD o.toNat false with
      | true=>
       rw [if_pos ⟨e4,e0,rfl⟩]
       obtain⟨y,hy⟩ :∃y,l[(-1-x.n).toNat]?=some y:= ⟨_,List.getElem?_eq_getElem (by omega)⟩
       exact(rRe_1_0 p own i l r x o true y sd sd sd (by simp [e4]) (by simpa using e0) sd o1 (by omega) (hb ▸ hli) rfl sd (by omega) (by omega) hy sd).trans
        (rre1 hp r hr t (i+1) _ (by simpa using hl) g2)
      | false=>
       rw [if_neg (by simp)]
       exact(rRe_1_1 p own i l r x o false sd sd sd (by simp [e4]) (by simpa using e0) sd o1 (by omega) (hb ▸ hli) rfl sd).trans
        (rre1 hp r hr t (i+1) _ hl g2)
    · rw [if_neg (by simp [e0])]
      exact(rRe_1_2 p own i l r x sd sd sd (by simp [e4]) (by simpa using e0) sd).trans (rre1 hp r hr t (i+1) _ hl g2)
  · rw [if_neg (by simp [e4])]
    exact(rRe_1_3 p own i l r x sd sd sd (by simpa using e4) sd).trans (rre1 hp r hr t (i+1) _ hl g2)
theorem rre0 {p:Prog}{own:List Int}(hp:OwnsP p own) :∀ (k r:Nat) (l:List Bool),r+k=p.funs.length→l.length=p.funs.length →
  Ends PP 0 (rRe_c0 p own (r:Int) l).as (.ret (.ilst 1 (List.map avB (markR p own k l)) true)) (hpOf [] 0)
 |0,r,l,h,hl=>rRe_0_1 p own r l sd
 | k+1,r,l,h,hl=>by
  have hf:=hp.fsmall
  exact(rRe_0_0 p own r l sd).ends ((rre1 hp (r:Int) (by omega) p.nodes 0 l hl rfl).ends (rre0 hp k (r+1) _ (by omega) (by rw [markN_len,hl])))
theorem reach_pure {p:Prog}(hp:FineP p)(ho:OwnsP p (ownR p)) :Pure PP 54 [PA p] (.ilst 1 (List.map avB (reachR p)) false) :=by
 refine pure_at (by kernel_rfl) rfl rfl ?_
 have hf:=hp.fsmall
 obtain⟨m0,m1⟩ :=ho.main
 refine Ends.val ?_ (fun E cv=>vr_inexact)
 exact(rRe_E_0 p false (ownR p) (by omega) m0 (by simpa using m1) (by rw [List.getElem?_replicate,if_pos (by omega)]) (own_pure hp)).ends
  (rre0 ho p.funs.length 0 _ (by omega) (by simp))
end
end Go.Hb
namespace Go.Hb
open Go.Proofs
set_option maxHeartbeats 2000000
noncomputable section
def rankL :List Bool→Int→List Int
 | [],_=>[]
 |b::t,n=>n::rankL t (if b=true then n+1 else n)
theorem rankL_len :∀ (is:List Bool) (n:Int),(rankL is n).length=is.length
 | [],_=>rfl
 |b::t,n=>by rw [rankL,List.length_cons,rankL_len t,List.length_cons]
def keepB {α:Type}:List Bool→List α→List α
 |true::bs,x::t=>x::keepB bs t
 |false::bs,_::t=>keepB bs t
 |_,_=>[]
theorem rtr0 (p:Prog)(is:List Bool)(h320:is.length≤320) :∀ (t:List Bool) (i:Nat) (n:Int) (l:List Int),is.drop i=t→i≤is.length→l.length=i→0≤n→n≤i →
  LeadsM PP 0 (rTr_c0 p is n (i:Int) l).as (rTr_c0 p is (n+ (t.countP (· =true) :Nat)) ((is.length:Nat) :Int) (l++rankL t n)).as
 | [],i,n,l,h,hi,hl,h0,h1=>by
  have:=dropN h
  obtain rfl:i=is.length:=by omega
  simp only [rankL,List.append_nil,List.countP_nil]
  rw [show n+ ((0:Nat) :Int) =n by omega]
  exact LeadsM.refl _
 | b::t,i,n,l,h,hi,hl,h0,h1=>by
  obtain⟨g1,g2,g3⟩ :=dropC h
  cases b with
  | true=>
   have ih:=rtr0 p is h320 t (i+1) (n+1) (l++ [n]) g2 (by omega) (by simp [hl]) (by omega) (by omega)
   rw [List.append_assoc]at ih
   simp only [rankL,if_true]
   rw [show n+ (List.countP (· =true) (true::t) :Nat) =n+1+ (List.countP (· =true) t:Nat)by simp;omega]
   exact(rTr_0_0 p is n i l true sd (by simp [hl];omega) (by omega) g1 rfl sd sd).trans ih
  | false=>
   have ih:=rtr0 p is h320 t (i+1) n (l++ [n]) g2 (by omega) (by simp [hl]) (by omega) (by omega)
   rw [List.append_assoc]at ih
   simp only [rankL,Bool.false_eq_true,if_false]
   rw [show n+ (List.countP (· =true) (false::t) :Nat) =n+ (List.countP (· =true) t:Nat)by simp]
   exact(rTr_0_1 p is n i l false sd (by simp [hl];omega) (by omega) g1 rfl sd).trans ih
theorem tr_call {p:Prog}{F C:List Int}{k:Nat}{l ns:List Node}{c:Int}(h:mNodes p F C k l.length c=some ns)(mn:Int)(cs:List Con)(fs:List Int) :
  Spec PP (.enter 47 [gN 3 l,PA p,.int .i64 c,.ilst 1 (List.map avI F) false,.ilst 1 (List.map avI C) false])
   (hpOf [hoq220 p,hoq222,hoq221 l fs mn cs,(3,LN l,true),(4,LI fs,true)] 5)
   (.ret (gN 5 (l++ns))) (hpOf [hoq220 p,hoq222,hoq221 l fs mn cs,(4,LI fs,true),(5,LN (l++ns),true)] 6) :=
 Eq.mp (by kernel_rfl) (spec_new (ks:=[3]) (n2:=5) (lc:=[hoq220 p,hoq222,hoq221 l fs mn cs,(3,LN l,true),(4,LI fs,true)])
  (x:=[hoq220 p,hoq222,hoq221 l fs mn cs,(4,LI fs,true)])
  (args':=[gN 3 l,PA p,.int .i64 c,.ilst 1 (List.map avI F) false,.ilst 1 (List.map avI C) false])
  (movN_spec h) (by kernel_rfl) (by kernel_rfl) (by kernel_rfl) ⟨ln_kl _,trivial⟩ (by kernel_rfl) (by kernel_rfl) (by kernel_rfl) (by kernel_rfl) ⟨ln_kl _,trivial⟩ (by kernel_rfl))
theorem rtr1 (p:Prog)(is:List Bool)(k:Nat)(to:List Int)(mn:Int)(cs:List Con)(hf:p.funs.length≤320)(hc:p.cons.length≤320)(his:is.length=p.funs.length) :∀ (t:List Int) (b:List Bool) (i:Nat) (l:List Node) (fs ks:List Int) (r:List Node),p.funs.drop i=t→is.drop i=b→i≤p.funs.length→fs.length≤i →
  mKids (mNodes p to (numsL 0 p.cons.length) k) l.length (keepB b t) =some (ks,r) →
  LeadsM PP 0 (rTr_c1 p is mn cs to (i:Int) l fs).as (rTr_c1 p is mn cs to ((p.funs.length:Nat) :Int) (l++r) (fs++ks)).as
 | [],b,i,l,fs,ks,r,h,hb,hi,hl,hm=>by
  have:=dropN h
  obtain rfl:i=p.funs.length:=by omega
  obtain rfl:b= [] :=by rw [←hb];exact List.drop_eq_nil_iff.2 (by omega)
  cases hm
  rw [List.append_nil,List.append_nil]
  exact LeadsM.refl _
 | c :: t,b,i,l,fs,ks,r,h,hb,hi,hl,hm=>by
  obtain⟨g1,g2,g3⟩ :=dropC h
  cases b with
  |nil=>have:=dropN hb;omega
  |cons b bt=>
  obtain⟨e1,e2,e3⟩ :=dropC hb
  cases b with
  | true=>
   simp only [keepB,mKids]at hm
   split at hm
   · rename_i ns hns
     split at hm
     · rename_i ks1 r1 hm1
       cases hm
       have h1:=rTr_1_0 p is mn cs to i l fs true sd (by omega) e1 rfl (by simp;omega)
       have h2:=rTr_2_0 p is to mn cs i l (fs++ [((l.length:Nat) :Int)]) c _ ns (by omega) g1 (nums_pure 0 p.cons.length (by omega) (by omega) (by omega)) (tr_call hns mn cs _) sd
       have h3:=rtr1 p is k to mn cs hf hc his t bt (i+1) (l++ns) (fs++ [((l.length:Nat) :Int)]) ks1 r1 g2 e2 (by omega) (by simp;omega) (by rw [List.length_append];exact hm1)
       rw [show fs++ ((l.length:Nat) :Int) ::ks1= (fs++ [((l.length:Nat) :Int)]) ++ks1 by simp,←List.append_assoc l ns r1]
       exact h1.trans (h2.trans h3)
     ·cases hm
   ·cases hm
  | false=>
   simp only [keepB]at hm
   have h1:=rTr_1_1 p is mn cs to i l fs false sd (by omega) e1 rfl sd
   exact h1.trans (rtr1 p is k to mn cs hf hc his t bt (i+1) l fs ks r g2 e2 (by omega) (by omega) hm)
theorem rTrim_ok {p:Prog}{k:Nat}{is:List Bool}{ks:List Int}{r:List Node}{m:Int}(hp:p.cons.length≤320∧p.funs.length≤320)(hm:0≤p.main)(hf:Pure PP 33 [PA p] (.bool true))(hi:Pure PP 54 [PA p] (.ilst 1 (List.map avB is) false))
  (his:is.length=p.funs.length) (hmm: (rankL is 0)[p.main.toNat]?=some m)
  (hk:mKids (mNodes p (rankL is 0) (numsL 0 p.cons.length) k) 0 (keepB is p.funs) =some (ks,r)) :
  Pure PP 23 [PA p] (.tup [PA ⟨r,ks,m,p.cons⟩,.int .i64 0]) :=by
 have hP:∀v,AV.keyless v=true→Ends PP 0 (rTr_s p).as (.ret v) (hpOf [] 0) →Pure PP 23 [PA p] v:=fun v hv h=>pure_atH (s:=rTr_s p) (by kernel_rfl) (by kernel_rfl) (by simp [AV.keylessL,AV.keyless]) hv h
 refine hP _ (by simp [AV.keylessL,AV.keyless]) ?_
 have h0:=rTr_E_1 p true is hf rfl hi
 have h1:=rtr0 p is (by omega) is 0 0 [] rfl (Nat.zero_le _) rfl (by omega) (by omega)
 rw [List.nil_append]at h1
 have h2:=rTr_0_2 p is (0+ ((is.countP (· =true) :Nat) :Int)) ((is.length:Nat) :Int) (rankL is 0) p.main p.cons m (by simp) (cpd_pure (by omega)) hm hmm
 have h3:=rtr1 p is k (rankL is 0) m p.cons hp.2 hp.1 his p.funs is 0 [] [] ks r rfl rfl (Nat.zero_le _) (Nat.zero_le _) hk
 rw [List.nil_append,List.nil_append]at h3
 exact h0.ends (h1.ends (h2.ends (h3.ends (rTr_1_2 p is m p.cons (rankL is 0) _ r ks (by simp)))))
theorem rTrim_err {p:Prog}(hf:Pure PP 33 [PA p] (.bool false)) :Pure PP 23 [PA p] (.tup [errProg,.int .i64 2]) :=
 pure_atH (s:=rTr_s p) (by kernel_rfl) (by kernel_rfl) (by simp [AV.keylessL,AV.keyless]) (by simp [AV.keylessL,AV.keyless]) (rTr_E_0 p false hf rfl)
end
end Go.Hb
namespace Go.Hb
open Go.Proofs
def trueIdx :List Bool→Int→List Int
 | [],_=>[]
 |b::t,i=>if b=true then i::trueIdx t (i+1)else trueIdx t (i+1)
def numM :List Int→Int→List (Int×Int) →List (Int×Int)
 | [],_,m=>m
 |f::t,i,m=>numM t (i+1) (mIns f i m)
theorem numM_off :∀ (ks:List Int) (i:Int) (m:List (Int×Int)) (f:Int),f∉ks→mGet f (numM ks i m) =mGet f m
 | [],_,_,_,_=>rfl
 | k::t,i,m,f,h=>by
  simp only [List.mem_cons,not_or]at h
  rw [numM,numM_off t (i+1) _ f h.2,mGet_ins,if_neg h.1]
theorem trueIdx_ge :∀ (is:List Bool) (b:Int),∀x∈trueIdx is b,b≤x
 | [],_,x,h=>by cases h
 | c ::t,b,x,h=>by
  simp only [trueIdx]at h
  split at h
  · rcases List.mem_cons.1 h with rfl|h
    ·omega
    ·have:=trueIdx_ge t (b+1) x h;omega
  ·have:=trueIdx_ge t (b+1) x h;omega
theorem trueIdx_mem :∀ (is:List Bool) (b:Int) (j:Nat),is[j]?=some true↔b+ (j:Int) ∈trueIdx is b
 | [],b,j=>by simp [trueIdx]
 | c::t,b,0=>by
  simp only [trueIdx]
  have h:b∉trueIdx t (b+1) :=fun h=>by have:=trueIdx_ge t (b+1) b h;omega
  cases c with
  |true=>simp
  |false=>simpa using h
 | c::t,b,j+1=>by
  have ih:=trueIdx_mem t (b+1) j
  have e:b+1+ (j:Int) =b+ ((j+1:Nat) :Int) :=by omega
  rw [e]at ih
  simp only [trueIdx,List.getElem?_cons_succ]
  rw [ih]
  cases c with
  | true=>
   rw [if_pos rfl,List.mem_cons]
   exact⟨.inr,fun h=>h.resolve_left (by omega)⟩
  |false=>rw [if_neg (by simp)]
theorem numM_rank :∀ (is:List Bool) (b n:Int) (m:List (Int×Int)) (j:Nat),is[j]?=some true→mGet (b+ (j:Int)) (numM (trueIdx is b) n m) = (rankL is n)[j]?
 | [],b,n,m,j,h=>by simp at h
 | c::t,b,n,m,0,h=>by
  simp only [List.getElem?_cons_zero,Option.some.injEq]at h
  subst h
  simp only [trueIdx,if_true,numM,rankL,List.getElem?_cons_zero]
  rw [numM_off _ _ _ _ (fun h=>by have:=trueIdx_ge t (b+1) _ h;omega),mGet_ins,if_pos (by omega)]
 | c::t,b,n,m,j+1,h=>by
  simp only [List.getElem?_cons_succ]at h
  have e:b+ ((j+1:Nat) :Int) =b+1+ (j:Int) :=by omega
  rw [e]
  simp only [trueIdx,rankL,List.getElem?_cons_succ]
  cases c with
  | true=>
   simp only [if_true,numM]
   exact numM_rank t (b+1) (n+1) _ j h
  | false=>
   simp only [Bool.false_eq_true,if_false]
   exact numM_rank t (b+1) n m j h
theorem keep_both {α:Type}(ml:List (Int×Bool)) :∀ (l:List α) (is:List Bool) (i:Nat),is.length=l.length→ (∀j:Nat,j<l.length→ (is[j]?=some true↔ (mGet ((i+j:Nat) :Int) ml).isSome=true)) →keepM ml i l=keepB is l
 | [],is,i,h,_=>by
  obtain rfl:is= [] :=List.length_eq_zero_iff.1 h
  rfl
 |x::l,[],i,h,_=>by simp at h
 | x::l,b::is,i,h,hj=>by
  have h0:=hj 0 (by simp)
  have ih:=keep_both ml l is (i+1) (by simpa using h) (fun j hl=>by
   have:=hj (j+1) (by simpa using hl)
   rw [List.getElem?_cons_succ]at this
   rw [this,show i+ (j+1) =i+1+j by omega])
  simp only [List.getElem?_cons_zero,Option.some.injEq,Nat.add_zero]at h0
  rw [keepM,ih]
  cases b with
  |true=>rw [if_pos (h0.1 rfl),keepB]
  |false=>rw [if_neg (fun e=>by have:=h0.2 e;cases this),keepB]
end Go.Hb
namespace Go.Hb
open Go.Proofs
noncomputable abbrev hoh270 (p:Prog) :Nat×AObj×Bool:= (0,(.cells (putCells .leaf 0 [(iN p.nodes),(iI p.funs),(nI p.main),(iC p.cons)]) 4 [] false),false)
noncomputable abbrev hoh271 (p:Prog) :Nat×AObj×Bool:= (2,(.cells (putCells .leaf 0 [(iN p.nodes),(iI p.funs),(nI p.main),(iC p.cons)]) 4 [] false),false)
noncomputable abbrev hoh272  :Nat×AObj×Bool:= (1,(.cells (putCells .leaf 0 [.nils,.nils,(nI 0),.nils]) 4 [] false),false)
noncomputable abbrev hoh273  :Nat×AObj×Bool:= (4,(.cells (putCells .leaf 0 [(.map 6),(.map 7)]) 2 [] false),false)
noncomputable abbrev hoh274  :Nat×AObj×Bool:= (2,(.cells (putCells .leaf 0 [(.map 3),(.map 4)]) 2 [] false),false)
noncomputable abbrev hoh275  :Nat×AObj×Bool:= (7,(.cells (putCells .leaf 0 [(.map 5),(.map 6)]) 2 [] false),false)
noncomputable abbrev hoh276  :Nat×AObj×Bool:= (3,(.cells (putCells .leaf 0 [(.map 4)]) 1 [] false),false)
noncomputable abbrev hoh277  :Nat×AObj×Bool:= (3,(.cells (putCells .leaf 0 [(.map 5)]) 1 [] false),false)
noncomputable abbrev hoh278 (zl0: (List (Int×Bool))) :Nat×AObj×Bool:= (4,(.map (mEnts avI avB 0 zl0) zl0.length),true)
noncomputable abbrev hoh279 (zl0: (List (Int×Bool))) :Nat×AObj×Bool:= (5,(.map (mEnts avI avB 0 zl0) zl0.length),true)
noncomputable abbrev hoh2710 (zf0:List (Int×Int)) :Nat×AObj×Bool:= (6,(.map (mEnts avI avI 0 zf0) zf0.length),true)
noncomputable abbrev hoh2711 (zc1:List (Int×Int)) :Nat×AObj×Bool:= (7,(.map (mEnts avI avI 0 zc1) zc1.length),true)
noncomputable abbrev hoh2712 (zf0:List (Int×Int)) :Nat×AObj×Bool:= (3,(.map (mEnts avI avI 0 zf0) zf0.length),true)
noncomputable abbrev hoh2713 (zc1:List (Int×Int)) :Nat×AObj×Bool:= (4,(.map (mEnts avI avI 0 zc1) zc1.length),true)
noncomputable abbrev hoh2714 (zl0: (List (Int×Bool))) :Nat×AObj×Bool:= (3,(.map (mEnts avI avB 0 zl0) zl0.length),true)
noncomputable abbrev hoh2715 (zf0:List (Int×Int)) :Nat×AObj×Bool:= (5,(.map (mEnts avI avI 0 zf0) zf0.length),true)
noncomputable abbrev hoh2716 (zc1:List (Int×Int)) :Nat×AObj×Bool:= (6,(.map (mEnts avI avI 0 zc1) zc1.length),true)
noncomputable abbrev hoh2717 (mf:List (Int×Int)) :Nat×AObj×Bool:= (0,(.map (mEnts avI avI 0 mf) mf.length),true)
noncomputable abbrev hoh2718 (mc:List (Int×Int)) :Nat×AObj×Bool:= (1,(.map (mEnts avI avI 0 mc) mc.length),true)
noncomputable def mvF_s (mf mc:List (Int×Int))(n0:Int) :TS:=startH PP 53 [(.agg [(.map 0),(.map 1)]),(nI n0)] [hoh2717 mf,hoh2718 mc] 2
theorem mvF_E_0 (mf mc:List (Int×Int))(n0 y0:Int)(h0:mGet n0 mf=some y0) :
  Ends PP 2 (mvF_s mf mc n0).as (.ret (nI y0)) (hpOf [hoh2717 mf,hoh2718 mc] 2) :=
 wE 3 [] [qp (p:=findK (avI n0) (mEnts avI avI 0 mf) 0=some (some (mIdx n0 mf,(avI y0)))) (look_some key_avI h0)] [rn 10,.ans (.look (some (mIdx n0 mf,(avI y0)))),rn 3] ⟨kl_map (fun _=>rfl) (fun _=>rfl) _ _ _,⟨kl_map (fun _=>rfl) (fun _=>rfl) _ _ _,trivial⟩⟩
theorem mvF_E_1 (mf mc:List (Int×Int))(n0:Int)(h0:mGet n0 mf=none) :
  Ends PP 2 (mvF_s mf mc n0).as (.ret (nI 0)) (hpOf [hoh2717 mf,hoh2718 mc] 2) :=
 wE 3 [] [qp (p:=findK (avI n0) (mEnts avI avI 0 mf) 0=some none) (look_none key_avI h0)] [rn 10,.ans (.look none),rn 3] ⟨kl_map (fun _=>rfl) (fun _=>rfl) _ _ _,⟨kl_map (fun _=>rfl) (fun _=>rfl) _ _ _,trivial⟩⟩
noncomputable def bTr_s (p:Prog) :TS:=startH PP 22 [(Prog.av p)] [] 0
noncomputable def bTr_c0 (p:Prog)  :TS:=
 {fr:={fn:=22,nt:=57,sl:=[(1,(.ptr 0 0)),(2,(.ptr 1 0)),(3,(nI 0)),(5,(.ptr 2 0))],todo:=[.code (cd Tryz.f22 [1,1,1,0]),.code (cd Tryz.f22 [1,1,1,1])]},cs:=[],hp:=[hoh270 p,hoh272,hoh271 p],nb:=3}
noncomputable def bTr_c1 (p:Prog)(zl0: (List (Int×Bool))) :TS:=
 {fr:={fn:=22,nt:=57,sl:=[(1,(.ptr 0 0)),(2,(.ptr 1 0)),(3,(nI 0)),(5,(.ptr 2 0)),(6,(.ptr 3 0))],todo:=[.code (cd Tryz.f22 [1,1,1,1,0]),.code (cd Tryz.f22 [1,1,1,1,1])]},cs:=[],hp:=[hoh270 p,hoh272,hoh271 p,hoh276,hoh278 zl0],nb:=5}
noncomputable def bTr_c2 (p:Prog)(ks2:List Int)(t29:Int)(zl0: (List (Int×Bool)))(zf0 zc1:List (Int×Int))(t30:Int) :TS:=
 {fr:={fn:=22,nt:=57,sl:=[(1,(.ptr 0 0)),(2,(.ptr 1 0)),(3,(nI 0)),(5,(.ptr 2 0)),(6,(.ptr 3 0)),(7,(.ptr 4 0)),(28,(iI ks2)),(29,(nI t29)),(30,(nI t30))],todo:=[.code (cd Tryz.f22 [1,1,1,1,1,0,1,0,0]),.inLoop (cd Tryz.f22 [1,1,1,1,1,0,1,0,0]),.inBlock 0,.code (cd Tryz.f22 [1,1,1,1,1,1])]},cs:=[],hp:=[hoh270 p,hoh272,hoh271 p,hoh277,hoh273,hoh279 zl0,hoh2710 zf0,hoh2711 zc1],nb:=8}
noncomputable def bTr_c3 (p:Prog)(zl0: (List (Int×Bool)))(zf0 zc1:List (Int×Int)) :TS:=
 {fr:={fn:=22,nt:=57,sl:=[(1,(.ptr 0 0)),(2,(.ptr 1 0)),(3,(nI 0)),(5,(.ptr 2 0)),(6,(.ptr 3 0)),(7,(.ptr 4 0))],todo:=[.code (cd Tryz.f22 [1,1,1,1,1,1,0]),.code (cd Tryz.f22 [1,1,1,1,1,1,1])]},cs:=[],hp:=[hoh270 p,hoh272,hoh271 p,hoh277,hoh273,hoh279 zl0,hoh2710 zf0,hoh2711 zc1],nb:=8}
noncomputable def bTr_c4 (p:Prog)(zn0:List Node)(zu1:List Int)(zf0 zc1:List (Int×Int)) :TS:=
 {fr:={fn:=22,nt:=57,sl:=[(1,(.ptr 0 0)),(2,(.ptr 1 0)),(3,(nI 0)),(7,(.ptr 2 0)),(10,(iN zn0)),(11,(iI zu1))],todo:=[.code (cd Tryz.f22 [1,1,1,1,1,1,1,0]),.code (cd Tryz.f22 [1,1,1,1,1,1,1,1])]},cs:=[],hp:=[hoh270 p,hoh272,hoh274,hoh2712 zf0,hoh2713 zc1],nb:=5}
theorem bTr_E_0 (p:Prog)(y0:Int)(h0:Pure PP 10 [(Prog.av p)] (nI y0))(h1: (y0 != (0:Int)) =true) :
  Ends PP 0 (bTr_s p).as (.ret (.tup [(.agg [(.ilst 4 (jN ([] :List Node)) true),(.ilst 1 (jI ([] :List Int)) true),(nI 0),(.ilst 2 (jC ([] :List Con)) true)]),(nI y0)])) (hpOf [] 0) :=
 wE 2 [] [qp h0,qp h1] [rn 10,.pure (nI y0),rn 7,bt 15,rn 9,.cnilI 1 0 4,.cnilI 1 1 1,.cnilI 1 3 2] trivial
theorem bTr_E_1 (p:Prog)(y0:Int)(h0:Pure PP 10 [(Prog.av p)] (nI y0))(h1: (y0 != (0:Int)) =false) :
  LeadsM PP 0 (bTr_s p).as (bTr_c0 p).as:=
 wW 3 [0,1,2] [qp h0,qp h1] [rn 10,.pure (nI y0),rn 7,bf 15,rn 10] trivial
theorem bTr_0_0 (p:Prog)(zl0: (List (Int×Bool)))(h0:Spec PP (.enter 49 [(Prog.av p)]) (hpOf [hoh270 p,hoh272,hoh271 p] 3) (.ret (.map 3)) (hpOf [hoh270 p,hoh272,hoh271 p,hoh2714 zl0] 4)) :
  LeadsM PP 0 (bTr_c0 p).as (bTr_c1 p zl0).as:=
 wW 5 [0,1,2,4,3] [qp h0] [rn 2,.call (.map 3) (hpOf [hoh270 p,hoh272,hoh271 p,hoh2714 zl0] 4),rn 4] ⟨kl_map (fun _=>rfl) (fun _=>rfl) _ _ _,trivial⟩
theorem bTr_1_0 (p:Prog)(zl0: (List (Int×Bool)))(zf0 zc1:List (Int×Int))(ks2:List Int)(h0:Spec PP (.enter 40 [(nI 0),(nI (p.cons.length:Int))]) (hpOf [hoh270 p,hoh272,hoh271 p,hoh276,hoh278 zl0] 5) (.ret (.agg [(.map 5),(.map 6)])) (hpOf [hoh270 p,hoh272,hoh271 p,hoh276,hoh278 zl0,hoh2715 zf0,hoh2716 zc1] 7))(h1:SpecCC PP 51 [(.map 4)] 50 (hpOf [hoh270 p,hoh272,hoh271 p,hoh276,hoh278 zl0,hoh2715 zf0,hoh2716 zc1,hoh275] 8) (iI ks2) (hpOf [hoh270 p,hoh272,hoh271 p,hoh276,hoh278 zl0,hoh2715 zf0,hoh2716 zc1,hoh275] 8)) :
  LeadsM PP 0 (bTr_c1 p zl0).as (bTr_c2 p ks2 (ks2.length:Int) zl0 zf0 zc1 0).as:=
 wW 8 [0,1,2,3,7,4,5,6] [ql Con.av p.cons,qp h0,qp h1,ql avI ks2] [rn 3,aL p.cons,.call (.agg [(.map 5),(.map 6)]) (hpOf [hoh270 p,hoh272,hoh271 p,hoh276,hoh278 zl0,hoh2715 zf0,hoh2716 zc1] 7),rn 7,.call2 (iI ks2) (hpOf [hoh270 p,hoh272,hoh271 p,hoh276,hoh278 zl0,hoh2715 zf0,hoh2716 zc1,hoh275] 8),aL ks2,rn 4] ⟨kl_map (fun _=>rfl) (fun _=>rfl) _ _ _,⟨kl_map (fun _=>rfl) (fun _=>rfl) _ _ _,⟨kl_map (fun _=>rfl) (fun _=>rfl) _ _ _,trivial⟩⟩⟩
theorem bTr_2_0 (p:Prog)(ks2:List Int)(t29:Int)(zl0: (List (Int×Bool)))(zf0 zc1:List (Int×Int))(t30 y0:Int)(h0:decide (t30<t29) =true)(h1:0≤t30)(h2: ((ks2)[t30.toNat]?) =some y0)(h3: (IntKind.i64.wrap (t30+ (1:Int))) = (t30+ (1:Int))) :
  LeadsM PP 0 (bTr_c2 p ks2 t29 zl0 zf0 zc1 t30).as (bTr_c2 p ks2 t29 zl0 (mIns y0 t30 zf0) zc1 (t30+ (1:Int))).as:=
 wW 8 [0,1,2,3,4,5,6,7] [qp h0,qp h1,qg avI h2,qp (p:=mapPut (mEnts avI avI 0 zf0) zf0.length (avI y0) (avI t30) =some ((mEnts avI avI 0 (mIns y0 t30 zf0)),List.length (mIns y0 t30 zf0))) (map_put key_avI _ _ _),qp (congrArg (AV.int .i64) h3)] [rn 5,bt 31,rn 7,aI (avI y0),rn 9,.mput (mEnts avI avI 0 (mIns y0 t30 zf0)) (mIns y0 t30 zf0).length,rn 4,sI 39 (t30+ (1:Int)),rn 3] ⟨kl_map (fun _=>rfl) (fun _=>rfl) _ _ _,⟨kl_map (fun _=>rfl) (fun _=>rfl) _ _ _,⟨kl_map (fun _=>rfl) (fun _=>rfl) _ _ _,trivial⟩⟩⟩
theorem bTr_2_1 (p:Prog)(ks2:List Int)(t29:Int)(zl0: (List (Int×Bool)))(zf0 zc1:List (Int×Int))(t30:Int)(h0:decide (t30<t29) =false) :
  LeadsM PP 0 (bTr_c2 p ks2 t29 zl0 zf0 zc1 t30).as (bTr_c3 p zl0 zf0 zc1).as:=
 wW 8 [0,1,2,3,4,5,6,7] [qp h0] [rn 5,bf 31,rn 3] ⟨kl_map (fun _=>rfl) (fun _=>rfl) _ _ _,⟨kl_map (fun _=>rfl) (fun _=>rfl) _ _ _,⟨kl_map (fun _=>rfl) (fun _=>rfl) _ _ _,trivial⟩⟩⟩
theorem bTr_3_0 (p:Prog)(zl0: (List (Int×Bool)))(zf0 zc1:List (Int×Int))(zn0:List Node)(zu1:List Int)(h0:Spec PP (.enter 38 [(Prog.av p),(nI 0),(.func 52 [] [(.ptr 3 0)]),(.agg [(.map 6),(.map 7)])]) (hpOf [hoh270 p,hoh272,hoh271 p,hoh277,hoh273,hoh279 zl0,hoh2710 zf0,hoh2711 zc1] 8) (.ret (.tup [(iN zn0),(iI zu1)])) (hpOf [hoh270 p,hoh272,hoh271 p,hoh277,hoh273,hoh279 zl0,hoh2710 zf0,hoh2711 zc1] 8)) :
  LeadsM PP 0 (bTr_c3 p zl0 zf0 zc1).as (bTr_c4 p zn0 zu1 zf0 zc1).as:=
 wW 8 [0,1,4,6,7] [qp h0] [rn 4,.call (.tup [(iN zn0),(iI zu1)]) (hpOf [hoh270 p,hoh272,hoh271 p,hoh277,hoh273,hoh279 zl0,hoh2710 zf0,hoh2711 zc1] 8),rn 7] ⟨kl_map (fun _=>rfl) (fun _=>rfl) _ _ _,⟨kl_map (fun _=>rfl) (fun _=>rfl) _ _ _,trivial⟩⟩
theorem bTr_4_0 (p:Prog)(zn0:List Node)(zu1:List Int)(zf0 zc1:List (Int×Int))(zy0:Int)(y1:List Con)(h0:Spec PP (.enter 53 [(.agg [(.map 3),(.map 4)]),(nI p.main)]) (hpOf [hoh270 p,hoh272,hoh274,hoh2712 zf0,hoh2713 zc1] 5) (.ret (nI zy0)) (hpOf [hoh270 p,hoh272,hoh274,hoh2712 zf0,hoh2713 zc1] 5))(h1:Pure PP 41 [(iC p.cons)] (iC y1)) :
  Ends PP 0 (bTr_c4 p zn0 zu1 zf0 zc1).as (.ret (.tup [(.agg [(iN zn0),(iI zu1),(nI zy0),(iC y1)]),(nI 0)])) (hpOf [] 0) :=
 wE 5 [] [qp h0,qp h1,qr (AV.ilst 2 (jC p.cons) false),qr (AV.ilst 2 (jC p.cons) false)] [.reg [.d,.d,.d,.d,.d,.call (nI zy0) (hpOf [hoh270 p,hoh272,hoh274,hoh2712 zf0,hoh2713 zc1] 5),.d,.d,.pure (iC y1),.d,.d,.d],rn 1] trivial
end Go.Hb
namespace Go.Hb
open Go.Proofs
set_option maxHeartbeats 2000000
noncomputable section
theorem mvF_spec (mf mc:List (Int×Int))(n:Int) :Spec PP (.enter 53 [.agg [.map 0,.map 1],.int .i64 n]) (hpOf [(0,MO mf,true),(1,MO mc,true)] 2) (.ret (.int .i64 (mAt mf n))) (hpOf [(0,MO mf,true),(1,MO mc,true)] 2) :=by
 cases hm:mGet n mf with
 | some y=>
  have e:mAt mf n=y:=by unfold mAt;rw [hm];rfl
  rw [e]
  exact⟨(mvF_s mf mc n).as.fr,by kernel_rfl,Eq.mp (by kernel_rfl) (mvF_E_0 mf mc n y hm)⟩
 | none=>
  have e:mAt mf n=0:=by unfold mAt;rw [hm];rfl
  rw [e]
  exact⟨(mvF_s mf mc n).as.fr,by kernel_rfl,Eq.mp (by kernel_rfl) (mvF_E_1 mf mc n hm)⟩
section
variable {p :Prog}
theorem bTr_2 (ks:List Int)(zl:List (Int×Bool))(zc:List (Int×Int))(hk:ks.length≤1000000) :∀ (t:List Int) (i:Nat) (zf:List (Int×Int)),ks.drop i=t→i≤ks.length →
  LeadsM PP 0 (bTr_c2 p ks ((List.length ks:Nat) :Int) zl zf zc (i:Int)).as (bTr_c2 p ks ((List.length ks:Nat) :Int) zl (numM t i zf) zc ((List.length ks:Nat) :Int)).as
 | [],i,zf,h,hi=>by
  have:=dropN h
  obtain rfl:i=ks.length:=by omega
  exact LeadsM.refl _
 | k::t,i,zf,h,hi=>by
  obtain⟨g1,g2,g3⟩ :=dropC h
  have h0:=bTr_2_0 p ks ((List.length ks:Nat) :Int) zl zf zc i k sd sd sd sd
  rw [numM]
  exact h0.trans (bTr_2 ks zl zc hk t (i+1) (mIns k i zf) g2 (by omega))
abbrev resM (p:Prog) :AObj:=.cells (putCells .leaf 0 [.nils,.nils,.int .i64 0,.nils]) 4 [] false
theorem bTrim_ok (hp:FineP p)(hnm:∀ (i:Nat) (x:Node),p.nodes[i]?=some x→x.op=4→x.n<0→ -1000000000≤x.n)(f:Nat)(hf:p.nodes.length≤f)(hr:∀k∈p.funs,(nmP p f k).length≤1000000)(k:Nat)(zl:List (Int×Bool))(hz:reachD (mnOf p f 0 p.funs []) k p.main [] =some zl)
  (ks:List Int) (hkl:ks.length≤1000000) (hK:∀ (h:Hp) (r:Nat),h.look r=some (MB zl) →SpecCC PP 51 [.map r] 50 h (.ilst 1 (List.map avI ks) false) h)
  (hok:∀ (i:Nat) (x:Node),p.nodes[i]?=some x→nOk (numM ks 0 []) x) (to:List Int) (n:Int) (hc:p.cons.length<1000000)
  (hb: (nodesT p zl (numM ks 0 []) (sM p.cons.length) to f).length≤1000000) (hw:toOfT p zl 0 f=some (to,n)) (h10:Pure PP 10 [PA p] (.int .i64 0)) :
  Pure PP 22 [PA p] (.tup [PA ⟨nodesT p zl (numM ks 0 []) (sM p.cons.length) to f,(keepM zl 0 p.funs).map (toAt to),mAt (numM ks 0 []) p.main,p.cons⟩,.int .i64 0]) :=by
 have hml:AllT zl:=reachD_allT _ k p.main [] zl (fun j v e=>by simp [mGet]at e) hz
 have h49:=reached_spec hp hnm f hf hr k zl hz
 have h40:=same_spec 0 p.cons.length (by omega) hc
 have h38:=orderedT_spec (mf:=numM ks 0 []) (mc:=sM p.cons.length) hp hml hok 0 f hf to n hb hw
 have h53:=mvF_spec (numM ks 0 []) (sM p.cons.length) p.main
 refine pure_atH (s:=bTr_s p) (by kernel_rfl) (by kernel_rfl) (by simp [AV.keylessL,AV.keyless]) (by simp [AV.keylessL,AV.keyless]) (((bTr_E_1 p 0 h10 rfl).trans ?_).ends (bTr_4_0 p (nodesT p zl (numM ks 0 []) (sM p.cons.length) to f) ((keepM zl 0 p.funs).map (toAt to)) (numM ks 0 []) (sM p.cons.length) (mAt (numM ks 0 []) p.main) p.cons (spec_in (ks:=[3,4]) h53 (by kernel_rfl) rfl (by kernel_rfl) (by kernel_rfl) ⟨mo_kl _,mo_kl _,trivial⟩ (by kernel_rfl) ⟨mo_kl _,mo_kl _,trivial⟩ (by kernel_rfl) (by kernel_rfl) (by kernel_rfl) (by kernel_rfl) (by kernel_rfl) (by kernel_rfl) (by kernel_rfl) (by kernel_rfl)) (clone_pure p.cons (by omega))))
 refine(bTr_0_0 p zl (Eq.mp (by kernel_rfl) (spec_new (ks:=[]) (n2:=3) (lc:=[(0,PCell p,false),(1,resM p,false),(2,PCell p,false)]) (x:=[(0,PCell p,false),(1,resM p,false),(2,PCell p,false)])
   (args':=[PA p]) h49 (by kernel_rfl) (by kernel_rfl) (by kernel_rfl) trivial (by kernel_rfl) (by kernel_rfl) (by kernel_rfl) (by kernel_rfl) ⟨mb_kl _,trivial⟩ (by kernel_rfl)))).trans ?_
 have h2:=bTr_2 (p:=p) ks zl (sM p.cons.length) hkl ks 0 (sM 0) rfl (Nat.zero_le _)
 have h1:=bTr_1_0 p zl (sM 0) (sM p.cons.length) ks (Eq.mp (by kernel_rfl) (spec_new (ks:=[]) (n2:=5) (lc:=[(0,PCell p,false),(1,resM p,false),(2,PCell p,false),(3,.cells (putCells .leaf 0 [.map 4]) 1 [] false,false),(4,MB zl,true)]) (x:=[(0,PCell p,false),(1,resM p,false),(2,PCell p,false),(3,.cells (putCells .leaf 0 [.map 4]) 1 [] false,false),(4,MB zl,true)])
   (args':=[.int .i64 0,.int .i64 (p.cons.length:Int)]) h40 (by kernel_rfl) (by kernel_rfl) (by kernel_rfl) trivial (by kernel_rfl) (by kernel_rfl) (by kernel_rfl) (by kernel_rfl) ⟨mo_kl _,mo_kl _,trivial⟩ (by kernel_rfl))) (hK _ 4 (by kernel_rfl))
 refine(h1.trans (h2.trans (bTr_2_1 p ks ((List.length ks:Nat) :Int) zl (numM ks 0 []) (sM p.cons.length) ((List.length ks:Nat) :Int) (by simp)))).trans ?_
 exact bTr_3_0 p zl (numM ks 0 []) (sM p.cons.length) (nodesT p zl (numM ks 0 []) (sM p.cons.length) to f) ((keepM zl 0 p.funs).map (toAt to)) (spec_in (ks:=[6,7,3,5]) h38 (by kernel_rfl) rfl (by kernel_rfl) (by kernel_rfl) ⟨mo_kl _,mo_kl _,mb_kl _,trivial⟩ (by kernel_rfl) ⟨mo_kl _,mo_kl _,mb_kl _,trivial⟩ (by kernel_rfl) (by kernel_rfl) (by kernel_rfl) (by kernel_rfl) (by kernel_rfl) (by kernel_rfl) (by kernel_rfl) (by kernel_rfl))
theorem bTrim_err (e:Int)(he:e≠0)(h10:Pure PP 10 [PA p] (.int .i64 e)) :Pure PP 22 [PA p] (.tup [errProg,.int .i64 e]) :=
 pure_atH (s:=bTr_s p) (by kernel_rfl) (by kernel_rfl) (by simp [AV.keylessL,AV.keyless]) (by simp [AV.keylessL,AV.keyless]) (bTr_E_0 p e h10 (by simpa using he))
end
end
end Go.Hb
namespace Go.Hb
open Go.Proofs
theorem marks_all {lo n:Int}:∀ {ks:List Int} {u v:List Bool},marks lo n ks u=some v→∀k∈ks,v[k.toNat]?=some true
 | [],_,_,_,k,hk=>by cases hk
 | a::ks,u,v,h,k,hk=>by
  obtain⟨h1,h2⟩ :=marks_cons h
  rcases List.mem_cons.1 hk with rfl|hk
  ·exact marks_stay h2 _ (List.getElem?_set_self (List.getElem?_eq_some_iff.1 h1).1)
  ·exact marks_all h2 k hk
theorem ownK_stay {i:Nat}{lo n:Int}:∀ {t:List Int} {u v:List Bool} {l:List Int},marks lo n t u=some v→∀m:Nat,u[m]?=some true→ (ownK i t l)[m]?=l[m]?
 | [],_,_,_,_,_,_=>rfl
 | k::t,u,v,l,h,m,hm=>by
  obtain⟨h1,h2⟩ :=marks_cons h
  have hne:k.toNat≠m:=fun e=>by rw [e,hm]at h1;cases h1
  rw [ownK,ownK_stay h2 m (by rw [List.getElem?_set_ne hne];exact hm),List.getElem?_set_ne hne]
theorem ownN_stay {p:Prog}:∀ {t:List Node} {i:Nat} {u v:List Bool} {l:List Int},refNodes p i t u=some v→∀m:Nat,u[m]?=some true→ (ownN t i l)[m]?=l[m]?
 | [],_,_,_,_,_,_,_=>rfl
 | x::t,i,u,v,l,h,m,hm=>by
  obtain⟨_,w,hw,h2⟩ :=refNodes_cons h
  rw [ownN,ownN_stay h2 m (marks_stay hw m hm),ownK_stay hw m hm]
theorem ownF_stay {lo n:Int}:∀ {t:List Int} {i:Nat} {u v:List Bool} {l:List Int},marks lo n t u=some v→∀m:Nat,u[m]?=some true→ (ownF t i l)[m]?=l[m]?
 | [],_,_,_,_,_,_,_=>rfl
 | k::t,i,u,v,l,h,m,hm=>by
  obtain⟨h1,h2⟩ :=marks_cons h
  have hne:k.toNat≠m:=fun e=>by rw [e,hm]at h1;cases h1
  rw [ownF,ownF_stay h2 m (by rw [List.getElem?_set_ne hne];exact hm),List.getElem?_set_ne hne]
theorem ownK_kid {i:Nat}{lo n:Int}:∀ {t:List Int} {u v:List Bool} {l:List Int},marks lo n t u=some v→u.length=l.length→u[i]?=some true→∀ (d:Nat) (k:Int),t[d]?=some k→ (ownK i t l)[k.toNat]?=some (l.getD i 0)
 | [],_,_,_,_,_,_,d,k,hk=>by simp at hk
 | a::t,u,v,l,h,hul,hi,d,k,hk=>by
  obtain⟨h1,h2⟩ :=marks_cons h
  have hai:a.toNat≠i:=fun e=>by rw [e,hi]at h1;cases h1
  have hal:a.toNat<u.length:= (List.getElem?_eq_some_iff.1 h1).1
  rw [ownK]
  cases d with
  | zero=>
   simp at hk;subst hk
   rw [ownK_stay h2 _ (by rw [List.getElem?_set_self hal]),List.getElem?_set_self (by omega)]
  | succ d=>
   have:=ownK_kid (i:=i) (l:=l.set a.toNat (l.getD i 0)) h2 (by simpa using hul) (by rw [List.getElem?_set_ne hai];exact hi) d k (by simpa using hk)
   rw [this,List.getD_eq_getElem?_getD,List.getElem?_set_ne hai,←List.getD_eq_getElem?_getD]
theorem ownN_kid {p:Prog}:∀ {t:List Node} {i:Nat} {u v:List Bool} {l:List Int},refNodes p i t u=some v→ (∀m,m<v.length→v[m]?=some true) →u.length=l.length→i+t.length≤u.length→∀ (j:Nat) (x:Node) (d:Nat) (k:Int),t[j]?=some x→x.kids[d]?=some k →
  ∃s,(ownN t i l)[i+j]?=some s∧ (ownN t i l)[k.toNat]?=some s
 | [],_,_,_,_,_,_,_,_,j,x,d,k,hx,_=>by simp at hx
 | y ::t,i,u,v,l,h,hv,hul,hil,j,x,d,k,hx,hk=>by
  obtain⟨_,w,hw,h2⟩ :=refNodes_cons h
  have hwl:=marks_len hw
  simp only [List.length_cons]at hil
  rw [ownN]
  cases j with
  | zero=>
   simp at hx;subst hx
   have hvl:=refNodes_len h
   have hi:u[i]?=some true:=refNodes_low h i (Nat.le_refl _) (hv i (by omega))
   have hk2:=ownK_kid (i:=i) (l:=l) hw hul hi d k hk
   have hwk:w[k.toNat]?=some true:=marks_all hw k (List.mem_of_getElem? hk)
   refine⟨l.getD i 0,?_,?_⟩
   · show(ownN t (i+1) (ownK i y.kids l))[i]?=some (l.getD i 0)
     rw [ownN_stay h2 i (marks_stay hw i hi),ownK_stay hw i hi,List.getD_eq_getElem?_getD,List.getElem?_eq_getElem (by omega)];rfl
   ·rw [ownN_stay h2 _ hwk,hk2]
  | succ j=>
   obtain⟨s,a1,a2⟩ :=ownN_kid (l:=ownK i y.kids l) h2 hv (by rw [ownK_len,hwl,hul]) (by omega) j x d k (by simpa using hx) hk
   exact⟨s,by rw [←a1];congr 1;omega,a2⟩
theorem ownF_root {lo n:Int}:∀ {t:List Int} {i:Nat} {u v:List Bool} {l:List Int},marks lo n t u=some v→u.length=l.length→∀ (d:Nat) (f:Int),t[d]?=some f→ (ownF t i l)[f.toNat]?=some ((i+d:Nat) :Int)
 | [],_,_,_,_,_,_,d,f,hf=>by simp at hf
 | a::t,i,u,v,l,h,hul,d,f,hf=>by
  obtain⟨h1,h2⟩ :=marks_cons h
  have hal:a.toNat<u.length:= (List.getElem?_eq_some_iff.1 h1).1
  rw [ownF]
  cases d with
  | zero=>
   simp at hf;subst hf
   rw [ownF_stay h2 _ (List.getElem?_set_self hal),List.getElem?_set_self (by omega)];rfl
  | succ d=>
   have:=ownF_root (i:=i+1) (l:=l.set a.toNat (i:Int)) h2 (by simpa using hul) d f (by simpa using hf)
   rw [this];congr 2;omega
structure Oprop (p:Prog) (S:List Int) :Prop where
 len:S.length=p.nodes.length
 root:∀ (d:Nat) (f:Int),p.funs[d]?=some f→S[f.toNat]?=some (d:Int)
 kid:∀ (i:Nat) (x:Node) (k:Int),p.nodes[i]?=some x→k∈x.kids→S[k.toNat]?=S[i]?
theorem formed_owns {p:Prog}(hf:refFormed p=true) :Oprop p (ownR p) :=by
 simp only [refFormed,Bool.and_eq_true]at hf
 obtain⟨_,hf⟩ :=hf
 split at hf
 · rename_i u hu
   unfold allT at hf
   split at hf
   · rename_i v hv
     have hul:u.length=p.nodes.length:=by rw [marks_len hu];simp
     have hvl:v.length=p.nodes.length:=by rw [refNodes_len hv,hul]
     have hall:∀m,m<v.length→v[m]?=some true:=fun m hm=>by
      rw [List.getElem?_eq_getElem hm]
      have:=List.all_eq_true.1 hf _ (List.getElem_mem hm)
      simpa using this
     refine⟨ownR_len p,fun d f hd=>?_,fun i x k hx hk=>?_⟩
     · rw [ownR,ownN_stay hv _ (marks_all hu f (List.mem_of_getElem? hd)),ownF_root hu (by simp) d f hd]
       congr 2;omega
     · obtain⟨d,hd⟩ :=List.getElem?_of_mem hk
       obtain⟨s,a1,a2⟩ :=ownN_kid (l:=ownF p.funs 0 (List.replicate p.nodes.length 0)) hv hall (by rw [ownF_len];simp [hul]) (by omega) i x d k hx hd
       rw [Nat.zero_add]at a1
       rw [ownR,a1,a2]
   ·cases hf
 ·cases hf
end Go.Hb
namespace Go.Hb
open Go.Proofs
theorem own_pre {p:Prog}(hp:FineP p){S:List Int}(hS:Oprop p S) :∀ (f:Nat) (a:Int),0≤a→a<p.nodes.length→p.nodes.length-a.toNat≤f→∀x∈pre p f a,S[x.toNat]?=S[a.toNat]?
 |0,a,h0,h1,hf,_,_=>by omega
 | f +1,a,h0,h1,hf,x,hx=>by
  obtain⟨y,g,e,hy,hpre⟩ :=pre_cons hp h0 h1 hf
  rw [hpre]at hx
  obtain rfl:f=g:=by omega
  rcases List.mem_cons.1 hx with rfl|hx
  ·rfl
  · rw [List.mem_flatten]at hx
    obtain⟨l,hl,hx⟩ :=hx
    rw [List.mem_map]at hl
    obtain⟨k,hk,rfl⟩ :=hl
    obtain⟨_,_,hks⟩ :=hp.node _ _ hy
    have:=hks k hk
    rw [own_pre hp hS f k (by omega) (by omega) (by omega) x hx,hS.kid a.toNat y k hy hk]
theorem own_in {p:Prog}{S:List Int}(hS:Oprop p S)(hc:Covered p) :∀ (b m:Nat),m≤b→m<p.nodes.length→∃d:Nat,d<p.funs.length∧S[m]?=some (d:Int)
 | b,m,hb,hm=>by
  rcases hc m hm with⟨f,hf,e⟩ | ⟨i,x,k,hx,hk,e,hi⟩
  · obtain⟨d,hd⟩ :=List.getElem?_of_mem hf
    exact⟨d,(List.getElem?_eq_some_iff.1 hd).1,by rw [←e];exact hS.root d f hd⟩
  · rw [←e,hS.kid i x k hx hk]
    cases b with
    |zero=>omega
    |succ b=>exact own_in hS hc b i (by omega) (by omega)
theorem formed_ownsP {p:Prog}(hs:smallProg p=true)(hf:refFormed p=true)(hn:∀ (i:Nat) (x:Node),p.nodes[i]?=some x→nodeOk p x=true)(hm:0≤p.main∧p.main<p.funs.length) :OwnsP p (ownR p) :=by
 obtain⟨hp,_,hc⟩ :=formed_facts hs hf
 have hS:=formed_owns hf
 refine⟨hS.len,fun i hi=>?_,fun i x hx h4 h0=>?_,hp.small,hp.fsmall,hm⟩
 · obtain⟨d,hd,e⟩ :=own_in hS hc i i (Nat.le_refl _) hi
   rw [List.getD_eq_getElem?_getD,e]
   show 0≤ (d:Int) ∧ (d:Int) <p.funs.length
   omega
 · have:=hn i x hx
   simp only [nodeOk,Bool.and_eq_true,nodeHead,nodeHead1,h4]at this
   have h1:=this.1.1.1
   simp [inB_iff]at h1
   omega
end Go.Hb
namespace Go.Hb
open Go.Proofs
section
variable {p :Prog} {mf mf' mc:List (Int×Int)} {F C:List Int} {to:List Int}
theorem wB_same (hp:FineP p) :∀ (k:Nat) (a:Int),0≤a→a<p.nodes.length→p.nodes.length-a.toNat≤k→ (∀x∈pre p k a,∀y,p.nodes[x.toNat]?=some y→bN mf mc y.op y.n=bN mf' mc y.op y.n) →wB p mf mc to k a=wB p mf' mc to k a
 |0,a,_,_,_,_=>rfl
 | k+1,a,h0,h1,hk,h=>by
  obtain⟨x,hx⟩ :∃x,p.nodes[a.toNat]?=some x:= ⟨_,List.getElem?_eq_getElem (by omega)⟩
  obtain⟨_,_,hks⟩ :=hp.node _ _ hx
  have e:pre p (k+1) a=a:: (x.kids.map (pre p k)).flatten:=by rw [pre,hx]
  rw [e]at h
  have h2:=h a (List.mem_cons_self ..) x hx
  rw [wB,wB,hx]
  simp only [bNode,h2]
  congr 2
  refine List.map_congr_left (fun c hc=>?_)
  have:=hks c hc
  exact wB_same hp k c (by omega) (by omega) (by omega) (fun z hz=>h z (List.mem_cons_of_mem _ (List.mem_flatten.2 ⟨_,List.mem_map.2 ⟨c,hc,rfl⟩,hz⟩)))
theorem some_agree (hp:FineP p)(hm:MOk p mf mc F C)(fs:List Int)(hfs:∀k∈fs,k∈p.funs)(frm:Nat){f:Nat}(hf:p.nodes.length≤f)
  (hd: ((fs.map (pre p f)).flatten).Nodup) (hlen:frm+ ((fs.map (pre p f)).flatten).length≤1000000) (hin:∀x∈ (fs.map (pre p f)).flatten,0≤x∧x<p.nodes.length) :
  ∃to n,wAs (wA p f) fs (List.replicate p.nodes.length (0:Int),(frm:Int)) =some (to,n) ∧mKids (mNodes p F C f) frm fs=some (fs.map (toAt to),(fs.map (wB p mf mc to f)).flatten) ∧ ((fs.map (wB p mf mc to f)).flatten).length= ((fs.map (pre p f)).flatten).length:=by
 have hA:wAs (wA p f) fs (List.replicate p.nodes.length (0:Int),(frm:Int)) =some (putAll (List.replicate p.nodes.length 0) frm (fs.map (pre p f)).flatten,(frm:Int) + (((fs.map (pre p f)).flatten).length:Int)) :=by
  exact wAs_put (q:=pre p f) fs _ _ (fun k hk l n h1 h2=>by
   have:=hp.funs k (hfs k hk)
   exact wA_put hp f k (by omega) (by omega) (by omega) l n h1 h2) (by omega) (by omega)
 have ht:=putAll_at (fs.map (pre p f)).flatten (List.replicate p.nodes.length 0) frm hd (fun x hx=>by rw [List.length_replicate];exact hin x hx)
 refine⟨_,_,hA,?_,?_⟩
 · exact mKids_eq (to:=putAll (List.replicate p.nodes.length 0) frm (fs.map (pre p f)).flatten) (h:=wB p mf mc (putAll (List.replicate p.nodes.length 0) frm (fs.map (pre p f)).flatten) f) (q:=pre p f) fs frm (fun k hk len h1 h2=>by
    have:=hp.funs k (hfs k hk)
    exact mNodes_eq hp hm f k len (by omega) (by omega) (by omega) h1 h2) (fun k hk=>by
    have:=hp.funs k (hfs k hk)
    obtain⟨y,g,_,_,h3⟩ :=pre_cons hp (f:=f) (a:=k) (by omega) (by omega) (by omega)
    exact⟨wB_len _ _ _ f k,by rw [h3];rfl⟩) (by omega) (fun i b h=>by rw [ht i b h];simp)
 · rw [List.length_flatten,List.map_map]
   have:List.map (List.length ∘ wB p mf mc (putAll (List.replicate p.nodes.length 0) frm (fs.map (pre p f)).flatten) f) fs=List.map (List.length ∘ pre p f) fs:=List.map_congr_left (fun k _=>wB_len _ _ _ f k)
   rw [this,←List.map_map,←List.length_flatten]
end
end Go.Hb
namespace Go.Hb
open Go.Proofs
def rowOf (mn:List (Int×List Int))(f:Int) :List Int:= (mGet f mn).getD []
inductive Rea (mn:List (Int×List Int)) :Int→Int→Prop
 |refl (f:Int) :Rea mn f f
 |step {f g x:Int}:g∈rowOf mn f→Rea mn g x→Rea mn f x
abbrev inM (m:List (Int×Bool))(x:Int) :Prop:= (mGet x m).isSome=true
theorem inM_ins (m:List (Int×Bool))(f x:Int) :inM (mIns f true m) x↔x=f∨inM m x:=by
 unfold inM
 rw [mGet_ins]
 split
 ·rename_i e;simp [e]
 ·rename_i e;simp [e]
structure Step (mn:List (Int×List Int)) (m m':List (Int×Bool)) :Prop where
 more:∀x,inM m x→inM m' x
 full:∀x,inM m' x→inM m x∨∀g∈rowOf mn x,inM m' g
theorem Step.refl (mn:List (Int×List Int))(m:List (Int×Bool)) :Step mn m m:= ⟨fun _ h=>h,fun _ h=>.inl h⟩
theorem Step.trans {mn:List (Int×List Int)}{a b c:List (Int×Bool)}(h:Step mn a b)(g:Step mn b c) :Step mn a c:=
 ⟨fun x hx=>g.more x (h.more x hx),fun x hx=>by
  rcases g.full x hx with q|q
  · rcases h.full x q with r|r
    ·exact .inl r
    ·exact .inr fun y hy=>g.more y (r y hy)
  ·exact .inr q⟩
theorem rFold_step {mn:List (Int×List Int)}{G:Int→List (Int×Bool) →Option (List (Int×Bool))}(hG:∀k m m',G k m=some m'→Step mn m m'∧inM m' k) :∀ (t:List Int) (m m':List (Int×Bool)),rFold G t m=some m'→Step mn m m'∧∀k∈t,inM m' k
 | [],m,m',e=>by cases e;exact⟨Step.refl mn m,fun k hk=>by cases hk⟩
 | k ::t,m,m',e=>by
  simp only [rFold]at e
  split at e
  · rename_i m1 h1
    obtain⟨a1,a2⟩ :=hG k m m1 h1
    obtain⟨b1,b2⟩ :=rFold_step hG t m1 m' e
    refine⟨a1.trans b1,fun x hx=>?_⟩
    rcases List.mem_cons.1 hx with rfl|hx
    ·exact b1.more _ a2
    ·exact b2 x hx
  ·cases e
theorem reachD_step (mn:List (Int×List Int)) :∀ (k:Nat) (f:Int) (m m':List (Int×Bool)),reachD mn k f m=some m'→Step mn m m'∧inM m' f
 |0,_,_,_,e=>by cases e
 | k + 1,f,m,m',e=>by
  simp only [reachD]at e
  split at e
  · rename_i v hv
    cases e
    exact⟨Step.refl mn m,by unfold inM;rw [hv];rfl⟩
  · obtain⟨a,b⟩ :=rFold_step (reachD_step mn k) _ _ _ e
    have hf:inM m' f:=a.more f ((inM_ins m f f).2 (.inl rfl))
    refine⟨⟨fun x hx=>a.more x ((inM_ins m f x).2 (.inr hx)),fun x hx=>?_⟩,hf⟩
    rcases a.full x hx with q|q
    · rcases(inM_ins m f x).1 q with rfl|q
      ·exact .inr b
      ·exact .inl q
    ·exact .inr q
theorem reachD_from (mn:List (Int×List Int)) :∀ (k:Nat) (f:Int) (m m':List (Int×Bool)),reachD mn k f m=some m'→∀x,inM m' x→inM m x∨Rea mn f x
 |0,_,_,_,e=>by cases e
 | k + 1, f,m,m',e=>by
  simp only [reachD]at e
  split at e
  ·cases e;exact fun x hx=>.inl hx
  · intro x hx
    have fold:∀ (t:List Int) (a b:List (Int×Bool)),rFold (reachD mn k) t a=some b→ (∀g∈t,g∈rowOf mn f) →inM b x→inM a x∨Rea mn f x:=by
     intro t
     induction t with
     |nil=>intro a b e _ hb;cases e;exact .inl hb
     | cons g t ih=>
      intro a b e hg hb
      simp only [rFold]at e
      split at e
      · rename_i m1 h1
        rcases ih m1 b e (fun y hy=>hg y (List.mem_cons_of_mem _ hy)) hb with q|q
        · rcases reachD_from mn k g a m1 h1 x q with r|r
          ·exact .inl r
          ·exact .inr (.step (hg g (List.mem_cons_self ..)) r)
        ·exact .inr q
      ·cases e
    rcases fold _ _ _ e (fun g hg=>hg) hx with q|q
    · rcases(inM_ins m f x).1 q with rfl|q
      ·exact .inr (.refl _)
      ·exact .inl q
    ·exact .inr q
theorem reachD_iff {mn:List (Int×List Int)}{k:Nat}{f:Int}{m:List (Int×Bool)}(h:reachD mn k f [] =some m)(x:Int) :inM m x↔Rea mn f x:=by
 obtain⟨a,b⟩ :=reachD_step mn k f [] m h
 constructor
 · intro hx
   rcases reachD_from mn k f [] m h x hx with q|q
   ·cases q
   ·exact q
 · intro hx
   have go:∀ {y x:Int},Rea mn y x→inM m y→inM m x:=fun {y x} r=>by
    induction r with
    |refl=>exact fun h=>h
    | @step y g x hg _ ih=>
     intro hy
     rcases a.full y hy with q|q
     ·cases q
     ·exact ih (q g hg)
   exact go hx b
def restM (m:List (Int×Bool)) :Nat→Nat
 |0=>0
 |n+1=>restM m n+ (if(mGet (n:Int) m).isSome=true then 0 else 1)
theorem restM_le {a b:List (Int×Bool)}(h:∀x,inM a x→inM b x) :∀n,restM b n≤restM a n
 |0=>Nat.le_refl _
 | n+1=>by
  have:=restM_le h n
  have h1:=h (n:Int)
  unfold inM at h1
  simp only [restM]
  by_cases q: (mGet (n:Int) a).isSome=true
  ·rw [if_pos q,if_pos (h1 q)];omega
  ·rw [if_neg q];split<;>omega
theorem restM_lt {m:List (Int×Bool)}{f:Int}(h0:0≤f)(hf:¬inM m f) :∀n:Nat,f<n→restM (mIns f true m) n<restM m n
 |0,h=>by omega
 | n +1,h=>by
  simp only [restM]
  have e1:=inM_ins m f (n:Int)
  unfold inM at e1
  by_cases q:f=n
  · have h1: (mGet (n:Int) (mIns f true m)).isSome=true:=e1.2 (.inl q.symm)
    have h2:¬ (mGet (n:Int) m).isSome=true:=by rw [←q];exact hf
    rw [if_pos h1,if_neg h2]
    have:=restM_le (a:=m) (b:=mIns f true m) (fun x hx=> (inM_ins m f x).2 (.inr hx)) n
    omega
  · have:=restM_lt h0 hf n (by omega)
    by_cases r: (mGet (n:Int) m).isSome=true
    ·rw [if_pos r,if_pos (e1.2 (.inr r))];omega
    ·rw [if_neg r];split<;>omega
theorem reachD_some {mn:List (Int×List Int)}{n:Nat}(hr:∀f,∀g∈rowOf mn f,0≤g∧g<n) :∀ (k:Nat) (f:Int) (m:List (Int×Bool)),0≤f→f<n→restM m n<k→∃m',reachD mn k f m=some m'
 |0,_,_,_,_,h=>by omega
 | k + 1,f,m,h0,h1,h=>by
  simp only [reachD]
  split
  ·exact⟨_,rfl⟩
  · rename_i hv
    have hf:¬inM m f:=by unfold inM;rw [hv];simp
    have hlt:=restM_lt h0 hf n h1
    have fold:∀ (t:List Int) (a:List (Int×Bool)),restM a n<k→ (∀g∈t,0≤g∧g<n) →∃b,rFold (reachD mn k) t a=some b:=by
     intro t
     induction t with
     |nil=>exact fun a _ _=> ⟨a,rfl⟩
     | cons g t ih=>
      intro a ha hg
      obtain⟨g0,g1⟩ :=hg g (List.mem_cons_self ..)
      obtain⟨m1,e1⟩ :=reachD_some hr k g a g0 g1 ha
      have:=restM_le (reachD_step mn k g a m1 e1).1.more n
      obtain⟨b,e2⟩ :=ih m1 (by omega) (fun y hy=>hg y (List.mem_cons_of_mem _ hy))
      exact⟨b,by rw [rFold,e1];exact e2⟩
    exact fold _ _ (by omega) (hr f)
theorem restM_top (m:List (Int×Bool)) :∀n,restM m n≤n
 |0=>Nat.le_refl _
 | n+1=>by
  have:=restM_top m n
  simp only [restM]
  split<;>omega
end Go.Hb
namespace Go.Hb
open Go.Proofs
abbrev inK (l:List Bool)(x:Nat) :Prop:=l.getD x false=true
theorem inK_set (l:List Bool)(y x:Nat) :inK (l.set y true) x→inK l x∨x=y:=fun h=>by
 unfold inK at h ⊢
 rw [List.getD_eq_getElem?_getD,List.getElem?_set]at h
 split at h
 ·rename_i e;exact .inr e.symm
 ·rw [←List.getD_eq_getElem?_getD]at h;exact .inl h
theorem inK_more (l:List Bool)(y x:Nat)(h:inK l x) :inK (l.set y true) x:=by
 unfold inK at h ⊢
 rw [List.getD_eq_getElem?_getD,List.getElem?_set]
 rw [List.getD_eq_getElem?_getD]at h
 split
 · rename_i e
   subst e
   have:y<l.length:=by
    rcases Nat.lt_or_ge y l.length with q|q
    ·exact q
    ·rw [List.getElem?_eq_none q]at h;cases h
   rw [if_pos this];rfl
 ·exact h
theorem inK_new (l:List Bool)(y:Nat)(h:y<l.length) :inK (l.set y true) y:=by
 unfold inK
 rw [List.getD_eq_getElem?_getD,List.getElem?_set,if_pos rfl,if_pos h];rfl
abbrev hitN (own:List Int)(l:List Bool)(i:Nat)(x:Node) :Prop:=x.op=4∧x.n<0∧l.getD (own.getD i 0).toNat false=true
theorem markN_more (own:List Int) :∀ (t:List Node) (i:Nat) (l:List Bool) (x:Nat),inK l x→inK (markN own t i l) x
 | [],_,_,_,h=>h
 | y::t,i,l,x,h=>by
  rw [markN]
  apply markN_more own t (i+1)
  split
  ·exact inK_more _ _ _ h
  ·exact h
theorem markN_sound (own:List Int)(R:Nat→Prop) :∀ (t:List Node) (i:Nat) (l:List Bool),(∀ (j:Nat) (x:Node),t[j]?=some x→x.op=4→x.n<0→R (own.getD (i+j) 0).toNat→R (-1-x.n).toNat) → (∀x,inK l x→R x) →∀x,inK (markN own t i l) x→R x
 | [],_,_,_,hl,x,h=>hl x h
 | y :: t,i,l,hR,hl,x,h=>by
  rw [markN]at h
  refine markN_sound own R t (i+1) _ (fun j z hz=>?_) (fun z hz=>?_) x h
  · have:=hR (j+1) z (by simpa using hz)
    rw [show i+1+j=i+ (j+1)by omega];exact this
  · split at hz
    · rename_i hh
      rcases inK_set _ _ _ hz with q|q
      ·exact hl z q
      · rw [q]
        exact hR 0 y rfl hh.1 hh.2.1 (hl _ hh.2.2)
    ·exact hl z hz
theorem markN_full (own:List Int) :∀ (t:List Node) (i:Nat) (l:List Bool),(∀x,inK (markN own t i l) x→inK l x) → (∀ (j:Nat) (x:Node),t[j]?=some x→x.op=4→x.n<0→ (-1-x.n).toNat<l.length) →
  ∀ (j:Nat) (x:Node),t[j]?=some x→hitN own l (i+j) x→inK l (-1-x.n).toNat
 | [],_,_,_,_,j,x,h,_=>by simp at h
 | y::t,i,l,hc,hn,0,x,h,hh=>by
  simp only [List.getElem?_cons_zero,Option.some.injEq]at h
  subst h
  apply hc
  rw [Nat.add_zero]at hh
  rw [markN,if_pos hh]
  exact markN_more own t (i+1) _ _ (inK_new _ _ (hn 0 y rfl hh.1 hh.2.1))
 | y ::t,i,l,hc,hn,j+1,x,h,hh=>by
  simp only [List.getElem?_cons_succ]at h
  rw [markN]at hc
  have same:∀z,inK (if y.op=4∧y.n<0∧l.getD (own.getD i 0).toNat false=true then l.set (-1-y.n).toNat true else l) z→inK l z:=fun z hz=>hc z (markN_more own t (i+1) _ z hz)
  have more:∀z,inK l z→inK (if y.op=4∧y.n<0∧l.getD (own.getD i 0).toNat false=true then l.set (-1-y.n).toNat true else l) z:=fun z hz=>by
   split
   ·exact inK_more _ _ _ hz
   ·exact hz
  apply same
  refine markN_full own t (i+1) _ (fun z hz=>more z (hc z hz)) (fun j z hz q1 q2=>?_) j x h ⟨hh.1,hh.2.1,?_⟩
  · have:=hn (j+1) z (by simpa using hz) q1 q2
    split
    ·rw [List.length_set];exact this
    ·exact this
  · rw [show i+1+j=i+ (j+1)by omega]
    exact more _ hh.2.2
theorem count_set :∀ (l:List Bool) (y:Nat),l.count true≤ (l.set y true).count true
 | [],_=>by simp
 |b::l,0=>by cases b<;>simp
 | b::l,y+1=>by
  have:=count_set l y
  simp only [List.set_cons_succ,List.count_cons];omega
theorem count_same :∀ (l:List Bool) (y:Nat),(l.set y true).count true=l.count true→l.set y true=l
 | [],_,_=>by simp
 |b::l,0,h=>by cases b<;>simp_all
 | b::l,y+1,h=>by
  simp only [List.set_cons_succ,List.count_cons]at h ⊢
  rw [count_same l y (by omega)]
theorem markN_count (own:List Int) :∀ (t:List Node) (i:Nat) (l:List Bool),l.count true≤ (markN own t i l).count true
 | [],_,_=>Nat.le_refl _
 | y::t,i,l=>by
  rw [markN]
  refine Nat.le_trans ?_ (markN_count own t (i+1) _)
  split
  ·exact count_set _ _
  ·exact Nat.le_refl _
theorem markN_same (own:List Int) :∀ (t:List Node) (i:Nat) (l:List Bool),(markN own t i l).count true=l.count true→markN own t i l=l
 | [],_,_,_=>rfl
 | y ::t,i,l,h=>by
  rw [markN]at h ⊢
  have h1:=markN_count own t (i+1) (if y.op=4∧y.n<0∧l.getD (own.getD i 0).toNat false=true then l.set (-1-y.n).toNat true else l)
  split at h
  · rename_i hh
    rw [if_pos hh]at h1 ⊢
    have h2:=count_set l (-1-y.n).toNat
    have h3: (l.set (-1-y.n).toNat true).count true=l.count true:=by omega
    rw [markN_same own t (i+1) _ (by omega),count_same l _ h3]
  · rename_i hh
    rw [if_neg hh]
    exact markN_same own t (i+1) l h
theorem markR_fix (p:Prog)(own:List Int) :∀ (k:Nat) (l:List Bool),l.length<k+l.count true→markN own p.nodes 0 (markR p own k l) =markR p own k l
 | 0,l,h=>by
  have:=List.count_le_length (a:=true) (l:=l)
  omega
 | k +1,l,h=>by
  rw [markR]
  have h1:=markN_count own p.nodes 0 l
  by_cases e: (markN own p.nodes 0 l).count true=l.count true
  · have e2:=markN_same own p.nodes 0 l e
    rw [e2]
    have:∀k,markR p own k l=l:=fun k=>by
     induction k with
     |zero=>rfl
     |succ k ih=>rw [markR,e2];exact ih
    rw [this k,e2]
  ·exact markR_fix p own k _ (by rw [markN_len];omega)
theorem markR_more (p:Prog)(own:List Int) :∀ (k:Nat) (l:List Bool) (x:Nat),inK l x→inK (markR p own k l) x
 |0,_,_,h=>h
 |k+1,l,x,h=>by rw [markR];exact markR_more p own k _ x (markN_more own _ _ _ x h)
theorem markR_sound (p:Prog)(own:List Int)(R:Nat→Prop)(hR:∀ (j:Nat) (x:Node),p.nodes[j]?=some x→x.op=4→x.n<0→R (own.getD j 0).toNat→R (-1-x.n).toNat) :∀ (k:Nat) (l:List Bool),(∀x,inK l x→R x) →∀x,inK (markR p own k l) x→R x
 |0,_,hl,x,h=>hl x h
 | k+1,l,hl,x,h=>by
  rw [markR]at h
  exact markR_sound p own R hR k _ (fun z hz=>markN_sound own R p.nodes 0 l (fun j y hy=>by rw [Nat.zero_add];exact hR j y hy) hl z hz) x h
end Go.Hb
namespace Go.Hb
open Go.Proofs
inductive ReaN (p:Prog) (own:List Int) :Nat→Prop
 |main:ReaN p own p.main.toNat
 |step {j:Nat} {x:Node}:p.nodes[j]?=some x→x.op=4→x.n<0→ReaN p own (own.getD j 0).toNat→ReaN p own (-1-x.n).toNat
theorem reachR_iff {p:Prog}(ho:OwnsP p (ownR p))(x:Nat) :inK (reachR p) x↔ReaN p (ownR p) x:=by
 obtain⟨m0,m1⟩ :=ho.main
 have hmain:p.main.toNat< (List.replicate p.funs.length false).length:=by rw [List.length_replicate];omega
 constructor
 · intro h
   refine markR_sound p (ownR p) (ReaN p (ownR p)) (fun j y hy q1 q2 q3=>.step hy q1 q2 q3) p.funs.length _ (fun z hz=>?_) x h
   rcases inK_set _ _ _ hz with q|q
   · unfold inK at q
     rw [List.getD_eq_getElem?_getD,List.getElem?_replicate]at q
     split at q<;>cases q
   ·rw [q];exact .main
 · intro h
   have hfix:markN (ownR p) p.nodes 0 (reachR p) =reachR p:=by
    refine markR_fix p (ownR p) p.funs.length _ ?_
    have:0< ((List.replicate p.funs.length false).set p.main.toNat true).count true:=by
     rw [List.count_pos_iff]
     exact List.mem_of_getElem? (i:=p.main.toNat) (by rw [List.getElem?_set,if_pos rfl,if_pos hmain])
    rw [List.length_set,List.length_replicate]
    omega
   induction h with
   |main=>exact markR_more p (ownR p) _ _ _ (inK_new _ _ hmain)
   | @step j y hy q1 q2 _ ih=>
    refine markN_full (ownR p) p.nodes 0 (reachR p) (fun z hz=>by rw [hfix]at hz;exact hz) (fun j z hz w1 w2=>?_) j y hy ⟨q1,q2,by rw [Nat.zero_add];exact ih⟩
    have:=ho.name j z hz w1 w2
    rw [reachR_len]
    omega
end Go.Hb
namespace Go.Hb
open Go.Proofs
def nmAt (p:Prog)(i:Int) :List Int:=match p.nodes[i.toNat]? with
 |some x=>nmsOf x
 |none=>[]
theorem flat_map {α β:Type}(f:α→List Int)(g:Int→List β) :∀l:List α,((((l.map f).flatten).map g).flatten) = ((l.map fun a=> ((f a).map g).flatten).flatten)
 | [] =>rfl
 |a::l=>by simp only [List.map_cons,List.flatten_cons,List.map_append,List.flatten_append,flat_map f g l]
theorem nmP_pre (p:Prog) :∀ (f:Nat) (a:Int),nmP p f a= ((pre p f a).map (nmAt p)).flatten
 |0,_=>rfl
 | f+1,a=>by
  rw [nmP,pre]
  cases hx:p.nodes[a.toNat]? with
  |none=>rfl
  | some x=>
   simp only [List.map_cons,List.flatten_cons]
   rw [flat_map]
   have:nmAt p a=nmsOf x:=by unfold nmAt;rw [hx]
   rw [this]
   congr 3
   funext k
   exact nmP_pre p f k
theorem nmAt_len (p:Prog)(i:Int) : (nmAt p i).length≤1:=by
 unfold nmAt nmsOf
 split
 ·split<;>simp
 ·simp
theorem flat_len {α β:Type}(g:α→List β)(hg:∀a,(g a).length≤1) :∀l:List α,((l.map g).flatten).length≤l.length
 | [] =>Nat.le_refl _
 | a::l=>by
  have:=hg a
  have:=flat_len g hg l
  simp only [List.map_cons,List.flatten_cons,List.length_append,List.length_cons]
  omega
theorem nmP_len (p:Prog)(f:Nat)(a:Int) : (nmP p f a).length≤ (pre p f a).length:=by rw [nmP_pre];exact flat_len _ (nmAt_len p) _
theorem mnOf_get {p:Prog}{f:Nat}(j:Int) :∀ (t:List Int) (i:Nat) (mn:List (Int×List Int)),rowOf (mnOf p f i t mn) j=if h: (i:Int) ≤j∧j< ((i+t.length:Nat) :Int) ∧nmP p f (t.getD (j-i).toNat 0) ≠ []then nmP p f (t.getD (j-i).toNat 0)else rowOf mn j
 | [],i,mn=>by rw [mnOf,dif_neg];simp;omega
 | k :: t,i,mn=>by
  rw [mnOf,mnOf_get j t (i+1)]
  by_cases h: ((i+1:Nat) :Int) ≤j
  · have e: (j- (i:Int)).toNat= (j- ((i+1:Nat) :Int)).toNat+1:=by omega
    have e2: (k::t).getD (j- (i:Int)).toNat 0=t.getD (j- ((i+1:Nat) :Int)).toNat 0:=by rw [e,List.getD_cons_succ]
    have e3:rowOf (if nmP p f k= []then mn else mIns (i:Int) (nmP p f k) mn) j=rowOf mn j:=by
     split
     ·rfl
     ·unfold rowOf;rw [mGet_ins,if_neg (by omega)]
    rw [e2,e3]
    by_cases c:j< ((i+1+t.length:Nat) :Int) ∧nmP p f (t.getD (j- ((i+1:Nat) :Int)).toNat 0) ≠ []
    ·rw [dif_pos ⟨h,c⟩,dif_pos ⟨by omega,by have:=c.1;simp only [List.length_cons];omega,c.2⟩]
    ·rw [dif_neg (fun q=>c q.2),dif_neg (fun q=>c ⟨by have:=q.2.1;simp only [List.length_cons]at this;omega,q.2.2⟩)]
  · rw [dif_neg (fun q=>h q.1)]
    by_cases c:j= (i:Int)
    · subst c
      have e2: (k::t).getD ((i:Int) - (i:Int)).toNat 0=k:=by simp
      rw [e2]
      by_cases hn:nmP p f k= []
      ·rw [if_pos hn,dif_neg (fun q=>q.2.2 hn)]
      · rw [if_neg hn,dif_pos ⟨Int.le_refl _,by simp only [List.length_cons];omega,hn⟩]
        unfold rowOf;rw [mGet_ins,if_pos rfl];rfl
    · rw [dif_neg (fun q=>by have:=q.1;omega)]
      split
      ·rfl
      ·unfold rowOf;rw [mGet_ins,if_neg c]
theorem row_mem {p:Prog}{f:Nat}{j g:Int}:g∈rowOf (mnOf p f 0 p.funs []) j↔∃r:Int,0≤j∧p.funs[j.toNat]?=some r∧g∈nmP p f r:=by
 rw [mnOf_get]
 constructor
 · intro h
   split at h
   · rename_i c
     obtain⟨c1,c2,c3⟩ :=c
     have hj:j.toNat<p.funs.length:=by omega
     refine⟨p.funs[j.toNat],by omega,List.getElem?_eq_getElem hj,?_⟩
     simpa [List.getD_eq_getElem?_getD,List.getElem?_eq_getElem hj]using h
   ·simp [rowOf,mGet]at h
 · rintro⟨r,h0,h1,h2⟩
   have e:p.funs.getD (j- ((0:Nat) :Int)).toNat 0=r:=by
    have: (j- ((0:Nat) :Int)).toNat=j.toNat:=by omega
    rw [this,List.getD_eq_getElem?_getD,h1];rfl
   have hlt:= (List.getElem?_eq_some_iff.1 h1).1
   rw [e,dif_pos ⟨by omega,by omega,fun hn=>by rw [hn]at h2;cases h2⟩]
   exact h2
theorem nmsOf_mem {x:Node}{g:Int}:g∈nmsOf x↔x.op=4∧x.n<0∧g= -1-x.n:=by
 unfold nmsOf
 split
 ·rename_i h;simp [h.1,h.2]
 · rename_i h
   constructor
   ·intro hh;cases hh
   ·rintro⟨a,b,_⟩;exact absurd ⟨a,b⟩ h
theorem row_own {p:Prog}(hp:FineP p)(hS:Oprop p (ownR p))(hall:∀m:Nat,m<p.nodes.length→ (m:Int) ∈ ((p.funs.map (pre p p.nodes.length)).flatten))(hin:∀x∈ (p.funs.map (pre p p.nodes.length)).flatten,0≤x∧x<p.nodes.length){j g:Int} :
  g∈rowOf (mnOf p p.nodes.length 0 p.funs []) j↔∃ (i:Nat) (x:Node),p.nodes[i]?=some x∧x.op=4∧x.n<0∧g= -1-x.n∧ (ownR p)[i]?=some j:=by
 rw [row_mem]
 constructor
 · rintro⟨r,h0,h1,h2⟩
   have hr:=List.mem_of_getElem? h1
   obtain⟨r0,r1⟩ :=hp.funs r hr
   rw [nmP_pre]at h2
   obtain⟨l,hl,hg⟩ :=List.mem_flatten.1 h2
   obtain⟨y,hy,rfl⟩ :=List.mem_map.1 hl
   have hown:=own_pre hp hS p.nodes.length r r0 r1 (by omega) y hy
   unfold nmAt at hg
   split at hg
   · rename_i x hx
     obtain⟨a,b,c⟩ :=nmsOf_mem.1 hg
     refine⟨y.toNat,x,hx,a,b,c,?_⟩
     rw [hown,hS.root _ _ h1]
     congr 1;omega
   ·cases hg
 · rintro⟨i,x,hx,h4,h5,rfl,ho⟩
   have hi:= (List.getElem?_eq_some_iff.1 hx).1
   obtain⟨l,hl,hm⟩ :=List.mem_flatten.1 (hall i hi)
   obtain⟨r,hr,rfl⟩ :=List.mem_map.1 hl
   obtain⟨r0,r1⟩ :=hp.funs r hr
   obtain⟨d,hd⟩ :=List.getElem?_of_mem hr
   have hown:=own_pre hp hS p.nodes.length r r0 r1 (by omega) _ hm
   rw [show((i:Nat) :Int).toNat=i from rfl,ho,hS.root _ _ hd]at hown
   cases hown
   refine⟨r,by omega,hd,?_⟩
   rw [nmP_pre]
   refine List.mem_flatten.2 ⟨nmAt p i,List.mem_map.2 ⟨_,hm,rfl⟩,?_⟩
   unfold nmAt
   rw [show((i:Nat) :Int).toNat=i from rfl,hx]
   exact nmsOf_mem.2 ⟨h4,h5,rfl⟩
theorem Rea.snoc {mn:List (Int×List Int)}{f g x:Int}(h:Rea mn f g)(hx:x∈rowOf mn g) :Rea mn f x:=by
 induction h with
 |refl f=>exact .step hx (.refl _)
 |step h1 _ ih=>exact .step h1 (ih hx)
theorem rea_both {p:Prog}(hp:FineP p)(hS:Oprop p (ownR p))(ho:OwnsP p (ownR p))(hall:∀m:Nat,m<p.nodes.length→ (m:Int) ∈ ((p.funs.map (pre p p.nodes.length)).flatten))(hin:∀x∈ (p.funs.map (pre p p.nodes.length)).flatten,0≤x∧x<p.nodes.length)(x:Int) :
  Rea (mnOf p p.nodes.length 0 p.funs []) p.main x↔0≤x∧ReaN p (ownR p) x.toNat:=by
 have row:=fun(j g:Int) =>row_own hp hS hall hin (j:=j) (g:=g)
 constructor
 · intro h
   have:∀f x,Rea (mnOf p p.nodes.length 0 p.funs []) f x→0≤f→ReaN p (ownR p) f.toNat→0≤x∧ReaN p (ownR p) x.toNat:=by
    intro f x h
    induction h with
    |refl f=>exact fun a b=> ⟨a,b⟩
    | step h1 _ ih=>
     intro h0 hr
     obtain⟨i,y,hy,h4,h5,rfl,ho⟩ := (row _ _).1 h1
     refine ih (by omega) (.step hy h4 h5 ?_)
     rw [List.getD_eq_getElem?_getD,ho]
     exact hr
   exact this _ _ h ho.main.1 .main
 · rintro⟨h0,hr⟩
   have:∀m,ReaN p (ownR p) m→Rea (mnOf p p.nodes.length 0 p.funs []) p.main (m:Int) :=by
    intro m hm
    induction hm with
    |main=>rw [show((p.main.toNat:Nat) :Int) =p.main by have:=ho.main.1;omega];exact .refl _
    | @step j y hy h4 h5 _ ih=>
     have hj:= (List.getElem?_eq_some_iff.1 hy).1
     obtain⟨o1,o2⟩ :=ho.own j hj
     refine ih.snoc ?_
     refine(row _ _).2 ⟨j,y,hy,h4,h5,by omega,?_⟩
     rw [show(((((ownR p).getD j 0)).toNat:Nat) :Int) = (ownR p).getD j 0 by omega,List.getD_eq_getElem?_getD,List.getElem?_eq_getElem (by rw [hS.len];exact hj)]
     rfl
   have:=this _ hr
   rwa [show((x.toNat:Nat) :Int) =x by omega]at this
end Go.Hb
namespace Go.Proofs
open Go.Shelf
def Tryz.keysA_ren :Go.Shelf.Ren:= ⟨fun|7=>51|10=>101|n=>n,fun|23=>88|26=>3|3=>4|28=>92|0=>0|27=>91|33=>74|4=>4|n=>n,fun|n=>n⟩
theorem Tryz.keysA :Go.Proofs.SlLaysZI.n7 Tryz.prog Tryz.keysA_ren:={
 mixed:=by kernel_rfl
 f7:= ⟨Tryz.f51.name,by decide,Tryz.func51.trans (congrArg some (by kernel_rfl))⟩
 f10:= ⟨Tryz.f101.name,by decide,Tryz.func101.trans (congrArg some (by kernel_rfl))⟩
 t0:=Tryz.underlying0
 a0:=Tryz.isAgg0
 z0:=Tryz.sizeOf0
 v0:=Tryz.zeroValue0
 t4:=Tryz.underlying4
 a4:=Tryz.isAgg4
 z4:=Tryz.sizeOf4
 v4:=Tryz.zeroValue4
 t23:=Tryz.underlying88
 a23:=Tryz.isAgg88
 z23:=Tryz.sizeOf88
 v23:=Tryz.zeroValue88
 t26:=Tryz.underlying3
 a26:=Tryz.isAgg3
 z26:=Tryz.sizeOf3
 v26:=Tryz.zeroValue3
 t27:=Tryz.underlying91
 a27:=Tryz.isAgg91
 z27:=Tryz.sizeOf91
 v27:=Tryz.zeroValue91
 t28:=Tryz.underlying92
 a28:=Tryz.isAgg92
 z28:=Tryz.sizeOf92
 v28:=Tryz.zeroValue92
 t33:=Tryz.underlying74
 a33:=Tryz.isAgg74
 z33:=Tryz.sizeOf74
 v33:=Tryz.zeroValue74}
def Tryz.sortedA_ren :Go.Shelf.Ren:= ⟨fun|6=>50|8=>99|9=>100|11=>145|13=>147|12=>146|23=>195|24=>196|14=>186|15=>187|16=>188|17=>189|18=>190|19=>191|20=>192|21=>193|22=>194|25=>221|26=>222|27=>223|28=>224|29=>225|30=>226|31=>244|n=>n,fun|26=>3|28=>92|24=>23|0=>0|3=>3|37=>198|48=>244|50=>246|4=>4|40=>237|39=>236|45=>164|5=>5|9=>9|51=>272|55=>276|57=>291|58=>292|33=>74|n=>n,fun|n=>n⟩
theorem Tryz.sortedA :Go.Proofs.SlLaysZI.n6 Tryz.prog Tryz.sortedA_ren:={
 mixed:=by kernel_rfl
 f6:= ⟨Tryz.f50.name,by decide,Tryz.func50.trans (congrArg some (by kernel_rfl))⟩
 f8:= ⟨Tryz.f99.name,by decide,Tryz.func99.trans (congrArg some (by kernel_rfl))⟩
 f11:= ⟨Tryz.f145.name,by decide,Tryz.func145.trans (congrArg some (by kernel_rfl))⟩
 t0:=Tryz.underlying0
 a0:=Tryz.isAgg0
 z0:=Tryz.sizeOf0
 v0:=Tryz.zeroValue0
 t24:=Tryz.underlying23
 a24:=Tryz.isAgg23
 z24:=Tryz.sizeOf23
 v24:=Tryz.zeroValue23
 t26:=Tryz.underlying3
 a26:=Tryz.isAgg3
 z26:=Tryz.sizeOf3
 v26:=Tryz.zeroValue3
 t28:=Tryz.underlying92
 a28:=Tryz.isAgg92
 z28:=Tryz.sizeOf92
 v28:=Tryz.zeroValue92
 i26:=by kernel_rfl}
def Tryz.sortA_ren :Go.Shelf.Ren:= ⟨fun|5=>100|8=>147|7=>146|19=>195|20=>196|10=>186|11=>187|12=>188|13=>189|14=>190|15=>191|16=>192|17=>193|18=>194|30=>221|31=>222|32=>223|33=>224|34=>225|35=>226|40=>244|n=>n,fun|23=>23|25=>3|3=>3|32=>198|22=>23|0=>0|44=>244|46=>246|4=>4|36=>237|35=>236|41=>164|5=>5|9=>9|53=>272|57=>276|63=>291|64=>292|n=>n,fun|n=>n⟩
theorem Tryz.sortA :Go.Proofs.SlLaysM.n5 Tryz.prog Tryz.sortA_ren:={
 mixed:=by kernel_rfl
 f5:= ⟨Tryz.f100.name,by decide,Tryz.func100.trans (congrArg some (by kernel_rfl))⟩
 f7:= ⟨Tryz.f146.name,by decide,Tryz.func146.trans (congrArg some (by kernel_rfl))⟩
 f8:=Tryz.func147.trans (congrArg some (by kernel_rfl))
 f10:= ⟨Tryz.f186.name,by decide,Tryz.func186.trans (congrArg some (by kernel_rfl))⟩
 f11:= ⟨Tryz.f187.name,by decide,Tryz.func187.trans (congrArg some (by kernel_rfl))⟩
 f12:= ⟨Tryz.f188.name,by decide,Tryz.func188.trans (congrArg some (by kernel_rfl))⟩
 f13:= ⟨Tryz.f189.name,by decide,Tryz.func189.trans (congrArg some (by kernel_rfl))⟩
 f14:= ⟨Tryz.f190.name,by decide,Tryz.func190.trans (congrArg some (by kernel_rfl))⟩
 f15:= ⟨Tryz.f191.name,by decide,Tryz.func191.trans (congrArg some (by kernel_rfl))⟩
 f16:= ⟨Tryz.f192.name,by decide,Tryz.func192.trans (congrArg some (by kernel_rfl))⟩
 f17:= ⟨Tryz.f193.name,by decide,Tryz.func193.trans (congrArg some (by kernel_rfl))⟩
 f18:= ⟨Tryz.f194.name,by decide,Tryz.func194.trans (congrArg some (by kernel_rfl))⟩
 f19:=Tryz.func195.trans (congrArg some (by kernel_rfl))
 f20:=Tryz.func196.trans (congrArg some (by kernel_rfl))
 f30:= ⟨Tryz.f221.name,by decide,Tryz.func221.trans (congrArg some (by kernel_rfl))⟩
 f31:=Tryz.func222.trans (congrArg some (by kernel_rfl))
 f32:=Tryz.func223.trans (congrArg some (by kernel_rfl))
 f33:= ⟨Tryz.f224.name,by decide,Tryz.func224.trans (congrArg some (by kernel_rfl))⟩
 f34:= ⟨Tryz.f225.name,by decide,Tryz.func225.trans (congrArg some (by kernel_rfl))⟩
 f35:= ⟨Tryz.f226.name,by decide,Tryz.func226.trans (congrArg some (by kernel_rfl))⟩
 f40:= ⟨Tryz.f244.name,by decide,Tryz.func244.trans (congrArg some (by kernel_rfl))⟩
 t0:=Tryz.underlying0
 a0:=Tryz.isAgg0
 z0:=Tryz.sizeOf0
 v0:=Tryz.zeroValue0
 t3:=Tryz.underlying3
 a3:=Tryz.isAgg3
 z3:=Tryz.sizeOf3
 v3:=Tryz.zeroValue3
 t4:=Tryz.underlying4
 a4:=Tryz.isAgg4
 z4:=Tryz.sizeOf4
 v4:=Tryz.zeroValue4
 t5:=Tryz.underlying5
 a5:=Tryz.isAgg5
 z5:=Tryz.sizeOf5
 v5:=Tryz.zeroValue5
 t9:=Tryz.underlying9
 a9:=Tryz.isAgg9
 z9:=Tryz.sizeOf9
 v9:=Tryz.zeroValue9
 t22:=Tryz.underlying23
 a22:=Tryz.isAgg23
 z22:=Tryz.sizeOf23
 v22:=Tryz.zeroValue23
 t23:=Tryz.underlying23
 a23:=Tryz.isAgg23
 z23:=Tryz.sizeOf23
 v23:=Tryz.zeroValue23
 t25:=Tryz.underlying3
 a25:=Tryz.isAgg3
 z25:=Tryz.sizeOf3
 v25:=Tryz.zeroValue3
 t32:=Tryz.underlying198
 a32:=Tryz.isAgg198
 z32:=Tryz.sizeOf198
 v32:=Tryz.zeroValue198
 t35:=Tryz.underlying236
 a35:=Tryz.isAgg236
 z35:=Tryz.sizeOf236
 v35:=Tryz.zeroValue236
 t36:=Tryz.underlying237
 a36:=Tryz.isAgg237
 z36:=Tryz.sizeOf237
 v36:=Tryz.zeroValue237
 t41:=Tryz.underlying164
 a41:=Tryz.isAgg164
 z41:=Tryz.sizeOf164
 v41:=Tryz.zeroValue164
 t44:=Tryz.underlying244
 a44:=Tryz.isAgg244
 z44:=Tryz.sizeOf244
 v44:=Tryz.zeroValue244
 t46:=Tryz.underlying246
 a46:=Tryz.isAgg246
 z46:=Tryz.sizeOf246
 v46:=Tryz.zeroValue246
 t53:=Tryz.underlying272
 a53:=Tryz.isAgg272
 z53:=Tryz.sizeOf272
 v53:=Tryz.zeroValue272
 t57:=Tryz.underlying276
 a57:=Tryz.isAgg276
 z57:=Tryz.sizeOf276
 v57:=Tryz.zeroValue276
 t63:=Tryz.underlying291
 a63:=Tryz.isAgg291
 z63:=Tryz.sizeOf291
 v63:=Tryz.zeroValue291
 t64:=Tryz.underlying292
 a64:=Tryz.isAgg292
 z64:=Tryz.sizeOf292
 v64:=Tryz.zeroValue292}
end Go.Proofs
namespace Go.Hb
open Go.Proofs Go.RowKit Go.Maps Go.Sort Go.Shelf Go.WideElems
set_option maxHeartbeats 2000000
theorem sortsA (m:Nat) :AnyZI.SortsIn Tryz.prog Tryz.sortedA_ren Fence.wide m:=
 ⟨fun blk off cap ss W hH hblk hsz=>callsIn_wide.2 (AnyM.slices_Sort_int Tryz.sortA blk off cap ss W hH hblk hsz),
  fun p cap W=>callsIn_wide.2 (AnyM.slices_Sort_int_none Tryz.sortA p cap W)⟩
def noVal :Value→Option (DataW Unit×List MemPlace) :=fun _=>some (.nil,[])
theorem ers_ents {E:Emb}:∀ {ml:List (Int×Bool)} {n:Nat} {us:List MapEntry},ERs E (mEnts avI avB n ml) us→us.map (·.key) =ml.map (fun e=>encZ e.1) ∧us.map (·.born) =List.range' n ml.length
 | [],n,us,h=>by
  simp only [mEnts,ERs]at h
  subst h
  exact⟨rfl,rfl⟩
 | e::ml,n,us,h=>by
  simp only [mEnts,ERs]at h
  obtain⟨u,us',rfl,h1,h2,h3,h4⟩ :=h
  obtain⟨a,b⟩ :=ers_ents h4
  simp only [avI,VR]at h1
  refine⟨by rw [List.map_cons,List.map_cons,a,h1],?_⟩
  rw [List.map_cons,b,h3,List.length_cons,List.range'_succ]
theorem key_read {k:Int}(h0:0≤k)(h1:k≤1000000) :keyOf Tryz.prog 3 (encZ k) =some (.int .i64 k) :=by
 have hw: (Lit.int .i64 k).wf=true:=by
  simp only [Lit.wf,Bool.and_eq_true,decide_eq_true_eq]
  constructor
  ·show(-9223372036854775808:Int) ≤k;omega
  ·show k≤9223372036854775807;omega
 simp [keyOf,Tryz.underlying3,mapKey,encZ,hw]
theorem fit_ents {ml:List (Int×Bool)}(hnd: (ml.map Prod.fst).Nodup)(hr:∀k∈ml.map Prod.fst,0≤k∧k≤1000000)(hlen:ml.length≤1000000){ES:Array MapEntry}(hk:ES.toList.map (·.key) =ml.map (fun e=>encZ e.1))(hb:ES.toList.map (·.born) =List.range' 0 ml.length) :
  WideElems.Fit Tryz.prog 3 noVal ES ml.length:=by
 have hl:ES.toList.length=ml.length:=by have:=congrArg List.length hk;simpa using this
 refine⟨?_,⟨fun x hx=>?_,?_,?_⟩,fun x hx=>?_⟩
 ·rw [←Array.length_toList,hl];unfold maxLen;omega
 · have:x.born∈ES.toList.map (·.born) :=List.mem_map.2 ⟨x,hx,rfl⟩
   rw [hb,List.mem_range']at this
   obtain⟨i,h1,h2⟩ :=this
   omega
 ·rw [hb];exact List.nodup_range' ..
 · rw [hk]
   have: (ml.map fun e=>encZ e.1) = (ml.map Prod.fst).map encZ:=by rw [List.map_map];rfl
   rw [this]
   exact List.Pairwise.map _ (fun a b h e=>h (encZ_inj e)) hnd
 · have:x.key∈ES.toList.map (·.key) :=List.mem_map.2 ⟨x,hx,rfl⟩
   rw [hk]at this
   obtain⟨e,he,hke⟩ :=List.mem_map.1 this
   have hb:=hr e.1 (List.mem_map.2 ⟨e,he,rfl⟩)
   refine⟨(.int .i64 e.1,.nil),?_⟩
   unfold WideElems.rd
   rw [←hke,key_read hb.1 hb.2]
   rfl
theorem keys_ents {ml:List (Int×Bool)}(hr:∀k∈ml.map Prod.fst,0≤k∧k≤1000000){ES:Array MapEntry}(hk:ES.toList.map (·.key) =ml.map (fun e=>encZ e.1)) :
  (intKeys (.map ((ES.toList.map (WideElems.rg Tryz.prog 3 noVal)).foldr DataW.insert []) :DataW Unit)).Perm (ml.map Prod.fst) :=by
 have h1: (ES.toList.map (WideElems.rg Tryz.prog 3 noVal)).map (fun p=>intOf p.1) =ml.map Prod.fst:=by
  have:∀ (us:List MapEntry) (ml:List (Int×Bool)),(∀k∈ml.map Prod.fst,0≤k∧k≤1000000) →us.map (·.key) =ml.map (fun e=>encZ e.1) → (us.map (WideElems.rg Tryz.prog 3 noVal)).map (fun p=>intOf p.1) =ml.map Prod.fst:=by
   intro us
   induction us with
   | nil=>intro ml _ h;cases ml with
    |nil=>rfl
    |cons _ _=>simp at h
   | cons u us ih=>
    intro ml hr h
    cases ml with
    |nil=>simp at h
    | cons e ml=>
     simp only [List.map_cons,List.cons.injEq]at h
     have hb:=hr e.1 (by simp)
     rw [List.map_cons,List.map_cons,List.map_cons,ih ml (fun k hk=>hr k (by simp only [List.map_cons,List.mem_cons];exact .inr hk)) h.2]
     refine congrArg (· ::ml.map Prod.fst) ?_
     unfold WideElems.rg WideElems.rd
     rw [h.1,key_read hb.1 hb.2]
     simp only [noVal,Option.map_some,Option.bind_some,Option.getD_some,intOf]
  exact this _ ml hr hk
 rw [←h1]
 exact(WideShapes.sorted_perm _).map _
theorem flat_ints :∀l:List Int,flat (l.map encZ) =l.map encZ
 | [] =>rfl
 | a::l=>by
  have:=flat_ints l
  simp only [flat,List.map_cons,List.flatMap_cons]at this ⊢
  rw [this]
  rfl
theorem vrs_ints (E:Emb) :∀l:List Int,VRs E (List.map avI l) (l.map encZ)
 | [] =>VRs.nil _
 |a::l=>VRs.cons (by simp only [avI,VR]) (vrs_ints E l)
theorem sorted_cc {ml:List (Int×Bool)}(hnd: (ml.map Prod.fst).Nodup)(hr:∀k∈ml.map Prod.fst,0≤k∧k≤1000000)(hlen:ml.length≤1000000){ks:List Int}(hks:ks= (ml.map Prod.fst).mergeSort (fun x y=>decide (x≤y)))(h:Hp)(r:Nat)(hb:h.look r=some (.map (mEnts avI avB 0 ml) (List.length ml))) :
  SpecCC Tryz.prog 51 [.map r] 50 h (.ilst 1 (List.map avI ks) false) h:=by
 intro E w cargs R V
 obtain⟨c,rest,rfl,vc,vn⟩ :=V.cons_inv
 have:=vn.nil_inv
 subst this
 simp only [VR]at vc
 obtain⟨L,hE,rfl⟩ :=vc
 obtain⟨L',hE',ES,o1,o2⟩ :=R.obj r _ hb
 rw [hE]at hE'
 cases hE'
 obtain⟨k1,k2⟩ :=ers_ents o2
 have hfit:=fit_ents hnd hr hlen k1 k2
 have hown:w.ownsMap Tryz.prog 3 noVal L.blk ES.size (.map ((ES.toList.map (WideElems.rg Tryz.prog 3 noVal)).foldr DataW.insert [])) := ⟨ES,_,o1,hfit,Nat.le_refl _,rfl⟩
 have hperm:=keys_ents hr k1
 generalize (DataW.map ((ES.toList.map (WideElems.rg Tryz.prog 3 noVal)).foldr DataW.insert []) :DataW Unit) =D0 at hown hperm
 have hsz:Maps.size D0≤1000000:=by
  cases D0 with
  | map es=>
   have:=hperm.length_eq
   simp only [intKeys,List.length_map]at this
   rw [Maps.size_eq];omega
  |_=>simp [Maps.size]
 have hbl:=hown.lt
 have hseq:SeqGives Fence.wide 2 Tryz.prog 101 #[.pointer (some ⟨w.heap.size,0,none⟩)] encZ (fun ss=>ss.Perm (intKeys D0)) (Maps.size D0) (w.alloc (.cells #[.map (some L.blk)] 88)) :=
  AnyZI.keys_gives (ρ:=Tryz.keysA_ren) {Tryz.keysA with} Fence.wide _ trivial rfl (by omega) w.heap.size L.blk ES.size D0 _ (by simp) (by simp) (by
   obtain⟨es,clock,hb,Ft,hs,hD⟩ :=hown
   exact⟨es,clock,(Below.heap_alloc _ _ _ hbl).trans hb,Ft,hs,hD⟩)
 have cK:CallsIn Fence.wide 5 Tryz.prog 51 #[.map (some L.blk)] w fun e w'=>e= .returned (.func (.func 101) #[] #[.pointer (some ⟨w.heap.size,0,none⟩)]) ∧w'=w.alloc (.cells #[.map (some L.blk)] 88) :=AnyZI.keys_in Tryz.keysA Fence.wide 5 trivial rfl _ w
 have cS:=AnyZI.sorted_in Tryz.sortedA Fence.wide 5 trivial trivial trivial trivial rfl (by omega) (sortsA _) (enters_of Tryz.func100 (by kernel_rfl) rfl) 101 #[.pointer (some ⟨w.heap.size,0,none⟩)] trivial (enters_of Tryz.func101 (by kernel_rfl) rfl) _ _ (show Maps.size D0≤maxLen by unfold maxLen;omega) (by omega) _ hseq
 change CallsIn _ _ Tryz.prog 50 _ _ _ at cS
 refine(callsIn_wide.1 cK).mono ?_
 rintro e w1 ⟨rfl,rfl⟩
 have hheap:∀i,i<w.heap.size→ (w.alloc (.cells #[.map (some L.blk)] 88)).heap[i]?=w.heap[i]?:=fun i hi=>Below.heap_alloc _ _ i hi
 have hsize: (w.alloc (.cells #[.map (some L.blk)] 88)).heap.size=w.heap.size+1:=by
  show(w.heap.push _).size=_
  simp
 have relOf:∀ (E':Emb) (w':World),(∀b,E' b=E b) → (∀k C,E.imm k=some C→E'.imm k=some C) → (∀i,i<w.heap.size→w'.heap[i]?=w.heap[i]?) → (∀k C,E'.imm k=some C→ (E.imm k=some C) ∨ (w.heap.size≤k∧∃e f,w'.heap[k]?=some (.cells C e f))) →Rel E' h w'.heap:=by
  intro E' w' hl hi hh hm
  have hle:E.le E':= ⟨fun b L e=>by rw [hl];exact e,hi⟩
  refine⟨fun b o e=>?_,fun b b' o o' L L' e e' k k'=>?_,fun b hb'=>by rw [hl];exact R.fresh b hb',fun k C hk=>?_,fun b o L e k=>?_,R.keys⟩
  · rcases R.obj0 b o e with⟨q1,q2⟩ | ⟨L,q1,q2⟩
    ·exact .inl ⟨q1,by rw [hl];exact q2⟩
    ·exact .inr ⟨L,by rw [hl];exact q1,(q2.mono hle).heap (hh _ q2.lt)⟩
  · rw [hl]at k k'
    exact R.kin b b' o o' L L' e e' k k'
  · rcases hm k C hk with q| ⟨_,q⟩
    · obtain⟨e,f,q1⟩ :=R.imm k C q
      exact⟨e,f,by rw [hh _ (Array.getElem?_eq_some_iff.1 q1).1];exact q1⟩
    ·exact q
  · rw [hl]at k
    have h1:=R.apart b o L e k
    cases hq:E'.imm L.blk with
    |none=>rfl
    | some C=>
     rcases hm _ _ hq with q| ⟨q,_⟩
     ·rw [h1]at q;cases q
     ·have:=R.lt e k;omega
 refine⟨_,rfl,relOf E _ (fun _=>rfl) (fun _ _ e=>e) hheap (fun k C hk=>.inl hk),?_⟩
 refine(callsIn_wide.1 cS).mono ?_
 rintro e w' ⟨v,ss,rfl,hS,hrow,hnil,hbel⟩
 have hss:ss.mergeSort (fun x y=>decide (x≤y)) =ks:=by
  rw [hks]
  exact mergeSort_of_perm_i (hS.trans hperm)
 have hss':ss.length=ks.length:=by rw [←hss,List.length_mergeSort]
 have hold:∀i,i<w.heap.size→w'.heap[i]?=w.heap[i]?:=fun i hi=> (hbel.block i (by rw [hsize];omega)).trans (hheap i hi)
 have extOf:∀E':Emb,(∀b,E' b=E b) → (∀k C,E.imm k=some C→E'.imm k=some C) → (∀k C,E'.imm k=some C→k<w.heap.size→E.imm k=some C) →Ext E h w E' h w':=fun E' hl hi hm=>
  ⟨⟨fun b L e=>by rw [hl];exact e,hi⟩,by have:=hbel.size;rw [hsize]at this;omega,fun i hi _=>hold i hi,fun b o L e k _=> ⟨b,o,L,e,by rw [hl]at k;exact k,rfl⟩,Nat.le_refl _,hbel.os,hbel.tape,hbel.output,fun b _=>hl b,
   fun a ha=>World.frozen?_of_block (w:=w) (hold _ ha),fun k C e hk=>.inl (hm k C e hk),fun b o e _=> ⟨o,e⟩⟩
 rw [hss]at hrow
 rcases hrow.2 with⟨rfl,hz⟩ | ⟨g,cap,cur,rfl,hg,hgc,r1,r2,r3,r4⟩
 · have hk0:ks= [] :=List.eq_nil_of_length_eq_zero (by omega)
   subst hk0
   refine⟨_,E,rfl,?_,relOf E w' (fun _=>rfl) (fun _ _ e=>e) hold (fun k C hk=>.inl hk),extOf E (fun _=>rfl) (fun _ _ e=>e) (fun _ _ e _=>e)⟩
   simp only [VR,List.map_nil,VRs]
   exact⟨[],rfl,fun u hu=> (by cases hu),.inl ⟨rfl,none,0,rfl,fun _=>rfl,fun _=>rfl⟩⟩
 · have hgw:w.heap.size≤g:=by rw [hsize]at hg;omega
   have hgn:E.imm g=none:=by
    cases hq:E.imm g with
    |none=>rfl
    | some C=>
     obtain⟨e,f,q1⟩ :=R.imm g C hq
     have:= (Array.getElem?_eq_some_iff.1 q1).1
     omega
   have up:∀k C,E.imm k=some C→ (if k=g then some cur else E.imm k) =some C:=fun k C e=>by
    rw [if_neg (fun q=>by rw [q,hgn]at e;cases e)];exact e
   refine⟨_,⟨E.loc,fun k=>if k=g then some cur else E.imm k⟩,rfl,?_,relOf _ w' (fun _=>rfl) up hold (fun k C hk=>?_),extOf _ (fun _=>rfl) up (fun k C e hk=>?_)⟩
   · simp only [VR]
     refine⟨ks.map encZ,vrs_ints _ ks,fun u hu=>?_,.inr ⟨g,0,cap,cur,?_,if_pos rfl,?_,(fun q=>by cases q),fun j hj=>?_⟩⟩
     · obtain⟨a,_,rfl⟩ :=List.mem_map.1 hu
       exact⟨rfl,fun c hc=>by rw [List.mem_singleton.1 hc];rfl⟩
     ·rw [List.length_map,hss']
     ·rw [List.length_map];omega
     · rw [flat_ints]
       rw [List.length_map]at hj
       have h4: (cur.toList.take (ss.length*1))[j]?= (ks.map encZ)[j]?:=by rw [r4]
       rw [List.getElem?_take,if_pos (by omega)]at h4
       rw [Nat.zero_add,←h4,Array.getElem?_toList]
   · simp only at hk
     split at hk
     · rename_i q;cases hk;subst q
       exact .inr ⟨hgw,_,_,hgc⟩
     ·exact .inl hk
   · simp only at e
     rw [if_neg (by omega)]at e
     exact e
end Go.Hb
