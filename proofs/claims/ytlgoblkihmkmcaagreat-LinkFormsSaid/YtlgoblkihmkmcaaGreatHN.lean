/- A machine on abstract values, its soundness, ways, plain laws. -/
import Derived.Test.YtlgoblkihmkmcaaGreatHF
import Derived.Test.YtlgoblkihmkmcaaGreatHG
import Derived.Test.YtlgoblkihmkmcaaGreatHJ
import Derived.Test.YtlgoblkihmkmcaaGreatHK
import Derived.Test.YtlgoblkihmkmcaaGreatHM
set_option linter.defProp false
set_option linter.unusedVariables false
set_option linter.unusedSimpArgs false
set_option linter.unusedSectionVars false
set_option maxRecDepth 100000
set_option maxHeartbeats 4000000
namespace Go.Hb
open AV (frzOk ilst keyless keylessL)
open Bool (and_eq_true eq_false_iff not_eq_true')
open Eq (mp)
open Int (toNat_natCast)
open List (all_cons append_assoc append_nil length length_append length_cons length_set map map_nil nil_append replicate set)
open Pats (av)
open Go.Proofs Tryz
noncomputable section
abbrev aHe (a:LUnit):AV:=.ilst 2 (map LFun.av a.funs) false
abbrev aU0 (a:LUnit)(b:List aA):=aG [oC 0 [aD a.name,iC a.cons,aHe a,iS a.needs,iN a.nodes],oC 1 [iS b,iS a.needs],oL 3 4 (jN a.nodes)] 4
abbrev aOX (a:LUnit):AV:=.agg [aD a.name,iC a.cons,aHe a,iS a.needs,iN a.nodes]
abbrev aHf (a:Nat)(b:LUnit):=oC a [aD b.name,iC b.cons,aHe b,iS b.needs,iN b.nodes]
abbrev aEu (a:List Node)(b:Int)(c:Node):AV:=.gl 2 4 0 (set a b.toNat (Node.mk c.op (-1) c.kids c.pats)).length false
abbrev aU1:AV:=.iface 9 (.str 16 134789072936214216453580009062074836332)
def aY1(a:LUnit):TS:=bH PP 134 [aOX a] [] 0
def aK5(a:LUnit)(c:Int)(b:List aA):TS:=⟨tf 134 20 [(2,.nils),(3,.gl 0 1 0 b.length false),(7,aHe a),(8,nI (a.funs.length:Int)),(9,nI c)] [kc f134 116,kl f134 116,.inBlock 0,kc f134 15],[],[oL 0 1 (map aD b)],1⟩
def bBd(a:List aA):TS:=bH PP 139 [iS a] [] 0
def aK6(a:List aA)(b:Int):TS:=⟨tf 221 19 [(0,iS a),(1,.func 187 [] []),(4,nI 0),(7,nI (a.length:Int)),(8,nI b)] [kc f221 52,kl f221 52,.inBlock 0,kc f221 7],[tf 186 9 [(4,bV false),(5,iS a),(6,.func 187 [] [])] [ko f186 6 2,kc f186 7],tf 139 10 [(0,iS a),(2,bV false),(3,iS a)] [ko f139 6 1,kc f139 7]],[],0⟩
def aEv(a:List aA)(c:Int)(b:List (aA×Bool)):TS:=⟨tf 188 25 [(1,.func 189 [] []),(4,bV false),(5,.map 0),(9,iS a),(10,nI (a.length:Int)),(11,nI c)] [kc f188 116,kl f188 116,.inBlock 0,kc f188 15],[tf 139 10 [(2,bV false),(6,bV true),(7,iS a)] [ko f139 6 5,kc f139 7]],[(0,.map (aK aD kP 0 b) b.length,true)],1⟩
def aU2(a:List Node):TS:=bH PP 140 [iN a] [] 0
def bBe(a:List Node):TS:=⟨tf 140 8 [(0,iN a),(2,.nils),(3,iN a)] [ko f140 12 1,kc f140 13,kc f140 7],[],[],0⟩
def aZY(a:List Node):TS:=⟨tf 140 8 [(0,iN a),(2,.nils),(3,.nils)] [ko f140 12 1,kc f140 13,kc f140 7],[],[],0⟩
def aZZ(a:List Node)(b:Addr)(c d:Nat):TS:=⟨tf 140 8 [(0,iN a),(2,.nils),(3,.val (Value.slice (some b) c d))] [ko f140 12 1,kc f140 13,kc f140 7],[],[],0⟩
def aU3(a b:List aA):TS:=bH PP 133 [.slice 0 0 2 2 1 true] [oC 0 [iS a,iS b]] 1
def aY2(a:LUnit):TS:=bH PP 77 [aOX a] [] 0
def aK7(a:LUnit)(c:List aA)(d:Int)(b:List Int):TS:=⟨tf 77 114 [kp 1 0,(2,bV false),(3,iS c),kp 4 1,(49,aHe a),(50,nI (a.funs.length:Int)),(51,nI d)] [kc f77 500,kl f77 500,.inBlock 0,kc f77 63],[],[aHf 0 a,oC 1 [.gl 2 4 0 a.nodes.length false,.gl 3 1 0 b.length false,nI 0,iC a.cons],oL 2 4 (jN a.nodes),oL 3 1 (jI b)],4⟩
def xR(a:LUnit)(d:List aA)(e:Int)(b:List Node)(c:List Int)(f:Int):TS:=⟨tf 77 114 [kp 1 0,(2,bV false),(3,iS d),kp 4 1,(76,.gl 2 4 0 b.length false),(77,nI e),(78,nI f)] [kc f77 2036,kl f77 2036,.inBlock 2,kc f77 255],[],[aHf 0 a,oC 1 [.gl 2 4 0 b.length false,.gl 3 1 0 c.length false,nI 0,iC a.cons],oL 2 4 (jN b),oL 3 1 (jI c)],4⟩
def aXb (a:LUnit):=(tT 0 (aY1 a)<|gl 14 LFun.av a.funs<|.i [rn 4,.nilL 3 1] []<|gu 0 1 (map aD ([] :List aA))<|gs 0 3 (.gl 1 1 0 ([] :List aA).length false)<|.W 0 2 [1] (aK5 a 0 ([] :List aA))) ⟨kk,trivial⟩
def aU4(c:LUnit)(a:Int)(b:List aA):=tT 0 (aK5 c a b)<|gd 5 10 (a< (c.funs.length:Int)) (gX LFun.av 6 c.funs a<|fun d=>ga 9 aD b [d.name]<|gw 5 18 (a+1)<|.W 3 4 [3] (aK5 c (a+1) (b++ [d.name])))<|gz 8 2 0 1 aD b false<|gE 0 1 (iS b)
def aXc (a:List aA):=(tT 0 (bBd a)<|gl 25 aD a<|.W 4 0 [] (aK6 a 0)) tv
def aOY(a:List aA)(b:Int):=tT 0 (aK6 a b)<|gd 5 9 (b< (a.length:Int)) (gX aD 14 a b<|fun c=>cD 9 107 [aD c]<|fun d=>.b 6 16 (!d) (.b 15 6 (!(decide (b≥0))) (.i [rn 9,.mset 0 (aK aD kP 0 ([] :List (aA×Bool))) ([] :List (aA×Bool)).length] [hr (aK aD kP 0 ([] :List (aA×Bool))),hr (length ([] :List (aA×Bool)))]<|gl 6 aD a<|.W 4 1 [0] (aEv a 0 ([] :List (aA×Bool))))<|gE 6 0 (bV false))<|gw 5 18 (b+1)<|.W 3 0 [] (aK6 a (b+1)))<|.i [rn 24,.mset 0 (aK aD kP 0 ([] :List (aA×Bool))) ([] :List (aA×Bool)).length] [hr (aK aD kP 0 ([] :List (aA×Bool))),hr (length ([] :List (aA×Bool)))]<|gl 6 aD a<|.W 4 1 [0] (aEv a 0 ([] :List (aA×Bool)))
def aOZ(f:List aA)(c:Int)(a:List (aA×Bool)):=tT 0 (aEv f c a)<|gd 5 12 (c< (f.length:Int)) (gX aD 6 f c<|fun g=>gpS 9 189 [aD g]<|fun d=>.o (.y fun b:Bool=>.i [.ans (.look (some (wV d a,kP b)))] [.a (cI d a=some b) (p':=fP (aD d) (aK aD kP 0 a) 0=some (some (wV d a,kP b))) (qQ iO)]<|.b 1 19 b (gE 11 1 (bV false))<|gpS 6 189 [aD g]<|fun e=>.i [.mput (aK aD kP 0 (bS e true a)) (bS e true a).length] [.q (p:=iU (aK aD kP 0 a) a.length (aD e) (kP true) =some (aK aD kP 0 (bS e true a),length (bS e true a))) (wU iO _ _ _)]<|gw 4 24 (c+1)<|.W 3 1 [0] (aEv f (c+1) (bS e true a)))<|.i [.ans (.look none)] [.a (cI d a=none) (p':=fP (aD d) (aK aD kP 0 a) 0=some none) (nR iO)]<|gpS 7 189 [aD g]<|fun b=>.i [.mput (aK aD kP 0 (bS b true a)) (bS b true a).length] [.q (p:=iU (aK aD kP 0 a) a.length (aD b) (kP true) =some (aK aD kP 0 (bS b true a),length (bS b true a))) (wU iO _ _ _)]<|gw 4 24 (c+1)<|.W 3 1 [0] (aEv f (c+1) (bS b true a)))<|gE 12 1 (bV true)
def bBf (a:List Node):=(tT 0 (aU2 a)<|.W 8 0 [] (bBe a)) tv
def bBg (a:List Node):=(tT 0 (aZY a)<|.i [rn 8,.nilL 2 4] []<|.E 0 1 [0] (.gl 0 4 0 0 false) [oL 0 4 (jN ([] :List Node))] 1) ⟨kk,trivial⟩
def bBh (a:List Node)(b:Addr)(c d:Nat):=fun e=>(tT 0 (aZZ a b c d)<|.i [rn 8,.toL 5 true []] [.q (p:=getCells (putCells .leaf 0 []) 0 (0*4) =some []) rfl,hr true]<|gu 0 0 (jN ([] :List Node))<|gs 0 5 (.gl 0 4 0 ([] :List Node).length true)<|.i [.weak 5] []<|ga 0 Node.av ([] :List Node) a<|.E 3 2 [1] (.gl 0 4 0 (([] :List Node) ++a).length false) [oL 0 4 (jN (([] :List Node) ++a))] 1) e ⟨kk,trivial⟩
def aU5(a b:List aA):=tT 1 (aU3 a b)<|gl 36 aD a<|gw 1 18 (0+ (a.length:Int))<|gd 7 20 ((0+ (a.length:Int)) <0) (.P 4 1 [] [(aU1,false)] [oC 0 [iS a,iS b]] 1)<|gl 27 aD b<|gw 1 18 ((0+ (a.length:Int)) + (b.length:Int))<|gd 7 20 (((0+ (a.length:Int)) + (b.length:Int)) <0) (.P 4 1 [] [(aU1,false)] [oC 0 [iS a,iS b]] 1)<|gd 29 6 (((0+ (a.length:Int)) + (b.length:Int)) <0) .x<|gw 12 14 (((0+ (a.length:Int)) + (b.length:Int)) -0)<|gd 7 16 ((((0+ (a.length:Int)) + (b.length:Int)) -0) >0) (.i [rn 7,.appN (map aD (replicate (((0+ (a.length:Int)) + (b.length:Int)) -0).toNat ([] :aA))) (((0+ (a.length:Int)) + (b.length:Int)) -0).toNat] [hA ((((0+ (a.length:Int)) + (b.length:Int)) -0) = (((((0+ (a.length:Int)) + (b.length:Int)) -0).toNat:Nat) :Int)),hA (0< (((0+ (a.length:Int)) + (b.length:Int)) -0).toNat),hA ((((0+ (a.length:Int)) + (b.length:Int)) -0).toNat<100000),.q (p:=kR [AV.str 0 0] (((0+ (a.length:Int)) + (b.length:Int)) -0).toNat= (map aD (replicate (((0+ (a.length:Int)) + (b.length:Int)) -0).toNat ([] :aA)))) (aMY _),.q (p:=cQ (map aD (replicate (((0+ (a.length:Int)) + (b.length:Int)) -0).toNat ([] :aA))) =true) (aAv _)]<|.i [.toL 22 false (map aD (replicate (((0+ (a.length:Int)) + (b.length:Int)) -0).toNat ([] :aA)))] [.q (p:=getCells (putCells .leaf 0 (map aD (replicate (((0+ (a.length:Int)) + (b.length:Int)) -0).toNat ([] :aA)))) 0 ((((0+ (a.length:Int)) + (b.length:Int)) -0).toNat*1) =some (map aD (replicate (((0+ (a.length:Int)) + (b.length:Int)) -0).toNat ([] :aA)))) (aUu _),.q (p:=cQ (map aD (replicate (((0+ (a.length:Int)) + (b.length:Int)) -0).toNat ([] :aA))) =true) (aAv _)]<|.i [.lset 1 (map aD (replicate (((0+ (a.length:Int)) + (b.length:Int)) -0).toNat ([] :aA)))] [.q (p:=pS false 1 (((0+ (a.length:Int)) + (b.length:Int)) -0).toNat (map aD (replicate (((0+ (a.length:Int)) + (b.length:Int)) -0).toNat ([] :aA))) = (map aD (replicate (((0+ (a.length:Int)) + (b.length:Int)) -0).toNat ([] :aA)))) (aUv _)]<|.i [rn 2,.ans (.ev (.gl 1 1 0 0 false))] [.a (0≤ (((0+ (a.length:Int)) + (b.length:Int)) -0).toNat) (p':=aL1 PP 46 (.gl 1 1 0 ((((0+ (a.length:Int)) + (b.length:Int)) -0).toNat) false) none (some (nI 0)) (.gl 1 1 0 0 false)) (fun h=>(aSQ (k:=0) (by kernel_rfl) (by decide) h))]<|.i [rn 38,.app (map aD a) a.length] [.q (p:=0+0≤length (map aD (replicate (((0+ (a.length:Int)) + (b.length:Int)) -0).toNat ([] :aA)))) (Nat.zero_le _),hA (a.length≤1000000),.q (p:=List.take 0 (List.drop 0 (map aD (replicate (((0+ (a.length:Int)) + (b.length:Int)) -0).toNat ([] :aA)))) ++ (map aD a) = (map aD a)) (by rw [List.take_zero,nil_append]),.q (p:=0+length (map aD a) =a.length) (by rw [Nat.zero_add,List.length_map])]<|ga 26 aD a b<|gz 21 2 3 1 aD (a++b) false<|.E 0 4 [] (iS (a++b)) [oC 0 [iS a,iS b]] 1)<|.i [rn 38,.nilL 31 1] []<|gu 0 1 (map aD ([] :List aA))<|gs 0 31 (.gl 1 1 0 ([] :List aA).length false)<|ga 0 aD ([] :List aA) a<|ga 26 aD (([] :List aA) ++a) b<|gz 21 2 3 1 aD ((([] :List aA) ++a) ++b) false<|.E 0 4 [] (iS ((([] :List aA) ++a) ++b)) [oC 0 [iS a,iS b]] 1
def aEw(a:LUnit):=tT 0 (aY2 a)<|.y fun b:List aA=>gp 8 134 [aOX a] (iS b)<|cD 7 107 [aD a.name]<|fun c=>.b 2 16 (!c) (gE 32 1 (bV false))<|gl 2 aD a.needs<|gd 3 22 ((a.needs.length:Int) >20) (gE 26 1 (bV false))<|cD 1 139 [iS b]<|fun d=>.b 3 27 (!d) (gE 21 1 (bV false))<|cD 2 139 [iS a.needs]<|fun e=>.b 3 33 (!e) (gE 15 1 (bV false))<|gk 4 (.enter 133 [.slice 1 0 2 2 1 true]) [aHf 0 a,oC 1 [iS b,iS a.needs]] 2 (iS (b++a.needs)) [aHf 0 a,oC 1 [iS b,iS a.needs]] 2<|cD 0 139 [iS (b++a.needs)]<|fun f=>.b 3 41 (!f) (gE 6 2 (bV false))<|.i [rn 3,.reg (rd 4 (.call (.gl 3 4 0 a.nodes.length false) (aU0 a b)::rd 3 []))] [hA (Spec PP (.enter 140 [iN a.nodes]) (aG [aHf 0 a,oC 1 [iS b,iS a.needs]] 3) (.ret (.gl 3 4 0 a.nodes.length false)) (aU0 a b)),hr (ilst 2 (jC a.cons) false),hr (ilst 2 (jC a.cons) false)]<|gl 5 LFun.av a.funs<|.i [rn 4,.cnil 2 1 1] []<|gu 0 4 (jI ([] :List Int))<|gv 0 2 1 (.gl 4 1 0 ([] :List Int).length false)<|.W 0 5 [0,2,3,4] (aK7 a b 0 ([] :List Int))
def aK8(a:LUnit)(b:List aA)(c:Int)(d:List Int):=tT 0 (aK7 a b c d)<|gd 5 52 (c< (a.funs.length:Int)) (gX LFun.av 6 a.funs c<|fun e=>ga 10 bM d [e.body]<|gw 6 62 (c+1)<|.W 3 7 [0,1,2,6] (aK7 a b (c+1) (d++ [e.body])))<|gl 6 aD b<|.b 2 65 ((b.length:Int) ==0) (gl 6 Node.av a.nodes<|gd 2 69 ((a.nodes.length:Int) >0) (gE 6 4 (bV false))<|.i [rn 13,.ctoL 1 0 true [nI 3,nI 0,.nils,.nils]] [hr (some [nI 3,nI 0,.nils,.nils]),hr true]<|.i [.lw 4 (jN [Node.mk 3 0 [] []])] [.q (p:=([.agg [nI 3,nI 0,.nils,.nils]] :List AV) ≠ []) (by simp),.q (p:=VW [.agg [nI 3,nI 0,.nils,.nils]] (jN [Node.mk 3 0 [] []])) (aQx _ _)]<|gv 0 1 0 (.gl 4 4 0 [Node.mk 3 0 [] []].length true)<|.i [.cweak 1 0] []<|.i [.ctoL 1 1 false [nI 0]] [hr (some [nI 0]),hr true]<|gu 0 5 (jI [0])<|gv 0 1 1 (.gl 5 1 0 [0].length true)<|.i [.cweak 1 1] []<|.W 8 6 [0,1,4,5] (xR a b (([Node.mk 3 0 [] []].length:Nat) :Int) [Node.mk 3 0 [] []] [0] 0))<|.W 12 4 [0,1,2,3] (xR a b (a.nodes.length:Int) a.nodes d 0)
def aHg(e:LUnit)(f:List aA)(g:Int)(b:List Node)(d:List Int)(c:Int):=tT 0 (xR e f g b d c)<|gd 5 79 (c<g) (.i [rn 7,.ans (.ix)] [hA (0≤c),hA (c< (b.length:Int))]<|.y fun a:Node=>gj Node.av 0 b c.toNat a<|gw 9 85 ((-1:Int) -a.n)<|.b 8 89 (a.op==4) (gl 2 aD f<|gd 3 95 (((-1:Int) -a.n) ≥ (f.length:Int)) (gl 2 aD f<|gl 2 aD e.needs<|gw 1 102 ((f.length:Int) + (e.needs.length:Int))<|gd 3 104 (((-1:Int) -a.n) < ((f.length:Int) + (e.needs.length:Int))) (.i [rn 5,.ans (.ix)] [hA (0≤c),hA (c< (b.length:Int))]<|.i [rn 1,.st (Node.av a) (Node.av (Node.mk a.op (-1) a.kids a.pats))] [.a (((b)[c.toNat]?) =some a) (jQ (f:=Node.av)),hr (some (Node.av (Node.mk a.op (-1) a.kids a.pats)))]<|.i [.lset 2 (jN (set b c.toNat (Node.mk a.op (-1) a.kids a.pats)))] [.q (p:=(jN b).set (0+c.toNat) (Node.av (Node.mk a.op (-1) a.kids a.pats)) = (jN (set b c.toNat (Node.mk a.op (-1) a.kids a.pats)))) (pA _ _ _ _)]<|.i [.set 76 (aEu b c a)] [.q (p:=(AV.gl 2 4 0 b.length false) = (aEu b c a)) (dH (length_set ..).symm)]<|.i [.set 106 (aEu b c a)] [.q (p:=(AV.gl 2 4 0 b.length false) = (aEu b c a)) (dH (length_set ..).symm)]<|.i [.cset 1 0 (aEu b c a)] [.q (p:=(AV.gl 2 4 0 b.length false) = (aEu b c a)) (dH (length_set ..).symm)]<|gw 4 110 (c+1)<|.W 3 5 [0,1,2,3] (xR e f g (set b c.toNat (Node.mk a.op (-1) a.kids a.pats)) d (c+1)))<|gw 5 110 (c+1)<|.W 3 5 [0,1,2,3] (xR e f g b d (c+1)))<|gw 15 110 (c+1)<|.W 3 5 [0,1,2,3] (xR e f g b d (c+1)))<|gw 21 110 (c+1)<|.W 3 5 [0,1,2,3] (xR e f g b d (c+1)))<|.i [rn 5,.frz 111 2 (jN b)] [hk Node.av b,.q (p:=frzOk 2 4 (jN b) (jN b) (.agg [.gl 2 4 0 b.length false,.gl 3 1 0 d.length false,nI 0,iC e.cons])) (by simp [frzOk,AV.frzOkL,List.take_of_length_le])]<|.i [.frz 111 3 (jI d)] [hk bM d,.q (p:=frzOk 3 1 (jI d) (jI d) (.agg [iN b,.gl 3 1 0 d.length false,nI 0,iC e.cons])) (by simp [frzOk,AV.frzOkL,List.take_of_length_le])]<|gpI 0 141 [.agg [iN b,iI d,nI 0,iC e.cons]]<|fun a=>gE 4 4 (bV (a==0))
def aQL:=fun a b c d e f g i j k l m n o=>aHg a b c d e f|>.t i j k g l m|>.f n o ⟨kk,⟨kk,trivial⟩⟩
def aQM:=fun a b c d e f g i j=>aHg a b c d e f|>.f i g j tv
def aZ0(a b:List aA):TS:=bH PP 34 [iS a,iS b] [] 0
def aFA(a b:List aA)(c:Int):TS:=⟨tf 34 26 [(0,iS a),(1,iS b),(4,bV false),(5,nI c)] [kc f34 116,kl f34 116,.inBlock 0,kc f34 15],[],[],0⟩
def bBi(a:Bool)(b:Int):TS:=bH PP 46 [bV a,nI b] [] 0
def bBj(a:aA):TS:=bH PP 189 [aD a] [] 0
def aZ1(a b:List aA):=tT 0 (aZ0 a b)<|gl 8 aD a<|gl 1 aD b<|.b 2 10 ((a.length:Int) != (b.length:Int)) (gE 6 0 (bV false))<|.W 9 0 [] (aFA a b 0)
def aU6(b e:List aA)(a:Int):=tT 0 (aFA b e a)<|gl 5 aD b<|gd 2 14 (a< (b.length:Int)) (.y fun c:aA=>.y fun d:aA=>.i [rn 5,.reg (.d::.d::.ans (.idx (aD c))::rd 3 [.ans (.idx (aD d)),.d,.d])] [hA (0≤a),.a (((b)[a.toNat]?) =some c) (fF (f:=aD)),hA (0≤a),.a (((e)[a.toNat]?) =some d) (fF (f:=aD))]<|.b 0 25 (!(bB c.length (aC c) d.length (aC d))) (gE 6 0 (bV false))<|gw 6 16 (a+1)<|.W 3 0 [] (aFA b e (a+1)))<|gE 7 0 (bV true)
def aU7(a:Bool)(b:Int):=tT 0 (bBi a b)<|.b 4 4 a (gQ 6 0 [(.iface 174 (.agg [nI b]),false)])<|gE 3 0 (.tup [])
def aXd (a:aA):=(tT 0 (bBj a)<|gE 10 0 (aD a)) tv
theorem aIV (a:List aA)(ha:a.length<1000000) :∀ (t:List aA) (i:Nat),a.drop i=t→Ends PP 0 (aFA a a (i:Int)).as (.ret (.bool true)) (aG [] 0)
 | [],i,h=>by
  have:=aZ h;exact aU6 a a i|>.f sd tv
 | x::t,i,h=>by
  obtain⟨q1,q2,q3⟩ :=aY h;exact(aU6 a a i|>.t sd x x sd sd sd sd|>.f (by rw [rT];rfl) sd tv).ends (aIV a ha t (i+1) q2)
theorem aRX (a:List aA)(ha:a.length<1000000) :Pure PP 34 [.ilst 1 (map aD a) false,.ilst 1 (map aD a) false] (.bool true) :=
 aP (by kernel_rfl) rfl rfl ((aZ1 a a|>.f (by simp) tv).ends (aIV a ha a 0 rfl))
theorem aNj (u:LUnit)(hu:FitU u) :∀ (t:List LFun) (i:Nat),u.funs.drop i=t→Ends PP 0 (aKJ u u (i:Int)).as (.ret (.bool true)) (aG [] 0)
 | [],i,h=>by
  have:=aZ h;exact aQy u u i|>.f sd true (aRS (aOE (vC u) hu.p) (fun E c h=>aEl h) (fun E c h=>aEl h)) tv
 | x::t,i,h=>by
  obtain⟨q1,q2,q3⟩ :=aY h;have hf:=hu.f;exact(aQy u u i|>.t sd x x sd sd sd sd|>.f (by rw [rT];simp) sd tv).ends (aNj u hu t (i+1) q2)
theorem aNk (u:LUnit)(hu:FitU u) :Pure PP 19 [LUnit.av u,LUnit.av u] (.bool true) :=
 bU (s:=aYJ u u) (by kernel_rfl) (by kernel_rfl) (by simp [keylessL,lB]) rfl ((aWZ u u|>.f (by rw [rT];rfl) true (aRX u.needs hu.n)|>.f rfl|>.f (by simp) tv).ends (aNj u hu u.funs 0 rfl))
theorem aU8 (e:Int) :Pure PP 46 [.bool false,.int .i64 e] (.tup []) :=
 aP (by kernel_rfl) rfl rfl (aU7 false e|>.f rfl tv)
theorem aHh (e:Int) :wO PP 46 [.bool true,.int .i64 e] [(.iface 174 (.agg [.int .i64 e]),false)] :=
 throws_at (by kernel_rfl) rfl (fun x hx=>by rw [List.mem_singleton.1 hx];rfl) (aU7 true e|>.t rfl tv)
theorem aHi (s:aA) :Pure PP 189 [aD s] (aD s) :=aP (by kernel_rfl) rfl rfl (aXd s)
theorem aNl (u:LUnit)(hl:u.funs.length≤1000) :∀ (t:List LFun) (i:Nat) (acc:List aA),u.funs.drop i=t→acc.length=i→Ends PP 0 (aK5 u (i:Int) acc).as (.ret (.ilst 1 (map aD (acc++t.map LFun.name)) false)) (aG [] 0)
 | [],i,acc,h,ha=>by
  have:=aZ h;rw [map_nil,append_nil];exact aU4 u i acc|>.f sd tv
 | c::t,i,acc,h,ha=>by
  obtain⟨q1,q2,q3⟩ :=aY h;have hi:= (List.getElem?_eq_some_iff.1 q1).1;refine(aU4 u i acc|>.t sd c sd sd (by simp;omega) sd ⟨kk,trivial⟩).ends ?_;have:=aNl u hl t (i+1) (acc++ [c.name]) q2 (by simp [ha]);rw [append_assoc]at this;exact this
theorem aU9 (u:LUnit)(hl:u.funs.length≤1000) :Pure PP 134 [LUnit.av u] (.ilst 1 (map aD (aR u)) false) :=
 bU (s:=aY1 u) (by kernel_rfl) (by kernel_rfl) (by simp [keylessL,lB]) (by simp [keyless]) ((aXb u).ends (aNl u hl u.funs 0 [] rfl rfl))
def aVa (pre:List aA)(m:List (aA×Bool)) :Prop:=∀s,cI s m=if cA pre s=true then some true else none
theorem aRY {pre:List aA}{m:List (aA×Bool)}(h:aVa pre m)(s:aA) :aVa (pre++ [s]) (bS s true m) :=fun k=>by
 rw [jS,h k];by_cases e:k=s
 ·rw [if_pos e,if_pos (by rw [hasS_mem,e];simp)]
 · rw [if_neg e];have: (cA (pre++ [s]) k=true) = (cA pre k=true) :=by
    rw [hasS_mem,hasS_mem];simp [e]
   simp only [this]
theorem aY3 (l:List aA)(hl:l.length<1000000) :∀ (t:List aA) (i:Nat) (m:List (aA×Bool)),l.drop i=t→aVa (l.take i) m→Ends PP 0 (aEv l (i:Int) m).as (.ret (.bool (cM (l.take i) t))) (aG [] 0)
 | [],i,m,h,hm=>by
  have:=aZ h;exact aOZ l i m|>.f sd tv
 | s::t,i,m,h,hm=>by
  obtain⟨q1,q2,q3⟩ :=aY h;have g:=hm s;rw [cM];cases e:cA (l.take i) s
  case true=>
   rw [e,if_pos rfl]at g;exact aOZ l i m|>.t sd s sd sd s (aHi s)|>.1 true g|>.t rfl tv
  rw [e,if_neg (by simp)]at g;have h1:=aOZ l i m|>.t sd s sd sd s (aHi s)|>.2 g s (aHi s) sd ⟨aH (fun _=>rfl) (fun _=>rfl) _ _ _,trivial⟩;have ih:=aY3 l hl t (i+1) (bS s true m) q2 (by rw [aKL q1];exact aRY hm s);rw [aKL q1]at ih;exact h1.ends ih
theorem aY4 (l:List aA)(hl:l.length<1000000) :∀ (t:List aA) (i:Nat),l.drop i=t→Ends PP 0 (aK6 l (i:Int)).as (.ret (.bool (t.all eH&&cU l))) (aG [] 0)
 | [],i,h=>by
  have:=aZ h;have h2:=aY3 l hl l 0 [] rfl (fun s=>by simp [cI,cA]);exact(aOY l i|>.f sd ⟨aH (fun _=>rfl) (fun _=>rfl) _ _ _,trivial⟩).ends h2
 | s::t,i,h=>by
  obtain⟨q1,q2,q3⟩ :=aY h;have hn:=kC s;rw [all_cons];cases e:eH s
  case false=>rw [e]at hn;exact aOY l i|>.t sd s sd sd false hn|>.t rfl|>.f (by simp) tv
  rw [e]at hn;rw [Bool.true_and];exact(aOY l i|>.t sd s sd sd true hn|>.f rfl sd tv).ends (aY4 l hl t (i+1) q2)
theorem aHj (l:List aA)(hl:l.length<1000000) :Pure PP 139 [.ilst 1 (map aD l) false] (.bool (kL l)) :=
 aP (by kernel_rfl) rfl rfl ((aXc l).ends (aY4 l hl l 0 rfl))
abbrev aO0 (a b:List aA) :AObj:=.cells (putCells .leaf 0 [.ilst 1 (map aD a) false,.ilst 1 (map aD b) false]) 2 [] false
theorem aVb (a b:List aA)(ha:a.length≤1000)(hb:b.length≤1000) :nE PP 1 (.enter 133 [.slice 0 0 2 2 1 true]) (aG [(0,aO0 a b,false)] 1) (.ret (.ilst 1 (map aD (a++b)) false)) (aG [(0,aO0 a b,false)] 1) :=by
 suffices hh:Ends PP 1 (aU3 a b).as (.ret (.ilst 1 (map aD (a++b)) false)) (aG [(0,aO0 a b,false)] 1)from⟨(aU3 a b).as.fr,by kernel_rfl,mp (by kernel_rfl) hh⟩
 have w1:IntKind.i64.wrap ((0:Int) + ((length a:Nat) :Int)) = (0:Int) + ((length a:Nat) :Int) :=by apply wrap64<;>omega
 have w2:IntKind.i64.wrap (((0:Int) + ((length a:Nat) :Int)) + ((length b:Nat) :Int)) = ((0:Int) + ((length a:Nat) :Int)) + ((length b:Nat) :Int) :=by apply wrap64<;>omega
 have w3:IntKind.i64.wrap ((((0:Int) + ((length a:Nat) :Int)) + ((length b:Nat) :Int)) - (0:Int)) = (((0:Int) + ((length a:Nat) :Int)) + ((length b:Nat) :Int)) - (0:Int) :=by apply wrap64<;>omega
 by_cases h:a.length+b.length=0
 · have h1:=aU5 a b w1|>.f (decide_eq_false (by omega)) w2|>.f (decide_eq_false (by omega))|>.f (decide_eq_false (by omega)) w3|>.f (decide_eq_false (by omega)) (by simp;omega) (by simp;omega) tv;rw [nil_append]at h1;exact h1
 ·exact aU5 a b w1|>.f (decide_eq_false (by omega)) w2|>.f (decide_eq_false (by omega))|>.f (decide_eq_false (by omega)) w3|>.t (decide_eq_true (by omega)) (by omega) (by omega) (by omega) (by omega) (by omega) (by simp;omega) tv
theorem aVc (xs:List Node)(h:xs.length≤1000000) :aPz PP (.enter 140 [.ilst 4 (map Node.av xs) false]) (aG [] 0) (.ret (.gl 0 4 0 (length xs) false)) (aG [(0,.lst 4 (map Node.av xs),true)] 1) :=by
 suffices hh:Ends PP 0 (aU2 xs).as (.ret (.gl 0 4 0 (length xs) false)) (aG [(0,.lst 4 (map Node.av xs),true)] 1)from⟨(aU2 xs).as.fr,by kernel_rfl,mp (by kernel_rfl) hh⟩
 refine(bBf xs).ends ?_;refine aLR (j:=3) (e:=4) (ex:=false) (xs:=map Node.av xs) (by kernel_rfl) (fun hx=>?_) (fun a n c=>?_)
 · have hx:xs= [] :=by simpa using hx
   subst hx;exact mp (by kernel_rfl) (bBg [])
 · have h1:=bBh xs a n c (by simpa using h);rw [nil_append]at h1;exact mp (by kernel_rfl) h1
theorem xT (l:List aA) :cU l=true↔l.Nodup:=
 ⟨fun h=> (xQ l [] h).1,fun h=>aDv l [] h (fun _ _ hx=>by cases hx)⟩
theorem aO1 (a b:List aA)(ha:kL a=true)(hb:kL b=true) :kL (a++b) =b.all (fun s=> !cA a s) :=by
 simp only [kL,and_eq_true,xT]at ha hb;have hn: (a++b).all eH=true:=by rw [List.all_append,ha.1,hb.1];rfl
 rw [kL,hn,Bool.true_and];rw [Bool.eq_iff_iff,xT,List.nodup_append,List.all_eq_true];constructor
 · intro h s hs;rw [not_eq_true',eq_false_iff];intro hh;exact h.2.2 s (hasS_mem.1 hh) s hs rfl
 · intro h;refine⟨ha.2,hb.2,fun x hx y hy e=>?_⟩;have:=h y hy;rw [not_eq_true',eq_false_iff]at this;exact this (hasS_mem.2 (e ▸ hx))
def NumU (u:LUnit) :Prop:=∀x∈u.nodes,-9223372036854775808≤x.n∧x.n≤9223372036854775807
theorem aRZ {n:Int}(h: -9223372036854775808≤n∧n≤9223372036854775807) :IntKind.i64.wrap ((-1:Int) -n) = (-1:Int) -n:=by apply wrap64<;>omega
theorem aIW (b:Bool) : (checkN b== (0:Int)) =b:=by cases b<;>rfl
section
variable (u :LUnit) (hu:FewU u) (hi:NumU u)
include hu hi
theorem aY5 (l3:List Int)(h3:l3=lH u) :∀ (t:List Node) (i:Nat),u.nodes.drop i=t→i≤u.nodes.length→Ends PP 0 (xR u (aR u) ((u.nodes.length:Nat) :Int) (vD (rW u.funs.length u.needs.length) u.nodes i) l3 (i:Int)).as (.ret (.bool (bP (aDu u)))) (aG [] 0)
 | [],i,h,hi=>by
  have hd:=aZ h;rw [aM3 (by omega),h3];have h1:=aQM u (aR u) ((u.nodes.length:Nat) :Int) (aDu u).nodes (aDu u).funs i _ sd (aMS (aIQ hu));rw [aIW]at h1;exact h1
 | x :: t,i,h,hi2=>by
  obtain⟨q1,q2,q3⟩ :=aY h;have hi3:= (List.getElem?_eq_some_iff.1 q1).1;have hn:u.nodes.length≤320:=by have:=hu.p;simp only [aW,and_eq_true,decide_eq_true_eq]at this;exact this.1.1.1.1
  have hf:=hu.f;have hd:=hu.n;have hl: (vD (rW u.funs.length u.needs.length) u.nodes i).length=u.nodes.length:=aG1;have ho: (aR u).length=u.funs.length:=by simp [aR]
  have hg:=aM4 (f:=rW u.funs.length u.needs.length) q1;have w1:=aRZ (hi x (List.mem_of_getElem? q1));have w2:IntKind.i64.wrap (((length (aR u) :Nat) :Int) + ((length u.needs:Nat) :Int)) = ((length (aR u) :Nat) :Int) + ((length u.needs:Nat) :Int) :=by apply wrap64<;>omega
  have ih:=aY5 l3 h3 t (i+1) q2 (by omega);by_cases h4:x.op=4
  · by_cases ha: ((length (aR u) :Nat) :Int) ≤ -1-x.n
    · by_cases hb: -1-x.n< ((length (aR u) :Nat) :Int) + ((length u.needs:Nat) :Int)
      · have ef:rW u.funs.length u.needs.length x= ⟨x.op,-1,x.kids,x.pats⟩ :=by unfold rW;rw [if_pos ⟨h4,by omega⟩]
        have h1:=aHg u (aR u) ((u.nodes.length:Nat) :Int) _ l3 i|>.t sd sd (by rw [hl];omega) x (by rw [toNat_natCast];exact hg) w1|>.t (by simp [h4])|>.t (decide_eq_true ha) w2|>.t (decide_eq_true hb) sd (by rw [hl];omega) (by rw [toNat_natCast];exact hg) sd ⟨kk,⟨kk,trivial⟩⟩;rw [toNat_natCast,←ef,aM5 q1]at h1;exact h1.ends ih
      · have ef:rW u.funs.length u.needs.length x=x:=by unfold rW;rw [if_neg (fun g=>by have:=g.2;omega)]
        have h1:=aHg u (aR u) ((u.nodes.length:Nat) :Int) _ l3 i|>.t sd sd (by rw [hl];omega) x (by rw [toNat_natCast];exact hg) w1|>.t (by simp [h4])|>.t (decide_eq_true ha) w2|>.f (decide_eq_false hb) sd ⟨kk,⟨kk,trivial⟩⟩;rw [vE q1 ef]at h1 hl ⊢;exact h1.ends ih
    · have ef:rW u.funs.length u.needs.length x=x:=by unfold rW;rw [if_neg (fun g=>by have:=g.2;omega)]
      have h1:=aHg u (aR u) ((u.nodes.length:Nat) :Int) _ l3 i|>.t sd sd (by rw [hl];omega) x (by rw [toNat_natCast];exact hg) w1|>.t (by simp [h4])|>.f (decide_eq_false ha) sd ⟨kk,⟨kk,trivial⟩⟩;rw [vE q1 ef]at h1 hl ⊢;exact h1.ends ih
  · have ef:rW u.funs.length u.needs.length x=x:=by unfold rW;rw [if_neg (fun g=>h4 g.1)]
    have h1:=aQL u (aR u) ((u.nodes.length:Nat) :Int) _ l3 i x sd sd (by rw [hl];omega) (by rw [toNat_natCast];exact hg) w1 (by simp [h4]) sd;rw [vE q1 ef]at h1 hl ⊢;exact h1.ends ih
theorem aVd :Ends PP 0 (xR u (aR u) (((length [Node.mk 3 0 [] []]) :Nat) :Int) [Node.mk 3 0 [] []] [0] 0).as (.ret (.bool (bP (aBP u)))) (aG [] 0) :=by
 have h0:=aQL u (aR u) 1 [Node.mk 3 0 [] []] [0] 0 ⟨3,0,[],[]⟩ (by decide) (by decide) (by decide) rfl (by decide) (by decide) (by decide);have h1:=aQM u (aR u) 1 (aBP u).nodes (aBP u).funs 1 _ (by decide) (aMS (aG2 hu));rw [aIW]at h1;exact h0.ends h1
theorem aY6 (b:Bool)(hb:b=if u.funs.length=0 then decide (u.nodes.length=0) &&bP (aBP u)else bP (aDu u)) :∀ (t:List LFun) (i:Nat) (acc:List Int),u.funs.drop i=t→acc.length=i→acc++t.map LFun.body=lH u→Ends PP 0 (aK7 u (aR u) (i:Int) acc).as (.ret (.bool b)) (aG [] 0)
 | [], i,acc,h,ha,e=>by
  have:=aZ h;have ho: (aR u).length=u.funs.length:=by simp [aR]
  rw [map_nil,append_nil]at e;by_cases h0:u.funs.length=0
  · rw [if_pos h0]at hb;by_cases h1:u.nodes.length=0
    · rw [decide_eq_true h1,Bool.true_and]at hb;rw [hb];exact(aK8 u (aR u) i acc|>.f sd|>.t (by rw [ho,h0];rfl)|>.f (by rw [h1];rfl) ⟨kk,⟨kk,trivial⟩⟩).ends (aVd u hu hi)
    · rw [decide_eq_false h1,Bool.false_and]at hb;rw [hb];exact aK8 u (aR u) i acc|>.f sd|>.t (by rw [ho,h0];rfl)|>.t (decide_eq_true (by omega)) tv
  · rw [if_neg h0]at hb;rw [hb];have h2:=aY5 u hu hi acc e u.nodes 0 rfl (Nat.zero_le _);rw [aIO]at h2;exact(aK8 u (aR u) i acc|>.f sd|>.f (beq_eq_false_iff_ne.2 (by rw [ho];omega)) ⟨kk,⟨kk,trivial⟩⟩).ends h2
 | f::t,i,acc,h,ha,e=>by
  obtain⟨q1,q2,q3⟩ :=aY h;have hf:=hu.f;exact(aK8 u (aR u) i acc|>.t sd f sd sd (by simp;omega) sd ⟨kk,⟨kk,trivial⟩⟩).ends (aY6 b hb t (i+1) (acc++ [f.body]) q2 (by simp [ha]) (by simpa using e))
theorem aVe :Pure PP 77 [LUnit.av u] (.bool (xP u)) :=by
 have hf:=hu.f;have hd:=hu.n;refine bU (s:=aY2 u) (by kernel_rfl) (by kernel_rfl) (by simp [keylessL,lB]) (by simp [keyless]) ?_;have hnl: (aR u).length=u.funs.length:=by simp [aR]
 have a0:=aU9 u (by omega);have a1:=kC u.name;have a2:=aHj (aR u) (by omega);have a3:=aHj u.needs (by omega);have a4:=aHj (aR u++u.needs) (by simp;omega);have hn:u.nodes.length≤320:=by have:=hu.p;simp only [aW,and_eq_true,decide_eq_true_eq]at this;exact this.1.1.1.1
 have hc:=aVb (aR u) u.needs (by omega) (by omega)
 have hc':=iY (m:=1) (ks:=[1]) (n2:=2) (n3:=2) (v':=.ilst 1 (map aD (aR u++u.needs)) false) (args':=[.slice 1 0 2 2 1 true])
  (lc:=[(0,aQI u,false),(1,aO0 (aR u) u.needs,false)]) (lc':=[(0,aQI u,false),(1,aO0 (aR u) u.needs,false)])
  hc (by rfl) (by kernel_rfl) (by kernel_rfl) (by rfl) (by rfl) (by kernel_rfl) (by kernel_rfl) trivial (by kernel_rfl) trivial
 have hk:=aLX (ks:=[]) (n2:=3) (args':=[.ilst 4 (map Node.av u.nodes) false])
  (lc:=[(0,aQI u,false),(1,aO0 (aR u) u.needs,false)]) (x:=[(0,aQI u,false),(1,aO0 (aR u) u.needs,false)])
  (aVc u.nodes (by omega)) (by kernel_rfl) (by kernel_rfl) (by kernel_rfl) trivial (by kernel_rfl) (by kernel_rfl) (by kernel_rfl) (by kernel_rfl) ⟨aI _ (fun _=>rfl) _,trivial⟩ (by kernel_rfl)
 unfold xP;cases e1:eH u.name
 case false=>rw [e1]at a1;simp only [Bool.false_and];exact aEw u (aR u) a0 false a1|>.t rfl tv
 rw [e1]at a1;by_cases e2:u.needs.length≤20
 · rw [decide_eq_true e2];cases e3:kL (aR u)
   case false=>rw [e3]at a2;simp only [Bool.true_and,Bool.false_and,Bool.and_false];exact aEw u (aR u) a0 true a1|>.f rfl|>.f (by simp;omega) false a2|>.t rfl tv
   rw [e3]at a2;cases e4:kL u.needs
   case false=>rw [e4]at a3;simp only [Bool.true_and,Bool.false_and,Bool.and_false];exact aEw u (aR u) a0 true a1|>.f rfl|>.f (by simp;omega) true a2|>.f rfl false a3|>.t rfl tv
   rw [e4]at a3;rw [aO1 _ _ e3 e4]at a4;simp only [Bool.true_and];cases e5:u.needs.all (fun s=> !cA (aR u) s)
   case false=>
    rw [e5]at a4;rw [Bool.false_and];exact aEw u (aR u) a0 true a1|>.f rfl|>.f (by simp;omega) true a2|>.f rfl true a3|>.f rfl (mp (by kernel_rfl) hc') false a4|>.t rfl tv
   rw [e5]at a4;rw [Bool.true_and];exact(aEw u (aR u) a0 true a1|>.f rfl|>.f (by simp;omega) true a2|>.f rfl true a3|>.f rfl (mp (by kernel_rfl) hc') true a4|>.f rfl (mp (by kernel_rfl) hk) ⟨kk,⟨kk,trivial⟩⟩).ends (aY6 u hu hi _ rfl u.funs 0 [] rfl rfl rfl)
 · rw [decide_eq_false e2];simp only [Bool.and_false,Bool.false_and];exact aEw u (aR u) a0 true a1|>.f rfl|>.t (by simp;omega) tv
end
abbrev pO (m:List (aA×Int)) :AObj:=.map (aK aD bM 0 m) (length m)
abbrev gV (l:List aA) :AObj:=.lst 1 (map aD l)
theorem kU (m:List (aA×Int)) : (pO m).kl:=aH (fun _=>rfl) (fun _=>rfl) _ _ _
theorem fV (l:List aA) : (gV l).kl:=aI _ (fun _=>rfl) _
theorem rX (a b:List aA)(s:aA) :cA (a++b) s= (cA a s||cA b s) :=by simp [cA]
theorem vH (s:aA) :∀ (a b:List aA) (i:Nat),dB s (a++b) i=if cA a s=true then dB s a i else dB s b (i+a.length)
 | [],b,i=>by simp [cA]
 | x ::a,b,i=>by
  rw [List.cons_append,dB,dB,aEp];by_cases e:x=s
  ·rw [if_pos e,if_pos e,decide_eq_true e,Bool.true_or,if_pos rfl]
  · rw [if_neg e,if_neg e,decide_eq_false e,Bool.false_or,vH s a b (i+1)];rw [length_cons,show i+1+a.length=i+ (a.length+1)by omega]
theorem aA3 (s:aA) :∀ (a:List aA) (i:Nat),dB s a i<0↔cA a s=false
 | [],i=>by simp [dB,cA]
 | x ::a,i=>by
  rw [dB,aEp];by_cases e:x=s
  · rw [if_pos e,decide_eq_true e,Bool.true_or];constructor
    ·intro h;omega
    ·intro h;cases h
  ·rw [if_neg e,decide_eq_false e,Bool.false_or,aA3 s a (i+1)]
theorem nA (a:List aA)(s:aA) :cU (a++ [s]) = (cU a&& !cA a s) :=by
 rw [Bool.eq_iff_iff,xT,and_eq_true,xT,not_eq_true',eq_false_iff,Ne,hasS_mem,List.nodup_append];constructor
 · intro h;exact⟨h.1,fun hm=>h.2.2 s hm s (by simp) rfl⟩
 · intro h;refine⟨h.1,by simp,fun x hx y hy e=>?_⟩;rw [List.mem_singleton.1 hy]at e;exact h.2 (e ▸ hx)
structure TabI (od:List aA) (tw:Bool) (mf mh:List (aA×Int)) :Prop where
 tw:tw= !cU od
 f:∀s,cI s mf=if cA od s=true then some (dB s od 0)else none
 h:∀s,cA od s=false→cI s mh=none
theorem TabI.nil :TabI [] false [] [] := ⟨rfl,fun s=>by simp [cI,cA],fun s _=>rfl⟩
theorem TabI.old {od:List aA}{tw:Bool}{mf mh:List (aA×Int)}(t:TabI od tw mf mh){s:aA}(h:cA od s=true) :TabI (od++ [s]) true mf mh:=by
 refine⟨by rw [nA,h];simp,fun k=>?_,fun k hk=>?_⟩
 · rw [t.f k,rX,vH];by_cases e:cA od k=true
   ·rw [if_pos e,if_pos e,e,Bool.true_or,if_pos rfl]
   · rw [if_neg e,if_neg];rw [Bool.not_eq_true]at e;rw [e,Bool.false_or,aEp];intro hh;have:s=k:=by simpa [cA]using hh
     rw [this,e]at h;cases h
 · rw [rX,Bool.or_eq_false_iff]at hk;exact t.h k hk.1
theorem TabI.new {od:List aA}{tw:Bool}{mf mh:List (aA×Int)}(t:TabI od tw mf mh){s:aA}(h:cA od s=false)(i:Int) :TabI (od++ [s]) tw (bS s ((od.length:Nat) :Int) mf) (bS s i mh) :=by
 refine⟨by rw [nA,h,t.tw];simp,fun k=>?_,fun k hk=>?_⟩
 · rw [jS,rX,vH,t.f k];by_cases e:k=s
   · subst e;rw [if_pos rfl,h];simp [cA,dB]
   · rw [if_neg e];have:cA [s] k=false:=by simp [cA,Ne.symm e]
     rw [this,Bool.or_false];by_cases e2:cA od k=true
     ·rw [if_pos e2,if_pos e2,if_pos e2]
     ·rw [if_neg e2,if_neg e2]
 · rw [rX,Bool.or_eq_false_iff]at hk;have:k≠s:=fun e=>by rw [e]at hk;simp [cA]at hk
   rw [jS,if_neg this];exact t.h k hk.1
section
variable (l :List LUnit)
end
abbrev NLs (l:List Node) :AObj:=.lst 4 (map Node.av l)
theorem aVf (l:List Node) : (NLs l).kl:=aI _ (fun x=>by simp [Node.av,keyless,keylessL]) _
abbrev UAg (nm:aA)(cs:List Con)(fns:List LFun)(nd:List aA)(us:List Node) :AV:=.agg [aD nm,.ilst 2 (map Con.av cs) false,.gl 0 2 0 (length fns) false,.ilst 1 (map aD nd) false,.ilst 4 (map Node.av us) false]
abbrev UAr (nm:aA)(cs:List Con)(fns:List LFun)(nd:List aA)(us:List Node)(b:Nat) :AV:=.agg [aD nm,.ilst 2 (map Con.av cs) false,.gl 0 2 0 (length fns) false,.ilst 1 (map aD nd) false,.gl b 4 0 (length us) false]
abbrev UAc (nm:aA)(cs:List Con)(fns:List LFun)(nd:List aA)(us:List Node) :AObj:=.cells (putCells .leaf 0 [aD nm,.ilst 2 (map Con.av cs) false,.gl 0 2 0 (length fns) false,.ilst 1 (map aD nd) false,.ilst 4 (map Node.av us) false]) 5 [] false
abbrev ZU5 :AObj:=.cells (putCells .leaf 0 [.str 0 0,.nils,.nils,.nils,.nils]) 5 [] false
def WHS (nm:aA)(cs:List Con)(fns:List LFun)(nd:List aA)(us:List Node)(t:Term)(env:List aA)(r:List aA×List Node) :Prop:=
 nE PP 1 (.enter 88 [UAg nm cs fns nd us,Term.av t,.ilst 1 (map aD env) false]) (aG [(0,fO fns,true)] 1) (.ret (UAr nm cs fns (nd++r.1) (us++r.2) 1)) (aG [(0,fO fns,true),(1,NLs (us++r.2),true)] 2)
theorem aZ2 {nm:aA}{cs:List Con}{fns:List LFun}{nd:List aA}{us:List Node}{t:Term}{env:List aA}{r:List aA×List Node}(h:WHS nm cs fns nd us t env r) :
  nE PP 1 (.enter 88 [UAg nm cs fns nd us,Term.av t,.gl 1 1 0 (length env) false]) (aG [(0,fO fns,true),(1,gV env,true)] 2) (.ret (UAr nm cs fns (nd++r.1) (us++r.2) 1)) (aG [(0,fO fns,true),(1,NLs (us++r.2),true)] 2) :=by
 obtain⟨o,n,s,ks,ps⟩ :=t;obtain⟨g,hg,he⟩ :=h;have e:some g=some (oR nm cs fns nd us o n s ks ps env).as.fr:=hg.symm.trans (by kernel_rfl);cases e;have lead:LeadsM PP 1 (bH PP 88 [UAg nm cs fns nd us,Term.av (.mk o n s ks ps),.gl 1 1 0 (length env) false] [(0,fO fns,true),(1,gV env,true)] 2).as (oR nm cs fns nd us o n s ks ps env).as:=
  aAS (n1:=2) (ks:=[]) (ps:=[keylessL (map aD env) =true,frzOk 1 1 (map aD env) (map aD env) (.gl 1 1 0 (length env) false)])
   (is:=[.frz 2 1 (map aD env)]) (by kernel_rfl) (by kernel_rfl) ⟨jV fns,trivial⟩ ⟨aI _ (fun _=>rfl) _,nP _ _⟩
 refine⟨(bH PP 88 [UAg nm cs fns nd us,Term.av (.mk o n s ks ps),.gl 1 1 0 (length env) false] [(0,fO fns,true),(1,gV env,true)] 2).as.fr,by kernel_rfl,?_⟩;have he2:Ends PP 1 (oR nm cs fns nd us o n s ks ps env).as (.ret (UAr nm cs fns (nd++r.1) (us++r.2) 1)) (aG [(0,fO fns,true),(1,NLs (us++r.2),true)] 2) :=mp (by kernel_rfl) he;exact mp (by kernel_rfl) (lead.ends he2)
theorem aXe {nm:aA}{cs:List Con}{fns:List LFun}{nd:List aA}{us:List Node}{t:Term}{q:aA}{r:List aA×List Node}(h:WHS nm cs fns nd us t [q] r) :
  nE PP 1 (.enter 88 [UAg nm cs fns nd us,Term.av t,.slice 1 0 1 1 1 true]) (aG [(0,fO fns,true),(1,yS q,false)] 2) (.ret (UAr nm cs fns (nd++r.1) (us++r.2) 1)) (aG [(0,fO fns,true),(1,NLs (us++r.2),true)] 2) :=by
 obtain⟨o,n,s,ks,ps⟩ :=t;obtain⟨g,hg,he⟩ :=h;have e:some g=some (oR nm cs fns nd us o n s ks ps [q]).as.fr:=hg.symm.trans (by kernel_rfl);cases e;have lead:LeadsM PP 1 (bH PP 88 [UAg nm cs fns nd us,Term.av (.mk o n s ks ps),.slice 1 0 1 1 1 true] [(0,fO fns,true),(1,yS q,false)] 2).as (oR nm cs fns nd us o n s ks ps [q]).as:=
  aAS (n1:=2) (ks:=[]) (ps:=[getCells (putCells .leaf 0 [aD q]) 0 (1*1) =some [aD q],cQ [aD q] =true,[aD q] =map aD [q],keylessL (map aD [q]) =true,frzOk 1 1 (map aD [q]) (map aD [q]) (.gl 1 1 0 (length [q]) false)])
   (is:=[.toL 2 false [aD q],.lset 1 (map aD [q]),.weak 2,.frz 2 1 (map aD [q])]) (by kernel_rfl) (by kernel_rfl) ⟨jV fns,trivial⟩ ⟨rfl,rfl,rfl,rfl,nP _ _⟩
 refine⟨(bH PP 88 [UAg nm cs fns nd us,Term.av (.mk o n s ks ps),.slice 1 0 1 1 1 true] [(0,fO fns,true),(1,yS q,false)] 2).as.fr,by kernel_rfl,?_⟩;have he2:Ends PP 1 (oR nm cs fns nd us o n s ks ps [q]).as (.ret (UAr nm cs fns (nd++r.1) (us++r.2) 1)) (aG [(0,fO fns,true),(1,NLs (us++r.2),true)] 2) :=mp (by kernel_rfl) he;exact mp (by kernel_rfl) (lead.ends he2)
theorem aVg (us r:List Node)(x:Node) : (us++x::r)[us.length]?=some x:=by rw [List.getElem?_append_right (Nat.le_refl _)];simp
theorem aVh (us r:List Node)(x y:Node) : (us++x::r).set us.length y=us++y::r:=by rw [List.set_append_right _ _ (Nat.le_refl _)];simp
section
variable (nm :aA) (cs:List Con) (fns:List LFun) (nd:List aA) (us:List Node) (o n:Int) (s:aA) (ks:List Term) (ps:List Pat) (env:List aA)
theorem aNm (hc:cs.length<1000000)(v:Int)(nd':List aA)(hpl:ps.length<1000000)(hps:∀p∈ps,bA p<1000000)(hus:us.length<1000000) :∀ (t:List Pat) (i:Nat) (acc:List Pat),ps.drop i=t→acc.length=i →
  LeadsM PP 1 (iH nm cs fns nd us o n s ks ps env v nd' (i:Int) acc).as (aAC nm cs fns nd us o n s ks ps env nd' (us++ [⟨o,v,[],acc++iJ cs t⟩]) 0).as
 | [],i,acc,h,ha=>by
  have:=aZ h;rw [iJ,append_nil];exact aUW nm cs fns nd us o n s ks ps env v nd' i acc|>.f sd (by omega) hus ⟨kk,⟨kk,trivial⟩⟩
 | .mk f' n' s' ps'::t,i,acc,h,ha=>by
  obtain⟨g1,g2,g3⟩ :=aY h;have hi:= (List.getElem?_eq_some_iff.1 g1).1;have hp:=aIT cs hc _ (hps _ (List.mem_of_getElem? g1));rw [pnP]at hp;have h0:=aUW nm cs fns nd us o n s ks ps env v nd' i acc|>.t sd f' n' s' ps' f' (if f'=6 then dX s' cs 0 else n') [] (iJ cs ps') sd sd hp (by simp;omega) sd ⟨kk,⟨dV,trivial⟩⟩;have h1:=aNm hc v nd' hpl hps hus t (i+1) (acc++ [.mk f' (if f'=6 then dX s' cs 0 else n') [] (iJ cs ps')]) g2 (by simp [ha]);rw [append_assoc]at h1;rw [iJ,pnP];exact h0.trans h1
variable (hkl :ks.length≤900) (h15:o=15→ks.length≤ps.length+1) (hps:∀p∈ps,bA p≤1000) (he:env.length≤900000)
 (ih:∀t∈ks,∀ (e nd1:List aA) (us1:List Node),e.length≤env.length+1000→us1.length+cJ t≤1000000→nd1.length+cJ t≤900000→WHS nm cs fns nd1 us1 t e (uT (fns.map LFun.name) cs t e nd1 us1.length))
include hkl h15 hps he ih
theorem aNn (v:Int)(P:List Pat) :∀ (ts:List Term) (i:Nat) (nd':List aA) (kacc:List Int) (r0:List Node),ks.drop i=ts→kacc.length=i→us.length+1+r0.length+cC ts≤1000000→nd'.length+cC ts≤900000 →
  Ends PP 1 (aAC nm cs fns nd us o n s ks ps env nd' (us++ ⟨o,v,kacc,P⟩ ::r0) (i:Int)).as
   (.ret (UAr nm cs fns (nd'++ (vX (fns.map LFun.name) cs o s ps ts i env nd' (us.length+1+r0.length)).1) (us++ ⟨o,v,kacc++ (vX (fns.map LFun.name) cs o s ps ts i env nd' (us.length+1+r0.length)).2.1,P⟩ :: (r0++ (vX (fns.map LFun.name) cs o s ps ts i env nd' (us.length+1+r0.length)).2.2)) 1))
   (aG [(0,fO fns,true),(1,NLs (us++ ⟨o,v,kacc++ (vX (fns.map LFun.name) cs o s ps ts i env nd' (us.length+1+r0.length)).2.1,P⟩ :: (r0++ (vX (fns.map LFun.name) cs o s ps ts i env nd' (us.length+1+r0.length)).2.2)),true)] 2)
 | [],i,nd',kacc,r0,h,hk,_,_=>by
  have:=aZ h;rw [vX];simp only [append_nil];exact aUX nm cs fns nd us o n s ks ps env nd' _ i|>.f sd ⟨kk,⟨kk,trivial⟩⟩
 | .mk o' n' s' ks' ps'::ts,i,nd',kacc,r0,h,hk,hb,hn=>by
  obtain⟨g1,g2,g3⟩ :=aY h;have hi:= (List.getElem?_eq_some_iff.1 g1).1;simp only [cC]at hb hn;have hbl:=aEn hps o s i;have hb1:=aUs o n s ks ps i (by omega) (fun h=>by have:=h15 h;omega) hps;have hlen: (us++ (⟨o,v,kacc,P⟩ :Node) ::r0).length=us.length+1+r0.length:=by simp;omega
  have hlen2:∀kk,(us++ (⟨o,v,kk,P⟩ :Node) ::r0).length=us.length+1+r0.length:=fun kk=>by simp;omega
  have h0:=aRV nm cs fns nd us o n s ks ps env nd' (us++ ⟨o,v,kacc,P⟩ ::r0) i ⟨o,v,kacc,P⟩ sd (by omega) (by rw [hlen];omega) (by rw [toNat_natCast];exact aVg ..) (by simp only;omega) (by simp;omega);rw [toNat_natCast,aVh,hlen]at h0;refine h0.ends ?_;have hs:=aZ2 (ih _ (List.mem_of_getElem? g1) (env++cX o s ps i) nd' (us++ ⟨o,v,kacc++ [((us.length+1+r0.length:Nat) :Int)],P⟩ ::r0) (by simp;omega) (by rw [hlen2];omega) (by omega));rw [hlen2]at hs;have hns:=aCt (fns.map LFun.name) cs (.mk o' n' s' ks' ps') (env++cX o s ps i) nd' (us.length+1+r0.length);have hnd:=aG9 (fns.map LFun.name) cs (.mk o' n' s' ks' ps') (env++cX o s ps i) nd' (us.length+1+r0.length);rw [vX];generalize uT (fns.map LFun.name) cs (.mk o' n' s' ks' ps') (env++cX o s ps i) nd' (us.length+1+r0.length) =q at hs hns hnd ⊢;obtain⟨w,ns⟩ :=q;simp only at hs hns hnd ⊢
  have hs':=iY (m:=1) (ks:=[0,5]) (n2:=6) (n3:=7) (v':=UAr nm cs fns (nd'++w) ((us++ ⟨o,v,kacc++ [((us.length+1+r0.length:Nat) :Int)],P⟩ ::r0) ++ns) 6)
   (args':=[UAg nm cs fns nd' (us++ ⟨o,v,kacc++ [((us.length+1+r0.length:Nat) :Int)],P⟩ ::r0),Term.av (.mk o' n' s' ks' ps'),.gl 5 1 0 (length (env++cX o s ps i)) false])
   (lc:=[(0,fO fns,true),(1,UAc nm cs fns nd' (us++ ⟨o,v,kacc++ [((us.length+1+r0.length:Nat) :Int)],P⟩ ::r0),false),(2,kD o n s ks ps,false),(3,ZU5,false),(5,gV (env++cX o s ps i),true)])
   (lc':=[(0,fO fns,true),(1,UAc nm cs fns nd' (us++ ⟨o,v,kacc++ [((us.length+1+r0.length:Nat) :Int)],P⟩ ::r0),false),(2,kD o n s ks ps,false),(3,ZU5,false),(6,NLs ((us++ ⟨o,v,kacc++ [((us.length+1+r0.length:Nat) :Int)],P⟩ ::r0) ++ns),true)])
   hs (by rfl) (by kernel_rfl) (by kernel_rfl) (by rfl) (by rfl) (by kernel_rfl) (by kernel_rfl) ⟨jV _,fV _,trivial⟩ (by kernel_rfl) ⟨jV _,aVf _,trivial⟩
  have h2:=aRW nm cs fns nd us o n s ks ps env nd' (us++ ⟨o,v,kacc++ [((us.length+1+r0.length:Nat) :Int)],P⟩ ::r0) i o' n' s' ks' ps' (cX o s ps i) w ns (by omega) (by rw [toNat_natCast];exact g1) (by omega) hb1 (by simp;omega) hs' sd;refine h2.ends ?_;have e2: (us++ (⟨o,v,kacc++ [((us.length+1+r0.length:Nat) :Int)],P⟩ :Node) ::r0) ++ns=us++ ⟨o,v,kacc++ [((us.length+1+r0.length:Nat) :Int)],P⟩ :: (r0++ns) :=by simp
  rw [e2];have:=aNn v P ts (i+1) (nd'++w) (kacc++ [((us.length+1+r0.length:Nat) :Int)]) (r0++ns) g2 (by simp [hk]) (by simp;omega) (by simp;omega);rw [show us.length+1+ (r0++ns).length=us.length+1+r0.length+ns.length by simp;omega]at this;simp only [append_assoc,List.singleton_append]at this ⊢;exact this
end
mutual
theorem aNo (nm:aA)(cs:List Con)(fns:List LFun)(hc:cs.length<1000000)(hf:fns.length≤1000) :∀ (t:Term) (env nd:List aA) (us:List Node),cJ t≤900→tsm t=true→kQ t=true→env.length+1000*fD t≤900000→us.length+cJ t≤1000000→nd.length+cJ t≤900000 →
  WHS nm cs fns nd us t env (uT (fns.map LFun.name) cs t env nd us.length)
 | .mk o n s ks ps,env,nd,us,hz,hs,hF,he,hU,hN=>by
  simp only [cJ]at hz hU hN;simp only [fD]at he;have hkl:=rP ks;rw [tsm]at hs;simp only [and_eq_true,decide_eq_true_eq]at hs;obtain⟨⟨⟨_,hpl⟩,hsp⟩,hsk⟩ :=hs;rw [kQ]at hF;simp only [and_eq_true]at hF;obtain⟨⟨hH,_⟩,hFk⟩ :=hF
  have hps:∀p∈ps,bA p≤1000:=fun p hp=>by
   have:=List.all_eq_true.1 hsp p hp;simp only [mS,and_eq_true,decide_eq_true_eq]at this;omega
  have hhl:=aEr (fns.map LFun.name) cs nd env o n s;have K:=fun v nd' hb1 hb2=>aNn nm cs fns nd us o n s ks ps env (by omega) (fun h=>by have:=aQz hH h;omega) hps (by omega) (fun t ht e nd1 us1 h1 h2 h3=>aQN nm cs fns hc hf ks (by omega) hsk hFk t ht e nd1 us1 (by omega) h2 h3) v (iJ cs ps) ks 0 nd' [] [] rfl rfl hb1 hb2;have A:=fun v nd'=>aNm nm cs fns nd us o n s ks ps env hc v nd' (by omega) (fun p hp=>by have:=hps p hp;omega) (by omega) ps 0 [] rfl rfl;have F:Spec PP (.enter 78 [UAg nm cs fns nd us]) (aG [(0,fO fns,true),(1,UAc nm cs fns nd us,false),(2,kD o n s ks ps,false),(3,ZU5,false),(4,.cells (putCells .leaf 0 [.int .i64 o,.int .i64 n,.nils,.nils]) 4 [] false,false)] 5) (.ret (.gl 5 1 0 (length (fns.map LFun.name)) false)) (aG [(0,fO fns,true),(1,UAc nm cs fns nd us,false),(2,kD o n s ks ps,false),(3,ZU5,false),(4,.cells (putCells .leaf 0 [.int .i64 o,.int .i64 n,.nils,.nils]) 4 [] false,false),(5,.lst 1 (map aD (fns.map LFun.name)),true)] 6) :=
   iY (m:=1) (ks:=[0]) (n2:=5) (n3:=6) (v':=.gl 5 1 0 (length (fns.map LFun.name)) false) (args':=[UAg nm cs fns nd us]) (aNh nm cs fns nd us hf) (by rfl) (by kernel_rfl) (by kernel_rfl) (by rfl) (by rfl) (by kernel_rfl) (by kernel_rfl) ⟨jV _,trivial⟩ (by kernel_rfl) ⟨jV _,fV _,trivial⟩
  have E :Ends PP 1 (oR nm cs fns nd us o n s ks ps env).as (.ret (UAr nm cs fns (nd++ (uT (fns.map LFun.name) cs (.mk o n s ks ps) env nd us.length).1) (us++ (uT (fns.map LFun.name) cs (.mk o n s ks ps) env nd us.length).2) 1)) (aG [(0,fO fns,true),(1,NLs (us++ (uT (fns.map LFun.name) cs (.mk o n s ks ps) env nd us.length).2),true)] 2) :=by
   rw [uT];have R :LeadsM PP 1 (oR nm cs fns nd us o n s ks ps env).as (iH nm cs fns nd us o n s ks ps env (mC (fns.map LFun.name) cs nd env o n s).1 (nd++ (mC (fns.map LFun.name) cs nd env o n s).2) 0 []).as:=by
    have hol: (fns.map LFun.name).length≤1000:=by simpa using hf
    unfold mC;by_cases h4:o=4
    · have h14: (o==14) =false:=by simp [h4]
      rw [if_pos h4];unfold aBR;have hp1:=aUQ env s (by omega);by_cases hn:0≤rU env s
      · rw [if_pos hn];simp only [append_nil];exact aEt nm cs fns nd us o n s ks ps env _ F|>.t (by simp [h4]) _ hp1|>.f (by simp;omega)|>.f (by simp;omega)|>.f h14 ⟨kk,⟨dV,trivial⟩⟩
      · rw [if_neg hn];have hlt: (decide (rU env s< (0:Int))) =true:=by simp;omega
        have hh:=uN (fns.map LFun.name) s (by omega);cases hb:cA (fns.map LFun.name) s
        case true=>
         rw [hb]at hh;simp only [if_true,append_nil];have hi:=aA1 s (fns.map LFun.name) 0;exact aEt nm cs fns nd us o n s ks ps env _ F|>.t (by simp [h4]) _ hp1|>.t hlt _ hh|>.t rfl _ (aGX _ s (by omega)) (by apply wrap64<;>omega)|>.f h14 ⟨kk,⟨dV,trivial⟩⟩
        rw [hb]at hh;simp only [Bool.false_eq_true,if_false];have hh2:=uN nd s (by omega);cases hb2:cA nd s
        case true=>
         rw [hb2]at hh2;simp only [if_true,append_nil];have hi:=aA1 s nd 0;exact aEt nm cs fns nd us o n s ks ps env _ F|>.t (by simp [h4]) _ hp1|>.t hlt _ hh|>.f rfl|>.t hlt _ hh2|>.f rfl (by apply wrap64<;>omega) _ (aGX nd s (by omega)) (by apply wrap64<;>omega)|>.f h14 ⟨kk,⟨dV,trivial⟩⟩
        rw [hb2]at hh2;simp only [Bool.false_eq_true,if_false];have e4:dB s (nd++ [s]) 0= (nd.length:Int) :=by
         rw [vH,hb2];simp [dB]
        have hix:=aGX (nd++ [s]) s (by simp;omega);rw [e4]at hix;exact aEt nm cs fns nd us o n s ks ps env _ F|>.t (by simp [h4]) _ hp1|>.t hlt _ hh|>.f rfl|>.t hlt _ hh2|>.t rfl (by omega) (by simp;omega) (by apply wrap64<;>omega) _ hix (by apply wrap64<;>omega)|>.f h14 ⟨kk,⟨dV,trivial⟩⟩
    · rw [if_neg h4];by_cases h14:o=14
      · rw [if_pos h14];simp only [append_nil];exact aEt nm cs fns nd us o n s ks ps env _ F|>.f (by simp [h4])|>.t (by simp [h14]) _ (pD cs s hc) ⟨kk,⟨dV,trivial⟩⟩
      · rw [if_neg h14];simp only [append_nil];exact aEt nm cs fns nd us o n s ks ps env _ F|>.f (by simp [h4])|>.f (by simp [h14]) ⟨kk,⟨dV,trivial⟩⟩
   refine(R.trans (A _ _)).ends ?_;have K2:=K (mC (fns.map LFun.name) cs nd env o n s).1 (nd++ (mC (fns.map LFun.name) cs nd env o n s).2) (by simp;omega) (by simp;omega);simp only [nil_append,List.length_nil,Nat.add_zero]at K2 ⊢;rw [append_assoc]at K2;exact K2
  exact⟨(oR nm cs fns nd us o n s ks ps env).as.fr,by kernel_rfl,mp (by kernel_rfl) E⟩
theorem aQN (nm:aA)(cs:List Con)(fns:List LFun)(hc:cs.length<1000000)(hf:fns.length≤1000) :∀ (ts:List Term),cC ts≤900→aEj ts=true→rJ ts=true→∀t∈ts,∀ (env nd:List aA) (us:List Node),env.length+1000*fJ ts≤900000→us.length+cJ t≤1000000→nd.length+cJ t≤900000 →
  WHS nm cs fns nd us t env (uT (fns.map LFun.name) cs t env nd us.length)
 | [],_,_,_,t,ht=>by cases ht
 | u::ts,hz,hs,hF,t,ht=>by
  simp only [cC]at hz;rw [aEj,and_eq_true]at hs;rw [rJ,and_eq_true]at hF;rcases List.mem_cons.1 ht with e|ht
  ·rw [e];exact fun env nd us he h1 h2=>aNo nm cs fns hc hf u env nd us (by omega) hs.1 hF.1 (by simp only [fJ]at he;omega) h1 h2
  ·exact fun env nd us he h1 h2=>aQN nm cs fns hc hf ts (by omega) hs.2 hF.2 t ht env nd us (by simp only [fJ]at he;omega) h1 h2
end
abbrev aQO (a:List LFun)(b:List aA)(c:aA)(d:List aA)(e:List ONode):=[oL 3 2 (map LFun.av a),(4,.loop .exhausted none 142 (mkT [kp 4 6,kp 6 7]) 67 [14,15] (kd f142 52) (kd f142 53) 8,false),oC 5 [iS b],oC 6 [aD c],oC 7 [nI 0],(8,.defd false,false),oL 9 1 (map aD d),oL 10 4 (map ONode.av e)]
abbrev aK9 (a:Nat)(b:aA)(c:List Con)(d:List LFun)(e:List aA)(f:List ONode):=oC a [aD b,iC c,.gl 3 2 0 d.length false,.gl 9 1 0 e.length false,.gl 10 4 0 f.length false,.map 1,.map 2]
abbrev aFB (a:Nat)(b:List (aA×Int)):Nat×AObj×Bool:=(a,.map (aK aD bM 0 b) b.length,true)
abbrev aQP (a:aA)(b:List Con)(c:List LFun)(d:List aA)(e:List ONode)(f g:List (aA×Int))(h:List aA)(i:aA):=aG ([aK9 0 a b c d e,aFB 1 f,aFB 2 g]++aQO c h i d e) 11
abbrev aVi (a:List aA)(b c:aA)(d:List Con)(e:List LFun)(f:List ONode)(g h:List (aA×Int))(i:List aA)(j:Int):=Spec PP (.enter 135 [.gl 9 1 0 a.length false,aD b]) (aQP c d e a f g h i b) (.ret (nI j)) (aQP c d e a f g h i b)
abbrev aVj (a:aA)(b:List Con)(c:List LFun)(d:List aA)(e:List ONode)(f g:List (aA×Int))(h:List aA)(i:aA):=aG ([aK9 0 a b c d e,aFB 1 f,aFB 2 g]++aQO c h i d e) 11
abbrev eZ (a:Nat)(b:aA)(c:List Con)(d:List LFun)(e:List aA)(f:List ONode):=oC a [aD b,iC c,.gl 3 2 0 d.length false,.gl 4 1 0 e.length false,.gl 5 4 0 f.length false,.map 1,.map 2]
abbrev aHk (a:Nat)(b c:Int)(d:List Pat):=oC a [nI b,nI c,.str 0 0,.gl 9 4 0 d.length false]
abbrev bD (a:Nat)(b:List (aA×Int)):Nat×AObj×Bool:=(a,.map (aK aD bM 0 b) b.length,true)
abbrev nV (a:Nat):=oC a [nI 0,nI 0,.str 0 0,.nils]
abbrev aLa (a:Nat)(b c:Int):=oC a [nI b,nI c,.str 0 0,.nils]
abbrev aAF (a:Nat)(b c:Int)(d:aA)(e:List Pat):=oC a [nI b,nI c,aD d,iP e]
abbrev eT (a:Nat)(b:List ONode):=oL a 4 (map ONode.av b)
abbrev tI:AV:=.iface 174 (.agg [nI 7])
abbrev cO (a:Nat)(b:List LFun):=oL a 2 (map LFun.av b)
abbrev aDB (a:List aA):AV:=.gl 6 1 0 a.length false
abbrev bR (a:Nat)(b:List aA):=oL a 1 (map aD b)
def aY8(a:List aA)(b:aA):TS:=bH PP 135 [.gl 0 1 0 a.length false,aD b] [bR 0 a] 1
def aLb(a:List aA)(b:aA)(c:Int):TS:=⟨tf 135 19 [(0,.gl 0 1 0 a.length false),(1,aD b),(4,nI 0),(7,nI (a.length:Int)),(8,nI c)] [kc f135 52,kl f135 52,.inBlock 0,kc f135 7],[],[bR 0 a],1⟩
def aY9(f:aA)(g:List Con)(a:List LFun)(b:List aA)(c:List ONode)(d e:List (aA×Int))(i:aA)(j:List aA):TS:=bH PP 142 [.ptr 0 0,aD i,iS j] [eZ 0 f g a b c,bD 1 d,bD 2 e,cO 3 a,bR 4 b,eT 5 c] 6
def aLc(f:aA)(g:List Con)(a:List LFun)(b:List aA)(c:List ONode)(d e:List (aA×Int))(i:aA)(j:List aA)(k:Int):TS:=⟨tf 232 19 [(0,.yield 4),kp 1 5,(3,nI k)] [kc f232 12,kl f232 12,.inBlock 0],[tf 142 67 [kp 0 0,kp 4 6,kp 6 7] [.inRF 4,.inBlock 0,kc f142 7] (defers:=[.col 8])],[aK9 0 f g a b c,bD 1 d,bD 2 e,cO 3 a,(4,.loop .ready none 142 (mkT [kp 4 6,kp 6 7]) 67 [14,15] (kd f142 52) (kd f142 53) 8,false),oC 5 [iS j],oC 6 [aD i],oC 7 [nI 0],(8,.defd false,false),bR 9 b,eT 10 c],11⟩
def aVk(f:aA)(g:List Con)(a:List LFun)(b:List aA)(c:List ONode)(d e:List (aA×Int))(i:aA)(j:Int):TS:=bH PP 143 [.ptr 0 0,aD i,nI j] [eZ 0 f g a b c,bD 1 d,bD 2 e,cO 3 a,bR 4 b,eT 5 c] 6
def aDC(g:aA)(i:List Con)(a:List LFun)(b:List aA)(c:List ONode)(d e:List (aA×Int))(j k:Int)(l:aA)(m:List Pat)(f:List aA):TS:=bH PP 144 [.ptr 0 0,.agg [nI j,nI k,aD l,iP m],aDB f] [eZ 0 g i a b c,bD 1 d,bD 2 e,cO 3 a,bR 4 b,eT 5 c,bR 6 f] 7
def aAG(j:aA)(k:List Con)(a:List LFun)(b:List aA)(c:List ONode)(d e:List (aA×Int))(l o:Int)(p:aA)(f:List Pat)(q g:List aA)(m n:Int)(i:List Pat):TS:=⟨tf 144 59 [kp 0 0,(2,aDB g),kp 6 7,(7,.nils),kp 8 8,(37,iP f),(38,nI (f.length:Int)),(39,nI n)] [kc f144 244,kl f144 244,.inBlock 1,kc f144 31],[],[eZ 0 j k a b c,bD 1 d,bD 2 e,cO 3 a,bR 4 b,eT 5 c,bR 6 g,nV 7,aHk 8 l m i,oL 9 4 (av i)],10⟩
def aXf (a:List aA)(b:aA):=(tT 1 (aY8 a b)<|.W 13 1 [] (aLb a b 0)) ⟨kk,trivial⟩
def aO2(b:List aA)(c:aA)(a:Int):=tT 1 (aLb b c a)<|gd 5 9 (a< (b.length:Int)) (.i [rn 14,.ans (.ix)] [hA (0≤a),hA (a< (b.length:Int))]<|.y fun d:aA=>gj aD 0 b a.toNat d<|.b 2 16 (bB c.length (aC c) d.length (aC d)) (.E 7 1 [] (nI a) [bR 0 b] 1)<|gw 5 18 (a+1)<|.W 3 1 [] (aLb b c (a+1)))<|.E 7 1 [] (nI (-1)) [bR 0 b] 1
def aXg (b:aA)(c:List Con)(d:List LFun)(e:List aA)(f:List ONode)(g i:List (aA×Int))(j:aA)(a:List aA):=fun k=>(tT 4 (aY9 b c d e f g i j a)<|.i [rn 25,.lkeep 10 [4,6]] []<|gl 3 aD a<|gw 1 6 ((a.length:Int) -1)<|.W 4 11 [10,8,6,7,9,4,5] (aLc b c d e f g i j a ((a.length:Int) -1))) k ⟨aH (fun _=>rfl) (fun _=>rfl) _ _ _,⟨aH (fun _=>rfl) (fun _=>rfl) _ _ _,⟨kk,⟨kk,⟨aI _ (fun _=>bE _) _,trivial⟩⟩⟩⟩⟩
def aHl(g:aA)(i:List Con)(d:List LFun)(b:List aA)(e:List ONode)(f a:List (aA×Int))(c:aA)(j:List aA)(m:Int):=tT 4 (aLc g i d b e f a c j m)<|gd 6 8 (m≥0) (gX aD 10 j m<|fun l=>.b 17 18 (bB l.length (aC l) c.length (aC c)) (.E 15 11 [9,10] (nI m) [eZ 0 g i d b e,bD 1 f,bD 2 a,cO 3 d,bR 4 b,eT 5 e] 6)<|gw 12 10 (m-1)<|.W 3 11 [4,5,6,7,8,9,10] (aLc g i d b e f a c j (m-1)))<|.o (.y fun l:Int=>.i [rn 8,.reg (rd 5 (.ans (.look (some (wV c a,bM l)))::rd 5 []))] [.a (cI c a=some l) (p':=fP (aD c) (aK aD bM 0 a) 0=some (some (wV c a,bM l))) (qQ iO)]<|gw 9 31 ((-1:Int) -l)<|.E 4 11 [9,10] (nI ((-1:Int) -l)) [eZ 0 g i d b e,bD 1 f,bD 2 a,cO 3 d,bR 4 b,eT 5 e] 6)<|.o (.y fun k:Int=>.i [rn 8,.reg (rd 5 (.ans (.look none)::rd 5 [])),rn 7,.reg (rd 6 [.call (nI k) (aVj g i d b e f a j c),.d]),rn 6,bt 40,rn 11,.reg (rd 8 (.app (map aD (b++ [c])) (b++ [c]).length::rd 4 []))] [.a (cI c a=none) (p':=fP (aD c) (aK aD bM 0 a) 0=some none) (nR iO),hA (aVi b c g i d e f a j k),hA (decide (k<0) =true),hb aD b,hA (length (b++ [c]) ≤1000000),hc aD b [c],he aD b [c]]<|.i [rn 7,sI 63 (a.length:Int)] [.q (p:=(nI ((aK aD bM 0 a).length:Int)) = (nI (a.length:Int))) (aGs _ _ _)]<|gw 1 64 ((-1:Int) - (a.length:Int))<|gw 2 66 (((-1:Int) - (a.length:Int)) - (b.length:Int))<|.E 4 13 [12,10] (nI (((-1:Int) - (a.length:Int)) - (b.length:Int))) [oC 0 [aD g,iC i,.gl 3 2 0 d.length false,.gl 4 1 0 (b++ [c]).length false,.gl 5 4 0 e.length false,.map 1,.map 2],bD 1 f,bD 2 a,cO 3 d,oL 4 1 (map aD (b++ [c])),eT 5 e] 6)<|.y fun k:Int=>.i [rn 8,.reg (rd 5 (.ans (.look none)::rd 5 [])),rn 7,.reg (rd 6 [.call (nI k) (aVj g i d b e f a j c),.d])] [.a (cI c a=none) (p':=fP (aD c) (aK aD bM 0 a) 0=some none) (nR iO),hA (aVi b c g i d e f a j k)]<|gd 6 40 (k<0) .x<|.i [rn 9,sI 63 (a.length:Int)] [.q (p:=(nI ((aK aD bM 0 a).length:Int)) = (nI (a.length:Int))) (aGs _ _ _)]<|gw 1 64 ((-1:Int) - (a.length:Int))<|gw 2 66 (((-1:Int) - (a.length:Int)) -k)<|.E 4 11 [9,10] (nI (((-1:Int) - (a.length:Int)) -k)) [eZ 0 g i d b e,bD 1 f,bD 2 a,cO 3 d,bR 4 b,eT 5 e] 6
def aO3(g:aA)(f:List Con)(b:List LFun)(c:List aA)(d:List ONode)(a e:List (aA×Int))(i:aA)(k:Int):=tT 6 (aVk g f b c d a e i k)<|.o (.y fun j:Int=>.i [rn 11,.ans (.look (some (wV i a,bM j)))] [.a (cI i a=some j) (p':=fP (aD i) (aK aD bM 0 a) 0=some (some (wV i a,bM j))) (qQ iO)]<|gX Con.av 17 f j<|fun l=>.o (gK 5 (.enter 46 [bV (l.args != k),nI 7]) [eZ 0 g f b c d,bD 1 a,bD 2 e,cO 3 b,bR 4 c,eT 5 d] 6 [(tI,false)] [eZ 0 g f b c d,bD 1 a,bD 2 e,cO 3 b,bR 4 c,eT 5 d] 6<|.P 0 6 [] [(tI,false)] [eZ 0 g f b c d,bD 1 a,bD 2 e,cO 3 b,bR 4 c,eT 5 d] 6)<|gk 5 (.enter 46 [bV (l.args != k),nI 7]) [eZ 0 g f b c d,bD 1 a,bD 2 e,cO 3 b,bR 4 c,eT 5 d] 6 (.tup []) [eZ 0 g f b c d,bD 1 a,bD 2 e,cO 3 b,bR 4 c,eT 5 d] 6<|.E 7 6 [] (nI j) [eZ 0 g f b c d,bD 1 a,bD 2 e,cO 3 b,bR 4 c,eT 5 d] 6)<|.i [rn 11,.ans (.look none)] [.a (cI i a=none) (p':=fP (aD i) (aK aD bM 0 a) 0=some none) (nR iO)]<|.o (gK 23 (.enter 46 [bV true,nI 7]) [eZ 0 g f b c d,bD 1 a,bD 2 e,cO 3 b,bR 4 c,eT 5 d] 6 [(tI,false)] [eZ 0 g f b c d,bD 1 a,bD 2 e,cO 3 b,bR 4 c,eT 5 d] 6<|.P 0 6 [] [(tI,false)] [eZ 0 g f b c d,bD 1 a,bD 2 e,cO 3 b,bR 4 c,eT 5 d] 6)<|gk 23 (.enter 46 [bV true,nI 7]) [eZ 0 g f b c d,bD 1 a,bD 2 e,cO 3 b,bR 4 c,eT 5 d] 6 (.tup []) [eZ 0 g f b c d,bD 1 a,bD 2 e,cO 3 b,bR 4 c,eT 5 d] 6<|.E 7 6 [] (nI 0) [eZ 0 g f b c d,bD 1 a,bD 2 e,cO 3 b,bR 4 c,eT 5 d] 6
def aLd(l:aA)(m:List Con)(f:List LFun)(g:List aA)(i:List ONode)(a b:List (aA×Int))(c d:Int)(j:aA)(e:List Pat)(k:List aA):=tT 6 (aDC l m f g i a b c d j e k)<|.b 28 19 (c==2) (ga 6 aD k [j]<|gm 8 aF e<|.i [rn 4,.cnil 9 3 4] []<|gu 0 12 (av ([] :List Pat))<|gv 0 9 3 (.gl 12 4 0 ([] :List Pat).length false)<|.W 0 13 [11,8,9,12] (aAG l m f g i a b c d j e k (k++ [j]) d 0 ([] :List Pat)))<|.b 6 26 (c==6) (gm 7 aF e<|.o (gK 0 (.enter 143 [.ptr 0 0,aD j,nI (e.length:Int)]) [eZ 0 l m f g i,bD 1 a,bD 2 b,cO 3 f,bR 4 g,eT 5 i,bR 6 k,aAF 7 c d j e,nV 8,aLa 9 c d] 10 [(tI,false)] [eZ 0 l m f g i,bD 1 a,bD 2 b,cO 3 f,bR 4 g,eT 5 i,bR 6 k,aAF 7 c d j e,nV 8,aLa 9 c d] 10<|.P 0 10 [] [(tI,false)] [bD 1 a,bD 2 b,cO 3 f] 6)<|.y fun n:Int=>gk 0 (.enter 143 [.ptr 0 0,aD j,nI (e.length:Int)]) [eZ 0 l m f g i,bD 1 a,bD 2 b,cO 3 f,bR 4 g,eT 5 i,bR 6 k,aAF 7 c d j e,nV 8,aLa 9 c d] 10 (nI n) [eZ 0 l m f g i,bD 1 a,bD 2 b,cO 3 f,bR 4 g,eT 5 i,bR 6 k,aAF 7 c d j e,nV 8,aLa 9 c d] 10<|gm 9 aF e<|.i [rn 4,.cnil 9 3 4] []<|gu 0 10 (av ([] :List Pat))<|gv 0 9 3 (.gl 10 4 0 ([] :List Pat).length false)<|.W 0 11 [6,8,9,10] (aAG l m f g i a b c d j e k k n 0 ([] :List Pat)))<|gm 8 aF e<|.i [rn 4,.cnil 9 3 4] []<|gu 0 10 (av ([] :List Pat))<|gv 0 9 3 (.gl 10 4 0 ([] :List Pat).length false)<|.W 0 11 [6,8,9,10] (aAG l m f g i a b c d j e k k d 0 ([] :List Pat))
def aO4(k:aA)(l:List Con)(d:List LFun)(e:List aA)(f:List ONode)(a b:List (aA×Int))(i x:Int)(y:aA)(r:List Pat)(z g:List aA)(j q:Int)(c:List Pat):=tT 6 (aAG k l d e f a b i x y r z g j q c)<|gd 5 40 (q< (r.length:Int)) (wY 6 r q<|fun m n o p=>.o (gK 13 (.enter 144 [.ptr 0 0,.agg [nI m,nI n,aD o,iP p],aDB g]) [eZ 0 k l d e f,bD 1 a,bD 2 b,cO 3 d,bR 4 e,eT 5 f,bR 6 g,nV 7,aHk 8 i j c,oL 9 4 (av c),aAF 10 m n o p,nV 11] 12 [(tI,false)] [bD 1 a,bD 2 b,cO 3 d,nV 7,aHk 8 i j c,oL 9 4 (av c),aAF 10 m n o p,nV 11] 12<|.P 0 12 [] [(tI,false)] [bD 1 a,bD 2 b,cO 3 d] 6)<|.y fun s:List aA=>.y fun t:Int=>.y fun u:Int=>.y fun v:aA=>.y fun w:List Pat=>gk 13 (.enter 144 [.ptr 0 0,.agg [nI m,nI n,aD o,iP p],aDB g]) [eZ 0 k l d e f,bD 1 a,bD 2 b,cO 3 d,bR 4 e,eT 5 f,bR 6 g,nV 7,aHk 8 i j c,oL 9 4 (av c),aAF 10 m n o p,nV 11] 12 (.tup [.agg [nI t,nI u,aD v,iP w],.gl 12 1 0 (g++s).length false]) [eZ 0 k l d e f,bD 1 a,bD 2 b,cO 3 d,bR 4 e,eT 5 f,nV 7,aHk 8 i j c,oL 9 4 (av c),aAF 10 m n o p,nV 11,oL 12 1 (map aD (g++s))] 13<|gA 11 aF c [Pat.mk t u v w]<|gw 6 56 (q+1)<|.W 3 15 [12,7,8,14] (aAG k l d e f a b i x y r z (g++s) j (q+1) (c++ [Pat.mk t u v w])))<|gY 10 7 3 9 4 aF dV c false<|.E 0 10 [6] (.tup [.agg [nI i,nI j,.str 0 0,iP c],aDB g]) [eZ 0 k l d e f,bD 1 a,bD 2 b,cO 3 d,bR 4 e,eT 5 f,bR 6 g] 7
def FunD.bod :FunD→Term
 | .mk _ _ _ _ b=>b
section
variable (m :Mod) (fs:List aA) (cs:List Con)
end
theorem xU :∀ps:List Pat,ps.all mS=true→aQ ps≤16*ps.length
 | [],_=>by simp [aQ]
 | p::ps,h=>by
  rw [all_cons,and_eq_true]at h;have:=xU ps h.2;have h1:=h.1;simp only [mS,and_eq_true,decide_eq_true_eq]at h1;rw [aQ,length_cons];omega
mutual
theorem aHm :∀t:Term,tsm t=true→aCh t≤200*cJ t
 | .mk o n s ks ps,h=>by
  rw [tsm]at h;simp only [and_eq_true,decide_eq_true_eq]at h;obtain⟨⟨⟨_,hpl⟩,hsp⟩,hsk⟩ :=h;have h1:=xU ps hsp;have h2:=aFa ks hsk;rw [aCh,cJ];omega
theorem aFa :∀ts:List Term,aEj ts=true→pW ts≤200*cC ts
 | [],_=>by simp [pW]
 | t::ts,h=>by
  rw [aEj,and_eq_true]at h;have h1:=aHm t h.1;have h2:=aFa ts h.2;rw [pW,cC];omega
end
theorem aCu {t:Typ}(h:rO t=true) :cK t<1000000:=by
 simp only [rO,and_eq_true,decide_eq_true_eq]at h;omega
theorem aO5 :∀ {f:FunD},pN f=true→rR f
 | .mk n p f g b,h=>by
  simp only [pN,xM,and_eq_true,decide_eq_true_eq]at h;obtain⟨⟨⟨_,h1⟩,h2⟩,⟨h3,_⟩,h5⟩ :=h;have:=aHm b h5;exact⟨aCu h1,aCu h2,by omega⟩
theorem aCv {m:Mod}(h:mY m=true) :∀f∈m.funs,rR f:=fun f hf=>by
 simp only [mY,and_eq_true]at h;exact aO5 (List.all_eq_true.1 h.2 f hf)
theorem aO6 {m:Mod}(h:mY m=true) :∀d∈m.datas,aGT d:=fun d hd c hc t ht=>by
 simp only [mY,and_eq_true]at h;have h1:=List.all_eq_true.1 h.1.2 d hd;simp only [aCm,and_eq_true]at h1;have h2:=List.all_eq_true.1 h1.2 c hc;simp only [aAZ,and_eq_true]at h2;exact aCu (List.all_eq_true.1 h2.2 t ht)
structure Fit (m:Mod) :Prop where
 fl:m.funs.length≤8
 dl:m.datas.length≤6
 cl:∀d∈m.datas,d.cons.length≤8
 sz:∀f∈m.funs,cJ f.bod≤80
 dp:∀f∈m.funs,fD f.bod≤16
 sm:∀f∈m.funs,tsm f.bod=true
 tf:∀f∈m.funs,kQ f.bod=true
theorem aO7 {m:Mod}(h:mY m=true)(ho:aBO m=true) :Fit m:=by
 have h0:=h;simp only [mY,and_eq_true,decide_eq_true_eq]at h;obtain⟨⟨⟨⟨_,h2⟩,h3⟩,h4⟩,h5⟩ :=h
 have key:∀f∈m.funs,xM f.bod=true:=fun f hf=>by
  have:=List.all_eq_true.1 h5 f hf;obtain⟨n,p,a,b,c⟩ :=f;simp only [pN,and_eq_true]at this;exact this.2
 simp only [aBO,and_eq_true]at ho;refine⟨by omega,by omega,fun d hd=>?_,fun f hf=>?_,fun f hf=>?_,fun f hf=>?_,fun f hf=>?_⟩
 · have:=List.all_eq_true.1 h4 d hd;simp only [aCm,and_eq_true,decide_eq_true_eq]at this;omega
 ·have:=key f hf;simp only [xM,and_eq_true,decide_eq_true_eq]at this;exact this.1.1
 ·have:=key f hf;simp only [xM,and_eq_true,decide_eq_true_eq]at this;exact this.1.2
 ·have:=key f hf;simp only [xM,and_eq_true,decide_eq_true_eq]at this;exact this.2
 · have:=List.all_eq_true.1 ho.2 f hf;obtain⟨n,p,a,b,c⟩ :=f;simp only [nG,aDi,and_eq_true]at this;exact this.2.2
theorem aA4 :∀ds:List DataD,(∀d∈ds,d.cons.length≤8) → ((ds.map fun d=>d.cons.map vB).flatten).length≤8*ds.length
 | [],_=>by simp
 | d::ds,h=>by
  have h1:=h d (List.mem_cons_self ..);have h2:=aA4 ds (fun x hx=>h x (List.mem_cons_of_mem _ hx));simp only [List.map_cons,List.flatten_cons,length_append,List.length_map,length_cons];omega
mutual
def nmP :Pat→List aA
 | .mk f _ s ps=> (if f=2 then [s]else []) ++aEx ps
def aEx :List Pat→List aA
 | [] =>[]
 |p::ps=>nmP p++aEx ps
end
abbrev rY (f n:Int)(s:aA)(ps:List Pat) :AObj:=.cells (putCells .leaf 0 [.int .i64 f,.int .i64 n,aD s,.ilst 4 (av ps) false]) 4 [] false
section
variable (f n:Int) (s:aA) (ps:List Pat)
mutual
theorem aQQ :∀p,(nmP p).length≤bA p
 | .mk f _ s ps=>by
  have:=aNp ps;rw [nmP,bA,length_append];split<;>simp<;>omega
theorem aNp :∀ps,(aEx ps).length≤aQ ps
 | [] =>by simp [aEx]
 | p::ps=>by
  have h1:=aQQ p;have h2:=aNp ps;rw [aEx,aQ,length_append];omega
end
end
section
variable (mf mc:List (aA×Int)) (ar:List Int)
end
mutual
theorem aNq :∀p:Pat,xI p=true→nmP p=jL p
 | .mk f n s ps,h=>by
  rw [xI,and_eq_true]at h;rw [nmP,jL];by_cases h2:f=2
  · rw [if_pos h2,if_pos h2];have h1:=h.1;simp only [bW,h2,and_eq_true,decide_eq_true_eq]at h1;simp at h1;have:ps= [] :=List.length_eq_zero_iff.1 (by simpa using h1.1.1);rw [this,aEx];rfl
  · rw [if_neg h2,if_neg h2,nil_append];exact aIX ps h.2
theorem aIX :∀ps:List Pat,mU ps=true→aEx ps=iR ps
 | [],_=>by rw [aEx,iR]
 | p::ps,h=>by
  rw [mU,and_eq_true]at h;rw [aEx,iR,aNq p h.1,aIX ps h.2]
end
theorem rZ {P:Program}{f:Nat}{args args':List AV}{res:Res}{l l' lc lc':List (Nat×AObj×Bool)}{m nb nb' n2 n3:Nat}{ks:List Nat}
  (h0:nE P m (.enter f args) (aG l nb) res (aG l' nb')) (e3:nb'-m+n2=n3) (hv:aIh res) (hargs:AV.renL (fA 0 nb n2 ks) args=args') (hm:Nat.ble m nb=true) (hm':Nat.ble m nb'=true)
  (hin:dC 0 ⟨⟨0,0,[],[],[],.run,.normal,none⟩,[],l,nb⟩ ks=true) (hl:sB (aG lc n2) (fA 0 nb n2 ks) l=jB (fA 0 nb n2 ks) l) (hkl:iV l)
  (hl':sB (aG lc' n3) (oZ m n2 ks) l'=jB (oZ m n2 ks) l') (hkl':iV l') (hpl:aAf l'=true:=by kernel_rfl) (hk':hJ nb' l'=true:=by kernel_rfl)
  (hx:hJ n2 lc=true:=by kernel_rfl) (hx':hJ n3 lc'=true:=by kernel_rfl) (hlt:ks.all (fun k=>Nat.blt k n2) =true:=by kernel_rfl) (hout:aC5 (namesT (oZ m n2 ks) l') ks (aG lc n2) lc'=rE lc':=by kernel_rfl) (hll:rE l'= (l'.map fun p=> (aG l' nb').look p.1) :=by kernel_rfl) :
  Spec P (.enter f args') (aG lc n2) res (aG lc' n3) :=by
 subst e3;exact aIi h0 (fun _ g=>aXY hv g) hargs hm hm' hin hl hkl hl' hkl' hpl hk' hx hx' hlt hout hll
section
variable (mf mc:List (aA×Int)) (ar:List Int) (q:aA) (pl:List aA) (L:List ONode) (o n:Int) (s:aA) (ks:List Term) (ps:List Pat)
end
end
end Go.Hb
