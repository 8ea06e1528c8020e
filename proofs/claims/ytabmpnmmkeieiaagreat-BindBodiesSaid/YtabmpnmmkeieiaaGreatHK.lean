/-
  OWN WORK (V111, H38, H39, V112, V113, V40, V41, V23, H5, H6, V24, V25, V26, V42, V43, V44, H16, V47, H17, V48, H14, V45, H40, V114): a machine on abstract values, its soundness, ways through the text (the ways WRITTEN BY A PROGRAM), plain laws.
-/
import Derived.Test.YtabmpnmmkeieiaaGreatHF
import Derived.Test.YtabmpnmmkeieiaaGreatHG
import Derived.Test.YtabmpnmmkeieiaaGreatHH
import Derived.Test.YtabmpnmmkeieiaaGreatHI
import Derived.Test.YtabmpnmmkeieiaaGreatHJ
set_option linter.defProp false
set_option linter.unusedVariables false
set_option linter.unusedSimpArgs false
set_option linter.unusedSectionVars false
set_option maxRecDepth 100000
namespace Go.Hb
open Go.Proofs
structure ConD where
 name:aE
 args:List Typ
def ConD.av (c:ConD) :AV:=.agg [aC c.name,.ilst 4 (Typs.av c.args) false]
structure DataD where
 name:aE
 cons:List ConD
def DataD.av (d:DataD) :AV:=.agg [aC d.name,.ilst 2 (List.map ConD.av d.cons) false]
inductive FunD where
 |mk (name param:aE) (frm to:Typ) (body:Term)
def FunD.av :FunD→AV
 | .mk n p (.mk f0 f1 f2 f3) (.mk g0 g1 g2 g3) (.mk b0 b1 b2 b3 b4) =>.agg [aC n,aC p,.int .i64 f0,.int .i64 f1,aC f2,.ilst 4 (Typs.av f3) false,.int .i64 g0,.int .i64 g1,aC g2,.ilst 4 (Typs.av g3) false,.int .i64 b0,.int .i64 b1,aC b2,.ilst 5 (Terms.av b3) false,.ilst 4 (Pats.av b4) false]
def FunDs.av (l:List FunD) :List AV:=List.map FunD.av l
theorem dO :∀l,FunDs.av l=List.map FunD.av l:=fun _=>rfl
theorem aOG :∀f,AV.keyless (FunD.av f) =true
 | .mk n p (.mk f0 f1 f2 f3) (.mk g0 g1 g2 g3) (.mk b0 b1 b2 b3 b4) =>by simp [FunD.av,AV.keyless,AV.keylessL,aC]
theorem gU {l:List FunD}:AV.keylessL (FunDs.av l) =true:=bZ _ aOG _
structure Mod where
 name:aE
 datas:List DataD
 funs:List FunD
def Mod.av (m:Mod) :AV:=.agg [aC m.name,.ilst 2 (List.map DataD.av m.datas) false,.ilst 15 (FunDs.av m.funs) false]
inductive Part where
 |data (d:DataD)
 |fn (f:FunD)
def Part.av :Part→AV
 | .data d=>.iface 177 (DataD.av d)
 | .fn f=>.iface 179 (FunD.av f)
def Parts.av (l:List Part) :List AV:=List.map Part.av l
theorem oR :∀l,Parts.av l=List.map Part.av l:=fun _=>rfl
theorem aHY :∀x,AV.keyless (Part.av x) =true
 | .data d=>by simp [Part.av,DataD.av,AV.keyless,AV.keylessL,aC]
 | .fn f=>by simp only [Part.av,AV.keyless];exact aOG f
theorem wO {l:List Part}:AV.keylessL (Parts.av l) =true:=bZ _ aHY _
end Go.Hb
namespace Go.Hb
open Go.Proofs
noncomputable section
open Go.Proofs Tryz
def aHZ(a b:Int)(c:aE)(d:List Term)(e:List Pat)(f:Int):TS:=⟨(tf 58 43 [kp 1 0,(2,(bV false)),(3,(nI f))] [kc f58 116,kl f58 116,.inBlock 0,kc f58 15]),[],[oC 0 [(nI a),(nI b),(aC c),(.ilst 5 (Terms.av d) false),(iP e)]],1⟩
def aH0(a b:Int)(c:aE)(d:List Term)(e:List Pat)(f:Int):TS:=⟨(tf 58 43 [kp 1 0,(2,(bV false)),(4,(nI f))] [kc f58 244,kl f58 244,.inBlock 2,kc f58 31]),[],[oC 0 [(nI a),(nI b),(aC c),(.ilst 5 (Terms.av d) false),(iP e)]],1⟩
def aNj(c d:Int)(b:aE)(e:List Term)(a:List Pat):=tT 0 (start PP 58 [(.agg [(nI c),(nI d),(aC b),(.ilst 5 (Terms.av e) false),(iP a)])])<|gd 13 9 ((b.length:Int) >30) (gE 12 1 (bV false))<|gm 2 aF a<|gd 3 14 ((a.length:Int) >8) (gE 6 1 (bV false))<|.W 9 1 [0] (aHZ c d b e a 0)
def bBn:=fun a b c d e f=>aNj a b c d e|>.t f tv
def bBo:=fun a b c d e f g=>aNj a b c d e|>.f f|>.t g tv
def bBp:=fun a b c d e f g=>aNj a b c d e|>.f f|>.f g tv
def aNk(c d:Int)(e:aE)(f:List Term)(a:List Pat)(b:Int):=tT 0 (aHZ c d e f a b)<|gm 6 aF a<|gd 2 19 (b< (a.length:Int)) (mW 9 a b<|fun g i j k=>cP 1 64 [(.agg [(nI g),(nI i),(aC j),(iP k)])]<|fun l=>.b 2 28 (!l) (gE 6 1 (bV false))<|gw 6 21 (b+1)<|.W 3 1 [0] (aHZ c d e f a (b+1)))<|.W 9 1 [0] (aH0 c d e f a 0)
def bBq:=fun a b c d e f g i j k l m n o p q=>aNk a b c d e f|>.t m g i j k n o l p|>.t q tv
def bBr:=fun a b c d e f g i j k l m n o p q r=>aNk a b c d e f|>.t m g i j k n o l p|>.f q r tv
def bBs:=fun a b c d e f g=>aNk a b c d e f|>.f g tv
def aNl(c d:Int)(e:aE)(a:List Term)(f:List Pat)(b:Int):=tT 0 (aH0 c d e a f b)<|gm 6 bS a<|gd 2 33 (b< (a.length:Int)) (aJh 9 a b<|fun g i j k l=>cP 1 58 [(.agg [(nI g),(nI i),(aC j),(.ilst 5 (Terms.av k) false),(iP l)])]<|fun m=>.b 2 42 (!m) (gE 6 1 (bV false))<|gw 6 35 (b+1)<|.W 3 1 [0] (aH0 c d e a f (b+1)))<|gE 7 1 (bV true)
def bBt:=fun a b c d e f g i j k l m n o p q r=>aNl a b c d e f|>.t n g i j k l o p m q|>.t r tv
def bBu:=fun a b c d e f g i j k l m n o p q r s=>aNl a b c d e f|>.t n g i j k l o p m q|>.f r s tv
def bBv:=fun a b c d e f g=>aNl a b c d e f|>.f g tv
end
end Go.Hb
namespace Go.Hb
open Go.Proofs
noncomputable section
open Go.Proofs Tryz
def bIc(a:List Typ):TS:=bW PP 182 [(.ilst 4 (Typs.av a) false),(.func 183 [] [])] [] 0
def aOH(a:List Typ)(b:Int):TS:=⟨(tf 264 19 [(0,(.ilst 4 (Typs.av a) false)),(1,(.func 232 [] [(.ptr 0 0)])),(4,(nI 0)),(7,(nI (a.length:Int))),(8,(nI b))] [kc f264 52,kl f264 52,.inBlock 0,kc f264 7]),[(tf 231 9 [(4,(bV false)),(5,(.ilst 4 (Typs.av a) false)),(6,(.func 232 [] [(.ptr 0 0)]))] [ko f231 6 2,kc f231 7]),(tf 182 9 [(4,(bV false)),(5,(.ilst 4 (Typs.av a) false)),(6,(.func 232 [] [(.ptr 0 0)]))] [ko f182 6 2,kc f182 7])],[oC 0 [(.func 183 [] [])]],1⟩
def bId(a:List ConD):TS:=bW PP 180 [(.ilst 2 (List.map ConD.av a) false),(.func 181 [] [])] [] 0
def aOI(a:List ConD)(b:Int):TS:=⟨(tf 263 19 [(0,(.ilst 2 (List.map ConD.av a) false)),(1,(.func 230 [] [(.ptr 0 0)])),(4,(nI 0)),(7,(nI (a.length:Int))),(8,(nI b))] [kc f263 52,kl f263 52,.inBlock 0,kc f263 7]),[(tf 229 9 [(4,(bV false)),(5,(.ilst 2 (List.map ConD.av a) false)),(6,(.func 230 [] [(.ptr 0 0)]))] [ko f229 6 2,kc f229 7]),(tf 180 9 [(4,(bV false)),(5,(.ilst 2 (List.map ConD.av a) false)),(6,(.func 230 [] [(.ptr 0 0)]))] [ko f180 6 2,kc f180 7])],[oC 0 [(.func 181 [] [])]],1⟩
def bE5(a:DataD):TS:=bW PP 105 [(.iface 177 (.agg [(aC a.name),(.ilst 2 (List.map ConD.av a.cons) false)]))] [] 0
def bE6(a b:aE)(c d:Int)(e:aE)(f:List Typ)(g i:Int)(j:aE)(k:List Typ)(l m:Int)(n:aE)(o:List Term)(p:List Pat):TS:=bW PP 105 [(.iface 179 (.agg [(aC a),(aC b),(nI c),(nI d),(aC e),(.ilst 4 (Typs.av f) false),(nI g),(nI i),(aC j),(.ilst 4 (Typs.av k) false),(nI l),(nI m),(aC n),(.ilst 5 (Terms.av o) false),(iP p)]))] [] 0
def bE7(a:List Part):TS:=bW PP 104 [(.ilst 1 (Parts.av a) false),(.func 105 [] [])] [] 0
def aH1(a:List Part)(b:Int):TS:=⟨(tf 228 19 [(0,(.ilst 1 (Parts.av a) false)),(1,(.func 178 [] [(.ptr 0 0)])),(4,(nI 0)),(7,(nI (a.length:Int))),(8,(nI b))] [kc f228 52,kl f228 52,.inBlock 0,kc f228 7]),[(tf 177 9 [(4,(bV false)),(5,(.ilst 1 (Parts.av a) false)),(6,(.func 178 [] [(.ptr 0 0)]))] [ko f177 6 2,kc f177 7]),(tf 104 9 [(4,(bV false)),(5,(.ilst 1 (Parts.av a) false)),(6,(.func 178 [] [(.ptr 0 0)]))] [ko f104 6 2,kc f104 7])],[oC 0 [(.func 105 [] [])]],1⟩
def aV9(a:List Part)(b:Int):TS:=⟨(tf 228 19 [(0,(.ilst 1 (Parts.av a) false)),(1,(.func 178 [] [(.ptr 0 0)])),(4,(nI 0)),(7,(nI (a.length:Int))),(8,(nI b))] [kc f228 52,kl f228 52,.inBlock 0,kc f228 7]),[(tf 177 9 [(4,(bV false)),(5,(.ilst 1 (Parts.av a) false)),(6,(.func 178 [] [(.ptr 0 0)]))] [ko f177 6 2,kc f177 7]),(tf 104 9 [(4,(bV false)),(5,(.ilst 1 (Parts.av a) false)),(6,(.func 178 [] [(.ptr 0 0)]))] [ko f104 6 2,kc f104 7])],[oC 0 [(.func 105 [] [])]],1⟩
def bE8(a:Mod):TS:=bW PP 41 [(.agg [(aC a.name),(.ilst 2 (List.map DataD.av a.datas) false),(.ilst 15 (FunDs.av a.funs) false)])] [] 0
def aH2(a:Mod)(c:Int)(b:List Part):TS:=⟨(tf 41 61 [kp 1 0,(2,(nI 0)),(3,(.gl 1 1 0 b.length false)),(31,(.ilst 2 (List.map DataD.av a.datas) false)),(32,(nI (a.datas.length:Int))),(33,(nI c))] [kc f41 244,kl f41 244,.inBlock 0,kc f41 31]),[],[oC 0 [(aC a.name),(.ilst 2 (List.map DataD.av a.datas) false),(.ilst 15 (FunDs.av a.funs) false)],oL 1 1 (Parts.av b)],2⟩
def aH3(a:Mod)(b:List Part)(c:Int):TS:=⟨(tf 41 61 [(2,(nI 0)),(3,(.gl 0 1 0 b.length false)),(45,(.ilst 15 (FunDs.av a.funs) false)),(46,(nI (a.funs.length:Int))),(47,(nI c))] [kc f41 500,kl f41 500,.inBlock 2,kc f41 63]),[],[oL 0 1 (Parts.av b)],1⟩
def bG0 (a:List Typ):=(tT 0 (bIc a)<|gm 27 aZ a<|.W 4 1 [0] (aOH a 0)) tv
def aWa(b:List Typ)(a:Int):=tT 0 (aOH b a)<|gd 5 9 (a< (b.length:Int)) (aPz 14 b a<|fun c d e f=>cP 11 183 [(.agg [(nI c),(nI d),(aC e),(.ilst 4 (Typs.av f) false)])]<|fun g=>.b 6 16 (!g) (gE 17 2 (bV (!(decide (a≥0)))))<|gw 5 18 (a+1)<|.W 3 2 [0] (aOH b (a+1)))<|gE 17 1 (bV true)
def bG1:=fun a b c d e f g i j k l m=>aWa a b|>.t i c d e f j k g l|>.t m tv
def bG2:=fun a b c d e f g i j k l m n=>aWa a b|>.t i c d e f j k g l|>.f m n tv
def bG3:=fun a b c=>aWa a b|>.f c tv
def aWb(a:ConD):=tT 0 (start PP 181 [(.agg [(aC a.name),(.ilst 4 (Typs.av a.args) false)])])<|cP 9 179 [(aC a.name)]<|fun b=>.b 1 6 b (gm 2 aZ a.args<|gd 3 12 ((a.args.length:Int) ≤3) (cP 2 182 [(.ilst 4 (Typs.av a.args) false),(.func 183 [] [])]<|fun c=>gE 4 1 (bV c))<|gE 7 1 (bV false))<|gE 13 1 (bV false)
def bBw:=fun a b c d e f g=>aWb a b d|>.t e|>.t f c g tv
def bBx:=fun a b c d e=>aWb a b c|>.t d|>.f e tv
def bBy:=fun a b c d=>aWb a b c|>.f d tv
def bG4 (a:List ConD):=(tT 0 (bId a)<|gl 27 ConD.av a<|.W 4 1 [0] (aOI a 0)) tv
def aWc(b:List ConD)(a:Int):=tT 0 (aOI b a)<|gd 5 9 (a< (b.length:Int)) (gX ConD.av 14 b a<|fun c=>cP 11 181 [(.agg [(aC c.name),(.ilst 4 (Typs.av c.args) false)])]<|fun d=>.b 6 16 (!d) (gE 17 2 (bV (!(decide (a≥0)))))<|gw 5 18 (a+1)<|.W 3 2 [0] (aOI b (a+1)))<|gE 17 1 (bV true)
def bG5:=fun a b c d e f g i j=>aWc a b|>.t e c f g d i|>.t j tv
def bG6:=fun a b c d e f g i j k=>aWc a b|>.t e c f g d i|>.f j k tv
def bG7:=fun a b c=>aWc a b|>.f c tv
def aOJ(a:DataD):=tT 0 (bE5 a)<|cP 27 179 [(aC a.name)]<|fun b=>.b 1 13 b (gl 3 ConD.av a.cons<|gd 3 20 ((a.cons.length:Int) ≥1) (gl 3 ConD.av a.cons<|gd 3 27 ((a.cons.length:Int) ≤5) (cP 3 180 [(.ilst 2 (List.map ConD.av a.cons) false),(.func 181 [] [])]<|fun c=>gE 4 1 (bV c))<|gE 8 1 (bV false))<|gE 15 1 (bV false))<|gE 22 1 (bV false)
def bBz:=fun a b c d e f g i=>aOJ a b d|>.t e|>.t f|>.t g c i tv
def bBA:=fun a b c d e f=>aOJ a b c|>.t d|>.t e|>.f f tv
def bBB:=fun a b c d e=>aOJ a b c|>.t d|>.f e tv
def bBC:=fun a b c d=>aOJ a b c|>.f d tv
def aKF(a b:aE)(c d:Int)(e:aE)(f:List Typ)(g i:Int)(j:aE)(k:List Typ)(l m:Int)(n:aE)(o:List Term)(p:List Pat):=tT 0 (bE6 a b c d e f g i j k l m n o p)<|cP 34 103 [(aC a)]<|fun q=>.b 1 40 q (cP 3 103 [(aC b)]<|fun r=>.b 2 46 r (cP 3 183 [(.agg [(nI c),(nI d),(aC e),(.ilst 4 (Typs.av f) false)])]<|fun s=>.b 2 52 s (cP 3 183 [(.agg [(nI g),(nI i),(aC j),(.ilst 4 (Typs.av k) false)])]<|fun t=>.b 2 58 t (gpI 3 80 [(.agg [(nI l),(nI m),(aC n),(.ilst 5 (Terms.av o) false),(iP p)])]<|fun u=>gE 5 1 (bV (u==0)))<|gE 9 1 (bV false))<|gE 15 1 (bV false))<|gE 21 1 (bV false))<|gE 27 1 (bV false)
def bBD:=fun a b c d e f g i j k l m n o p q r s t u v w x y z A B C D=>aKF a b c d e f g i j k l m n o p q v|>.t w r x|>.t y s z|>.t A t B|>.t C u D tv
def bBE:=fun a b c d e f g i j k l m n o p q r s t u v w x y z A B=>aKF a b c d e f g i j k l m n o p q u|>.t v r w|>.t x s y|>.t z t A|>.f B tv
def bBF:=fun a b c d e f g i j k l m n o p q r s t u v w x y=>aKF a b c d e f g i j k l m n o p q t|>.t u r v|>.t w s x|>.f y tv
def bBG:=fun a b c d e f g i j k l m n o p q r s t u v=>aKF a b c d e f g i j k l m n o p q s|>.t t r u|>.f v tv
def bBH:=fun a b c d e f g i j k l m n o p q r s=>aKF a b c d e f g i j k l m n o p q r|>.f s tv
def bBI (a:List Part):=(tT 0 (bE7 a)<|gm 27 oR a<|.W 4 1 [0] (aH1 a 0)) tv
def aWd(b:List Part)(a:Int):=tT 0 (aH1 b a)<|gd 5 9 (a< (b.length:Int)) (.y fun c:DataD=>giF oR 14 b a (Part.data c)<|cP 10 105 [(.iface 177 (.agg [(aC c.name),(.ilst 2 (List.map ConD.av c.cons) false)]))]<|fun d=>.b 6 16 (!d) (gE 17 1 (bV (!(decide (a≥0)))))<|gw 5 18 (a+1)<|.W 3 1 [0] (aH1 b (a+1)))<|gE 17 1 (bV true)
def bBJ:=fun a b c d e f g i j=>aWd a b|>.t e c f g d i|>.t j tv
def bBK:=fun a b c d e f g i j k=>aWd a b|>.t e c f g d i|>.f j k tv
def bBL:=fun a b c=>aWd a b|>.f c tv
def bE9(b:List Part)(a:Int):=tT 0 (aV9 b a)<|gd 5 9 (a< (b.length:Int)) (.y fun c:aE=>.y fun d:aE=>.y fun e:Int=>.y fun f:Int=>.y fun g:aE=>.y fun i:List Typ=>.y fun j:Int=>.y fun k:Int=>.y fun l:aE=>.y fun m:List Typ=>.y fun n:Int=>.y fun o:Int=>.y fun p:aE=>.y fun q:List Term=>.y fun r:List Pat=>giF oR 14 b a (Part.fn (FunD.mk c d (Typ.mk e f g i) (Typ.mk j k l m) (Term.mk n o p q r)))<|cP 10 105 [(.iface 179 (.agg [(aC c),(aC d),(nI e),(nI f),(aC g),(.ilst 4 (Typs.av i) false),(nI j),(nI k),(aC l),(.ilst 4 (Typs.av m) false),(nI n),(nI o),(aC p),(.ilst 5 (Terms.av q) false),(iP r)]))]<|fun s=>.b 6 16 (!s) (gE 17 1 (bV (!(decide (a≥0)))))<|gw 5 18 (a+1)<|.W 3 1 [0] (aV9 b (a+1)))<|gE 17 1 (bV true)
def bBM:=fun a b c d e f g i j k l m n o p q r s t u v w x=>bE9 a b|>.t t c d e f g i j k l m n o p q r u v s w|>.t x tv
def bBN:=fun a b c d e f g i j k l m n o p q r s t u v w x y=>bE9 a b|>.t t c d e f g i j k l m n o p q r u v s w|>.f x y tv
def aKG(a:Mod):=tT 0 (bE8 a)<|cP 10 103 [(aC a.name)]<|fun b=>.b 2 12 (!b) (gE 24 1 (nI 2))<|gl 2 DataD.av a.datas<|gd 3 18 ((a.datas.length:Int) >4) (gE 18 1 (nI 2))<|gm 2 dO a.funs<|gd 3 24 ((a.funs.length:Int) <1) (gE 12 1 (nI 2))<|gm 2 dO a.funs<|gd 3 29 ((a.funs.length:Int) >5) (gE 6 1 (nI 2))<|gl 11 DataD.av a.datas<|.i [rn 4,.nilL 3 1] []<|gu 0 1 (Parts.av ([] :List Part))<|gs 0 3 (.gl 1 1 0 ([] :List Part).length false)<|.W 0 2 [0,1] (aH2 a 0 ([] :List Part))
def bBO:=fun a b c d=>aKG a b c|>.t d tv
def bBP:=fun a b c d e=>aKG a b c|>.f d|>.t e tv
def bBQ:=fun a b c d e f=>aKG a b c|>.f d|>.f e|>.t f tv
def bBR:=fun a b c d e f g=>aKG a b c|>.f d|>.f e|>.f f|>.t g tv
def bBS:=fun a b c d e f g=>aKG a b c|>.f d|>.f e|>.f f|>.f g ⟨wO,trivial⟩
def bFa(a:Mod)(b:Int)(c:List Part):=tT 0 (aH2 a b c)<|gd 5 34 (b< (a.datas.length:Int)) (gX DataD.av 6 a.datas b<|fun d=>gA 10 oR c [(Part.data d)]<|gw 5 43 (b+1)<|.W 3 5 [0,4] (aH2 a (b+1) (c++ [(Part.data d)])))<|gm 7 dO a.funs<|.W 4 2 [1] (aH3 a c 0)
def bBT:=fun a b c d e f g i j=>bFa a b c|>.t e d f g i j ⟨wO,trivial⟩
def bBU:=fun a b c d=>bFa a b c|>.f d ⟨wO,trivial⟩
def aWe(c:Mod)(a:List Part)(b:Int):=tT 0 (aH3 c a b)<|gd 5 48 (b< (c.funs.length:Int)) (.y fun d:aE=>.y fun e:aE=>.y fun f:Int=>.y fun g:Int=>.y fun i:aE=>.y fun j:List Typ=>.y fun k:Int=>.y fun l:Int=>.y fun m:aE=>.y fun n:List Typ=>.y fun o:Int=>.y fun p:Int=>.y fun q:aE=>.y fun r:List Term=>.y fun s:List Pat=>giF dO 6 c.funs b (FunD.mk d e (Typ.mk f g i j) (Typ.mk k l m n) (Term.mk o p q r s))<|gA 10 oR a [(Part.fn (FunD.mk d e (Typ.mk f g i j) (Typ.mk k l m n) (Term.mk o p q r s)))]<|gw 5 57 (b+1)<|.W 3 4 [3] (aH3 c (a++ [(Part.fn (FunD.mk d e (Typ.mk f g i j) (Typ.mk k l m n) (Term.mk o p q r s)))]) (b+1)))<|gZ 6 58 0 1 oR wO a false<|cP 0 104 [(.ilst 1 (Parts.av a) false),(.func 105 [] [])]<|fun t=>.b 2 60 (!t) (gE 6 1 (nI 2))<|gE 7 1 (nI 0)
def bBV:=fun a b c d e f g i j k l m n o p q r s t u v w x=>aWe a b c|>.t t d e f g i j k l m n o p q r s u v w x ⟨wO,trivial⟩
def bBW:=fun a b c d e f g=>aWe a b c|>.f e d f|>.t g tv
def bBX:=fun a b c d e f g=>aWe a b c|>.f e d f|>.f g tv
end
end Go.Hb
namespace Go.Hb
open Go.Proofs
set_option maxHeartbeats 4000000
mutual
def tsm :Term→Bool
 | .mk _ _ s ks ps=>decide (((List.length s:Nat) :Int) ≤30) &&decide (((List.length ps:Nat) :Int) ≤8) &&ps.all pL&&aNm ks
def aNm :List Term→Bool
 | [] =>true
 |t::ts=>tsm t&&aNm ts
end
theorem zR :∀ts:List Term,ts.length≤eW ts
 | [] =>by simp
 | .mk o n s ks ps::ts=>by have:=zR ts;simp only [eW,hJ,List.length_cons];omega
theorem bIe (o n:Int)(s:aE)(ks:List Term)(ps:List Pat)(hl:ks.length<1000000)(ih:∀t∈ks,Pure PP 58 [Term.av t] (.bool (tsm t))) :
  ∀ (ts:List Term) (i:Nat),ks.drop i=ts→Ends PP 0 (aH0 o n s ks ps (i:Int)).as (.ret (.bool (aNm ts))) (aG [] 0)
 | [],i,h=>by
  have:=bD h;exact bBv o n s ks ps i sd
 | .mk o' n' s' ks' ps'::ts,i,h=>by
  obtain⟨g1,g2,g3⟩ :=bB h;have hp:=ih _ (List.mem_of_getElem? g1);rw [aNm];cases hb:tsm (.mk o' n' s' ks' ps')with
  | true=>
   rw [hb]at hp;exact(bBu o n s ks ps i o' n' s' ks' ps' true sd sd sd hp rfl sd).ends (Ends.eqv (bIe o n s ks ps hl ih ts (i+1) g2) (by simp))
  | false=>
   rw [hb]at hp;exact Ends.eqv (bBt o n s ks ps i o' n' s' ks' ps' false sd sd sd hp rfl) (by simp)
theorem bIf (o n:Int)(s:aE)(ks:List Term)(ps:List Pat)(hl:ks.length<1000000)(hl2:ps.length<1000000)(ih:∀t∈ks,Pure PP 58 [Term.av t] (.bool (tsm t))) :
  ∀ (qs:List Pat) (i:Nat),ps.drop i=qs→Ends PP 0 (aHZ o n s ks ps (i:Int)).as (.ret (.bool (qs.all pL&&aNm ks))) (aG [] 0)
 | [],i,h=>by
  have:=bD h;exact(bBs o n s ks ps i sd).ends (Ends.eqv (bIe o n s ks ps hl ih ks 0 rfl) (by simp))
 | .mk f' n' s' ps'::qs,i,h=>by
  obtain⟨g1,g2,g3⟩ :=bB h;have hp:=aAV (.mk f' n' s' ps');cases hb:pL (.mk f' n' s' ps')with
  | true=>
   rw [hb]at hp;exact(bBr o n s ks ps i f' n' s' ps' true sd sd sd hp rfl sd).ends (Ends.eqv (bIf o n s ks ps hl hl2 ih qs (i+1) g2) (by simp [hb]))
  | false=>
   rw [hb]at hp;exact Ends.eqv (bBq o n s ks ps i f' n' s' ps' false sd sd sd hp rfl) (by simp [hb])
mutual
theorem aWf :∀ (t:Term),hJ t<1000000→Pure PP 58 [Term.av t] (.bool (tsm t))
 | .mk o n s ks ps,hf=>by
  simp only [hJ]at hf;have:=zR ks;refine aM (by kernel_rfl) (by simp [AV.keylessL,eF]) rfl ?_;rw [tsm];by_cases h1: ((List.length s:Nat) :Int) ≤30
  · by_cases h2: ((List.length ps:Nat) :Int) ≤8
    ·exact(bBp o n s ks ps (by simp;omega) (by simp;omega)).ends (Ends.eqv (bIf o n s ks ps (by omega) (by omega) (aOK ks (by omega)) ps 0 rfl) (by simp [h1,h2]))
    ·exact Ends.eqv (bBo o n s ks ps (by simp;omega) (by simp;omega)) (by simp [h2])
  ·exact Ends.eqv (bBn o n s ks ps (by simp;omega)) (by simp [h1])
theorem aOK :∀ (ts:List Term),eW ts<1000000→∀t∈ts,Pure PP 58 [Term.av t] (.bool (tsm t))
 | [],_,t,ht=>by cases ht
 | u::ts,hf,t,ht=>by
  simp only [eW]at hf;rcases List.mem_cons.1 ht with e|ht
  ·rw [e];exact aWf u (by omega)
  ·exact aOK ts (by omega) t ht
end
theorem aH4 (m:Mod) :AV.keyless (Mod.av m) =true:=by simp [Mod.av,AV.keyless,AV.keylessL,aC]
end Go.Hb
namespace Go.Hb
open Go.Proofs
set_option maxHeartbeats 4000000
def zS (c:ConD) :Bool:=cH c.name&&decide (((List.length c.args:Nat) :Int) ≤3) &&c.args.all aCF
def uF (d:DataD) :Bool:=cH d.name&&aW (List.length d.cons) 1 5&&d.cons.all zS
def wP :FunD→Bool
 | .mk n p f g b=>dE n&&dE p&&aCF f&&aCF g&&lF b
def aOL (m:Mod) :Bool:=dE m.name&&decide (((List.length m.datas:Nat) :Int) ≤4) &&aW (List.length m.funs) 1 5&&m.datas.all uF&&m.funs.all wP
def aBI :FunD→Prop
 | .mk _ _ f g b=>cF f<1000000∧cF g<1000000∧mY b<1000000
def aEj (d:DataD) :Prop:=∀c∈d.cons,∀t∈c.args,cF t<1000000
theorem aOM (l:List Typ)(hl:l.length<1000000)(hf:∀t∈l,cF t<1000000) :∀ (ts:List Typ) (i:Nat),l.drop i=ts→Ends PP 0 (aOH l (i:Int)).as (.ret (.bool (ts.all aCF))) (aG [] 0)
 | [],i,h=>by
  have:=bD h;exact bG3 l i sd
 | .mk o n s ps::ts,i,h=>by
  obtain⟨g1,g2,g3⟩ :=bB h;have hp:=aEi (.mk o n s ps) (hf _ (List.mem_of_getElem? g1));cases hb:aCF (.mk o n s ps)with
  | true=>
   rw [hb]at hp;exact(bG2 l i o n s ps true sd sd sd hp rfl sd).ends (Ends.eqv (aOM l hl hf ts (i+1) g2) (by simp [hb]))
  | false=>
   rw [hb]at hp;exact Ends.eqv (bG1 l i o n s ps false sd sd sd hp rfl) (by simp [hb])
theorem bBZ (l:List Typ)(hl:l.length<1000000)(hf:∀t∈l,cF t<1000000) :Pure PP 182 [.ilst 4 (Typs.av l) false,.func 183 [] []] (.bool (l.all aCF)) :=
 bM (s:=bIc l) (by kernel_rfl) (by kernel_rfl) (by simp [AV.keylessL,AV.keyless]) rfl ((bG0 l).ends (aOM l hl hf l 0 rfl))
theorem aWg (c:ConD)(hf:∀t∈c.args,cF t<1000000) :Pure PP 181 [ConD.av c] (.bool (zS c)) :=by
 refine aM (by kernel_rfl) (by simp [AV.keylessL,ConD.av,AV.keyless,aC]) rfl ?_;have hg:=fQ c.name;unfold zS;cases e1:cH c.name with
 |false=>rw [e1]at hg;exact Ends.eqv (bBy c false hg rfl) (by simp)
 | true=>
  rw [e1]at hg;by_cases h2: ((List.length c.args:Nat) :Int) ≤3
  ·exact Ends.eqv (bBw c true _ hg rfl (by simp;omega) (bBZ c.args (by omega) hf)) (by simp [h2])
  ·exact Ends.eqv (bBx c true hg rfl (by simp;omega)) (by simp [h2])
theorem aON (l:List ConD)(hl:l.length<1000000)(hf:∀c∈l,∀t∈c.args,cF t<1000000) :∀ (ts:List ConD) (i:Nat),l.drop i=ts→Ends PP 0 (aOI l (i:Int)).as (.ret (.bool (ts.all zS))) (aG [] 0)
 | [],i,h=>by
  have:=bD h;exact bG7 l i sd
 | c::ts,i,h=>by
  obtain⟨g1,g2,g3⟩ :=bB h;have hp:=aWg c (hf _ (List.mem_of_getElem? g1));cases hb:zS c with
  | true=>
   rw [hb]at hp;exact(bG6 l i c true sd sd sd hp rfl sd).ends (Ends.eqv (aON l hl hf ts (i+1) g2) (by simp [hb]))
  | false=>
   rw [hb]at hp;exact Ends.eqv (bG5 l i c false sd sd sd hp rfl) (by simp [hb])
theorem bB0 (l:List ConD)(hl:l.length<1000000)(hf:∀c∈l,∀t∈c.args,cF t<1000000) :Pure PP 180 [.ilst 2 (List.map ConD.av l) false,.func 181 [] []] (.bool (l.all zS)) :=
 bM (s:=bId l) (by kernel_rfl) (by kernel_rfl) (by simp [AV.keylessL,AV.keyless]) rfl ((bG4 l).ends (aON l hl hf l 0 rfl))
def uG :Part→Bool
 | .data d=>uF d
 | .fn f=>wP f
def aH5 :Part→Prop
 | .data d=>aEj d
 | .fn f=>aBI f
theorem aWh (d:DataD)(hf:aEj d) :Pure PP 105 [Part.av (.data d)] (.bool (uF d)) :=by
 refine bM (s:=bE5 d) (by kernel_rfl) (by kernel_rfl) (by simp [AV.keylessL,aHY]) rfl ?_;have hg:=fQ d.name;unfold uF;cases e1:cH d.name with
 |false=>rw [e1]at hg;exact Ends.eqv (bBC d false hg rfl) (by simp)
 | true=>
  rw [e1]at hg;by_cases h1: (1:Int) ≤ ((List.length d.cons:Nat) :Int)
  · by_cases h2: ((List.length d.cons:Nat) :Int) ≤5
    ·exact Ends.eqv (bBz d true _ hg rfl (by simp;omega) (by simp;omega) (bB0 d.cons (by omega) hf)) (by simp [aW,h1,h2])
    ·exact Ends.eqv (bBA d true hg rfl (by simp;omega) (by simp;omega)) (by simp [aW,h2])
  ·exact Ends.eqv (bBB d true hg rfl (by simp;omega)) (by simp [aW,h1])
theorem aWi :∀ (f:FunD),aBI f→Pure PP 105 [Part.av (.fn f)] (.bool (wP f))
 | .mk n p (.mk f0 f1 f2 f3) (.mk g0 g1 g2 g3) (.mk b0 b1 b2 b3 b4),hf=>by
  obtain⟨hf1',hg1',hb1'⟩ :=hf;refine bM (s:=bE6 n p f0 f1 f2 f3 g0 g1 g2 g3 b0 b1 b2 b3 b4) (by kernel_rfl) (by kernel_rfl) (by simp [AV.keylessL,aHY]) rfl ?_;have hn:=iV n;have hp:=iV p;have hf1:=aEi (.mk f0 f1 f2 f3) hf1';have hg1:=aEi (.mk g0 g1 g2 g3) hg1';have hb1:=aEg (.mk b0 b1 b2 b3 b4) hb1';unfold wP;cases e1:dE n with
  |false=>rw [e1]at hn;exact Ends.eqv (bBH n p f0 f1 f2 f3 g0 g1 g2 g3 b0 b1 b2 b3 b4 false hn rfl) (by simp [e1])
  | true=>
   rw [e1]at hn;cases e2:dE p with
   |false=>rw [e2]at hp;exact Ends.eqv (bBG n p f0 f1 f2 f3 g0 g1 g2 g3 b0 b1 b2 b3 b4 true false hn rfl hp rfl) (by simp [e2])
   | true=>
    rw [e2]at hp;cases e3:aCF (.mk f0 f1 f2 f3)with
    |false=>rw [e3]at hf1;exact Ends.eqv (bBF n p f0 f1 f2 f3 g0 g1 g2 g3 b0 b1 b2 b3 b4 true true false hn rfl hp rfl hf1 rfl) (by simp [e3])
    | true=>
     rw [e3]at hf1;cases e4:aCF (.mk g0 g1 g2 g3)with
     |false=>rw [e4]at hg1;exact Ends.eqv (bBE n p f0 f1 f2 f3 g0 g1 g2 g3 b0 b1 b2 b3 b4 true true true false hn rfl hp rfl hf1 rfl hg1 rfl) (by simp [e4])
     | true=>
      rw [e4]at hg1;exact Ends.eqv (bBD n p f0 f1 f2 f3 g0 g1 g2 g3 b0 b1 b2 b3 b4 true true true true _ hn rfl hp rfl hf1 rfl hg1 rfl hb1) (by cases e5:lF (.mk b0 b1 b2 b3 b4) <;>simp [e1,e2,e3,e4,e5])
theorem aH6 (l:List Part)(hl:l.length<1000000)(hf:∀x∈l,aH5 x) :∀ (ts:List Part) (i:Nat),l.drop i=ts→Ends PP 0 (aH1 l (i:Int)).as (.ret (.bool (ts.all uG))) (aG [] 0)
 | [],i,h=>by
  have:=bD h;exact bBL l i sd
 | .data d::ts,i,h=>by
  obtain⟨g1,g2,g3⟩ :=bB h;have hp:=aWh d (hf _ (List.mem_of_getElem? g1));rw [List.all_cons,uG];cases hb:uF d with
  | true=>
   rw [hb]at hp;exact(bBK l i d true sd sd sd hp rfl sd).ends (Ends.eqv (aH6 l hl hf ts (i+1) g2) (by simp))
  | false=>
   rw [hb]at hp;exact Ends.eqv (bBJ l i d false sd sd sd hp rfl) (by simp)
 | .fn (.mk n p (.mk f0 f1 f2 f3) (.mk g0 g1 g2 g3) (.mk b0 b1 b2 b3 b4)) ::ts,i,h=>by
  obtain⟨q1,q2,q3⟩ :=bB h;have hp:=aWi (.mk n p (.mk f0 f1 f2 f3) (.mk g0 g1 g2 g3) (.mk b0 b1 b2 b3 b4)) (hf _ (List.mem_of_getElem? q1));rw [List.all_cons,uG];cases hb:wP (.mk n p (.mk f0 f1 f2 f3) (.mk g0 g1 g2 g3) (.mk b0 b1 b2 b3 b4))with
  | true=>
   rw [hb]at hp;exact(bBN l i n p f0 f1 f2 f3 g0 g1 g2 g3 b0 b1 b2 b3 b4 true sd sd sd hp rfl sd).ends (Ends.eqv (aH6 l hl hf ts (i+1) q2) (by simp))
  | false=>
   rw [hb]at hp;exact Ends.eqv (bBM l i n p f0 f1 f2 f3 g0 g1 g2 g3 b0 b1 b2 b3 b4 false sd sd sd hp rfl) (by simp)
theorem bB1 (l:List Part)(hl:l.length<1000000)(hf:∀x∈l,aH5 x) :Pure PP 104 [.ilst 1 (Parts.av l) false,.func 105 [] []] (.bool (l.all uG)) :=
 bM (s:=bE7 l) (by kernel_rfl) (by kernel_rfl) (by simp [AV.keylessL,AV.keyless]) rfl ((bBI l).ends (aH6 l hl hf l 0 rfl))
theorem bIg (m:Mod)(h5:m.funs.length≤5)(l0:List Part)(hl0:l0.length≤10)(hf0:∀x∈l0,aH5 x)(hf:∀f∈m.funs,aBI f) :∀ (fs:List FunD) (i:Nat) (l:List Part),m.funs.drop i=fs→l=l0++ (m.funs.take i).map Part.fn →
  Ends PP 0 (aH3 m l (i:Int)).as (.ret (.int .i64 (if(l0.all uG&&m.funs.all wP) =true then 0 else 2))) (aG [] 0)
 | [],i,l,h,e=>by
  have:=bD h;have e2:l=l0++m.funs.map Part.fn:=by rw [e,List.take_of_length_le this]
  have hp:=bB1 l (by rw [e2];simp;omega) (fun x hx=>by
   rw [e2]at hx;rcases List.mem_append.1 hx with hx|hx
   ·exact hf0 x hx
   · obtain⟨f,hf',rfl⟩ :=List.mem_map.1 hx;exact hf f hf')
  have ea:l.all uG= (l0.all uG&&m.funs.all wP) :=by
   rw [e2,List.all_append,List.all_map];rfl
  rw [ea]at hp;cases hb: (l0.all uG&&m.funs.all wP)with
  |true=>rw [hb]at hp;exact Ends.eqv (bBX m l i true sd hp rfl) (by simp)
  |false=>rw [hb]at hp;exact Ends.eqv (bBW m l i false sd hp rfl) (by simp)
 | .mk n p (.mk f0 f1 f2 f3) (.mk g0 g1 g2 g3) (.mk b0 b1 b2 b3 b4) ::fs,i,l,h,e=>by
  obtain⟨q1,q2,q3⟩ :=bB h;have hi:i<m.funs.length:= (List.getElem?_eq_some_iff.1 q1).1;refine(bBV m l i n p f0 f1 f2 f3 g0 g1 g2 g3 b0 b1 b2 b3 b4 sd sd sd (by rw [e];simp;omega) sd).ends ?_;refine bIg m h5 l0 hl0 hf0 hf fs (i+1) _ q2 ?_;rw [e,List.take_add_one,q1];simp
theorem bIh (m:Mod)(h5:m.funs.length≤5)(h4:m.datas.length≤4)(hf:∀f∈m.funs,aBI f)(hd:∀d∈m.datas,aEj d) :∀ (ds:List DataD) (i:Nat) (l:List Part),m.datas.drop i=ds→l= (m.datas.take i).map Part.data →
  Ends PP 0 (aH2 m (i:Int) l).as (.ret (.int .i64 (if(m.datas.all uF&&m.funs.all wP) =true then 0 else 2))) (aG [] 0)
 | [],i,l,h,e=>by
  have:=bD h;have e2:l=m.datas.map Part.data:=by rw [e,List.take_of_length_le this]
  have E:=bIg m h5 l (by rw [e2];simp;omega) (fun x hx=>by
   rw [e2]at hx;obtain⟨d,hd',rfl⟩ :=List.mem_map.1 hx;exact hd d hd') hf m.funs 0 l rfl (by simp)
  have ea:l.all uG=m.datas.all uF:=by rw [e2,List.all_map];rfl
  rw [ea]at E;exact(bBU m i l sd).ends E
 | d::ds,i,l,h,e=>by
  obtain⟨g1,g2,g3⟩ :=bB h;have hi:i<m.datas.length:= (List.getElem?_eq_some_iff.1 g1).1;refine(bBT m i l d sd sd sd (by rw [e];simp;omega) sd).ends ?_;refine bIh m h5 h4 hf hd ds (i+1) _ g2 ?_;rw [e,List.take_add_one,g1];simp
theorem aWj (m:Mod)(hf:∀f∈m.funs,aBI f)(hd:∀d∈m.datas,aEj d) :Pure PP 41 [Mod.av m] (.int .i64 (if aOL m=true then 0 else 2)) :=by
 refine bM (s:=bE8 m) (by kernel_rfl) (by kernel_rfl) (by simp [AV.keylessL,aH4]) (by simp [AV.keyless]) ?_;have hn:=iV m.name;unfold aOL;cases e1:dE m.name with
 |false=>rw [e1]at hn;exact Ends.eqv (bBO m false hn rfl) (by simp)
 | true=>
  rw [e1]at hn;by_cases h2: ((List.length m.datas:Nat) :Int) ≤4
  · by_cases h3: (1:Int) ≤ ((List.length m.funs:Nat) :Int)
    · by_cases h4: ((List.length m.funs:Nat) :Int) ≤5
      ·exact(bBS m true hn rfl (by simp;omega) (by simp;omega) (by simp;omega)).ends (Ends.eqv (bIh m (by omega) (by omega) hf hd m.datas 0 [] rfl (by simp)) (by simp [aW,h2,h3,h4]))
      ·exact Ends.eqv (bBR m true hn rfl (by simp;omega) (by simp;omega) (by simp;omega)) (by simp [aW,h4])
    ·exact Ends.eqv (bBQ m true hn rfl (by simp;omega) (by simp;omega)) (by simp [aW,h3])
  ·exact Ends.eqv (bBP m true hn rfl (by simp;omega)) (by simp [h2])
end Go.Hb
namespace Go.Hb
open Go.Proofs
def pre (p:Prog) :Nat→Int→List Int
 |0,_=>[]
 | f+1,a=>match p.nodes[a.toNat]? with
  |some x=>a:: (x.kids.map (pre p f)).flatten
  |none=>[]
def aWk :List Int→Int→List Int→List Int
 |l,_,[] =>l
 |l,n,b::bs=>aWk (l.set b.toNat n) (n+1) bs
section
variable {p :Prog}
end
end Go.Hb
namespace Go.Hb
open Go.Proofs
section
variable {p :Prog} {mf mc:List (Int×Int)} {F C:List Int} {to:List Int}
end
end Go.Hb
namespace Go.Hb
open Go.Proofs
set_option maxHeartbeats 1000000
end Go.Hb
namespace Go.Hb
open Go.Proofs
noncomputable section
end
end Go.Hb
namespace Go.Hb
open Go.Proofs
noncomputable section
end
end Go.Hb
namespace Go.Hb
open Go.Proofs
set_option maxHeartbeats 1000000
def kD (x:Node)(i:Nat) :Nat→List Int→List Int→List Int
 |_,[],l=>l
 |j,k::ks,l=>kD x i (j+1) ks (l.set k.toNat (l.getD i 0+bJ x j))
def jO :Nat→List Node→List Int→List Int
 |_,[],l=>l
 |i,x::t,l=>jO (i+1) t (kD x i 0 x.kids l)
def rK :List Int→List Int→List Int
 | [],l=>l
 |f::fs,l=>rK fs (l.set f.toNat 1)
def fD (p:Prog) :List Int:=jO 0 p.nodes (rK p.funs (List.replicate p.nodes.length 0))
theorem uH (x:Node)(i:Nat) :∀ (t:List Int) (j:Nat) (l:List Int),(kD x i j t l).length=l.length
 | [],_,_=>rfl
 |k::t,j,l=>by rw [kD,uH x i t];simp
theorem aCi :∀ (t:List Node) (i:Nat) (l:List Int),(jO i t l).length=l.length
 | [],_,_=>rfl
 |x::t,i,l=>by rw [jO,aCi t,uH]
theorem zT :∀ (t:List Int) (l:List Int),(rK t l).length=l.length
 | [],_=>rfl
 |f::t,l=>by rw [rK,zT t];simp
theorem zU (p:Prog) : (fD p).length=p.nodes.length:=by rw [fD,aCi,zT];simp
end Go.Hb
namespace Go.Hb
open Go.Proofs
theorem pU {lo n:Int}:∀ {ks:List Int} {u v:List Bool},marks lo n ks u=some v→∀k∈ks,lo≤k∧k≤n-1
 | [],_,_,_,k,hk=>by cases hk
 | a ::ks,u,v,h,k,hk=>by
  simp only [marks]at h;split at h
  · rename_i g;rcases List.mem_cons.1 hk with rfl|hk
    ·exact inB_iff.1 g.1
    ·exact pU h k hk
  ·cases h
theorem xQ {lo n:Int}:∀ {ks:List Int} {u v:List Bool},marks lo n ks u=some v→∀m:Nat,v[m]?=some true→u[m]?=some true∨∃k∈ks,k.toNat=m
 | [],u,v,h,m,hm=>by simp only [marks,Option.some.injEq]at h;rw [h];exact .inl hm
 | a ::ks,u,v,h,m,hm=>by
  simp only [marks]at h;split at h
  · rcases xQ h m hm with g| ⟨k,hk,e⟩
    · by_cases e:a.toNat=m
      ·exact .inr ⟨a,List.mem_cons_self ..,e⟩
      ·rw [List.getElem?_set_ne e]at g;exact .inl g
    ·exact .inr ⟨k,List.mem_cons_of_mem _ hk,e⟩
  ·cases h
theorem pV {lo n:Int}:∀ {ks:List Int} {u v:List Bool},marks lo n ks u=some v→∀m:Nat,u[m]?=some true→v[m]?=some true
 | [],u,v,h,m,hm=>by simp only [marks,Option.some.injEq]at h;rw [←h];exact hm
 | a ::ks,u,v,h,m,hm=>by
  simp only [marks]at h;split at h
  · rename_i g;refine pV h m ?_;by_cases e:a.toNat=m
    ·subst e;rw [hm]at g;exact absurd g.2 (by simp)
    ·rw [List.getElem?_set_ne e];exact hm
  ·cases h
theorem kE {lo n k:Int}{ks:List Int}{u v:List Bool}(h:marks lo n (k::ks) u=some v) :u[k.toNat]?=some false∧marks lo n ks (u.set k.toNat true) =some v:=by
 simp only [marks]at h;split at h
 ·rename_i g;exact⟨g.2,h⟩
 ·cases h
theorem fX {p:Prog}{i:Nat}{x:Node}{t:List Node}{u v:List Bool}(h:cI p i (x::t) u=some v) :cO p x=true∧∃w,marks ((i:Int) +1) p.nodes.length x.kids u=some w∧cI p (i+1) t w=some v:=by
 simp only [cI]at h;split at h
 · rename_i g;split at h
   ·rename_i w hw;exact⟨g,w,hw,h⟩
   ·cases h
 ·cases h
theorem aA5 {p:Prog}:∀ {t:List Node} {i:Nat} {u v:List Bool},cI p i t u=some v→∀m:Nat,m≤i→v[m]?=some true→u[m]?=some true
 | [],i,u,v,h,m,_,hm=>by simp only [cI,Option.some.injEq]at h;rw [h];exact hm
 | x::t,i,u,v,h,m,hi,hm=>by
  obtain⟨_,w,hw,h2⟩ :=fX h;rcases xQ hw m (aA5 h2 m (by omega) hm)with g| ⟨k,hk,e⟩
  ·exact g
  ·have:=pU hw k hk;omega
theorem oH {p:Prog}:∀ {t:List Node} {i:Nat} {u v:List Bool},cI p i t u=some v→v.length=u.length
 | [],i,u,v,h=>by simp only [cI,Option.some.injEq]at h;rw [h]
 | x::t,i,u,v,h=>by
  obtain⟨_,w,hw,h2⟩ :=fX h;rw [oH h2,lW hw]
theorem oI {p:Prog}:∀ {t:List Node} {i:Nat} {u v:List Bool},cI p i t u=some v→∀ (j:Nat) (x:Node),t[j]?=some x→cO p x=true∧∀k∈x.kids,((i+j:Nat) :Int) <k∧k<p.nodes.length
 | [],i,u,v,h,j,x,hx=>by simp at hx
 | y::t,i,u,v,h,j,x,hx=>by
  obtain⟨g,w,hw,h2⟩ :=fX h;cases j with
  | zero=>
   simp at hx;subst hx;exact⟨g,fun k hk=>by have:=pU hw k hk;omega⟩
  | succ j=>
   have:=oI h2 j x (by simpa using hx);exact⟨this.1,fun k hk=>by have:=this.2 k hk;omega⟩
theorem aA6 {p:Prog}:∀ {t:List Node} {i:Nat} {u v:List Bool},cI p i t u=some v→∀m:Nat,v[m]?=some true→u[m]?=some true∨∃ (j:Nat) (x:Node) (k:Int),t[j]?=some x∧k∈x.kids∧k.toNat=m
 | [],i,u,v,h,m,hm=>by simp only [cI,Option.some.injEq]at h;rw [h];exact .inl hm
 | y ::t,i,u,v,h,m,hm=>by
  obtain⟨g,w,hw,h2⟩ :=fX h;rcases aA6 h2 m hm with a| ⟨j,x,k,a1,a2,a3⟩
  · rcases xQ hw m a with b| ⟨k,b1,b2⟩
    ·exact .inl b
    ·exact .inr ⟨0,y,k,rfl,b1,b2⟩
  ·exact .inr ⟨j+1,x,k,by simpa using a1,a2,a3⟩
theorem qU {x:Node}{i:Nat}{lo n:Int}:∀ {t:List Int} {j:Nat} {u v:List Bool} {l:List Int},marks lo n t u=some v→∀m:Nat,u[m]?=some true→ (kD x i j t l)[m]?=l[m]?
 | [],_,_,_,_,_,_,_=>rfl
 | k::t,j,u,v,l,h,m,hm=>by
  obtain⟨h1,h2⟩ :=kE h;have hne:k.toNat≠m:=fun e=>by rw [e,hm]at h1;cases h1
  rw [kD,qU h2 m (by rw [List.getElem?_set_ne hne];exact hm),List.getElem?_set_ne hne]
theorem oJ {p:Prog}:∀ {t:List Node} {i:Nat} {u v:List Bool} {l:List Int},cI p i t u=some v→∀m:Nat,u[m]?=some true→ (jO i t l)[m]?=l[m]?
 | [],_,_,_,_,_,_,_=>rfl
 | x::t,i,u,v,l,h,m,hm=>by
  obtain⟨_,w,hw,h2⟩ :=fX h;rw [jO,oJ h2 m (pV hw m hm),qU hw m hm]
theorem aCj {lo n:Int}:∀ {t:List Int} {u v:List Bool} {l:List Int},marks lo n t u=some v→∀m:Nat,u[m]?=some true→ (rK t l)[m]?=l[m]?
 | [],_,_,_,_,_,_=>rfl
 | k::t,u,v,l,h,m,hm=>by
  obtain⟨h1,h2⟩ :=kE h;have hne:k.toNat≠m:=fun e=>by rw [e,hm]at h1;cases h1
  rw [rK,aCj h2 m (by rw [List.getElem?_set_ne hne];exact hm),List.getElem?_set_ne hne]
theorem aEk {x:Node}{i:Nat}{lo n:Int}:∀ {t:List Int} {j:Nat} {u v:List Bool} {l:List Int},marks lo n t u=some v→u.length=l.length→u[i]?=some true→∀ (d:Nat) (k:Int),t[d]?=some k→ (kD x i j t l)[k.toNat]?=some (l.getD i 0+bJ x ((j+d:Nat) :Int))
 | [],_,_,_,_,_,_,_,d,k,hk=>by simp at hk
 | a::t,j,u,v,l,h,hul,hi,d,k,hk=>by
  obtain⟨h1,h2⟩ :=kE h;have hai:a.toNat≠i:=fun e=>by rw [e,hi]at h1;cases h1
  have hal:a.toNat<u.length:= (List.getElem?_eq_some_iff.1 h1).1;rw [kD];cases d with
  | zero=>
   simp at hk;subst hk;rw [qU h2 _ (by rw [List.getElem?_set_self hal]),List.getElem?_set_self (by omega)];simp
  | succ d=>
   have:=aEk (x:=x) (i:=i) (j:=j+1) (l:=l.set a.toNat (l.getD i 0+bJ x j)) h2 (by simpa using hul) (by rw [List.getElem?_set_ne hai];exact hi) d k (by simpa using hk);rw [this,List.getD_eq_getElem?_getD,List.getElem?_set_ne hai,←List.getD_eq_getElem?_getD];congr 3;omega
theorem aCk {p:Prog}:∀ {t:List Node} {i:Nat} {u v:List Bool} {l:List Int},cI p i t u=some v→ (∀m,m<v.length→v[m]?=some true) →u.length=l.length→i+t.length≤u.length→∀ (j:Nat) (x:Node) (d:Nat) (k:Int),t[j]?=some x→x.kids[d]?=some k →
  ∃s,(jO i t l)[i+j]?=some s∧ (jO i t l)[k.toNat]?=some (s+bJ x d)
 | [],_,_,_,_,_,_,_,_,j,x,d,k,hx,_=>by simp at hx
 | y ::t,i,u,v,l,h,hv,hul,hil,j,x,d,k,hx,hk=>by
  obtain⟨_,w,hw,h2⟩ :=fX h;have hwl:=lW hw;simp only [List.length_cons]at hil;rw [jO];cases j with
  | zero=>
   simp at hx;subst hx;have hvl:=oH h;have hi:u[i]?=some true:=aA5 h i (Nat.le_refl _) (hv i (by omega));have hk2:=aEk (x:=y) (i:=i) (j:=0) (l:=l) hw hul hi d k hk;have hwk:w[k.toNat]?=some true:=by
    have hkin:=pU hw k (List.mem_of_getElem? hk);have all:∀ {lo n:Int} {ks:List Int} {u v:List Bool},marks lo n ks u=some v→∀k∈ks,v[k.toNat]?=some true:=by
     intro lo n ks
     induction ks with
     |nil=>intro u v _ k hk;cases hk
     | cons a ks ih=>
      intro u v h k hk;obtain⟨h1,h2⟩ :=kE h;rcases List.mem_cons.1 hk with rfl|hk
      ·exact pV h2 _ (List.getElem?_set_self (List.getElem?_eq_some_iff.1 h1).1)
      ·exact ih h2 k hk
    exact all hw k (List.mem_of_getElem? hk)
   refine⟨l.getD i 0,?_,?_⟩
   · show(jO (i+1) t (kD y i 0 y.kids l))[i]?=some (l.getD i 0);rw [oJ h2 i (pV hw i hi),qU hw i hi,List.getD_eq_getElem?_getD,List.getElem?_eq_getElem (by omega)];rfl
   ·rw [oJ h2 _ hwk,hk2];simp
  | succ j=>
   obtain⟨s,a1,a2⟩ :=aCk (l:=kD y i 0 y.kids l) h2 hv (by rw [uH,hwl,hul]) (by omega) j x d k (by simpa using hx) hk;exact⟨s,by rw [←a1];congr 1;omega,a2⟩
structure Sprop (p:Prog) (S:List Int) :Prop where
 len:S.length=p.nodes.length
 root:∀f∈p.funs,S[f.toNat]?=some 1
 kid:∀ (i:Nat) (x:Node) (d:Nat) (k:Int),p.nodes[i]?=some x→x.kids[d]?=some k→∃s,S[i]?=some s∧S[k.toNat]?=some (s+bJ x d)
def aOO (p:Prog) :Prop:=∀m,m<p.nodes.length→ (∃f∈p.funs,f.toNat=m) ∨∃ (i:Nat) (x:Node) (k:Int),p.nodes[i]?=some x∧k∈x.kids∧k.toNat=m∧i<m
theorem aCl {lo n:Int}:∀ {t:List Int} {u v:List Bool} {l:List Int},marks lo n t u=some v→u.length=l.length→∀f∈t,(rK t l)[f.toNat]?=some 1
 | [],_,_,_,_,_,f,hf=>by cases hf
 | a::t,u,v,l,h,hul,f,hf=>by
  obtain⟨h1,h2⟩ :=kE h;have hal:a.toNat<u.length:= (List.getElem?_eq_some_iff.1 h1).1;rw [rK];rcases List.mem_cons.1 hf with rfl|hf
  ·rw [aCj h2 _ (List.getElem?_set_self hal),List.getElem?_set_self (by omega)]
  ·exact aCl h2 (by simpa using hul) f hf
theorem uI {p:Prog}(hp:aN p=true)(hf:bC p=true) :FineP p∧Sprop p (fD p) ∧aOO p:=by
 have hs:=hp;simp only [aN,Bool.and_eq_true,decide_eq_true_eq]at hs;obtain⟨⟨⟨⟨s1,s2⟩,s3⟩,_⟩,s5⟩ :=hs;simp only [bC,Bool.and_eq_true]at hf;obtain⟨_,hf⟩ :=hf;split at hf
 · rename_i u hu;unfold allT at hf;split at hf
   · rename_i v hv;have hul:u.length=p.nodes.length:=by rw [lW hu];simp
     have hvl:v.length=p.nodes.length:=by rw [oH hv,hul]
     have hall:∀m,m<v.length→v[m]?=some true:=fun m hm=>by
      rw [List.getElem?_eq_getElem hm];have:=List.all_eq_true.1 hf _ (List.getElem_mem hm);simpa using this
     have hnodes:=oI hv;refine⟨⟨s1,s2,fun i x hx=>?_,fun f hf=>?_⟩,⟨zU p,fun f hf=>?_,fun i x d k hx hk=>?_⟩,fun m hm=>?_⟩
     · have:=hnodes i x hx;have h10:=List.all_eq_true.1 s5 x (List.mem_of_getElem? hx);simp only [bQ,Bool.and_eq_true,decide_eq_true_eq]at h10;exact⟨aOn this.1,h10.1.1,fun k hk=>by have:=this.2 k hk;omega⟩
     ·have:=pU hu f hf;omega
     · rw [fD];have hfm:u[f.toNat]?=some true:=by
        have all:∀ {lo n:Int} {ks:List Int} {u v:List Bool},marks lo n ks u=some v→∀k∈ks,v[k.toNat]?=some true:=by
         intro lo n ks
         induction ks with
         |nil=>intro u v _ k hk;cases hk
         | cons a ks ih=>
          intro u v h k hk;obtain⟨h1,h2⟩ :=kE h;rcases List.mem_cons.1 hk with rfl|hk
          ·exact pV h2 _ (List.getElem?_set_self (List.getElem?_eq_some_iff.1 h1).1)
          ·exact ih h2 k hk
        exact all hu f hf
       rw [oJ hv _ hfm];exact aCl hu (by simp) f hf
     · obtain⟨s,a1,a2⟩ :=aCk (l:=rK p.funs (List.replicate p.nodes.length 0)) hv hall (by rw [zT,hul];simp) (by omega) i x d k hx hk;exact⟨s,by rw [fD,←a1];congr 1;omega,a2⟩
     · rcases aA6 hv m (hall m (by omega))with g| ⟨j,x,k,g1,g2,g3⟩
       · rcases xQ hu m g with a| ⟨f,a1,a2⟩
         ·rw [List.getElem?_replicate]at a;split at a<;>simp at a
         ·exact .inl ⟨f,a1,a2⟩
       · have:= (hnodes j x g1).2 k g2;exact .inr ⟨j,x,k,g1,g2,g3,by omega⟩
   ·cases hf
 ·cases hf
end Go.Hb
namespace Go.Hb
open Go.Proofs
inductive Reach (p:Prog) :Nat→Nat→Prop where
 |refl (a:Nat) :Reach p a a
 |step {a i:Nat} {x:Node} {k:Int}:Reach p a i→p.nodes[i]?=some x→k∈x.kids→Reach p a k.toNat
theorem Reach.first {p:Prog}{a m:Nat}(h:Reach p a m) :m=a∨∃ (x:Node) (k:Int),p.nodes[a]?=some x∧k∈x.kids∧Reach p k.toNat m:=by
 induction h with
 |refl=>exact .inl rfl
 | step h hx hk ih=>
  rename_i i x k;rcases ih with rfl| ⟨y,q,h1,h2,h3⟩
  ·exact .inr ⟨x,k,hx,hk,Reach.refl _⟩
  ·exact .inr ⟨y,q,h1,h2,h3.step hx hk⟩
theorem aKH {p:Prog}(hs:aN p=true) :Pure PP 32 [Prog.av p] (.int .i64 (checkN (bC p))) :=by
 have h2:=aKq p hs;rw [aQN]at h2;exact h2
end Go.Hb
namespace Go.Hb
open Go.Proofs
theorem qV {p:Prog}(hp:aN p=true)(hf:bC p=true) :FineP p:=by
 have hs:=hp;simp only [aN,Bool.and_eq_true,decide_eq_true_eq]at hs;obtain⟨⟨⟨⟨s1,s2⟩,s3⟩,_⟩,s5⟩ :=hs;simp only [bC,Bool.and_eq_true]at hf;obtain⟨_,hf⟩ :=hf;split at hf
 · rename_i u hu;unfold allT at hf;split at hf
   · rename_i v hv;refine⟨s1,s2,fun i x hx=>?_,fun f hf=>?_⟩
     · have:=oI hv i x hx;have h10:=List.all_eq_true.1 s5 x (List.mem_of_getElem? hx);simp only [bQ,Bool.and_eq_true,decide_eq_true_eq]at h10;exact⟨aOn this.1,h10.1.1,fun k hk=>by have:=this.2 k hk;omega⟩
     ·have:=pU hu f hf;omega
   ·cases hf
 ·cases hf
def bFb (n:Nat)(m:List (Int×Int))(l:List Int) :Prop:=∀i:Int,0≤i→i<n→l[i.toNat]?=some (uQ m i)
mutual
theorem bG8 (cons:List Con){mc:List (Int×Int)}{C:List Int}(hC:bFb cons.length mc C) :∀ (q:Pat),cT cons q=true→aM3 C q=some (nA mc q)
 | .mk f n s ps,h=>by
  rw [cT,Bool.and_eq_true]at h;have hps:=aOP cons hC ps h.2;have hN:aOf C f n=some (if f=6 then uQ mc n else n) :=by
   unfold aOf;by_cases hf:f=6
   · subst hf;have hh:=h.1;simp only [dA]at hh;simp [aW]at hh;obtain⟨⟨⟨h0,h1⟩,_⟩,_⟩ :=hh;rw [if_pos rfl,if_pos rfl,if_pos h0,hC n h0 (by omega)]
   ·rw [if_neg hf,if_neg hf]
  rw [aM3,hN];simp only;rw [hps,nA]
theorem aOP (cons:List Con){mc:List (Int×Int)}{C:List Int}(hC:bFb cons.length mc C) :∀ (ps:List Pat),cB cons ps=true→aD3 C ps=some (eO mc ps)
 | [],_=>rfl
 | q::ps,h=>by
  rw [cB,Bool.and_eq_true]at h;rw [aD3,bG8 cons hC q h.1];simp only;rw [aOP cons hC ps h.2,eO]
end
theorem aEl {cons:List Con}:∀ {ps:List Pat},(∀q∈ps,cT cons q=true) →cB cons ps=true
 | [],_=>rfl
 | q::ps,h=>by
  rw [cB,h q (List.mem_cons_self ..),aEl (fun x hx=>h x (List.mem_cons_of_mem _ hx))];rfl
theorem aF7 {c:Nat}:∀ {ps:List Pat},(∀q∈ps,aP q≤c) →aK ps≤c*ps.length
 | [],_=>by simp [aK]
 | q::ps,h=>by
  have h1:=h q (List.mem_cons_self ..);have h2:=aF7 (c:=c) (ps:=ps) (fun x hx=>h x (List.mem_cons_of_mem _ hx));simp only [aK,List.length_cons];rw [Nat.mul_add,Nat.mul_one];omega
end Go.Hb
namespace Go.Hb
open Go.Proofs
def fE (p:Prog)(i:Int) :List Int:=match p.nodes[i.toNat]? with
 |some x=>x.kids
 |none=>[]
section
variable {p :Prog}
theorem zV {q:Int→List Int}(m:Int) :∀ (ks:List Int),(∀k∈ks,(q k).count m= [k].count m+ (((q k).map (fE p)).flatten).count m) →
  ((ks.map q).flatten).count m=ks.count m+ ((((ks.map q).flatten).map (fE p)).flatten).count m
 | [],_=>rfl
 | k::ks,h=>by
  have h1:=h k (List.mem_cons_self ..);have h2:=zV m ks (fun x hx=>h x (List.mem_cons_of_mem _ hx));rw [List.map_cons,List.flatten_cons,List.count_append,List.map_append,List.flatten_append,List.count_append,h1,h2,show k::ks= [k] ++ks from rfl,List.count_append];omega
theorem aF8 (hp:FineP p)(m:Int) :∀ (f:Nat) (a:Int),0≤a→a<p.nodes.length→p.nodes.length-a.toNat≤f→ (pre p f a).count m= [a].count m+ (((pre p f a).map (fE p)).flatten).count m
 |0,a,ha,hn,hf=>by omega
 | f+1,a,ha,hn,hf=>by
  obtain⟨x,hx⟩ :∃x,p.nodes[a.toNat]?=some x:= ⟨_,List.getElem?_eq_getElem (by omega)⟩;obtain⟨_,_,hks⟩ :=hp.node _ _ hx;have e:pre p (f+1) a=a:: (x.kids.map (pre p f)).flatten:=by rw [pre,hx]
  have ek:fE p a=x.kids:=by unfold fE;rw [hx]
  have h2:=zV (p:=p) m x.kids (fun k hk=>by
   have:=hks k hk;exact aF8 hp m f k (by omega) (by omega) (by omega))
  rw [e,List.map_cons,List.flatten_cons,List.count_append,ek,show a:: (x.kids.map (pre p f)).flatten= [a] ++ (x.kids.map (pre p f)).flatten from rfl,List.count_append,h2]
theorem aWl (hp:FineP p) :∀ (f:Nat) (a:Int),0≤a→a<p.nodes.length→∀y∈pre p f a,0≤y∧y<p.nodes.length
 |0,a,_,_,y,hy=>by cases hy
 | f +1,a,ha,hn,y,hy=>by
  obtain⟨x,hx⟩ :∃x,p.nodes[a.toNat]?=some x:= ⟨_,List.getElem?_eq_getElem (by omega)⟩;obtain⟨_,_,hks⟩ :=hp.node _ _ hx;have e:pre p (f+1) a=a:: (x.kids.map (pre p f)).flatten:=by rw [pre,hx]
  rw [e]at hy;rcases List.mem_cons.1 hy with rfl|hy
  ·exact⟨ha,hn⟩
  · obtain⟨l,hl,hy⟩ :=List.mem_flatten.1 hy;obtain⟨k,hk,rfl⟩ :=List.mem_map.1 hl;have:=hks k hk;exact aWl hp f k (by omega) (by omega) y hy
def wQ (u:List Bool)(m:Int) :Nat:=if u[m.toNat]?=some true then 1 else 0
theorem qW {lo n:Int}(hlo:0≤lo){m:Int}(hm:0≤m) :∀ {ks:List Int} {u v:List Bool},marks lo n ks u=some v→ks.count m+wQ u m=wQ v m
 | [],u,v,h=>by cases h;simp
 | k ::ks,u,v,h=>by
  have hk:=pU h k (List.mem_cons_self ..);obtain⟨h1,h2⟩ :=kE h;have h3:=qW hlo hm h2;rw [←h3,show k::ks= [k] ++ks from rfl,List.count_append];have hlt:= (List.getElem?_eq_some_iff.1 h1).1;by_cases e:k=m
  · subst e;have a1:wQ u k=0:=by unfold wQ;rw [h1];rfl
    have a2:wQ (u.set k.toNat true) k=1:=by unfold wQ;rw [List.getElem?_set_self hlt];rfl
    rw [a1,a2];simp;omega
  · have a1:wQ (u.set k.toNat true) m=wQ u m:=by unfold wQ;rw [List.getElem?_set_ne (by omega)]
    rw [a1,List.count_singleton,if_neg (by simpa using e)];omega
theorem pW {m:Int}(hm:0≤m) :∀ {t:List Node} {i:Nat} {u v:List Bool},cI p i t u=some v→ ((t.map Node.kids).flatten).count m+wQ u m=wQ v m
 | [],i,u,v,h=>by simp only [cI,Option.some.injEq]at h;subst h;simp
 | x::t,i,u,v,h=>by
  obtain⟨_,w,h1,h2⟩ :=fX h;have h3:=qW (by omega) hm h1;have h4:=pW hm h2;rw [List.map_cons,List.flatten_cons,List.count_append];omega
theorem aF9 {m:Int}:∀ {t:List Node},((t.map Node.kids).flatten).count m≤1→∀ (i j:Nat) (x y:Node),t[i]?=some x→t[j]?=some y→m∈x.kids→m∈y.kids→i=j
 | [],_,i,j,x,y,hx,_,_,_=>by simp at hx
 | z ::t,h,i,j,x,y,hx,hy,mx,my=>by
  rw [List.map_cons,List.flatten_cons,List.count_append]at h;have inT:∀ {i:Nat} {x:Node},t[i]?=some x→m∈x.kids→0< ((t.map Node.kids).flatten).count m:=fun {i x} hx mx=>
   List.count_pos_iff.2 (List.mem_flatten.2 ⟨x.kids,List.mem_map.2 ⟨x,List.mem_of_getElem? hx,rfl⟩,mx⟩)
  cases i with
  | zero=>
   simp only [List.getElem?_cons_zero,Option.some.injEq]at hx;subst hx;cases j with
   |zero=>rfl
   | succ j=>
    simp only [List.getElem?_cons_succ]at hy;have:=inT hy my;have:=List.count_pos_iff.2 mx;omega
  | succ i=>
   simp only [List.getElem?_cons_succ]at hx;cases j with
   | zero=>
    simp only [List.getElem?_cons_zero,Option.some.injEq]at hy;subst hy;have:=inT hx mx;have:=List.count_pos_iff.2 my;omega
   | succ j=>
    simp only [List.getElem?_cons_succ]at hy;rw [aF9 (by omega) i j x y hx hy mx my]
theorem aOQ {m:Int}:∀ {t:List Node} {i:Nat} {x:Node},t[i]?=some x→x.kids.count m≤ ((t.map Node.kids).flatten).count m
 | [],i,x,hx=>by simp at hx
 | z::t,0,x,hx=>by
  simp only [List.getElem?_cons_zero,Option.some.injEq]at hx;subst hx;rw [List.map_cons,List.flatten_cons,List.count_append];omega
 | z::t,i+1,x,hx=>by
  simp only [List.getElem?_cons_succ]at hx;have:=aOQ (m:=m) hx;rw [List.map_cons,List.flatten_cons,List.count_append];omega
theorem aOR {m i:Int}:∀ (L:List Int),(∀j∈L,m∈fE p j→j=i) → ((L.map (fE p)).flatten).count m≤L.count i* (fE p i).count m
 | [],_=>by simp
 | j ::L,h=>by
  have h1:=aOR L (fun x hx=>h x (List.mem_cons_of_mem _ hx));rw [List.map_cons,List.flatten_cons,List.count_append,show j::L= [j] ++L from rfl,List.count_append,Nat.add_mul];by_cases hm:m∈fE p j
  · have:=h j (List.mem_cons_self ..) hm;subst this;simp;exact h1
  · rw [List.count_eq_zero.2 hm];exact Nat.le_trans (by simpa using h1) (Nat.le_add_left ..)
theorem bIY (hp:FineP p)(hK:∀m:Int,0≤m→p.funs.count m+ ((p.nodes.map Node.kids).flatten).count m≤1){L:List Int}(hin:∀x∈L,0≤x∧x<p.nodes.length)(hL:∀m:Int,L.count m=p.funs.count m+ ((L.map (fE p)).flatten).count m) :∀ (b m:Nat),m≤b→L.count (m:Int) ≤1:=by
 intro b
 induction b with
 | zero=>
  intro m hmb;have hm:m=0:=by omega
  subst hm;have e:=hL ((0:Nat) :Int);have z: ((L.map (fE p)).flatten).count ((0:Nat) :Int) =0:=by
   refine List.count_eq_zero.2 (fun h=>?_);obtain⟨l,hl,hy⟩ :=List.mem_flatten.1 h;obtain⟨j,hj,rfl⟩ :=List.mem_map.1 hl;unfold fE at hy;split at hy
   · rename_i x hx;have:= (hp.node _ _ hx).2.2 _ hy;omega
   ·cases hy
  have:=hK ((0:Nat) :Int) (by omega);omega
 | succ b ih=>
  intro m hmb;have e:=hL (m:Int);have hk:=hK (m:Int) (by omega);by_cases hz: ((L.map (fE p)).flatten).count (m:Int) =0
  ·omega
  · have hpos:=List.count_pos_iff.1 (Nat.pos_of_ne_zero hz);obtain⟨l,hl,hy⟩ :=List.mem_flatten.1 hpos;obtain⟨i,hi,rfl⟩ :=List.mem_map.1 hl;have hir:=hin i hi;obtain⟨x,hx⟩ :∃x,p.nodes[i.toNat]?=some x:= ⟨_,List.getElem?_eq_getElem (by omega)⟩;have ei:fE p i=x.kids:=by unfold fE;rw [hx]
    rw [ei]at hy;have him:= (hp.node _ _ hx).2.2 _ hy;have hci:L.count i≤1:=by
     have:=ih i.toNat (by omega);rwa [show((i.toNat:Nat) :Int) =i by omega]at this
    have hle:=aOR (p:=p) (m:= (m:Int)) (i:=i) L (fun j hj hmj=>by
     have hjr:=hin j hj;obtain⟨y,hy'⟩ :∃y,p.nodes[j.toNat]?=some y:= ⟨_,List.getElem?_eq_getElem (by omega)⟩;have ej:fE p j=y.kids:=by unfold fE;rw [hy']
     rw [ej]at hmj;have:=aF9 (by omega) _ _ y x hy' hx hmj hy;omega)
    rw [ei]at hle;have hkl:=aOQ (m:= (m:Int)) hx;have:L.count i*x.kids.count (m:Int) ≤1*x.kids.count (m:Int) :=Nat.mul_le_mul_right _ hci;omega
theorem xR :∀ (n:Nat) (l:List Nat),l.Nodup→ (∀x∈l,x<n) →l.length≤n
 |0,[],_,_=>by simp
 |0,x::l,_,h=>by have:=h x (List.mem_cons_self ..);omega
 | n+1,l,hd,h=>by
  by_cases hm:n∈l
  · have h1:=xR n (l.erase n) (hd.erase n) (fun x hx=>by
     have:=h x (List.mem_of_mem_erase hx)
     have hne:x≠n:=fun e=>by
      subst e;exact hd.not_mem_erase hx
     omega)
    rw [List.length_erase_of_mem hm]at h1;omega
  · have:=xR n l hd (fun x hx=>by
     have:=h x hx;have hne:x≠n:=fun e=>hm (e ▸ hx);omega)
    omega
end
end Go.Hb
namespace Go.Hb
open Go.Proofs
theorem aEm {L:List Int}(h:∀a,L.count a≤1) :L.Nodup:=List.nodup_iff_count.2 h
theorem aOS :∀ (n:Nat) (l:List Int),(∀i:Nat,i<n→ (i:Int) ∈l) →n≤l.length
 |0,l,_=>Nat.zero_le _
 | n+1,l,h=>by
  have h0:=h n (Nat.lt_succ_self n);have h1:=aOS n (l.erase (n:Int)) (fun i hi=> (List.mem_erase_of_ne (by omega)).2 (h i (by omega)));rw [List.length_erase_of_mem h0]at h1;have:=List.length_pos_of_mem h0;omega
theorem all_in {p:Prog}(hp:FineP p)(hK:∀m:Nat,m<p.nodes.length→p.funs.count (m:Int) + ((p.nodes.map Node.kids).flatten).count (m:Int) =1){L:List Int}(hL:∀m:Int,L.count m=p.funs.count m+ ((L.map (fE p)).flatten).count m) :∀ (b m:Nat),m≤b→m<p.nodes.length→ (m:Int) ∈L:=by
 intro b
 induction b with
 | zero=>
  intro m hmb hm;have e:=hL (m:Int);have hk:=hK m hm;by_cases hz: ((p.nodes.map Node.kids).flatten).count (m:Int) =0
  ·exact List.count_pos_iff.1 (by omega)
  · obtain⟨l,hl,hy⟩ :=List.mem_flatten.1 (List.count_pos_iff.1 (Nat.pos_of_ne_zero hz));obtain⟨x,hx,rfl⟩ :=List.mem_map.1 hl;obtain⟨i,hi⟩ :=List.mem_iff_getElem?.1 hx;have:= (hp.node _ _ hi).2.2 _ hy;omega
 | succ b ih=>
  intro m hmb hm;have e:=hL (m:Int);have hk:=hK m hm;by_cases hz: ((p.nodes.map Node.kids).flatten).count (m:Int) =0
  ·exact List.count_pos_iff.1 (by omega)
  · obtain⟨l,hl,hy⟩ :=List.mem_flatten.1 (List.count_pos_iff.1 (Nat.pos_of_ne_zero hz));obtain⟨x,hx,rfl⟩ :=List.mem_map.1 hl;obtain⟨i,hi⟩ :=List.mem_iff_getElem?.1 hx;have him:= (hp.node _ _ hi).2.2 _ hy;have hiL:=ih i (by omega) (by omega);have: (m:Int) ∈ (L.map (fE p)).flatten:=List.mem_flatten.2 ⟨x.kids,List.mem_map.2 ⟨(i:Int),hiL,by unfold fE;rw [Int.toNat_natCast,hi]⟩,hy⟩;have:=List.count_pos_iff.2 this;exact List.count_pos_iff.1 (by omega)
theorem aNn {p:Prog}(hs:aN p=true)(hf:bC p=true) : ((p.funs.map (pre p p.nodes.length)).flatten).Nodup∧ ((p.funs.map (pre p p.nodes.length)).flatten).length=p.nodes.length∧ (∀x∈ (p.funs.map (pre p p.nodes.length)).flatten,0≤x∧x<p.nodes.length) ∧
  (∀ (i:Nat) (x:Node),p.nodes[i]?=some x→cO p x=true) :=by
 have hp:=qV hs hf;simp only [bC,Bool.and_eq_true]at hf;obtain⟨_,hf⟩ :=hf;split at hf
 · rename_i u hu;unfold allT at hf;split at hf
   · rename_i v hv
     have hK:∀m:Int,0≤m→p.funs.count m+ ((p.nodes.map Node.kids).flatten).count m≤1:=fun m hm=>by
      have h1:=qW (by omega) hm hu;have h2:=pW hm hv;have h3:wQ v m≤1:=by unfold wQ;split<;>omega
      omega
     have hin:∀x∈ (p.funs.map (pre p p.nodes.length)).flatten,0≤x∧x<p.nodes.length:=fun x hx=>by
      obtain⟨l,hl,hy⟩ :=List.mem_flatten.1 hx;obtain⟨k,hk,rfl⟩ :=List.mem_map.1 hl;have:=hp.funs k hk;exact aWl hp _ k this.1 this.2 x hy
     have hL:∀m:Int,((p.funs.map (pre p p.nodes.length)).flatten).count m=p.funs.count m+ ((((p.funs.map (pre p p.nodes.length)).flatten).map (fE p)).flatten).count m:=fun m=>zV m p.funs (fun k hk=>by
      have:=hp.funs k hk;exact aF8 hp m _ k this.1 this.2 (by omega))
     have hd: ((p.funs.map (pre p p.nodes.length)).flatten).Nodup:=aEm (fun a=>by
      by_cases ha:a∈ (p.funs.map (pre p p.nodes.length)).flatten
      · have hr:=hin a ha;have:=bIY hp hK hin hL a.toNat a.toNat (Nat.le_refl _);rwa [show((a.toNat:Nat) :Int) =a by omega]at this
      ·rw [List.count_eq_zero.2 ha];omega)
     refine⟨hd,?_,hin,fun i x hx=> (oI hv i x hx).1⟩;have hd2: (((p.funs.map (pre p p.nodes.length)).flatten).map Int.toNat).Nodup:=by
      rw [List.nodup_iff_pairwise_ne]at hd ⊢;refine List.pairwise_map.2 (hd.imp_of_mem (fun {a b} ha hb hne e=>?_));have:=hin a ha;have:=hin b hb;exact hne (by omega)
     have:=xR p.nodes.length _ hd2 (fun x hx=>by
      obtain⟨y,hy,rfl⟩ :=List.mem_map.1 hx;have:=hin y hy;omega)
     rw [List.length_map]at this;refine Nat.le_antisymm this (aOS _ _ (fun i hi=>all_in hp (fun m hm=>?_) hL i i (Nat.le_refl _) hi));have h1:=qW (m:= (m:Int)) (by omega) (by omega) hu;have h2:=pW (m:= (m:Int)) (by omega) hv;have hl1:=lW hu;have hl2:=oH hv;rw [List.length_replicate]at hl1;have h3:wQ (List.replicate p.nodes.length false) (m:Int) =0:=by
      unfold wQ;rw [Int.toNat_natCast,List.getElem?_replicate,if_pos hm];rfl
     have h4:wQ v (m:Int) =1:=by
      unfold wQ;have hlt:m<v.length:=by omega
      have:=List.all_eq_true.1 hf _ (List.getElem_mem hlt);rw [Int.toNat_natCast,List.getElem?_eq_getElem hlt,this];rfl
     omega
   ·cases hf
 ·cases hf
abbrev aOT :AV:=.agg [.ilst 4 (List.map Node.av ([] :List Node)) true,.ilst 1 (List.map dF ([] :List Int)) true,.int .i64 0,.ilst 2 (List.map Con.av ([] :List Con)) true]
end Go.Hb
namespace Go.Hb
open Go.Proofs
noncomputable section
open Go.Proofs Tryz
end
end Go.Hb
namespace Go.Hb
open Go.Proofs
set_option maxHeartbeats 2000000
noncomputable section
end
end Go.Hb
namespace Go.Hb
open Go.Proofs
noncomputable section
end
end Go.Hb
namespace Go.Hb
open Go.Proofs
set_option maxHeartbeats 2000000
noncomputable section
def nC (s:aE) :List Con→Int→Int
 | [],_=> -1
 |c::t,i=>if c.name=s then i else nC s t (i+1)
theorem aCm (s:aE) :∀ (l:List Con) (i:Int),0≤i→nC s l i= -1∨ (i≤nC s l i∧nC s l i<i+l.length∧∃d,l[(nC s l i-i).toNat]?=some d∧d.name=s)
 | [],i,h=>.inl rfl
 | c ::t,i,h=>by
  simp only [nC];split
  · rename_i e;exact .inr ⟨by omega,by simp;omega,c,by simp,e⟩
  · rcases aCm s t (i+1) (by omega)with g| ⟨g1,g2,d,g3,g4⟩
    ·exact .inl g
    · refine .inr ⟨by omega,by rw [List.length_cons];omega,d,?_,g4⟩;rw [show(nC s t (i+1) -i).toNat= (nC s t (i+1) - (i+1)).toNat+1 by omega,List.getElem?_cons_succ];exact g3
end
end Go.Hb
namespace Go.Hb
open Go.Proofs
noncomputable section
open Go.Proofs Tryz
def aH7(a b:Int)(c:aE)(d:List Pat)(e:Int):TS:=⟨(tf 88 53 [kp 2 0,kp 3 1,(4,(bV false)),(5,(nI e))] [kc f88 116,kl f88 116,.inBlock 0,kc f88 15]),[],[oC 0 [(nI a),(nI b),(aC c),(iP d)],oC 1 [(nI a),(nI b),(aC c),(iP d)]],2⟩
def bB2 (c d:Int)(a:aE)(b:List Pat):=fun e f g i=>(tT 0 (start PP 88 [(.agg [(nI c),(nI d),(aC a),(iP b)]),(.agg [(nI c),(nI d),(aC a),(iP b)])])<|.b 15 11 (c != c) .x<|.b 7 18 (d != d) .x<|.b 7 25 (!(aQ a.length (aB a) a.length (aB a))) .x<|gm 2 aF b<|gm 2 aF b<|.b 3 33 ((b.length:Int) != (b.length:Int)) .x<|.W 9 2 [0,1] (aH7 c d a b 0))|>.f e|>.f f|>.f g|>.f i tv
def bFc(i j:Int)(k:aE)(b:List Pat)(a:Int):=tT 0 (aH7 i j k b a)<|gm 6 aF b<|gd 2 38 (a< (b.length:Int)) (.y fun c:Int=>.y fun d:Int=>.y fun e:aE=>.y fun f:List Pat=>.y fun g:Bool=>.i [rn 5,.reg (rd 3 (.ans (.idx (Pat.av (Pat.mk c d e f)))::rd 4 [.ans (.idx (Pat.av (Pat.mk c d e f))),.d,.pure (bV g),.d]))] [hA (0≤a),.a (((b)[a.toNat]?) =some (Pat.mk c d e f)) (dY aF),hA (0≤a),.a (((b)[a.toNat]?) =some (Pat.mk c d e f)) (dY aF),hA (Pure PP 88 [(.agg [(nI c),(nI d),(aC e),(iP f)]),(.agg [(nI c),(nI d),(aC e),(iP f)])] (bV g))]<|.b 0 52 (!g) .x<|gw 6 40 (a+1)<|.W 3 2 [0,1] (aH7 i j k b (a+1)))<|gE 7 2 (bV true)
def bB3:=fun c d e f g i j k l m n a b o p q=>bFc c d e f g|>.t n i j k l m a b a b o|>.f p q tv
def bB4:=fun a b c d e f=>bFc a b c d e|>.f f tv
end
end Go.Hb
namespace Go.Hb
open Go.Proofs
theorem iW (s:aE) :aQ (List.length s) (aB s) (List.length s) (aB s) =true:=by rw [mV];simp
theorem aKI (f n:Int)(s:aE)(ps:List Pat)(hl:ps.length<1000000)(ih:∀p∈ps,Pure PP 88 [Pat.av p,Pat.av p] (.bool true)) :∀ (t:List Pat) (i:Nat),ps.drop i=t→Ends PP 0 (aH7 f n s ps (i:Int)).as (.ret (.bool true)) (aG [] 0)
 | [],i,h=>by
  have:=bD h;exact bB4 f n s ps i sd
 | .mk f1 n1 s1 ps1::t,i,h=>by
  obtain⟨g1,g2,g3⟩ :=bB h;have h1:=bB3 f n s ps i f1 n1 s1 ps1 true sd sd sd (ih (.mk f1 n1 s1 ps1) (List.mem_of_getElem? g1)) rfl sd;exact h1.ends (aKI f n s ps hl ih t (i+1) g2)
mutual
theorem aWm :∀ (q:Pat),aP q<1000000→Pure PP 88 [Pat.av q,Pat.av q] (.bool true)
 | .mk f n s ps,h=>by
  simp only [aP]at h;have:=cL ps;exact aM (by kernel_rfl) (by simp [AV.keylessL,fC]) rfl ((bB2 f n s ps (by simp) (by simp) (by rw [iW];rfl) (by simp)).ends (aKI f n s ps (by omega) (aH8 ps (by omega)) ps 0 rfl))
theorem aH8 :∀ (ps:List Pat),aK ps<1000000→∀p∈ps,Pure PP 88 [Pat.av p,Pat.av p] (.bool true)
 | [],_,p,hp=>by cases hp
 | q::ps,h,p,hp=>by
  simp only [aK]at h;rcases List.mem_cons.1 hp with e|hp
  ·rw [e];exact aWm q (by omega)
  ·exact aH8 ps (by omega) p hp
end
def bIZ (x:Node) :Prop:=x.kids.length<1000000∧aK x.pats<1000000
structure FitP (q:Prog) :Prop where
 nodes:q.nodes.length≤1000000
 funs:q.funs.length<1000000
 cons:q.cons.length<1000000
 node:∀x∈q.nodes,bIZ x
theorem aQ0 {f:Nat}{args:List AV}{v v':AV}(h:Pure PP f args v)(hv:∀ (E:Emb) (cv:Value),VR E v cv→VR E v' cv) :Pure PP f args v':=fun hh=>by
 obtain⟨g,hg,he⟩ :=h hh;exact⟨g,hg,aQV he hv⟩
mutual
theorem aQ1 (mc:List (Int×Int)) :∀q:Pat,aP (nA mc q) =aP q
 | .mk f n t ps=>by rw [nA,aP,aP,aEn mc ps]
theorem aEn (mc:List (Int×Int)) :∀ps:List Pat,aK (eO mc ps) =aK ps
 | [] =>rfl
 |q::ps=>by rw [eO,aK,aK,aQ1 mc q,aEn mc ps]
end
end Go.Hb
namespace Go.Hb
open Go.Proofs
noncomputable section
open Go.Proofs Tryz
def aH9(a:List Con)(b:aE)(c:Int):TS:=⟨(tf 113 20 [(0,(iC a)),(1,(aC b)),(4,(nI 0)),(5,(nI c))] [kc f113 52,kl f113 52,.inBlock 0,kc f113 7]),[],[],0⟩
def bFd(a b:List aE):TS:=bW PP 115 [(iS a),(iS b)] [] 0
def aWn(a b:Int)(c:aE)(d:List Term)(e:List Pat)(f:Int):TS:=bW PP 116 [(.agg [(nI a),(nI b),(aC c),(.ilst 5 (Terms.av d) false),(iP e)]),(nI f)] [] 0
def aWo(a:List aE)(b:List Con)(c d:Int)(e:aE)(f:List Pat):TS:=bW PP 114 [(.ptr 0 0),(.agg [(nI c),(nI d),(aC e),(iP f)])] [oC 0 [(iS a),(iC b),.nils]] 1
def aEo(a:List aE)(b:List Con)(c d:Int)(e:aE)(f:List Pat)(g:Int):TS:=⟨(tf 114 48 [kp 0 0,kp 3 1,(4,(bV false)),(6,(nI g))] [kc f114 116,kl f114 116,.inBlock 0,kc f114 15]),[],[oC 0 [(iS a),(iC b),.nils],oC 1 [(nI c),(nI d),(aC e),(iP f)]],2⟩
def aWp(a:List aE)(b:List Con)(c d:Int)(e:aE)(f:List Term)(g:List Pat)(i:List aE):TS:=bW PP 52 [(.ptr 0 0),(.agg [(nI c),(nI d),(aC e),(.ilst 5 (Terms.av f) false),(iP g)]),(iS i)] [oC 0 [(iS a),(iC b),.nils]] 1
def aEp(a:List aE)(b:List Con)(c d:Int)(e:aE)(f:List Term)(g:List Pat)(i:List aE)(j:Int):TS:=⟨(tf 52 87 [kp 0 0,(2,(iS i)),kp 4 1,(6,(bV false)),(8,(nI j))] [kc f52 244,kl f52 244,.inBlock 0,kc f52 31]),[],[oC 0 [(iS a),(iC b),.nils],oC 1 [(nI c),(nI d),(aC e),(.ilst 5 (Terms.av f) false),(iP g)]],2⟩
def aEq(a:List aE)(b:List Con)(c d:Int)(e:aE)(f:List Term)(g:List Pat)(i:List aE)(j:Int):TS:=⟨(tf 52 87 [kp 0 0,(2,(iS i)),kp 4 1,(6,(bV false)),(9,(nI j))] [kc f52 500,kl f52 500,.inBlock 2,kc f52 63]),[],[oC 0 [(iS a),(iC b),.nils],oC 1 [(nI c),(nI d),(aC e),(.ilst 5 (Terms.av f) false),(iP g)]],2⟩
def bB5 (a:List Con)(b:aE):=(tT 0 (start PP 113 [(iC a),(aC b)])<|.W 11 0 [] (aH9 a b 0)) tv
def aWq(b:List Con)(c:aE)(a:Int):=tT 0 (aH9 b c a)<|gl 5 Con.av b<|gd 2 9 (a< (b.length:Int)) (gX Con.av 8 b a<|fun d=>.b 5 18 (aQ d.name.length (aB d.name) c.length (aB c)) (gE 7 0 (nI a))<|gw 6 11 (a+1)<|.W 3 0 [] (aH9 b c (a+1)))<|gE 7 0 (nI (-1))
def bB6:=fun a b c d e f g i=>aWq a b c|>.t e d f g|>.t i tv
def bB7:=fun a b c d e f g i j=>aWq a b c|>.t e d f g|>.f i j tv
def bB8:=fun a b c d=>aWq a b c|>.f d tv
def bB9 (a b:List aE):=fun c d=>(tT 0 (bFd a b)<|.i [rn 7,.appN (List.map aC a) a.length] [hA (a.length≤1000000),hr (List.map aC a),.q (p:=List.length (List.map aC a) =a.length) (List.length_map ..)]<|ga 1 aC a b<|gz 3 4 1 1 aC (a++b) false<|gE 0 2 (iS (a++b))) c d tv
def aEr(b f:Int)(a:aE)(g:List Term)(d:List Pat)(c:Int):=tT 0 (aWn b f a g d c)<|.b 18 7 (b==5) (.i [rn 11,.toL 4 false [(aC a)]] [hr (some [(aC a)]),hr true]<|gu 0 1 (List.map aC [a])<|gs 0 4 (.gl 1 1 0 [a].length true)<|.i [.weak 4] []<|gz 0 4 1 1 aC [a] false<|gE 0 2 (iS [a]))<|.b 5 7 (b==27) (.i [rn 9,.toL 4 false [(aC a)]] [hr (some [(aC a)]),hr true]<|gu 0 1 (List.map aC [a])<|gs 0 4 (.gl 1 1 0 [a].length true)<|.i [.weak 4] []<|gz 0 4 1 1 aC [a] false<|gE 0 2 (iS [a]))<|.b 6 13 (b==7) (.b 6 16 (c==1) (.i [rn 9,.toL 4 false [(aC a)]] [hr (some [(aC a)]),hr true]<|gu 0 1 (List.map aC [a])<|gs 0 4 (.gl 1 1 0 [a].length true)<|.i [.weak 4] []<|gz 0 4 1 1 aC [a] false<|gE 0 2 (iS [a]))<|.i [rn 8,.nilI 4 1] []<|gE 0 1 (.ilst 1 (List.map aC ([] :List aE)) true))<|.b 6 20 (b==15) (gd 6 23 (c>0) (gw 7 27 (c-1)<|mW 0 d (c-1)<|fun i j k l=>.y fun e:List aE=>gp 1 186 [(.agg [(nI i),(nI j),(aC k),(iP l)])] (iS e)<|gE 3 1 (iS e))<|.i [rn 8,.nilI 4 1] []<|gE 0 1 (.ilst 1 (List.map aC ([] :List aE)) true))<|.i [rn 8,.nilI 4 1] []<|gE 0 1 (.ilst 1 (List.map aC ([] :List aE)) true)
def bCa:=fun a b c d e f g=>aEr a b c d e f|>.t g tv
def bCb:=fun a b c d e f g i=>aEr a b c d e f|>.f g|>.t i tv
def bCc:=fun a b c d e f g i j k=>aEr a b c d e f|>.f g|>.f i|>.t j|>.t k tv
def bCd:=fun a b c d e f g i j k=>aEr a b c d e f|>.f g|>.f i|>.t j|>.f k tv
def bCe:=fun a b c d e f g i j k l m n o p q r s t u=>aEr a b c d e f|>.f m|>.f n|>.f o|>.t p|>.t q r g i j k s t l u tv
def bCf:=fun a b c d e f g i j k l=>aEr a b c d e f|>.f g|>.f i|>.f j|>.t k|>.f l tv
def bCg:=fun a b c d e f g i j k=>aEr a b c d e f|>.f g|>.f i|>.f j|>.f k tv
def aOU(d:List aE)(b:List Con)(f g:Int)(e:aE)(c:List Pat):=tT 1 (aWo d b f g e c)<|.b 12 9 (f==6) (.o (.y fun a:Int=>.i [rn 2,.reg (rd 6 [.pure (nI a),.d]),rn 1,.reg (rd 3 (.b 19 true::rd 13 []))] [hA (Pure PP 113 [(iC b),(aC e)] (nI a)),hA (decide (a<0) =true)]<|.E 6 2 [] (bV false) [oC 0 [(iS d),(iC b),.nils]] 1)<|.y fun a:Int=>.y fun i:Con=>.i [rn 2,.reg (rd 6 [.pure (nI a),.d]),rn 1,.reg (rd 3 (.b 19 false::rd 5 (.ans (.idx (Con.av i))::rd 4 [.ans (.len (c.length:Int)),.d,.d])))] [hA (Pure PP 113 [(iC b),(aC e)] (nI a)),hA (decide (a<0) =false),hA (0≤a),.a (((b)[a.toNat]?) =some i) (cN (f:=Con.av)),hm aF c]<|.b 0 32 (i.args != (c.length:Int)) (.E 6 2 [] (bV false) [oC 0 [(iS d),(iC b),.nils]] 1)<|.W 9 2 [1] (aEo d b f g e c 0))<|.W 9 2 [1] (aEo d b f g e c 0)
def bCh:=fun a b c d e f g i j k=>aOU a b c d e f|>.t i|>.1 g j k tv
def bCi:=fun a b c d e f g i j k l m n o=>aOU a b c d e f|>.t j|>.2 g i k l m n|>.t o tv
def bCj:=fun a b c d e f g i j k l m n o=>aOU a b c d e f|>.t j|>.2 g i k l m n|>.f o tv
def bCk:=fun a b c d e f g=>aOU a b c d e f|>.f g tv
def aWr(b:List aE)(c:List Con)(e f:Int)(g:aE)(a:List Pat)(d:Int):=tT 1 (aEo b c e f g a d)<|gm 6 aF a<|gd 2 37 (d< (a.length:Int)) (mW 10 a d<|fun j k l m=>.y fun i:Bool=>gk 1 (.enter 114 [(.ptr 0 0),(.agg [(nI j),(nI k),(aC l),(iP m)])]) [oC 0 [(iS b),(iC c),.nils],oC 1 [(nI e),(nI f),(aC g),(iP a)]] 2 (bV i) [oC 0 [(iS b),(iC c),.nils],oC 1 [(nI e),(nI f),(aC g),(iP a)]] 2<|.b 2 47 (!i) (.E 6 2 [] (bV false) [oC 0 [(iS b),(iC c),.nils]] 1)<|gw 6 39 (d+1)<|.W 3 2 [1] (aEo b c e f g a (d+1)))<|.E 7 2 [] (bV true) [oC 0 [(iS b),(iC c),.nils]] 1
def bCl:=fun a b c d e f g i j k l m n o p q r=>aWr a b c d e f g|>.t n i j k l o p m q|>.t r tv
def bCm:=fun a b c d e f g i j k l m n o p q r s=>aWr a b c d e f g|>.t n i j k l o p m q|>.f r s tv
def bCn:=fun a b c d e f g i=>aWr a b c d e f g|>.f i tv
def aGa(c:List aE)(b:List Con)(g j:Int)(d:aE)(f:List Term)(k:List Pat)(i:List aE):=tT 1 (aWp c b g j d f k i)<|.b 12 12 (g==4) (.o (.y fun a:Bool=>.i [rn 2,.reg (rd 3 (.pure (bV a)::.d::.b 17 true::rd 9 []))] [hA (Pure PP 51 [(iS i),(aC d)] (bV a)),hA (a=true)]<|.E 1 2 [] (bV true) [oC 0 [(iS c),(iC b),.nils]] 1)<|.y fun a:Bool=>.y fun e:Bool=>.i [rn 2,.reg (rd 3 (.pure (bV a)::.d::.b 17 false::rd 6 [.pure (bV e),.d,.d]))] [hA (Pure PP 51 [(iS i),(aC d)] (bV a)),hA (a=false),hA (Pure PP 51 [(iS c),(aC d)] (bV e))]<|.E 1 2 [] (bV e) [oC 0 [(iS c),(iC b),.nils]] 1)<|.b 9 28 (g==14) (.o (.y fun a:Int=>.i [rn 2,.reg (rd 6 [.pure (nI a),.d]),rn 1,.reg (rd 3 (.b 38 true::rd 13 []))] [hA (Pure PP 113 [(iC b),(aC d)] (nI a)),hA (decide (a<0) =true)]<|.E 6 2 [] (bV false) [oC 0 [(iS c),(iC b),.nils]] 1)<|.y fun a:Int=>.y fun e:Con=>.i [rn 2,.reg (rd 6 [.pure (nI a),.d]),rn 1,.reg (rd 3 (.b 38 false::rd 5 (.ans (.idx (Con.av e))::rd 4 [.ans (.len (f.length:Int)),.d,.d])))] [hA (Pure PP 113 [(iC b),(aC d)] (nI a)),hA (decide (a<0) =false),hA (0≤a),.a (((b)[a.toNat]?) =some e) (cN (f:=Con.av)),hm bS f]<|.b 0 51 (e.args != (f.length:Int)) (.E 6 2 [] (bV false) [oC 0 [(iS c),(iC b),.nils]] 1)<|.W 9 2 [1] (aEp c b g j d f k i 0))<|.W 9 2 [1] (aEp c b g j d f k i 0)
def bCo:=fun a b c d e f g i j k l m=>aGa a b c d e f g i|>.t k|>.1 j l m tv
def bCp:=fun a b c d e f g i j k l m n o=>aGa a b c d e f g i|>.t l|>.2 j k m n o tv
def bCq:=fun a b c d e f g i j k l m n=>aGa a b c d e f g i|>.f k|>.t l|>.1 j m n tv
def bCr:=fun a b c d e f g i j k l m n o p q r=>aGa a b c d e f g i|>.f l|>.t m|>.2 j k n o p q|>.t r tv
def bCs:=fun a b c d e f g i j k l m n o p q r=>aGa a b c d e f g i|>.f l|>.t m|>.2 j k n o p q|>.f r tv
def bCt:=fun a b c d e f g i j k=>aGa a b c d e f g i|>.f j|>.f k tv
def aNo(b:List aE)(c:List Con)(d e:Int)(f:aE)(g:List Term)(a:List Pat)(j:List aE)(i:Int):=tT 1 (aEp b c d e f g a j i)<|gm 6 aF a<|gd 2 56 (i< (a.length:Int)) (mW 10 a i<|fun l m n o=>.y fun k:Bool=>gk 1 (.enter 114 [(.ptr 0 0),(.agg [(nI l),(nI m),(aC n),(iP o)])]) [oC 0 [(iS b),(iC c),.nils],oC 1 [(nI d),(nI e),(aC f),(.ilst 5 (Terms.av g) false),(iP a)]] 2 (bV k) [oC 0 [(iS b),(iC c),.nils],oC 1 [(nI d),(nI e),(aC f),(.ilst 5 (Terms.av g) false),(iP a)]] 2<|.b 2 66 (!k) (.E 6 2 [] (bV false) [oC 0 [(iS b),(iC c),.nils]] 1)<|gw 6 58 (i+1)<|.W 3 2 [1] (aEp b c d e f g a j (i+1)))<|.W 9 2 [1] (aEq b c d e f g a j 0)
def bCu:=fun a b c d e f g i j k l m n o p q r s t=>aNo a b c d e f g i j|>.t p k l m n q r o s|>.t t tv
def bCv:=fun a b c d e f g i j k l m n o p q r s t u=>aNo a b c d e f g i j|>.t p k l m n q r o s|>.f t u tv
def bCw:=fun a b c d e f g i j k=>aNo a b c d e f g i j|>.f k tv
def aNp(b:List aE)(c:List Con)(e f:Int)(g:aE)(a:List Term)(i:List Pat)(o:List aE)(d:Int):=tT 1 (aEq b c e f g a i o d)<|gm 6 bS a<|gd 2 71 (d< (a.length:Int)) (.y fun j:Int=>.y fun k:Int=>.y fun l:aE=>.y fun m:List Term=>.y fun n:List Pat=>.y fun p:List aE=>.y fun q:List aE=>.y fun r:Bool=>.i [rn 5,.reg (rd 4 (.ans (.idx (Term.av (Term.mk j k l m n)))::rd 4 [.pure (iS p),.pure (iS q),.call (bV r) (aG [oC 0 [(iS b),(iC c),.nils],oC 1 [(nI e),(nI f),(aC g),(.ilst 5 (Terms.av a) false),(iP i)]] 2),.d]))] [hA (0≤d),.a (((a)[d.toNat]?) =some (Term.mk j k l m n)) (dY bS),hA (Pure PP 116 [(.agg [(nI e),(nI f),(aC g),(.ilst 5 (Terms.av a) false),(iP i)]),(nI d)] (iS p)),hA (Pure PP 115 [(iS o),(iS p)] (iS q)),hA (Spec PP (.enter 52 [(.ptr 0 0),(.agg [(nI j),(nI k),(aC l),(.ilst 5 (Terms.av m) false),(iP n)]),(iS q)]) (aG [oC 0 [(iS b),(iC c),.nils],oC 1 [(nI e),(nI f),(aC g),(.ilst 5 (Terms.av a) false),(iP i)]] 2) (.ret (bV r)) (aG [oC 0 [(iS b),(iC c),.nils],oC 1 [(nI e),(nI f),(aC g),(.ilst 5 (Terms.av a) false),(iP i)]] 2)),hr (AV.agg [(nI j),(nI k),(aC l),(.ilst 5 (Terms.av m) false),(iP n)]),hr (AV.agg [(nI j),(nI k),(aC l),(.ilst 5 (Terms.av m) false),(iP n)]),hr (AV.agg [(nI j),(nI k),(aC l),(.ilst 5 (Terms.av m) false),(iP n)]),hr (AV.ilst 5 (Terms.av a) false),hr (AV.ilst 5 (Terms.av a) false),hr (AV.ilst 5 (Terms.av a) false)]<|.b 0 86 (!r) (.E 6 2 [] (bV false) [oC 0 [(iS b),(iC c),.nils]] 1)<|gw 6 73 (d+1)<|.W 3 2 [1] (aEq b c e f g a i o (d+1)))<|.E 7 2 [] (bV true) [oC 0 [(iS b),(iC c),.nils]] 1
def bCx:=fun a b c d e f g i j k l m n o p q r s t u v w x y=>aNp a b c d e f g i j|>.t s k l m n o p q r t u v w x|>.t y tv
def bCy:=fun a b c d e f g i j k l m n o p q r s t u v w x y z=>aNp a b c d e f g i j|>.t s k l m n o p q r t u v w x|>.f y z tv
def bCz:=fun a b c d e f g i j k=>aNp a b c d e f g i j|>.f k tv
end
end Go.Hb
namespace Go.Hb
open Go.Proofs
set_option maxHeartbeats 4000000
def FunD.nm :FunD→aE
 | .mk n _ _ _ _=>n
theorem aKJ (l:List Con)(s:aE)(hl:l.length<1000000) :∀ (t:List Con) (i:Nat),l.drop i=t→Ends PP 0 (aH9 l s (i:Int)).as (.ret (.int .i64 (nC s t i))) (aG [] 0)
 | [],i,h=>by
  have:=bD h;exact bB8 l s i sd
 | c ::t,i,h=>by
  obtain⟨q1,q2,q3⟩ :=bB h;rw [nC];by_cases e:c.name=s
  · rw [if_pos e];exact bB6 l s i c sd sd sd (by rw [mV];simp [e])
  · rw [if_neg e];exact(bB7 l s i c sd sd sd (by rw [mV];simp [e]) sd).ends (aKJ l s hl t (i+1) q2)
theorem sJ (l:List Con)(s:aE)(hl:l.length<1000000) :Pure PP 113 [.ilst 2 (List.map Con.av l) false,aC s] (.int .i64 (nC s l 0)) :=
 aM (by kernel_rfl) rfl rfl ((bB5 l s).ends (aKJ l s hl l 0 rfl))
theorem aWs (a b:List aE)(h:a.length+b.length≤1000000) :Pure PP 115 [.ilst 1 (List.map aC a) false,.ilst 1 (List.map aC b) false] (.ilst 1 (List.map aC (a++b)) false) :=
 bM (s:=bFd a b) (by kernel_rfl) (by kernel_rfl) (by simp [AV.keylessL,AV.keyless]) (by simp [AV.keyless]) (bB9 a b (by omega) (by simp;omega))
def uJ (op:Int)(s:aE)(ps:List Pat)(k:Nat) :List aE:=
 if op=5∨op=27 then [s]else if op=7 then(if k=1 then [s]else [])else if op=15 then(match k with|0=>[] |j+1=>match ps[j]? with|some p=>jR p|none=>[])else []
theorem aWt (o n:Int)(s:aE)(ks:List Term)(ps:List Pat)(k:Nat)(hk:k≤1000)(h15:o=15→k≤ps.length)(hp:∀p∈ps,aP p≤1000) :Pure PP 116 [Term.av (.mk o n s ks ps),.int .i64 (k:Int)] (.ilst 1 (List.map aC (uJ o s ps k)) false) :=by
 have W:∀ {l:List aE} {x:Bool},Ends PP 0 (aWn o n s ks ps (k:Int)).as (.ret (.ilst 1 (List.map aC l) x)) (aG [] 0) →Pure PP 116 [Term.av (.mk o n s ks ps),.int .i64 (k:Int)] (.ilst 1 (List.map aC l) false) :=fun {l x} he=>by
  have h0:Pure PP 116 [Term.av (.mk o n s ks ps),.int .i64 (k:Int)] (.ilst 1 (List.map aC l) x) :=bM (s:=aWn o n s ks ps (k:Int)) (by kernel_rfl) (by kernel_rfl) (by simp [AV.keylessL,eF,AV.keyless]) (by simp [AV.keyless]) he;cases x with
  |false=>exact h0
  |true=>exact aQ0 h0 (fun E cv h=>aHT h)
 unfold uJ;by_cases h5:o=5
 ·rw [if_pos (.inl h5)];exact W (bCa o n s ks ps k (by simp [h5]))
 · by_cases h27:o=27
   ·rw [if_pos (.inr h27)];exact W (bCb o n s ks ps k (by simp [h5]) (by simp [h27]))
   · rw [if_neg (by simp [h5,h27])];by_cases h7:o=7
     · rw [if_pos h7];by_cases hk1:k=1
       ·rw [if_pos hk1];exact W (bCc o n s ks ps k (by simp [h5]) (by simp [h27]) (by simp [h7]) (by simp [hk1]))
       ·rw [if_neg hk1];exact W (bCd o n s ks ps k (by simp [h5]) (by simp [h27]) (by simp [h7]) (by simp;omega))
     · rw [if_neg h7];by_cases h15':o=15
       · rw [if_pos h15'];cases k with
         |zero=>exact W (bCf o n s ks ps ((0:Nat) :Int) (by simp [h5]) (by simp [h27]) (by simp [h7]) (by simp [h15']) (by simp))
         | succ j=>
          have hj:=h15 h15';obtain⟨p,hpj⟩ :∃p,ps[j]?=some p:= ⟨_,List.getElem?_eq_getElem (by omega)⟩;have hpp:=aD6 p (hp p (List.mem_of_getElem? hpj));simp only [hpj];obtain⟨pf,pn,pt,pq⟩ :=p;have e: ((j+1:Nat) :Int) -1= (j:Int) :=by omega
          exact W (bCe o n s ks ps ((j+1:Nat) :Int) pf pn pt pq _ (by simp [h5]) (by simp [h27]) (by simp [h7]) (by simp [h15']) (by simp) (by apply wrap64<;>omega) (by omega) (by rw [e,Int.toNat_natCast];exact hpj) hpp)
       ·rw [if_neg h15'];exact W (bCg o n s ks ps k (by simp [h5]) (by simp [h27]) (by simp [h7]) (by simp [h15']))
end Go.Hb
