/- A machine on abstract values, its soundness, ways, plain laws. -/
import Derived.Test.YtlgoblkihmkmcaaGreatHF
import Derived.Test.YtlgoblkihmkmcaaGreatHG
import Derived.Test.YtlgoblkihmkmcaaGreatHH
import Derived.Test.YtlgoblkihmkmcaaGreatHJ
import Derived.Test.YtlgoblkihmkmcaaGreatHK
import Derived.Test.YtlgoblkihmkmcaaGreatHM
set_option linter.defProp false
set_option linter.unusedVariables false
set_option linter.unusedSimpArgs false
set_option linter.unusedSectionVars false
set_option maxRecDepth 100000
set_option maxHeartbeats 4000000
namespace Go.Hb
open AV (ilst keyless keylessL)
open Bool (and_eq_true not_eq_true)
open Eq (mp)
open List (append_assoc append_nil getD_eq_getElem?_getD getElem?_cons_succ getElem?_cons_zero getElem?_eq_getElem getElem?_set getElem?_set_ne getElem?_set_self length length_cons length_map map map_map map_nil mem_cons_of_mem mem_cons_self mem_of_getElem? replicate zipWith)
open Nat (le_refl zero_add)
open Go.Proofs Tryz
noncomputable section
abbrev sK (a:Nat)(b:List LUnit)(c:List aB)(d:Bool):=oC a [(.ilst 5 (map LUnit.av b) false),(.map 1),(.map 2),(.gl 3 1 0 c.length false),(bV d)]
abbrev iH (a:Nat)(b:List (aB×Int)):Nat×AObj×Bool:=(a,(.map (aU aH aY 0 b) b.length),true)
abbrev nA (a:Nat)(b:List aB):=oL a 1 (map aH b)
abbrev pM (a:List LUnit)(b:List aB)(c:Bool)(d e:List (aB×Int)):=[sK 0 a b c,(iH 1 d),(iH 2 e),nA 3 b]
abbrev vZ (a:List LUnit)(b:List aB)(c:Bool)(d e:List (aB×Int))(f:List Con)(g h:aB)(i:Int)(j:Con):=aD [oC 0 [(.ilst 5 (map LUnit.av a) false),(.map 1),(.map 2),(.gl 3 1 0 b.length false),(bV c)],(1,(.map (aU aH aY 0 d) d.length),true),(2,(.map (aU aH aY 0 e) e.length),true),oL 3 1 (map aH b),oL 4 2 (jC f),oC 5 [(.func 131 [] [])],oC 6 [(aH g)],oC 7 [(aH h),(nI i)],oC 8 [(aH j.name),(nI j.args)]] 9
abbrev aLD (a:List (aB×Int)):AV:=.tup [(nI 0),(nI (a.length:Int))]
abbrev sL (a:List LUnit):AV:=.ilst 5 (map LUnit.av a) false
abbrev aLE:AV:=.iface 174 (.agg [(nI 7)])
abbrev aDN (a:List aB):AV:=.gl 4 1 0 a.length false
abbrev aDO (a:List Con):AV:=.gl 4 2 0 a.length false
def aOo(a:List LUnit):TS:=cQ PP 69 [(sL a)] [] 0
def zO(a:List LUnit)(e:Int)(f:Bool)(b c:List (aB×Int))(d:List aB):TS:=⟨(tf 69 87 [(2,.nilp),kp 3 0,(19,(sL a)),(20,(nI (a.length:Int))),(21,(nI e))] [kc f69 244,kl f69 244,.inBlock 0,kc f69 31]),[],(pM a d f b c),4⟩
def aDP(a:List LUnit)(e:List LFun)(f g:Int)(i:Bool)(b:List aB)(c d:List (aB×Int))(j k:Int):TS:=⟨(tf 69 87 [(2,.nilp),kp 3 0,(4,(nI j)),(19,(sL a)),(20,(nI (a.length:Int))),(21,(nI k)),(31,(.ilst 2 (map LFun.av e) false)),(32,(nI f)),(33,(nI g))] [kc f69 125340,kl f69 125340,.inBlock 2,.inBlock 1,kc f69 1959,kl f69 244,.inBlock 0,kc f69 31]),[],(pM a b i c d),4⟩
def aXT(d:List LUnit)(a b:List (aB×Int))(c:List aB)(e:Bool):TS:=cQ PP 71 [(.ptr 0 0)] [sK 0 d c e,(iH 1 a),(iH 2 b),nA 3 c] 4
def aHd(a:List LUnit)(b c:List (aB×Int))(d:List aB)(f:Bool)(g:Int)(e:List aB):TS:=⟨(tf 71 50 [kp 0 0,(2,.nils),(3,(aDN e)),(13,(sL a)),(14,(nI (a.length:Int))),(15,(nI g))] [kc f71 116,kl f71 116,.inBlock 0,kc f71 15]),[],(pM a d f b c++[nA 4 e]),5⟩
def zP(a:List LUnit)(b c:List (aB×Int))(d:List aB)(f:Bool)(g:List aB)(i j:Int)(e:List aB)(k:Int):TS:=⟨(tf 71 50 [kp 0 0,(2,.nils),(3,(aDN e)),(13,(sL a)),(14,(nI (a.length:Int))),(15,(nI k)),(20,(iS g)),(21,(nI i)),(22,(nI j))] [kc f71 29900,kl f71 29900,.inBlock 2,.inBlock 1,kc f71 935,kl f71 116,.inBlock 0,kc f71 15]),[],(pM a d f b c++[nA 4 e]),5⟩
def aLF(c:List LUnit)(d e:List (aB×Int))(f:List aB)(g:Bool)(b:aB)(i:List aB)(j k l m n:Int)(a:List aB):TS:=⟨(tf 135 19 [(0,(aDN a)),(1,(aH b)),(4,(nI 0)),(7,(nI m)),(8,(nI l))] [kc f135 52,kl f135 52,.inBlock 0,kc f135 7]),[(tf 132 9 [(4,(bV false)),(5,(aDN a)),(6,(aH b))] [ko f132 6 2,kc f132 7]),(tf 71 50 [kp 0 0,(2,.nils),(3,(aDN a)),(7,(aH b)),(13,(sL c)),(14,(nI (c.length:Int))),(15,(nI n)),(20,(iS i)),(21,(nI j)),(22,(nI k)),(37,(bV true)),(38,(aDN a)),(39,(aH b))] [ko f71 3827302 5,kc f71 3827303,.inBlock 3,kc f71 239207,kl f71 29900,.inBlock 2,.inBlock 1,kc f71 935,kl f71 116,.inBlock 0,kc f71 15])],[sK 0 c f g,(iH 1 d),(iH 2 e),nA 3 f,nA 4 a],5⟩
def aXU(d:List LUnit)(a b:List (aB×Int))(c:List aB)(e:Bool):TS:=cQ PP 70 [(.ptr 0 0)] [sK 0 d c e,(iH 1 a),(iH 2 b),nA 3 c] 4
def aDQ(a:List LUnit)(b c:List (aB×Int))(d:List aB)(f:Bool)(g:Int)(e:List Con):TS:=⟨(tf 70 51 [(2,.nils),(3,(aDO e)),(12,(sL a)),(13,(nI (a.length:Int))),(14,(nI g))] [kc f70 436,kl f70 436,.inBlock 0,kc f70 55,.inScope (kd f70 6)]),[],(pM a d f b c++[oL 4 2 (jC e)]),5⟩
def zQ(a:List LUnit)(b c:List (aB×Int))(d:List aB)(f:Bool)(g:List Con)(i j k:Int)(e:List Con):TS:=⟨(tf 70 51 [(2,.nils),(3,(aDO e)),(12,(sL a)),(13,(nI (a.length:Int))),(14,(nI j)),(23,(iC g)),(24,(nI i)),(25,(nI k))] [kc f70 223644,kl f70 223644,.inBlock 2,.inBlock 1,kc f70 3495,kl f70 436,.inBlock 0,kc f70 55,.inScope (kd f70 6)]),[],(pM a d f b c++[oL 4 2 (jC e)]),5⟩
def aDR(b:List LUnit)(c d:List (aB×Int))(e:List aB)(f:Bool)(g:Int)(i:List Con)(j:Int)(k l m:aB)(n o p q:Int)(a:List Con):TS:=⟨(tf 180 19 [(0,(aDO a)),(1,(.func 181 [] [(.ptr 5 0),(.ptr 6 0)])),(4,(nI 0)),(7,(nI p)),(8,(nI o))] [kc f180 52,kl f180 52,.inBlock 0,kc f180 7]),[(tf 130 10 [(6,(nI 0)),(7,(aDO a)),(8,(.func 181 [] [(.ptr 5 0),(.ptr 6 0)]))] [ko f130 6 2,kc f130 7]),(tf 70 51 [(2,.nils),(3,(aDO a)),kp 7 7,(12,(sL b)),(13,(nI (b.length:Int))),(14,(nI g)),(23,(iC i)),(24,(nI j)),(25,(nI q)),(29,(aDO a)),(31,(aH k))] [ko f70 14313266 3,kc f70 14313267,.inBlock 3,kc f70 1789159,kl f70 223644,.inBlock 2,.inBlock 1,kc f70 3495,kl f70 436,.inBlock 0,kc f70 55,.inScope (kd f70 6)])],[sK 0 b e f,(iH 1 c),(iH 2 d),nA 3 e,oL 4 2 (jC a),oC 5 [(.func 131 [] [])],oC 6 [(aH l)],oC 7 [(aH m),(nI n)]],8⟩
theorem bBQ (l:List LUnit)(mf: (List (aB×Int)))(mh: (List (aB×Int)))(od:List aB)(tw:Bool)(t14:Int)(t23:List Con)(t24:Int)(t31 q9 w8:aB)(w7 t8:Int)(t7 t25:Int)(l4:List Con)(y0:Con)(y1:aB)(h0:decide (t8<t7) =true)(h1:0≤t8)(h2:t8< ((l4.length:Nat) :Int))(h3: ((l4)[t8.toNat]?) =some y0)(h4:Pure PP 131 [(.agg [(aH y0.name),(nI y0.args)])] (aH y1))(h5: (bM y1.length (aA y1) q9.length (aA q9)) =true)(h6:decide (t8< (0:Int)) =false)(h7:Spec PP (.enter 46 [(bV (y0.args != w7)),(nI 7)]) (vZ l od tw mf mh l4 q9 w8 w7 y0) (.pan [(aLE,false)]) (vZ l od tw mf mh l4 q9 w8 w7 y0)) :
  Ends PP 4 (aDR l mf mh od tw t14 t23 t24 t31 q9 w8 w7 t8 t7 t25 l4).as (.pan [(aLE,false)]) (aD (pM l od tw mf mh) 4) :=
 aQU (n1:=9) (ks:=[]) (e:=8) (is1:=[.d,.d,.ans (.ix),.d,.ans (.idx (Con.av y0)),.d,.d,.d]) (v:= (.tup [])) (h2:=vZ l od tw mf mh l4 q9 w8 w7 y0) (is2:=[]) (os:=[]) (h':=vZ l od tw mf mh l4 q9 w8 w7 y0) (hp:= (pM l od tw mf mh)) (ch:=[(aLE,false)]) (ps:=[decide (t8<t7) =true,0≤t8,t8< ((l4.length:Nat) :Int),(jC l4)[(0+t8.toNat)]?=some (Con.av y0),Pure PP 131 [(.agg [(aH y0.name),(nI y0.args)])] (aH y1),(aH q9) = (aH q9),(aH q9) = (aH q9),(bM y1.length (aA y1) q9.length (aA q9)) =true,decide (t8< (0:Int)) =false,0≤t8,t8< ((l4.length:Nat) :Int),(jC l4)[(0+t8.toNat)]?=some (Con.av y0),Spec PP (.enter 46 [(bV (y0.args != w7)),(nI 7)]) (vZ l od tw mf mh l4 q9 w8 w7 y0) (.pan [(aLE,false)]) (vZ l od tw mf mh l4 q9 w8 w7 y0)]) (is:=[.run 5,.b 9 true,.run 14,.ans (.ix),.ans (.idx (Con.av y0)),.run 7,.reg [.d,.d,.pure (aH y1),.d,.d,.d],.run 3,.b 16 true,.run 20,.b 34 false,.run 2]) (by kernel_rfl) (by kernel_rfl) ⟨aM (fun _=>rfl) (fun _=>rfl) _ _ _,⟨aM (fun _=>rfl) (fun _=>rfl) _ _ _,⟨(aG _ (fun _=>rfl) _),trivial⟩⟩⟩ ⟨h0,h1,h2,(dN h3),h4,rfl,rfl,h5,h6,h1,h2,(dN h3),h7⟩
def aXV(d:List LUnit)(a b:List (aB×Int))(c:List aB)(e:Bool):TS:=cQ PP 72 [(.ptr 0 0)] [sK 0 d c e,(iH 1 a),(iH 2 b),nA 3 c] 4
def aLG(a:List LUnit)(b c:List (aB×Int))(d:List aB)(e:Bool)(f g:Int):TS:=⟨(tf 72 22 [(2,(nI 0)),(3,(nI f)),(9,(sL a)),(10,(nI (a.length:Int))),(11,(nI g))] [kc f72 116,kl f72 116,.inBlock 0,kc f72 15]),[],(pM a d e b c),4⟩
def aXW(a:List LUnit):=tT 0 (aOo a)<|gl 7 LUnit.av a<|gd 6 4 ((a.length:Int) >10) (gQ 7 0 [((.iface 174 (.agg [(nI 2)])),false)])<|.i [rn 9,.mset 0 (aU aH aY 0 ([] :List (aB×Int))) ([] :List (aB×Int)).length] [hr (aU aH aY 0 ([] :List (aB×Int))),hr (length ([] :List (aB×Int)))]<|.i [rn 1,.mset 1 (aU aH aY 0 ([] :List (aB×Int))) ([] :List (aB×Int)).length] [hr (aU aH aY 0 ([] :List (aB×Int))),hr (length ([] :List (aB×Int)))]<|gl 8 LUnit.av a<|.i [rn 4,.cnil 2 3 1] []<|gu 0 3 (map aH ([] :List aB))<|gv 0 2 3 (.gl 3 1 0 ([] :List aB).length false)<|.W 0 4 [2,0,1,3] (zO a 0 false ([] :List (aB×Int)) ([] :List (aB×Int)) ([] :List aB))
def bBR:=fun a b=>aXW a|>.t b tv
def aLH:=fun a b=>aXW a|>.f b ⟨aM (fun _=>rfl) (fun _=>rfl) _ _ _,⟨aM (fun _=>rfl) (fun _=>rfl) _ _ _,⟨kk,trivial⟩⟩⟩
def aQ3(b:List LUnit)(c:Int)(g:Bool)(d e:List (aB×Int))(f:List aB):=tT 0 (zO b c g d e f)<|gd 5 22 (c< (b.length:Int)) (gX LUnit.av 7 b c<|fun a=>gV 8 77 [(.agg [(aH a.name),(iC a.cons),(.ilst 2 (map LFun.av a.funs) false),(iS a.needs),(iN a.nodes)])]<|fun i=>.b 6 4 (!i) (gQ 7 5 [((.iface 174 (.agg [(nI 2)])),false)])<|gl 9 LFun.av a.funs<|.W 4 5 [0,1,2,3] (aDP b a.funs (a.funs.length:Int) 0 g f d e c c))<|.E 8 4 [0,1,2,3] (.ptr 0 0) [sK 0 b f g,(iH 1 d),(iH 2 e),nA 3 f] 4
def bBS:=fun a b c d e f g i j k l m n=>aQ3 a b c d e f|>.t j g k l i m|>.t n tv
def aSh:=fun a b c d e f g i j k l m n=>aQ3 a b c d e f|>.t j g k l i m|>.f n ⟨aM (fun _=>rfl) (fun _=>rfl) _ _ _,⟨aM (fun _=>rfl) (fun _=>rfl) _ _ _,⟨kk,trivial⟩⟩⟩
def aSi:=fun a b c d e f g=>aQ3 a b c d e f|>.f g ⟨aM (fun _=>rfl) (fun _=>rfl) _ _ _,⟨aM (fun _=>rfl) (fun _=>rfl) _ _ _,⟨kk,trivial⟩⟩⟩
def aQ4(i:List LUnit)(j:List LFun)(k f:Int)(l:Bool)(c:List aB)(b d:List (aB×Int))(e g:Int):=tT 0 (aDP i j k f l c b d e g)<|gd 5 34 (f<k) (gX LFun.av 6 j f<|fun a=>.o (.y fun m:Int=>.i [rn 6,.reg (rd 6 (.ans (.look (some (sF a.name b,(aY m))))::rd 5 [])),rn 11,.reg (rd 8 (.app (map aH (c++ [a.name])) (c++ [a.name]).length::rd 3 []))] [.a (dE a.name b=some m) (p':=eQ (aH a.name) (aU aH aY 0 b) 0=some (some (sF a.name b,(aY m)))) (mT eZ),hb aH c,hA (length (c++ [a.name]) ≤1000000),hc aH c [a.name],he aH c [a.name]]<|gw 3 84 (f+1)<|.W 3 7 [0,1,2,6] (aDP i j k (f+1) true (c++ [a.name]) b d e g))<|.i [rn 6,.reg (rd 6 (.ans (.look none)::rd 5 [])),rn 5,.reg (rd 18 [.mval (aLD b) (aU aH aY 0 (cB a.name 0 b)) (cB a.name 0 b).length,.d,.mval .undef (aU aH aY 0 (cB a.name (c.length:Int) b)) (cB a.name (c.length:Int) b).length,.mval (aLD d) (aU aH aY 0 (cB a.name 0 d)) (cB a.name 0 d).length,.d,.mval .undef (aU aH aY 0 (cB a.name e d)) (cB a.name e d).length]),.reg (rd 8 (.app (map aH (c++ [a.name])) (c++ [a.name]).length::rd 3 []))] [.a (dE a.name b=none) (p':=eQ (aH a.name) (aU aH aY 0 b) 0=some none) (mS eZ),.a (dE a.name b=none) (p':=aDl (aU aH aY 0 b) b.length (aH a.name) (aY 0) =some ((aLD b),(aU aH aY 0 (cB a.name 0 b)),length (cB a.name 0 b))) (fun h=>(aR3 eZ h _)),.q (p:=0≤ (b.length:Int)) (Int.natCast_nonneg _),.a (dE a.name b=none) (p':=kN (aY (c.length:Int)) (b.length:Int).toNat (aU aH aY 0 (cB a.name 0 b)) =some (aU aH aY 0 (cB a.name (c.length:Int) b))) (fun h=>(aNX h _ _)),.a (dE a.name b=none) (p':=(cB a.name 0 b).length=length (cB a.name (c.length:Int) b)) (fun h=>(aR4 h _ _)),hr AV.undef,.a (dE a.name d=none) (p':=aDl (aU aH aY 0 d) d.length (aH a.name) (aY 0) =some ((aLD d),(aU aH aY 0 (cB a.name 0 d)),length (cB a.name 0 d))) (fun h=>(aR3 eZ h _)),.q (p:=0≤ (d.length:Int)) (Int.natCast_nonneg _),.a (dE a.name d=none) (p':=kN (aY e) (d.length:Int).toNat (aU aH aY 0 (cB a.name 0 d)) =some (aU aH aY 0 (cB a.name e d))) (fun h=>(aNX h _ _)),.a (dE a.name d=none) (p':=(cB a.name 0 d).length=length (cB a.name e d)) (fun h=>(aR4 h _ _)),hr AV.undef,hr (nI (c.length:Int)),hr (nI (c.length:Int)),hr (AV.gl 3 1 0 c.length false),hr (AV.gl 3 1 0 c.length false),hr (aH a.name),hr (aH a.name),hr (aH a.name),hb aH c,hA (length (c++ [a.name]) ≤1000000),hc aH c [a.name],he aH c [a.name]]<|gw 3 84 (f+1)<|.W 3 7 [0,1,2,6] (aDP i j k (f+1) l (c++ [a.name]) (cB a.name (c.length:Int) b) (cB a.name e d) e g))<|gw 5 85 (g+1)<|.W 3 4 [0,1,2,3] (zO i (g+1) l b d c)
def aSj:=fun a b c d e f g i j k l m n o p q r s=>aQ4 a b c d e f g i j k|>.t n l o p|>.1 m q r s ⟨aM (fun _=>rfl) (fun _=>rfl) _ _ _,⟨aM (fun _=>rfl) (fun _=>rfl) _ _ _,⟨kk,trivial⟩⟩⟩
def aSk:=fun c d e f g i j k l m n o p q a b r s=>aQ4 c d e f g i j k l m|>.t o n p q|>.2 a a a a b b b r s ⟨aM (fun _=>rfl) (fun _=>rfl) _ _ _,⟨aM (fun _=>rfl) (fun _=>rfl) _ _ _,⟨kk,trivial⟩⟩⟩
def aSl:=fun a b c d e f g i j k l m=>aQ4 a b c d e f g i j k|>.f l m ⟨aM (fun _=>rfl) (fun _=>rfl) _ _ _,⟨aM (fun _=>rfl) (fun _=>rfl) _ _ _,⟨kk,trivial⟩⟩⟩
def bBT (a:List LUnit)(b c:List (aB×Int))(d:List aB)(e:Bool):=(tT 4 (aXT a b c d e)<|gl 15 LUnit.av a<|.i [rn 4,.nilL 3 1] []<|gu 0 4 (map aH ([] :List aB))<|gs 0 3 (.gl 4 1 0 ([] :List aB).length false)<|.W 0 5 [4] (aHd a b c d e 0 ([] :List aB))) ⟨aM (fun _=>rfl) (fun _=>rfl) _ _ _,⟨aM (fun _=>rfl) (fun _=>rfl) _ _ _,⟨kk,⟨kk,trivial⟩⟩⟩⟩
def aXX(a:List LUnit)(b c:List (aB×Int))(d:List aB)(g:Bool)(e:Int)(f:List aB):=tT 4 (aHd a b c d g e f)<|gd 5 16 (e< (a.length:Int)) (gX LUnit.av 6 a e<|fun i=>gl 8 aH i.needs<|.W 4 6 [4] (zP a b c d g i.needs (i.needs.length:Int) 0 f e))<|gz 8 2 4 1 aH f false<|.E 0 5 [] (iS f) [sK 0 a d g,(iH 1 b),(iH 2 c),nA 3 d] 4
def bBU:=fun a b c d e f g i j k l=>aXX a b c d e f g|>.t j i k l ⟨aM (fun _=>rfl) (fun _=>rfl) _ _ _,⟨aM (fun _=>rfl) (fun _=>rfl) _ _ _,⟨kk,⟨kk,trivial⟩⟩⟩⟩
def bBV:=fun a b c d e f g i=>aXX a b c d e f g|>.f i ⟨aM (fun _=>rfl) (fun _=>rfl) _ _ _,⟨aM (fun _=>rfl) (fun _=>rfl) _ _ _,⟨kk,trivial⟩⟩⟩
def aQ5(f:List LUnit)(a g:List (aB×Int))(i:List aB)(j:Bool)(k:List aB)(l c:Int)(d:List aB)(e:Int):=tT 4 (zP f a g i j k l c d e)<|gd 5 23 (c<l) (gX aH 6 k c<|fun b=>.o (.y fun m:Int=>.i [rn 10,.ans (.look (some (sF b a,(aY m))))] [.a (dE b a=some m) (p':=eQ (aH b) (aU aH aY 0 a) 0=some (some (sF b a,(aY m)))) (mT eZ)]<|gw 22 47 (c+1)<|.W 3 5 [4] (zP f a g i j k l (c+1) d e))<|.i [rn 10,.ans (.look none)] [.a (dE b a=none) (p':=eQ (aH b) (aU aH aY 0 a) 0=some none) (mS eZ)]<|.W 36 5 [4] (aLF f a g i j b k l c 0 (d.length:Int) e d))<|gw 5 48 (e+1)<|.W 3 5 [4] (aHd f a g i j (e+1) d)
def bBW:=fun a b c d e f g i j k l m n o p q r=>aQ5 a b c d e f g i j k|>.t n l o p|>.1 m q r ⟨aM (fun _=>rfl) (fun _=>rfl) _ _ _,⟨aM (fun _=>rfl) (fun _=>rfl) _ _ _,⟨kk,⟨kk,trivial⟩⟩⟩⟩
def bBX:=fun a b c d e f g i j k l m n o p=>aQ5 a b c d e f g i j k|>.t m l n o|>.2 p ⟨aM (fun _=>rfl) (fun _=>rfl) _ _ _,⟨aM (fun _=>rfl) (fun _=>rfl) _ _ _,⟨kk,⟨kk,trivial⟩⟩⟩⟩
def bBY:=fun a b c d e f g i j k l m=>aQ5 a b c d e f g i j k|>.f l m ⟨aM (fun _=>rfl) (fun _=>rfl) _ _ _,⟨aM (fun _=>rfl) (fun _=>rfl) _ _ _,⟨kk,⟨kk,trivial⟩⟩⟩⟩
def aQ6(e:List LUnit)(f g:List (aB×Int))(i:List aB)(j:Bool)(b:aB)(k:List aB)(l c d n m:Int)(a:List aB):=tT 4 (aLF e f g i j b k l c d n m a)<|gd 5 9 (d<n) (.i [rn 14,.ans (.ix)] [hA (0≤d),hA (d< (a.length:Int))]<|.y fun o:aB=>gj aH 0 a d.toNat o<|.b 2 16 (bM b.length (aA b) o.length (aA o)) (.b 16 42 (!(decide (d≥0))) (ga 5 aH a [b]<|gw 5 47 (c+1)<|.W 3 7 [6] (zP e f g i j k l (c+1) (a++ [b]) m))<|gw 5 47 (c+1)<|.W 3 5 [4] (zP e f g i j k l (c+1) a m))<|gw 5 18 (d+1)<|.W 3 5 [4] (aLF e f g i j b k l c (d+1) n m a))<|ga 21 aH a [b]<|gw 5 47 (c+1)<|.W 3 7 [6] (zP e f g i j k l (c+1) (a++ [b]) m)
def bBZ:=fun a b c d e f g i j k l m n o p q r s t u v=>aQ6 a b c d e f g i j k l m n|>.t p q r o s|>.t t|>.f u v ⟨aM (fun _=>rfl) (fun _=>rfl) _ _ _,⟨aM (fun _=>rfl) (fun _=>rfl) _ _ _,⟨kk,⟨kk,trivial⟩⟩⟩⟩
def bB0:=fun a b c d e f g i j k l m n o p q r s t u=>aQ6 a b c d e f g i j k l m n|>.t p q r o s|>.f t u ⟨aM (fun _=>rfl) (fun _=>rfl) _ _ _,⟨aM (fun _=>rfl) (fun _=>rfl) _ _ _,⟨kk,⟨kk,trivial⟩⟩⟩⟩
def bB1:=fun a b c d e f g i j k l m n o p q=>aQ6 a b c d e f g i j k l m n|>.f o p q ⟨aM (fun _=>rfl) (fun _=>rfl) _ _ _,⟨aM (fun _=>rfl) (fun _=>rfl) _ _ _,⟨kk,⟨kk,trivial⟩⟩⟩⟩
def bB2 (a:List LUnit)(b c:List (aB×Int))(d:List aB)(e:Bool):=(tT 4 (aXU a b c d e)<|gl 18 LUnit.av a<|.i [rn 4,.nilL 3 2] []<|gu 0 4 (jC ([] :List Con))<|gs 0 3 (.gl 4 2 0 ([] :List Con).length false)<|.W 0 5 [4] (aDQ a b c d e 0 ([] :List Con))) ⟨aM (fun _=>rfl) (fun _=>rfl) _ _ _,⟨aM (fun _=>rfl) (fun _=>rfl) _ _ _,⟨kk,⟨kk,trivial⟩⟩⟩⟩
def aQ7(a:List LUnit)(c d:List (aB×Int))(e:List aB)(i:Bool)(b:Int)(f:List Con):=tT 4 (aDQ a c d e i b f)<|gd 5 15 (b< (a.length:Int)) (gX LUnit.av 6 a b<|fun g=>gl 9 Con.av g.cons<|.b 2 21 ((g.cons.length:Int) ==0) (gw 4 49 (b+1)<|.W 3 6 [4] (aDQ a c d e i (b+1) f))<|gl 6 Con.av g.cons<|.W 4 6 [4] (zQ a c d e i g.cons (g.cons.length:Int) b 0 f))<|gz 8 2 4 2 Con.av f false<|.E 0 5 [] (iC f) [sK 0 a e i,(iH 1 c),(iH 2 d),nA 3 e] 4
def bB3:=fun a b c d e f g i j k l m n=>aQ7 a b c d e f g|>.t j i k l|>.t m n ⟨aM (fun _=>rfl) (fun _=>rfl) _ _ _,⟨aM (fun _=>rfl) (fun _=>rfl) _ _ _,⟨kk,⟨kk,trivial⟩⟩⟩⟩
def bB4:=fun a b c d e f g i j k l m=>aQ7 a b c d e f g|>.t j i k l|>.f m ⟨aM (fun _=>rfl) (fun _=>rfl) _ _ _,⟨aM (fun _=>rfl) (fun _=>rfl) _ _ _,⟨kk,⟨kk,trivial⟩⟩⟩⟩
def bB5:=fun a b c d e f g i=>aQ7 a b c d e f g|>.f i ⟨aM (fun _=>rfl) (fun _=>rfl) _ _ _,⟨aM (fun _=>rfl) (fun _=>rfl) _ _ _,⟨kk,trivial⟩⟩⟩
def aXY(e:List LUnit)(f g:List (aB×Int))(i:List aB)(j:Bool)(k:List Con)(l a b:Int)(c:List Con):=tT 4 (zQ e f g i j k l a b c)<|gd 5 26 (b<l) (gX Con.av 6 k b<|fun d=>.W 34 8 [4,6,7,5] (aDR e f g i j a k l d.name d.name d.name d.args 0 (c.length:Int) b c))<|gw 5 49 (a+1)<|.W 3 5 [4] (aDQ e f g i j (a+1) c)
def bB6:=fun a b c d e f g i j k l m n o=>aXY a b c d e f g i j k|>.t m l n o ⟨aM (fun _=>rfl) (fun _=>rfl) _ _ _,⟨aM (fun _=>rfl) (fun _=>rfl) _ _ _,⟨kk,⟨kk,trivial⟩⟩⟩⟩
def bB7:=fun a b c d e f g i j k l m=>aXY a b c d e f g i j k|>.f l m ⟨aM (fun _=>rfl) (fun _=>rfl) _ _ _,⟨aM (fun _=>rfl) (fun _=>rfl) _ _ _,⟨kk,⟨kk,trivial⟩⟩⟩⟩
def aQ8(k:List LUnit)(c d:List (aB×Int))(e:List aB)(l:Bool)(n:Int)(o:List Con)(p:Int)(s i j:aB)(g f r m:Int)(a:List Con):=tT 4 (aDR k c d e l n o p s i j g f r m a)<|gd 5 9 (f<r) (.i [rn 14,.ans (.ix)] [hA (0≤f),hA (f< (a.length:Int))]<|.y fun b:Con=>gj Con.av 0 a f.toNat b<|.y fun q:aB=>.i [rn 7,.reg (.d::.d::.pure (aH q)::rd 3 [])] [hA (Pure PP 131 [(.agg [(aH b.name),(nI b.args)])] (aH q)),hr (aH i),hr (aH i)]<|.b 3 16 (bM q.length (aA q) i.length (aA i)) (gd 20 34 (f<0) (ga 6 Con.av a [(Con.mk j g)]<|gw 5 48 (m+1)<|.W 3 11 [10] (zQ k c d e l o p n (m+1) (a++ [(Con.mk j g)])))<|.i [rn 2,.reg (.d::.d::.ans (.ix)::.d::.ans (.idx (Con.av b))::rd 3 [.call (.tup []) (vZ k e l c d a i j g b)])] [hA (0≤f),hA (f< (a.length:Int)),.a (((a)[f.toNat]?) =some b) (dN (f:=Con.av)),hA (Spec PP (.enter 46 [(bV (b.args != g)),(nI 7)]) (vZ k e l c d a i j g b) (.ret (.tup [])) (vZ k e l c d a i j g b))]<|gw 3 48 (m+1)<|.W 3 9 [4] (zQ k c d e l o p n (m+1) a))<|gw 5 18 (f+1)<|.W 3 9 [4,5,6,7] (aDR k c d e l n o p s i j g (f+1) r m a))<|ga 26 Con.av a [(Con.mk j g)]<|gw 5 48 (m+1)<|.W 3 10 [9] (zQ k c d e l o p n (m+1) (a++ [(Con.mk j g)]))
def bB8:=fun d e f g i j k l m n o p q r s t u v w a b c x y z A B=>aQ8 d e f g i j k l m n o p q r s t|>.t w a b u c v x|>.t y|>.f z a b c A B ⟨aM (fun _=>rfl) (fun _=>rfl) _ _ _,⟨aM (fun _=>rfl) (fun _=>rfl) _ _ _,⟨kk,⟨kk,trivial⟩⟩⟩⟩
def bB9:=fun a b c d e f g i j k l m n o p q r s t u v w x y z=>aQ8 a b c d e f g i j k l m n o p q|>.t t u v r w s x|>.f y z ⟨aM (fun _=>rfl) (fun _=>rfl) _ _ _,⟨aM (fun _=>rfl) (fun _=>rfl) _ _ _,⟨kk,⟨kk,trivial⟩⟩⟩⟩
def bCa:=fun a b c d e f g i j k l m n o p q r s t=>aQ8 a b c d e f g i j k l m n o p q|>.f r s t ⟨aM (fun _=>rfl) (fun _=>rfl) _ _ _,⟨aM (fun _=>rfl) (fun _=>rfl) _ _ _,⟨kk,⟨kk,trivial⟩⟩⟩⟩
def bCb (a:List LUnit)(b c:List (aB×Int))(d:List aB)(e:Bool):=(tT 4 (aXV a b c d e)<|gl 15 LUnit.av a<|.W 4 4 [] (aLG a b c d e 0 0)) ⟨aM (fun _=>rfl) (fun _=>rfl) _ _ _,⟨aM (fun _=>rfl) (fun _=>rfl) _ _ _,⟨kk,trivial⟩⟩⟩
def aXZ(a:List LUnit)(c d:List (aB×Int))(e:List aB)(g:Bool)(f b:Int):=tT 4 (aLG a c d e g f b)<|gd 5 12 (b< (a.length:Int)) (gX LUnit.av 6 a b<|fun i=>gl 8 Node.av i.nodes<|gw 1 19 (f+ (i.nodes.length:Int))<|gw 5 20 (b+1)<|.W 3 5 [] (aLG a c d e g (f+ (i.nodes.length:Int)) (b+1)))<|.E 8 4 [] (nI f) [sK 0 a e g,(iH 1 c),(iH 2 d),nA 3 e] 4
def bCc:=fun a b c d e f g i j k l m n=>aXZ a b c d e f g|>.t j i k l m n ⟨aM (fun _=>rfl) (fun _=>rfl) _ _ _,⟨aM (fun _=>rfl) (fun _=>rfl) _ _ _,⟨kk,trivial⟩⟩⟩
def bCd:=fun a b c d e f g i=>aXZ a b c d e f g|>.f i ⟨aM (fun _=>rfl) (fun _=>rfl) _ _ _,⟨aM (fun _=>rfl) (fun _=>rfl) _ _ _,⟨kk,trivial⟩⟩⟩
abbrev aQ9 (l:List LUnit)(a b c:Nat)(od:List aB)(tw:Bool) :AObj:=.cells (putCells .leaf 0 [.ilst 5 (map LUnit.av l) false,.map a,.map b,.gl c 1 0 (length od) false,.bool tw]) 5 [] false
abbrev MTb (m:List (aB×Int)) :AObj:=.map (aU aH aY 0 m) (length m)
abbrev aOp (l:List aB) :AObj:=.lst 1 (map aH l)
abbrev THp (l:List LUnit)(mf mh:List (aB×Int))(od:List aB)(tw:Bool) :List (Nat×AObj×Bool) :=[(0,aQ9 l 1 2 3 od tw,false),(1,MTb mf,true),(2,MTb mh,true),(3,aOp od,true)]
theorem zR (m:List (aB×Int)) : (MTb m).kl:=aM (fun _=>rfl) (fun _=>rfl) _ _ _
theorem aFn (l:List aB) : (aOp l).kl:=aG _ (fun _=>rfl) _
theorem iJ (a b:List aB)(s:aB) :aQ (a++b) s= (aQ a s||aQ b s) :=by simp [aQ]
theorem aDS (s:aB) :∀ (a b:List aB) (i:Nat),dX s (a++b) i=if aQ a s=true then dX s a i else dX s b (i+a.length)
 | [],b,i=>by simp [aQ]
 | x ::a,b,i=>by
  rw [List.cons_append,dX,dX,aAo];by_cases e:x=s
  ·rw [if_pos e,if_pos e,decide_eq_true e,Bool.true_or,if_pos rfl]
  · rw [if_neg e,if_neg e,decide_eq_false e,Bool.false_or,aDS s a b (i+1)];rw [length_cons,show i+1+a.length=i+ (a.length+1)by omega]
theorem nB (s:aB) :∀ (a:List aB) (i:Nat),dX s a i<0↔aQ a s=false
 | [],i=>by simp [dX,aQ]
 | x ::a,i=>by
  rw [dX,aAo];by_cases e:x=s
  · rw [if_pos e,decide_eq_true e,Bool.true_or];constructor
    ·intro h;omega
    ·intro h;cases h
  ·rw [if_neg e,decide_eq_false e,Bool.false_or,nB s a (i+1)]
theorem aCS (a:List aB)(s:aB) :cC (a++ [s]) = (cC a&& !aQ a s) :=by
 rw [Bool.eq_iff_iff,jX,and_eq_true,jX,Bool.not_eq_true',Bool.eq_false_iff,Ne,hasS_mem,List.nodup_append];constructor
 · intro h;exact⟨h.1,fun hm=>h.2.2 s hm s (by simp) rfl⟩
 · intro h;refine⟨h.1,by simp,fun x hx y hy e=>?_⟩;rw [List.mem_singleton.1 hy]at e;exact h.2 (e ▸ hx)
structure TabI (od:List aB) (tw:Bool) (mf mh:List (aB×Int)) :Prop where
 tw:tw= !cC od
 f:∀s,dE s mf=if aQ od s=true then some (dX s od 0)else none
 h:∀s,aQ od s=false→dE s mh=none
theorem TabI.nil :TabI [] false [] [] := ⟨rfl,fun s=>by simp [dE,aQ],fun s _=>rfl⟩
theorem TabI.old {od:List aB}{tw:Bool}{mf mh:List (aB×Int)}(t:TabI od tw mf mh){s:aB}(h:aQ od s=true) :TabI (od++ [s]) true mf mh:=by
 refine⟨by rw [aCS,h];simp,fun k=>?_,fun k hk=>?_⟩
 · rw [t.f k,iJ,aDS];by_cases e:aQ od k=true
   ·rw [if_pos e,if_pos e,e,Bool.true_or,if_pos rfl]
   · rw [if_neg e,if_neg];rw [not_eq_true]at e;rw [e,Bool.false_or,aAo];intro hh;have:s=k:=by simpa [aQ]using hh
     rw [this,e]at h;cases h
 · rw [iJ,Bool.or_eq_false_iff]at hk;exact t.h k hk.1
theorem TabI.new {od:List aB}{tw:Bool}{mf mh:List (aB×Int)}(t:TabI od tw mf mh){s:aB}(h:aQ od s=false)(i:Int) :TabI (od++ [s]) tw (cB s ((od.length:Nat) :Int) mf) (cB s i mh) :=by
 refine⟨by rw [aCS,h,t.tw];simp,fun k=>?_,fun k hk=>?_⟩
 · rw [qM,iJ,aDS,t.f k];by_cases e:k=s
   · subst e;rw [if_pos rfl,h];simp [aQ,dX]
   · rw [if_neg e];have:aQ [s] k=false:=by simp [aQ,Ne.symm e]
     rw [this,Bool.or_false];by_cases e2:aQ od k=true
     ·rw [if_pos e2,if_pos e2,if_pos e2]
     ·rw [if_neg e2,if_neg e2]
 · rw [iJ,Bool.or_eq_false_iff]at hk;have:k≠s:=fun e=>by rw [e]at hk;simp [aQ]at hk
   rw [qM,if_neg this];exact t.h k hk.1
section
variable (l :List LUnit)
theorem aX0 (u:LUnit)(hf:u.funs.length≤30)(i:Nat)(hi:i<1000) :∀ (t:List LFun) (k:Nat) (od:List aB) (tw:Bool) (m1 m2:List (aB×Int)),u.funs.drop k=t→od.length+t.length≤1000→TabI od tw m1 m2 →
  ∃tw' m1' m2',TabI (od++t.map LFun.name) tw' m1' m2'∧LeadsM PP 0 (aDP l u.funs ((u.funs.length:Nat) :Int) (k:Int) tw od m1 m2 (i:Int) (i:Int)).as (zO l ((i:Int) +1) tw' m1' m2' (od++t.map LFun.name)).as
 | [],k,od,tw,m1,m2,h,ho,ht=>by
  have:=bA h;rw [map_nil,append_nil];exact⟨tw,m1,m2,ht,aSl l u.funs _ k tw od m1 m2 i i sd sd⟩
 | f::t,k,od,tw,m1,m2,h,ho,ht=>by
  obtain⟨q1,q2,q3⟩ :=aZ h;simp only [length_cons]at ho;have g:=ht.f f.name;cases e:aQ od f.name
  case true=>
   rw [e,if_pos rfl]at g;obtain⟨tw',m1',m2',h1,h2⟩ :=aX0 u hf i hi t (k+1) (od++ [f.name]) true m1 m2 q2 (by simp;omega) (ht.old e);refine⟨tw',m1',m2',by simpa using h1,?_⟩;rw [append_assoc]at h2;exact(aSj l u.funs _ k tw od m1 m2 i i f _ sd sd sd g (by simp;omega) sd).trans h2
  rw [e,if_neg (by simp)]at g;obtain⟨tw',m1',m2',h1,h2⟩ :=aX0 u hf i hi t (k+1) (od++ [f.name]) tw (cB f.name ((od.length:Nat) :Int) m1) (cB f.name (i:Int) m2) q2 (by simp;omega) (ht.new e i);refine⟨tw',m1',m2',by simpa using h1,?_⟩;rw [append_assoc]at h2;exact(aSk l u.funs _ k tw od m1 m2 i i f sd sd sd g (ht.h _ e) (by simp;omega) sd).trans h2
abbrev aFo (e:Int) :Res:=.pan [((.iface 174 (.agg [(.int .i64 e)])),false)]
theorem aX1 (hl:l.length≤10)(hu:∀u∈l,FewU u∧NumU u) :∀ (t:List LUnit) (i:Nat) (od:List aB) (tw:Bool) (m1 m2:List (aB×Int)),l.drop i=t→od.length≤30*i→TabI od tw m1 m2 →
  (t.all jJ=true→∃tw' mf mh,TabI (od++aN t) tw' mf mh∧Ends PP 0 (zO l (i:Int) tw m1 m2 od).as (.ret (.ptr 0 0)) (aD (THp l mf mh (od++aN t) tw') 4)) ∧
  (t.all jJ=false→Ends PP 0 (zO l (i:Int) tw m1 m2 od).as (aFo 2) (aD [] 0))
 | [],i,od,tw,m1,m2,h,ho,ht=>by
  have:=bA h;refine⟨fun _=> ⟨tw,m1,m2,?_,?_⟩,fun h=>by simp at h⟩
  ·rw [show aN [] = []from rfl,append_nil];exact ht
  ·rw [show aN [] = []from rfl,append_nil];exact aSi l i tw m1 m2 od sd
 | u ::t,i,od,tw,m1,m2,h,ho,ht=>by
  obtain⟨q1,q2,q3⟩ :=aZ h;have hh:=hu u (mem_of_getElem? q1);have hf:=hh.1.f;have hp:=aOn u hh.1 hh.2;rw [List.all_cons];cases e:jJ u
  case false=>
   rw [e]at hp;refine⟨fun h=>by simp at h,fun _=>?_⟩;exact bBS l i tw m1 m2 od u false sd sd sd hp rfl
  rw [e]at hp;rw [Bool.true_and];obtain⟨tw',m1',m2',h1,h2⟩ :=aX0 l u hf i (by omega) u.funs 0 od tw m1 m2 rfl (by omega) ht;have h0:=aSh l i tw m1 m2 od u true sd sd sd hp rfl;have ih:=aX1 hl hu t (i+1) (od++aC u) tw' m1' m2' q2 (by simp [aC];omega) h1;refine⟨fun hg=>?_,fun hg=>?_⟩
  · obtain⟨tw2,mf,mh,g1,g2⟩ :=ih.1 hg;rw [append_assoc]at g1 g2;exact⟨tw2,mf,mh,g1,h0.ends (h2.ends g2)⟩
  ·exact h0.ends (h2.ends (ih.2 hg))
theorem aX2 (hu:∀u∈l,FewU u∧NumU u)(h:gR l=false) :aJ4 PP 69 [.ilst 5 (map LUnit.av l) false] [((.iface 174 (.agg [(.int .i64 2)])),false)] :=by
 refine throws_at (by kernel_rfl) (by simp [keylessL,keyless]) (fun x hx=>by rw [List.mem_singleton.1 hx];rfl) ?_;by_cases hl:l.length≤10
 · rw [gR,decide_eq_true hl,Bool.true_and]at h;exact(aLH l (by simp;omega)).ends ((aX1 l hl hu l 0 [] false [] [] rfl (by simp) TabI.nil).2 h)
 ·exact bBR l (by simp;omega)
theorem bFI (hu:∀u∈l,FewU u∧NumU u)(h:gR l=true) :∃mf mh,TabI (aN l) (!cC (aN l)) mf mh ∧
  aCp PP (.enter 69 [.ilst 5 (map LUnit.av l) false]) (aD [] 0) (.ret (.ptr 0 0)) (aD (THp l mf mh (aN l) (!cC (aN l))) 4) :=by
 simp only [gR,and_eq_true,decide_eq_true_eq]at h;obtain⟨tw,mf,mh,h1,h2⟩ := (aX1 l h.1 hu l 0 [] false [] [] rfl (by simp) TabI.nil).1 h.2;rw [List.nil_append]at h1 h2;have e:=h1.tw;subst e;refine⟨mf,mh,h1,?_⟩
 suffices hh:Ends PP 0 (aOo l).as (.ret (.ptr 0 0)) (aD (THp l mf mh (aN l) (!cC (aN l))) 4)from⟨(aOo l).as.fr,by kernel_rfl,mp (by kernel_rfl) hh⟩
 exact(aLH l (by simp;omega)).ends h2
end
section
variable (l :List LUnit) (mf mh:List (aB×Int)) (od:List aB) (tw:Bool)
theorem bEE (s:aB)(nd:List aB)(hn:nd.length≤1000)(k:Nat)(hk:k<1000)(i:Int)(acc:List aB)(ha:acc.length≤100000) :∀ (t:List aB) (j:Nat),acc.drop j=t →
  LeadsM PP 4 (aLF l mf mh od tw s nd ((nd.length:Nat) :Int) (k:Int) (j:Int) ((acc.length:Nat) :Int) i acc).as (zP l mf mh od tw nd ((nd.length:Nat) :Int) ((k:Int) +1) (if aQ t s=true then acc else acc++ [s]) i).as
 | [],j,h=>by
  have:=bA h;exact bB1 l mf mh od tw s nd _ k j _ i acc sd (by simp;omega) sd
 | x ::t,j,h=>by
  obtain⟨q1,q2,q3⟩ :=aZ h;rw [aAo];by_cases e:x=s
  · rw [decide_eq_true e,Bool.true_or,if_pos rfl];exact bBZ l mf mh od tw s nd _ k j _ i acc x sd sd sd sd (by rw [eE];simp [e]) (by simp) sd
  · rw [decide_eq_false e,Bool.false_or];exact(bB0 l mf mh od tw s nd _ k j _ i acc x sd sd sd sd (by rw [eE];simp [Ne.symm e]) sd).trans (bEE s nd hn k hk i acc ha t (j+1) q2)
theorem aX3 (ht:TabI od tw mf mh)(nd:List aB)(hn:nd.length≤25)(i:Nat)(hi:i<1000) :∀ (t:List aB) (k:Nat) (acc:List aB),nd.drop k=t→acc.length≤25*i+k →
  LeadsM PP 4 (zP l mf mh od tw nd ((nd.length:Nat) :Int) (k:Int) acc (i:Int)).as (aHd l mf mh od tw ((i:Int) +1) (tI od acc t)).as
 | [],k,acc,h,ha=>by
  have:=bA h;exact bBY l mf mh od tw nd _ k acc i sd sd
 | s::t,k,acc,h,ha=>by
  obtain⟨q1,q2,q3⟩ :=aZ h;have g:=ht.f s;rw [tI];cases e:aQ od s
  case true=>
   rw [e,if_pos rfl]at g;rw [if_pos (.inl rfl)];exact(bBW l mf mh od tw nd _ k acc i s _ sd sd sd g sd).trans (aX3 ht nd hn i hi t (k+1) acc q2 (by omega))
  rw [e,if_neg (by simp)]at g;have h1:=bBX l mf mh od tw nd ((nd.length:Nat) :Int) k acc i s sd sd sd g;have h2:=bEE l mf mh od tw s nd (by omega) k (by omega) i acc (by omega) acc 0 rfl;have e2: (if false=true∨aQ acc s=true then acc else acc++ [s]) = (if aQ acc s=true then acc else acc++ [s]) :=by simp
  rw [e2];exact h1.trans (h2.trans (aX3 ht nd hn i hi t (k+1) _ q2 (by split<;>first|omega| (simp;omega))))
theorem bEF (ht:TabI od tw mf mh)(hl:l.length≤11)(hu:∀u∈l,FewU u) :∀ (t:List LUnit) (i:Nat) (acc:List aB),l.drop i=t→acc.length≤25*i →
  Ends PP 4 (aHd l mf mh od tw (i:Int) acc).as (.ret (.ilst 1 (map aH (zI od acc t)) false)) (aD (THp l mf mh od tw) 4)
 | [],i,acc,h,ha=>by
  have:=bA h;exact bBV l mf mh od tw i acc sd
 | u::t,i,acc,h,ha=>by
  obtain⟨q1,q2,q3⟩ :=aZ h;have hn:= (hu u (mem_of_getElem? q1)).n;have hlen:=aI6 od u.needs acc;exact(bBU l mf mh od tw i acc u sd sd sd).ends ((aX3 l mf mh od tw ht u.needs hn i (by omega) u.needs 0 acc rfl (by omega)).ends (bEF ht hl hu t (i+1) _ q2 (by omega)))
theorem aX4 (ht:TabI od tw mf mh)(hl:l.length≤11)(hu:∀u∈l,FewU u) :Spec PP (.enter 71 [.ptr 0 0]) (aD (THp l mf mh od tw) 4) (.ret (.ilst 1 (map aH (zI od [] l)) false)) (aD (THp l mf mh od tw) 4) :=by
 suffices hh:Ends PP 4 (aXT l mf mh od tw).as (.ret (.ilst 1 (map aH (zI od [] l)) false)) (aD (THp l mf mh od tw) 4)from⟨(aXT l mf mh od tw).as.fr,by kernel_rfl,mp (by kernel_rfl) hh⟩
 exact(bBT l mf mh od tw).ends (bEF l mf mh od tw ht hl hu l 0 [] rfl (by simp))
theorem bEG (hl:l.length≤11)(hu:∀u∈l,u.nodes.length≤320) :∀ (t:List LUnit) (i n:Nat),l.drop i=t→n+aR t=aR l→n≤320*i →
  Ends PP 4 (aLG l mf mh od tw (n:Int) (i:Int)).as (.ret (.int .i64 (aR l:Int))) (aD (THp l mf mh od tw) 4)
 | [],i,n,h,hn,hb=>by
  have:=bA h;simp only [aR]at hn;obtain rfl:n=aR l:=by omega
  exact bCd l mf mh od tw _ i sd
 | u::t,i,n,h,hn,hb=>by
  obtain⟨q1,q2,q3⟩ :=aZ h;simp only [aR]at hn;have hs:=hu u (mem_of_getElem? q1);have h1:=bCc l mf mh od tw n i u sd sd sd sd sd;have ih:=bEG hl hu t (i+1) (n+u.nodes.length) q2 (by omega) (by omega);rw [Int.natCast_add,Int.natCast_add]at ih;exact h1.ends ih
theorem aX5 (hl:l.length≤11)(hu:∀u∈l,u.nodes.length≤320) :Spec PP (.enter 72 [.ptr 0 0]) (aD (THp l mf mh od tw) 4) (.ret (.int .i64 (aR l:Int))) (aD (THp l mf mh od tw) 4) :=by
 suffices hh:Ends PP 4 (aXV l mf mh od tw).as (.ret (.int .i64 (aR l:Int))) (aD (THp l mf mh od tw) 4)from⟨(aXV l mf mh od tw).as.fr,by kernel_rfl,mp (by kernel_rfl) hh⟩
 exact(bCb l mf mh od tw).ends (bEG l mf mh od tw hl hu l 0 0 rfl (by omega) (by omega))
def aLI (out:List Con)(c:Con)(t:List Con) :Option (List Con) :=match t.find? (fun d=>decide (d.name=c.name))with
 |none=>some (out++ [c])
 |some d=>if d.args=c.args then some out else none
theorem aOq (out:List Con)(c:Con) :aEM out c=aLI out c out:=rfl
theorem bEH (i:Int)(cl:List Con)(hcl:cl.length≤1000)(c:Con)(k:Nat)(hk:k<1000)(acc:List Con)(ha:acc.length<100000) :∀ (t:List Con) (j:Nat),acc.drop j=t →
  (match aLI acc c t with
  |some o=>LeadsM PP 4 (aDR l mf mh od tw i cl ((cl.length:Nat) :Int) c.name c.name c.name c.args (j:Int) ((acc.length:Nat) :Int) (k:Int) acc).as (zQ l mf mh od tw cl ((cl.length:Nat) :Int) i ((k:Int) +1) o).as
  |none=>Ends PP 4 (aDR l mf mh od tw i cl ((cl.length:Nat) :Int) c.name c.name c.name c.args (j:Int) ((acc.length:Nat) :Int) (k:Int) acc).as (aFo 7) (aD (THp l mf mh od tw) 4))
 | [],j,h=>by
  have:=bA h;exact bCa l mf mh od tw i cl _ c.name c.name c.name c.args j _ k acc sd (by simp;omega) sd
 | d ::t,j,h=>by
  obtain⟨q1,q2,q3⟩ :=aZ h;unfold aLI;by_cases e:d.name=c.name
  · rw [List.find?_cons_of_pos (by simpa using e)];by_cases e2:d.args=c.args
    · dsimp only;rw [if_pos e2];exact bB8 l mf mh od tw i cl _ c.name c.name c.name c.args j _ k acc d d.name sd sd sd sd (zN d) (by rw [eE];simp [e]) sd (by rw [show(d.args != c.args) =false by simp [e2]];exact bFG 7 _) sd
    · dsimp only;rw [if_neg e2];exact bBQ l mf mh od tw i cl _ c.name c.name c.name c.args j _ k acc d d.name sd sd sd sd (zN d) (by rw [eE];simp [e]) sd (by rw [show(d.args != c.args) =true by simp [e2]];exact bFH 7 _)
  · rw [List.find?_cons_of_neg (by simpa using e)];have ih:=bEH i cl hcl c k hk acc ha t (j+1) q2;unfold aLI at ih;have h1:=bB9 l mf mh od tw i cl ((cl.length:Nat) :Int) c.name c.name c.name c.args j ((acc.length:Nat) :Int) k acc d d.name sd sd sd sd (zN d) (by rw [eE];simp [e]) sd;split at ih
    ·rename_i o ho;first|exact h1.trans ih| (rw [ho];exact h1.trans ih)
    ·rename_i ho;first|exact h1.ends ih| (rw [ho];exact h1.ends ih)
theorem bEI (cl:List Con)(i:Nat)(hi2:i<1000)(hn:cl.length≤25) :∀ (t:List Con) (k:Nat) (acc:List Con),cl.drop k=t→acc.length≤25*i+k →
  (match zK acc t with
  |some o=>LeadsM PP 4 (zQ l mf mh od tw cl ((cl.length:Nat) :Int) (i:Int) (k:Int) acc).as (aDQ l mf mh od tw ((i:Int) +1) o).as
  |none=>Ends PP 4 (zQ l mf mh od tw cl ((cl.length:Nat) :Int) (i:Int) (k:Int) acc).as (aFo 7) (aD (THp l mf mh od tw) 4))
 | [],k,acc,h,ha=>by
  have:=bA h;exact bB7 l mf mh od tw cl _ i k acc sd sd
 | c ::t,k,acc,h,ha=>by
  obtain⟨q1,q2,q3⟩ :=aZ h;have h1:=bB6 l mf mh od tw cl ((cl.length:Nat) :Int) i k acc c sd sd sd;have h2:=bEH l mf mh od tw i cl (by omega) c k (by omega) acc (by omega) acc 0 rfl;rw [zK,aOq];split at h2
  · rename_i o ho
    try rw [ho]
    have hl:=aI7 (out:=acc) (c:=c) (o:=o) (by rw [aOq];exact ho);have h3:=bEI cl i hi2 hn t (k+1) o q2 (by omega);dsimp only;split at h3
    ·rename_i o2 ho2;first|exact h1.trans (h2.trans h3) | (rw [ho2];exact h1.trans (h2.trans h3))
    ·rename_i ho2;first|exact h1.ends (h2.ends h3) | (rw [ho2];exact h1.ends (h2.ends h3))
  · rename_i ho
    try rw [ho]
    exact h1.ends h2
abbrev aHe (o:Option (List Con)) :Res:=match o with
 |some o=>.ret (.ilst 2 (map Con.av o) false)
 |none=>aFo 7
theorem aX6 (hl:l.length≤11)(hu:∀u∈l,u.cons.length≤25) :∀ (t:List LUnit) (i:Nat) (acc:List Con),l.drop i=t→acc.length≤25*i →
  Ends PP 4 (aDQ l mf mh od tw (i:Int) acc).as (aHe (tJ acc t)) (aD (THp l mf mh od tw) 4)
 | [],i,acc,h,ha=>by
  have:=bA h;exact bB5 l mf mh od tw i acc sd
 | u ::t,i,acc,h,ha=>by
  obtain⟨q1,q2,q3⟩ :=aZ h;have hn:=hu u (mem_of_getElem? q1);by_cases h0:u.cons= []
  · have e:tJ acc (u::t) =tJ acc t:=by rw [tJ,h0,zK]
    rw [e];exact(bB3 l mf mh od tw i acc u sd sd sd (by rw [h0];rfl) sd).ends (aX6 hl hu t (i+1) acc q2 (by omega))
  · have hp:0<u.cons.length:=List.length_pos_iff.2 h0;have h1:=bB4 l mf mh od tw i acc u sd sd sd (beq_eq_false_iff_ne.2 (by omega));have h2:=bEI l mf mh od tw u.cons i (by omega) hn u.cons 0 acc rfl (by omega);rw [tJ];split at h2
    · rename_i o ho
      try rw [ho]
      have:=aDD ho;exact h1.ends (h2.ends (aX6 hl hu t (i+1) o q2 (by omega)))
    · rename_i ho
      try rw [ho]
      exact h1.ends h2
theorem aX7 (hl:l.length≤11)(hu:∀u∈l,u.cons.length≤25) :Spec PP (.enter 70 [.ptr 0 0]) (aD (THp l mf mh od tw) 4) (aHe (aGQ l)) (aD (THp l mf mh od tw) 4) :=by
 suffices hh:Ends PP 4 (aXU l mf mh od tw).as (aHe (aGQ l)) (aD (THp l mf mh od tw) 4)from⟨(aXU l mf mh od tw).as.fr,by kernel_rfl,mp (by kernel_rfl) hh⟩
 exact(bB2 l mf mh od tw).ends (aX6 l mf mh od tw hl hu l 0 [] rfl (by simp))
end
abbrev aRb (a:Nat)(b:List LUnit)(c:List aB)(d:Bool):=oC a [(.ilst 5 (map LUnit.av b) false),(.map 1),(.map 2),(.gl 3 1 0 c.length false),(bV d)]
abbrev eC (a:Nat)(b:List (aB×Int)):Nat×AObj×Bool:=(a,(.map (aU aH aY 0 b) b.length),true)
abbrev jK (a:Nat)(b:List aB):=oL a 1 (map aH b)
abbrev bCe (a:Nat)(b:List LFun):=oL a 2 (map LFun.av b)
abbrev nR (a:List LUnit)(b:List aB)(c:Bool)(d e:List (aB×Int))(f:List LFun):=[aRb 0 a b c,(eC 1 d),(eC 2 e),jK 3 b,bCe 4 f]
abbrev aLJ:AV:=.agg [(.ilst 4 (jN ([] :List Node)) true),(.ilst 1 (jI ([] :List Int)) true),(nI 0),(.ilst 2 (jC ([] :List Con)) true)]
abbrev aHf:AV:=.tup [aLJ,(nI 7)]
abbrev aX8:AV:=.tup [aLJ,(nI 3)]
abbrev qP (a:Nat)(b:List LUnit)(c:List aB)(d:Bool):=oC a [(.ilst 5 (map LUnit.av b) false),(.map 3),(.map 4),(.gl 5 1 0 c.length false),(bV d)]
abbrev aX9 (a:List LFun)(b:List Node):AV:=.tup [(.ilst 2 (map LFun.av a) false),(iN b)]
abbrev wC (a:List LUnit):AV:=.ilst 5 (map LUnit.av a) false
abbrev aFp (a:List LFun):AV:=.ilst 2 (map LFun.av a) false
abbrev jL (a:Nat):=oC a [.nils,.nils,(nI 0),.nils]
abbrev rT (a:Nat)(b:List ONode):=oL a 4 (map ONode.av b)
abbrev aAs (a:List ONode):AV:=.gl 6 4 0 a.length false
def aYa(d:List LUnit)(a b:List (aB×Int))(c:List aB)(e:Bool)(f:List Con)(g:List aB):TS:=cQ PP 73 [(.ptr 0 0),(iC f),(iS g)] [aRb 0 d c e,(eC 1 a),(eC 2 b),jK 3 c] 4
def aHg(a:List LUnit)(b c:List (aB×Int))(d:List aB)(g:Bool)(i:List Con)(j:List aB)(k:Int)(l:List Node)(m n:List Int)(e:List LFun)(f:List ONode):TS:=⟨(tf 73 129 [kp 0 0,(1,(iC i)),(2,(iS j)),(6,.nils),(7,.nils),(8,(.gl 4 2 0 e.length false)),kp 9 5,(25,(wC a)),(26,(nI (a.length:Int))),(27,(nI k))] [kc f73 244,kl f73 244,.inBlock 0,kc f73 31]),[],(nR a d g b c e++[oC 5 [(iN l),(aAs f),(iI m),(iI n)],rT 6 f]),7⟩
def aHh(a:List LUnit)(b c:List (aB×Int))(d:List aB)(i:Bool)(j:List Con)(k l:List aB)(m:Int)(n:List Node)(o:aB)(p:List Con)(q:List LFun)(r:List aB)(s:List Node)(t:Int)(e:List Int)(u:Int)(f:List LFun)(g:List ONode):TS:=⟨(tf 73 129 [kp 0 0,(1,(iC j)),(2,(iS k)),(6,.nils),(7,.nils),(8,(.gl 4 2 0 f.length false)),kp 9 5,kp 11 6,(25,(wC a)),(26,(nI (a.length:Int))),(27,(nI u)),(47,(iS l)),(48,(nI m)),(49,(nI t))] [kc f73 250676,kl f73 250676,.inBlock 2,kc f73 31335,.inBlock 1,kc f73 1959,kl f73 244,.inBlock 0,kc f73 31]),[],(nR a d i b c f++[oC 5 [(iN n),(.gl 7 4 0 g.length false),(.gl 8 1 0 e.length false),(.gl 9 1 0 ([] :List Int).length false)],oC 6 [(aH o),(iC p),(aFp q),(iS r),(iN s)],rT 7 g,oL 8 1 (jI e),oL 9 1 (jI ([] :List Int))]),10⟩
def aHi(a:List LUnit)(b c:List (aB×Int))(d:List aB)(k:Bool)(l:List Con)(m:List aB)(e:List Con)(n:Int)(o:List Node)(p:aB)(q:List LFun)(r:List aB)(s:List Node)(f:List Int)(t:Int)(g:List Int)(u:Int)(i:List LFun)(j:List ONode):TS:=⟨(tf 73 129 [kp 0 0,(1,(iC l)),(2,(iS m)),(6,.nils),(7,.nils),(8,(.gl 4 2 0 i.length false)),kp 9 5,kp 11 6,(25,(wC a)),(26,(nI (a.length:Int))),(27,(nI u)),(85,(iC e)),(86,(nI n)),(87,(nI t))] [kc f73 501364,kl f73 501364,.inBlock 4,kc f73 62671,.inBlock 1,kc f73 1959,kl f73 244,.inBlock 0,kc f73 31]),[],(nR a d k b c i++[oC 5 [(iN o),(.gl 7 4 0 j.length false),(.gl 8 1 0 f.length false),(.gl 9 1 0 g.length false)],oC 6 [(aH p),(iC e),(aFp q),(iS r),(iN s)],rT 7 j,oL 8 1 (jI f),oL 9 1 (jI g)]),10⟩
def aHj(a:List LUnit)(b c:List (aB×Int))(d:List aB)(g:Bool)(i:List Con)(j:List aB)(k:List LFun)(l:Int)(m:List Node)(n o:List Int)(p:Int)(e:List LFun)(f:List ONode)(q:Int):TS:=⟨(tf 73 129 [kp 0 0,(1,(iC i)),(2,(iS j)),(6,.nils),(7,.nils),(8,(.gl 4 2 0 e.length false)),kp 9 5,(25,(wC a)),(26,(nI (a.length:Int))),(27,(nI q)),(106,(aFp k)),(107,(nI l)),(108,(nI p))] [kc f73 501372,kl f73 501372,.inBlock 6,.inBlock 1,kc f73 1959,kl f73 244,.inBlock 0,kc f73 31]),[],(nR a d g b c e++[oC 5 [(iN m),(aAs f),(iI n),(iI o)],rT 6 f]),7⟩
def aSm(a:List LUnit):TS:=cQ PP 12 [(wC a)] [] 0
def aLK(i:List LUnit)(b:List LFun)(c:Int)(d:List Node)(e:Int)(f:List Con)(g:Int)(a:List Int):TS:=⟨(tf 12 74 [kp 2 0,kp 3 1,(59,(aFp b)),(60,(nI c)),(61,(nI g))] [kc f12 16372,kl f12 16372,.inBlock 0,kc f12 2047] (defers:=[.fn 44 [(.ptr 1 0),(.func 68 [] [(.ptr 0 0)])]])),[],[oC 0 [(iN d),(.gl 2 1 0 a.length false),(nI e),(iC f)],oC 1 [(nI 0)],oL 2 1 (jI a)],3⟩
def bCf (a:List LUnit)(b c:List (aB×Int))(d:List aB)(e:Bool)(f:List Con)(g:List aB):=(tT 4 (aYa a b c d e f g)<|.i [rn 17,.cnilI 4 0 4] []<|.i [.cweak 4 0] []<|.i [.cnilI 4 2 1] []<|.i [.cweak 4 2] []<|.i [.cnilI 4 3 1] []<|.i [.cweak 4 3] []<|gl 5 LUnit.av a<|.i [rn 4,.nilL 8 2] []<|gu 0 5 (map LFun.av ([] :List LFun))<|gs 0 8 (.gl 5 2 0 ([] :List LFun).length false)<|.i [.cnil 4 1 4] []<|gu 0 6 (map ONode.av ([] :List ONode))<|gv 0 4 1 (.gl 6 4 0 ([] :List ONode).length false)<|.W 0 7 [5,4,6] (aHg a b c d e f g 0 ([] :List Node) ([] :List Int) ([] :List Int) ([] :List LFun) ([] :List ONode))) ⟨aM (fun _=>rfl) (fun _=>rfl) _ _ _,⟨aM (fun _=>rfl) (fun _=>rfl) _ _ _,⟨kk,⟨kk,⟨(aG _ (fun _=>bG _) _),trivial⟩⟩⟩⟩⟩
def aYb(g:List LUnit)(d e:List (aB×Int))(f:List aB)(k:Bool)(m:List Con)(n:List aB)(l:Int)(o:List Node)(p q:List Int)(j:List LFun)(b:List ONode):=tT 4 (aHg g d e f k m n l o p q j b)<|gd 5 28 (l< (g.length:Int)) (gX LUnit.av 6 g l<|fun a=>.y fun c:List aB=>.i [rn 23,.reg (.d::.pure (iS c)::rd 3 [.call (iS (c++a.needs)) (aD (nR g f k d e j++[oC 5 [(iN a.nodes),(aAs b),.nils,.nils],rT 6 b,oC 7 [(aH a.name),(iC a.cons),(.ilst 2 (map LFun.av a.funs) false),(iS a.needs),(iN a.nodes)],oC 8 [(iS c),(iS a.needs)]]) 9),.ans (.len ((c++a.needs).length:Int)),.d])] [hA (Pure PP 134 [(.agg [(aH a.name),(iC a.cons),(.ilst 2 (map LFun.av a.funs) false),(iS a.needs),(iN a.nodes)])] (iS c)),hA (Spec PP (.enter 133 [(.slice 8 0 2 2 1 true)]) (aD (nR g f k d e j++[oC 5 [(iN a.nodes),(aAs b),.nils,.nils],rT 6 b,oC 7 [(aH a.name),(iC a.cons),(.ilst 2 (map LFun.av a.funs) false),(iS a.needs),(iN a.nodes)],oC 8 [(iS c),(iS a.needs)]]) 9) (.ret (iS (c++a.needs))) (aD (nR g f k d e j++[oC 5 [(iN a.nodes),(aAs b),.nils,.nils],rT 6 b,oC 7 [(aH a.name),(iC a.cons),(.ilst 2 (map LFun.av a.funs) false),(iS a.needs),(iN a.nodes)],oC 8 [(iS c),(iS a.needs)]]) 9)),hl aH (c++a.needs),hr (ilst 1 (map aH a.needs) false),hr (ilst 1 (map aH a.needs) false)]<|.i [rn 2,.cnil 5 2 1] []<|gu 0 9 (jI ([] :List Int))<|gv 0 5 2 (.gl 9 1 0 ([] :List Int).length false)<|.i [.cnil 5 3 1] []<|gu 0 10 (jI ([] :List Int))<|gv 0 5 3 (.gl 10 1 0 ([] :List Int).length false)<|.W 0 11 [4,5,7,6,9,10] (aHh g d e f k m n (c++a.needs) ((c++a.needs).length:Int) a.nodes a.name a.cons a.funs a.needs a.nodes 0 ([] :List Int) l j b))<|.i [rn 3,.reg (rd 7 [])] []<|.y fun i:List Node=>.i [rn 1,.lset 6 (jN i)] [.a (b=map Node.o i) (p':=(map ONode.av b) = (jN i)) aQH]<|.i [.set 7 (.gl 6 4 0 i.length false)] [.a (i.length=b.length) (p':=(AV.gl 6 4 0 b.length false) = (.gl 6 4 0 i.length false)) (fun h=>(bD h.symm))]<|gz 0 6 4 2 LFun.av j false<|gz 0 7 6 4 Node.av i false<|.E 0 7 [] (aX9 j i) [aRb 0 g f k,(eC 1 d),(eC 2 e),jK 3 f] 4
def bCg:=fun a b c d e f g i j k l m n o p q r s t u=>aYb a b c d e f g i j k l m n|>.t q o r s p t u ⟨aM (fun _=>rfl) (fun _=>rfl) _ _ _,⟨aM (fun _=>rfl) (fun _=>rfl) _ _ _,⟨kk,⟨kk,⟨(aG _ (fun _=>bG _) _),⟨kk,⟨kk,trivial⟩⟩⟩⟩⟩⟩⟩
def bCh:=fun a b c d e f g i j k l m n o p q r=>aYb a b c d e f g i j k l m n|>.f p o q r ⟨aM (fun _=>rfl) (fun _=>rfl) _ _ _,⟨aM (fun _=>rfl) (fun _=>rfl) _ _ _,⟨kk,trivial⟩⟩⟩
def aRc(j:List LUnit)(a k:List (aB×Int))(b:List aB)(l:Bool)(m:List Con)(i n:List aB)(o:Int)(p:List Node)(q:aB)(f:List Con)(r:List LFun)(s:List aB)(t:List Node)(d:Int)(g:List Int)(u:Int)(v:List LFun)(w:List ONode):=tT 4 (aHh j a k b l m i n o p q f r s t d g u v w)<|gd 5 50 (d<o) (gX aH 6 n d<|fun e=>.o (.y fun c:Int=>.i [rn 10,.ans (.look (some (sF e a,(aY c))))] [.a (dE e a=some c) (p':=eQ (aH e) (aU aH aY 0 a) 0=some (some (sF e a,(aY c)))) (mT eZ)]<|ga 22 aY g [c]<|gw 7 83 (d+1)<|.W 3 12 [4,5,6,7,11,9] (aHh j a k b l m i n o p q f r s t (d+1) (g++ [c]) u v w))<|.i [rn 10,.ans (.look none)] [.a (dE e a=none) (p':=eQ (aH e) (aU aH aY 0 a) 0=some none) (mS eZ)]<|.y fun c:Int=>.i [rn 13,.reg (rd 7 [.pure (nI c),.d,.d])] [hA (Pure PP 135 [(iS i),(aH e)] (nI c)),hr (nI (b.length:Int)),hr (nI (b.length:Int)),hr (AV.gl 3 1 0 b.length false),hr (AV.gl 3 1 0 b.length false)]<|ga 8 aY g [(IntKind.i64.wrap ((b.length:Int) +c))]<|gw 7 83 (d+1)<|.W 3 12 [4,5,6,7,11,9] (aHh j a k b l m i n o p q f r s t (d+1) (g++ [(IntKind.i64.wrap ((b.length:Int) +c))]) u v w))<|gl 7 Con.av f<|.W 4 10 [4,5,6,7,8,9] (aHi j a k b l m i f (f.length:Int) p q r s t g 0 ([] :List Int) u v w)
def bCi:=fun a b c d e f g i j k l m n o p q r s t u v w x y z A B C=>aRc a b c d e f g i j k l m n o p q r s t u|>.t x v y z|>.1 w A B C ⟨aM (fun _=>rfl) (fun _=>rfl) _ _ _,⟨aM (fun _=>rfl) (fun _=>rfl) _ _ _,⟨kk,⟨kk,⟨(aG _ (fun _=>bG _) _),⟨kk,⟨kk,trivial⟩⟩⟩⟩⟩⟩⟩
def bCj:=fun a b c d e f g i j k l m n o p q r s t u v w x y z A B C D=>aRc a b c d e f g i j k l m n o p q r s t u|>.t x v y z|>.2 A w B C D ⟨aM (fun _=>rfl) (fun _=>rfl) _ _ _,⟨aM (fun _=>rfl) (fun _=>rfl) _ _ _,⟨kk,⟨kk,⟨(aG _ (fun _=>bG _) _),⟨kk,⟨kk,trivial⟩⟩⟩⟩⟩⟩⟩
def bCk:=fun a b c d e f g i j k l m n o p q r s t u v=>aRc a b c d e f g i j k l m n o p q r s t u|>.f v ⟨aM (fun _=>rfl) (fun _=>rfl) _ _ _,⟨aM (fun _=>rfl) (fun _=>rfl) _ _ _,⟨kk,⟨kk,⟨(aG _ (fun _=>bG _) _),⟨kk,⟨kk,trivial⟩⟩⟩⟩⟩⟩⟩
def aYc(g:List LUnit)(i j:List (aB×Int))(k:List aB)(l:Bool)(e:List Con)(m:List aB)(n:List Con)(o:Int)(p:List Node)(t:aB)(c:List LFun)(u:List aB)(v:List Node)(f:List Int)(d:Int)(a:List Int)(q:Int)(r:List LFun)(s:List ONode):=tT 4 (aHi g i j k l e m n o p t c u v f d a q r s)<|gd 5 88 (d<o) (gX Con.av 6 n d<|fun w=>.y fun b:Int=>.i [rn 4,.reg (rd 8 (.pure (nI b)::.d::.app (jI (a++ [b])) (a++ [b]).length::rd 3 []))] [hA (Pure PP 130 [(iC e),(.func 131 [] []),(aH w.name)] (nI b)),hb aY a,hA (length (a++ [b]) ≤1000000),hc aY a [b],he aY a [b],hr (AV.gl 9 1 0 a.length false),hr (AV.gl 9 1 0 a.length false)]<|gw 3 104 (d+1)<|.W 3 13 [4,5,6,7,8,12] (aHi g i j k l e m n o p t c u v f (d+1) (a++ [b]) q r s))<|gy 3 5 2 8 1 aY f false<|gy 0 5 3 9 1 aY a false<|gl 3 LFun.av c<|.W 4 10 [4,5,7] (aHj g i j k l e m c (c.length:Int) p f a 0 r s q)
def bCl:=fun a b c d e f g i j k l m n o p q r s t u v w x y z A B C=>aYc a b c d e f g i j k l m n o p q r s t u|>.t x v y z w A B C ⟨aM (fun _=>rfl) (fun _=>rfl) _ _ _,⟨aM (fun _=>rfl) (fun _=>rfl) _ _ _,⟨kk,⟨kk,⟨(aG _ (fun _=>bG _) _),⟨kk,⟨kk,trivial⟩⟩⟩⟩⟩⟩⟩
def bCm:=fun a b c d e f g i j k l m n o p q r s t u v=>aYc a b c d e f g i j k l m n o p q r s t u|>.f v ⟨aM (fun _=>rfl) (fun _=>rfl) _ _ _,⟨aM (fun _=>rfl) (fun _=>rfl) _ _ _,⟨kk,⟨kk,⟨(aG _ (fun _=>bG _) _),trivial⟩⟩⟩⟩⟩
def aYd(g:List LUnit)(d e:List (aB×Int))(f:List aB)(i:Bool)(p:List Con)(q:List aB)(r:List LFun)(s:Int)(j:List Node)(k l:List Int)(m:Int)(c:List LFun)(a:List ONode)(o:Int):=tT 4 (aHj g d e f i p q r s j k l m c a o)<|gd 5 109 (m<s) (gX LFun.av 6 r m<|fun b=>.y fun n:List Node=>.i [rn 4,.reg (rd 6 [.call (nI (a.length:Int)) (aD (nR g f i d e c++[oC 5 [(iN j),(.gl 9 4 0 (a++map Node.o n).length false),(iI k),(iI l)],oC 7 [(aH b.name),(nI b.body)],oL 9 4 (map ONode.av (a++map Node.o n))]) 10),.d,.d,.app (map LFun.av (c++ [(LFun.mk b.name (a.length:Int))])) (c++ [(LFun.mk b.name (a.length:Int))]).length,.d])] [hA (Spec PP (.enter 136 [(.ptr 5 0),(nI b.body)]) (aD (nR g f i d e c++[oC 5 [(iN j),(aAs a),(iI k),(iI l)],rT 6 a,oC 7 [(aH b.name),(nI b.body)]]) 9) (.ret (nI (a.length:Int))) (aD (nR g f i d e c++[oC 5 [(iN j),(.gl 9 4 0 (a++map Node.o n).length false),(iI k),(iI l)],oC 7 [(aH b.name),(nI b.body)],oL 9 4 (map ONode.av (a++map Node.o n))]) 10)),hb LFun.av c,hA (length (c++ [(LFun.mk b.name (a.length:Int))]) ≤1000000),hc LFun.av c [(LFun.mk b.name (a.length:Int))],he LFun.av c [(LFun.mk b.name (a.length:Int))],hr (aH b.name),hr (aH b.name)]<|gw 3 122 (m+1)<|.W 3 11 [10,5,9] (aHj g d e f i p q r s j k l (m+1) (c++ [(LFun.mk b.name (a.length:Int))]) (a++map Node.o n) o))<|gw 5 123 (o+1)<|.W 3 7 [4,5,6] (aHg g d e f i p q (o+1) j k l c a)
def bCn:=fun a b c d e f g i j k l m n o p q r s t u v w x y=>aYd a b c d e f g i j k l m n o p q|>.t t r u v s w x y ⟨aM (fun _=>rfl) (fun _=>rfl) _ _ _,⟨aM (fun _=>rfl) (fun _=>rfl) _ _ _,⟨kk,⟨kk,⟨(aG _ (fun _=>bG _) _),trivial⟩⟩⟩⟩⟩
def bCo:=fun a b c d e f g i j k l m n o p q r s=>aYd a b c d e f g i j k l m n o p q|>.f r s ⟨aM (fun _=>rfl) (fun _=>rfl) _ _ _,⟨aM (fun _=>rfl) (fun _=>rfl) _ _ _,⟨kk,⟨kk,⟨(aG _ (fun _=>bG _) _),trivial⟩⟩⟩⟩⟩
def wE(d:List LUnit):=tT 0 (aSm d)<|.o (gK 13 (.enter 69 [(wC d)]) [jL 0,oC 1 [(nI 0)]] 2 [((.iface 174 (.agg [(nI 2)])),false)] [jL 0,oC 1 [(nI 0)]] 2<|.i [rn 44,.cnilI 0 0 4] []<|.i [.cnilI 0 1 1] []<|.i [.cnilI 0 3 2] []<|gE 0 3 (.tup [aLJ,(nI 2)]))<|.y fun a:List (aB×Int)=>.y fun b:List (aB×Int)=>.y fun c:List aB=>.y fun e:Bool=>gk 13 (.enter 69 [(wC d)]) [jL 0,oC 1 [(nI 0)]] 2 (.ptr 2 0) [jL 0,oC 1 [(nI 0)],qP 2 d c e,(eC 3 a),(eC 4 b),jK 5 c] 6<|.o (gK 5 (.enter 70 [(.ptr 2 0)]) [jL 0,oC 1 [(nI 0)],qP 2 d c e,(eC 3 a),(eC 4 b),jK 5 c] 6 [((.iface 174 (.agg [(nI 7)])),false)] [jL 0,oC 1 [(nI 0)],qP 2 d c e,(eC 3 a),(eC 4 b),jK 5 c] 6<|.i [rn 44,.cnilI 0 0 4] []<|.i [.cnilI 0 1 1] []<|.i [.cnilI 0 3 2] []<|gE 0 7 aHf)<|.y fun f:List Con=>gk 5 (.enter 70 [(.ptr 2 0)]) [jL 0,oC 1 [(nI 0)],qP 2 d c e,(eC 3 a),(eC 4 b),jK 5 c] 6 (iC f) [jL 0,oC 1 [(nI 0)],qP 2 d c e,(eC 3 a),(eC 4 b),jK 5 c] 6<|.o (.y fun g:Int=>.i [rn 8,.ans (.look (some (sF (strOf [109,97,105,110]) a,(aY g))))] [.a (dE (strOf [109,97,105,110]) a=some g) (p':=eQ (aH (strOf [109,97,105,110])) (aU aH aY 0 a) 0=some (some (sF (strOf [109,97,105,110]) a,(aY g)))) (mT eZ)]<|.b 13 29 e (.i [rn 65,.cnilI 0 0 4] []<|.i [.cnilI 0 1 1] []<|.i [.cnilI 0 3 2] []<|gE 0 7 aHf)<|.y fun j:List aB=>gk 5 (.enter 71 [(.ptr 2 0)]) [jL 0,oC 1 [(nI 0)],qP 2 d c e,(eC 3 a),(eC 4 b),jK 5 c] 6 (iS j) [jL 0,oC 1 [(nI 0)],qP 2 d c e,(eC 3 a),(eC 4 b),jK 5 c] 6<|gl 0 aH j<|gd 7 4 ((j.length:Int) >0) (.i [rn 51,.cnilI 0 0 4] []<|.i [.cnilI 0 1 1] []<|.i [.cnilI 0 3 2] []<|gE 0 7 aHf)<|.y fun k:Int=>gk 8 (.enter 72 [(.ptr 2 0)]) [jL 0,oC 1 [(nI 0)],qP 2 d c e,(eC 3 a),(eC 4 b),jK 5 c] 6 (nI k) [jL 0,oC 1 [(nI 0)],qP 2 d c e,(eC 3 a),(eC 4 b),jK 5 c] 6<|gd 2 43 (k>300) (.i [rn 60,.cnilI 0 0 4] []<|.i [.cnilI 0 1 1] []<|.i [.cnilI 0 3 2] []<|gE 0 7 aX8)<|gl 1 Con.av f<|gd 7 4 ((f.length:Int) >20) (.i [rn 51,.cnilI 0 0 4] []<|.i [.cnilI 0 1 1] []<|.i [.cnilI 0 3 2] []<|gE 0 7 aX8)<|.y fun i:List LFun=>.y fun l:List Node=>gk 9 (.enter 73 [(.ptr 2 0),(iC f),.nils]) [jL 0,oC 1 [(nI 0)],qP 2 d c e,(eC 3 a),(eC 4 b),jK 5 c] 6 (aX9 i l) [jL 0,oC 1 [(nI 0)],qP 2 d c e,(eC 3 a),(eC 4 b),jK 5 c] 6<|gl 18 LFun.av i<|.i [rn 4,.cnil 0 1 1] []<|gu 0 6 (jI ([] :List Int))<|gv 0 0 1 (.gl 6 1 0 ([] :List Int).length false)<|.W 0 7 [0,1,6] (aLK d i (i.length:Int) l g f 0 ([] :List Int)))<|.i [rn 8,.ans (.look none)] [.a (dE (strOf [109,97,105,110]) a=none) (p':=eQ (aH (strOf [109,97,105,110])) (aU aH aY 0 a) 0=some none) (mS eZ)]<|.b 13 29 e (.i [rn 65,.cnilI 0 0 4] []<|.i [.cnilI 0 1 1] []<|.i [.cnilI 0 3 2] []<|gE 0 7 aHf)<|.i [rn 65,.cnilI 0 0 4] []<|.i [.cnilI 0 1 1] []<|.i [.cnilI 0 3 2] []<|gE 0 7 aHf
def bCp:=fun a b=>wE a|>.1 b tv
def bCq:=fun a b c d e f g=>wE a|>.2 b c d e f|>.1 g tv
def bCr:=fun a b c d e f g i j k l=>wE a|>.2 b c d e i|>.2 f j|>.1 g k|>.t l tv
def bCs:=fun a b c d e f g i j k l m n o=>wE a|>.2 b c d e j|>.2 f k|>.1 g l|>.f m i n|>.t o tv
def bCt:=fun a b c d e f g i j k l m n o p q r=>wE a|>.2 b c d e k|>.2 f l|>.1 g m|>.f n i o|>.f p j q|>.t r tv
def bCu:=fun a b c d e f g i j k l m n o p q r s=>wE a|>.2 b c d e k|>.2 f l|>.1 g m|>.f n i o|>.f p j q|>.f r|>.t s tv
def bCv:=fun a b c d e f g i j k l m n o p q r s t u v=>wE a|>.2 b c d e m|>.2 f n|>.1 g o|>.f p i q|>.f r j s|>.f t|>.f u k l v ⟨kk,trivial⟩
def bCw:=fun a b c d e f g i j k=>wE a|>.2 b c d e g|>.2 f i|>.2 j|>.t k tv
def bCx:=fun a b c d e f g i j k=>wE a|>.2 b c d e g|>.2 f i|>.2 j|>.f k tv
def aYe(i:List LUnit)(c:List LFun)(d:Int)(e:List Node)(f:Int)(g:List Con)(a:Int)(b:List Int):=tT 0 (aLK i c d e f g a b)<|gd 5 62 (a<d) (gX LFun.av 6 c a<|fun j=>ga 10 aY b [j.body]<|gw 6 72 (a+1)<|.W 3 6 [0,1,5] (aLK i c d e f g (a+1) (b++ [j.body])))<|gy 3 0 1 2 1 aY b false<|gE 23 3 (.tup [(.agg [(iN e),(iI b),(nI f),(iC g)]),(nI 0)])
def bCy:=fun a b c d e f g i j k l m n o=>aYe a b c d e f g i|>.t k j l m n o ⟨kk,trivial⟩
def bCz:=fun a b c d e f g i j=>aYe a b c d e f g i|>.f j tv
section
variable (l :List LUnit) (mf mh:List (aB×Int)) (od:List aB) (tw:Bool) (cs:List Con) (ls:List aB) (hT:od.length≤1000) (hls:ls.length≤1000) (hcs:cs.length≤1000) (ht:TabI od tw mf mh)
include hT hls ht in
theorem aYf (u:LUnit)(c50:List Node)(cl:List aB)(hcl:cl.length≤1000)(i:Int)(fs:List LFun)(L:List ONode) :∀ (t:List aB) (k:Nat) (acc:List Int),cl.drop k=t→acc.length=k →
  LeadsM PP 4 (aHh l mf mh od tw cs ls cl ((cl.length:Nat) :Int) c50 u.name u.cons u.funs u.needs u.nodes (k:Int) acc i fs L).as (aHi l mf mh od tw cs ls u.cons ((u.cons.length:Nat) :Int) c50 u.name u.funs u.needs u.nodes (acc++t.map (mE od ls)) 0 [] i fs L).as
 | [],k,acc,h,ha=>by
  have:=bA h;rw [map_nil,append_nil];exact bCk l mf mh od tw cs ls cl _ c50 u.name u.cons u.funs u.needs u.nodes k acc i fs L sd
 | s ::t,k,acc,h,ha=>by
  obtain⟨q1,q2,q3⟩ :=aZ h;have ih:=aYf u c50 cl hcl i fs L t (k+1) (acc++ [mE od ls s]) q2 (by simp [ha]);rw [append_assoc]at ih;have r2:=lK s ls 0;have g:=ht.f s;have hng:=nB s od 0;by_cases hn:aQ od s=true
  · rw [if_pos hn]at g;have ef:mE od ls s=dX s od 0:=by unfold mE;rw [if_neg (fun h=>by rw [hng.1 h]at hn;cases hn)]
    have h1:=bCi l mf mh od tw cs ls cl ((cl.length:Nat) :Int) c50 u.name u.cons u.funs u.needs u.nodes k acc i fs L s _ sd sd sd g (by simp;omega) sd;rw [←ef]at h1;exact h1.trans ih
  · rw [if_neg hn]at g;rw [not_eq_true]at hn;have ef:mE od ls s= (od.length:Int) +dX s ls 0:=by unfold mE;rw [if_pos (hng.2 hn)]
    have hw:IntKind.i64.wrap (((length od:Nat) :Int) +dX s ls 0) = (od.length:Int) +dX s ls 0:=by apply wrap64<;>omega
    have h1:=bCj l mf mh od tw cs ls cl ((cl.length:Nat) :Int) c50 u.name u.cons u.funs u.needs u.nodes k acc i fs L s _ sd sd sd g (aXO ls s (by omega)) (by simp;omega) sd;rw [hw,←ef]at h1;exact h1.trans ih
include hcs in
theorem aYg (u:LUnit)(c50:List Node)(hu:u.cons.length≤1000)(F:List Int)(i:Int)(fs:List LFun)(L:List ONode) :∀ (t:List Con) (k:Nat) (acc:List Int),u.cons.drop k=t→acc.length=k →
  LeadsM PP 4 (aHi l mf mh od tw cs ls u.cons ((u.cons.length:Nat) :Int) c50 u.name u.funs u.needs u.nodes F (k:Int) acc i fs L).as (aHj l mf mh od tw cs ls u.funs ((u.funs.length:Nat) :Int) c50 F (acc++t.map (fun c=>gI c.name cs 0)) 0 fs L i).as
 | [],k,acc,h,ha=>by
  have:=bA h;rw [map_nil,append_nil];exact bCm l mf mh od tw cs ls u.cons _ c50 u.name u.funs u.needs u.nodes F k acc i fs L sd
 | c::t,k,acc,h,ha=>by
  obtain⟨q1,q2,q3⟩ :=aZ h;have ih:=aYg u c50 hu F i fs L t (k+1) (acc++ [gI c.name cs 0]) q2 (by simp [ha]);rw [append_assoc]at ih;exact(bCl l mf mh od tw cs ls u.cons _ c50 u.name u.funs u.needs u.nodes F k acc i fs L c _ sd sd sd (aXP cs c.name (by omega)) (by simp;omega) sd).trans ih
abbrev bEJ (f:LFun) :AObj:=.cells (putCells .leaf 0 [aH f.name,.int .i64 f.body]) 2 [] false
abbrev LFs (fs:List LFun) :AObj:=.lst 2 (map LFun.av fs)
theorem aYh (u:LUnit)(hu:u.funs.length≤1000)(hx:∀x∈u.nodes,rQ x.pats=true)(F C:List Int)(K:Nat)(i:Nat)(hi:i<1000) :∀ (t:List LFun) (k:Nat) (fs:List LFun) (L:List ONode) (ks:List Int) (r:List Node),u.funs.drop k=t→fs.length+t.length≤100000 →
  jD (dA (nY u) F C K) L.length (t.map LFun.body) =some (ks,r) →
  LeadsM PP 4 (aHj l mf mh od tw cs ls u.funs ((u.funs.length:Nat) :Int) u.nodes F C (k:Int) fs L (i:Int)).as (aHg l mf mh od tw cs ls ((i:Int) +1) u.nodes F C (fs++zipWith LFun.mk (t.map LFun.name) ks) (L++map Node.o r)).as
 | [],k,fs,L,ks,r,h,hf,hm=>by
  have:=bA h;cases hm;simp only [map_nil,List.zipWith_nil_left,append_nil];exact bCo l mf mh od tw cs ls u.funs _ u.nodes F C k fs L i sd sd
 | f :: t,k,fs,L,ks,r,h,hf,hm=>by
  obtain⟨q1,q2,q3⟩ :=aZ h;simp only [length_cons]at hf;simp only [List.map_cons,jD]at hm;split at hm
  · rename_i ns hns;split at hm
    · rename_i ks1 r1 hm1;cases hm;have hs:=mNd_spec (nY u) F C hx K L f.body ns hns;unfold MNS at hs
      have hs':=mW (m:=1) (ks:=[5,6]) (n2:=9) (n3:=10) (v':=.int .i64 ((length L:Nat) :Int)) (args':=[.ptr 5 0,.int .i64 f.body])
       (lc:=[(0,aQ9 l 1 2 3 od tw,false),(1,MTb mf,true),(2,MTb mh,true),(3,aOp od,true),(4,LFs fs,true),(5,MC u.nodes F C 6 (length L),false),(6,OL L,true),(7,bEJ f,false)])
       (lc':=[(0,aQ9 l 1 2 3 od tw,false),(1,MTb mf,true),(2,MTb mh,true),(3,aOp od,true),(4,LFs fs,true),(5,MC u.nodes F C 9 (length (L++map Node.o ns)),false),(7,bEJ f,false),(9,OL (L++map Node.o ns),true)])
       hs (by rfl) (by rfl) (by kernel_rfl) (by rfl) (by rfl) (by kernel_rfl) (by kernel_rfl) ⟨xA _,trivial⟩ (by kernel_rfl) ⟨xA _,trivial⟩
      have h1:=bCn l mf mh od tw cs ls u.funs ((u.funs.length:Nat) :Int) u.nodes F C k fs L i f ns sd sd sd (mp (by kernel_rfl) hs') (by simp;omega) sd;have h3:=aYh u hu hx F C K i hi t (k+1) (fs++ [(⟨f.name,((L.length:Nat) :Int)⟩ :LFun)]) (L++map Node.o ns) ks1 r1 q2 (by simp;omega) (by rw [List.length_append,length_map];exact hm1);have e1:fs++zipWith LFun.mk (map LFun.name (f::t)) (((L.length:Nat) :Int) ::ks1) = (fs++ [(⟨f.name,((L.length:Nat) :Int)⟩ :LFun)]) ++zipWith LFun.mk (map LFun.name t) ks1:=by simp
      have e2:L++map Node.o (ns++r1) = (L++map Node.o ns) ++map Node.o r1:=by simp
      rw [e1,e2];exact h1.trans h3
    ·cases hm
  ·cases hm
include hT hls hcs ht in
theorem aYi (hl:l.length≤11)(hu:∀u∈l,FewU u∧∀x∈u.nodes,rQ x.pats=true) :∀ (t:List LUnit) (i:Nat) (a0:List Node) (a1 a2:List Int) (fs:List LFun) (ns:List Node) (fs':List LFun) (ns':List Node),l.drop i=t→fs.length≤30*i→aG0 od ls cs fs ns t=some (fs',ns') →
  Ends PP 4 (aHg l mf mh od tw cs ls (i:Int) a0 a1 a2 fs (map Node.o ns)).as (.ret (.tup [.ilst 2 (map LFun.av fs') false,.ilst 4 (map Node.av ns') false])) (aD (THp l mf mh od tw) 4)
 | [],i,a0,a1,a2,fs,ns,fs',ns',h,ha,hm=>by
  have:=bA h;cases hm;exact bCh l mf mh od tw cs ls i a0 a1 a2 fs (map Node.o ns) ns sd rfl (by simp)
 | u ::t,i,a0,a1,a2,fs,ns,fs',ns',h,ha,hm=>by
  obtain⟨q1,q2,q3⟩ :=aZ h;have hf:= (hu u (mem_of_getElem? q1)).1;have hx:= (hu u (mem_of_getElem? q1)).2;have f1:=hf.f;have f2:=hf.n;have f3:u.cons.length≤25:=by have:=hf.p;simp only [aJ,and_eq_true,decide_eq_true_eq]at this;exact this.1.1.2
  have hnm: (aC u).length=u.funs.length:=by simp [aC]
  rw [aG0]at hm;split at hm
  · rename_i ks r hk;have hkl:=aDI hk;have hc:=aOm (aC u) u.needs (by omega) (by omega)
    have hc':=mW (m:=1) (ks:=[8]) (n2:=9) (n3:=9) (v':=.ilst 1 (map aH (aC u++u.needs)) false) (args':=[.slice 8 0 2 2 1 true])
     (lc:=[(0,aQ9 l 1 2 3 od tw,false),(1,MTb mf,true),(2,MTb mh,true),(3,aOp od,true),(4,LFs fs,true),(5,.cells (putCells .leaf 0 [.ilst 4 (map Node.av u.nodes) false,.gl 6 4 0 (length (map Node.o ns)) false,.nils,.nils]) 4 [] false,false),(6,OL (map Node.o ns),true),(7,aI8 u,false),(8,aLC (aC u) u.needs,false)])
     (lc':=[(0,aQ9 l 1 2 3 od tw,false),(1,MTb mf,true),(2,MTb mh,true),(3,aOp od,true),(4,LFs fs,true),(5,.cells (putCells .leaf 0 [.ilst 4 (map Node.av u.nodes) false,.gl 6 4 0 (length (map Node.o ns)) false,.nils,.nils]) 4 [] false,false),(6,OL (map Node.o ns),true),(7,aI8 u,false),(8,aLC (aC u) u.needs,false)])
     hc (by rfl) (by kernel_rfl) (by kernel_rfl) (by rfl) (by rfl) (by kernel_rfl) (by kernel_rfl) trivial (by kernel_rfl) trivial
    have h0:=bCg l mf mh od tw cs ls i a0 a1 a2 fs (map Node.o ns) u (aC u) sd sd sd (aOj u (by omega)) (mp (by kernel_rfl) hc');have h1:=aYf l mf mh od tw cs ls hT hls ht u u.nodes (aC u++u.needs) (by simp;omega) i fs (map Node.o ns) (aC u++u.needs) 0 [] rfl rfl;have h2:=aYg l mf mh od tw cs ls hcs u u.nodes (by omega) (tM od ls u) i fs (map Node.o ns) u.cons 0 [] rfl rfl;have h3:=aYh l mf mh od tw cs ls u (by omega) hx (tM od ls u) (vV cs u) u.nodes.length i (by omega) u.funs 0 fs (map Node.o ns) ks r rfl (by omega) (by rw [length_map];exact hk);rw [←List.map_append]at h3;have hb: (cI u).length=u.funs.length:=by simp [cI]
    exact h0.ends (h1.ends (h2.ends (h3.ends (aYi hl hu t (i+1) _ _ _ _ (ns++r) fs' ns' q2 (by simp;omega) hm))))
  ·cases hm
include hT hls hcs ht in
theorem aYj (hl:l.length≤11)(hu:∀u∈l,FewU u∧∀x∈u.nodes,rQ x.pats=true){fs:List LFun}{ns:List Node}(h:aG0 od ls cs [] [] l=some (fs,ns)) :
  Spec PP (.enter 73 [.ptr 0 0,.ilst 2 (map Con.av cs) false,.ilst 1 (map aH ls) false]) (aD (THp l mf mh od tw) 4) (.ret (.tup [.ilst 2 (map LFun.av fs) false,.ilst 4 (map Node.av ns) false])) (aD (THp l mf mh od tw) 4) :=by
 suffices hh:Ends PP 4 (aYa l mf mh od tw cs ls).as (.ret (.tup [.ilst 2 (map LFun.av fs) false,.ilst 4 (map Node.av ns) false])) (aD (THp l mf mh od tw) 4)from⟨(aYa l mf mh od tw cs ls).as.fr,by kernel_rfl,mp (by kernel_rfl) hh⟩
 exact(bCf l mf mh od tw cs ls).ends (aYi l mf mh od tw cs ls hT hls hcs ht hl hu l 0 [] [] [] [] [] fs ns rfl (by simp) h)
end
theorem aUw {f:Nat}{args args':List AV}{h h':Hp}{res:Res}(hs:Spec PP (.enter f args) h res h')(hl:args'.length=args.length)(ha:∀ (E:Emb) (i:Nat) (a a':AV) (c:Value),args[i]?=some a→args'[i]?=some a'→VR E a' c→VR E a c) :Spec PP (.enter f args') h res h':=by
 obtain⟨g,hg,he⟩ :=hs;simp only [eD,cJ]at hg;split at hg
 · rename_i fn hfn;split at hg
   · rename_i c hc;cases hg;refine⟨_,by simp only [eD,cJ,hfn,hc];rfl,?_⟩;intro hm E fr ccs w hfr fs r cl base;refine he hm E fr ccs w ?_ fs r cl base;refine⟨hfr.fn,⟨by have:=hfr.tm.1;rw [hl]at this;exact this,fun t a e=>?_⟩,hfr.todo,hfr.defers,hfr.mode,hfr.kind,hfr.round⟩;have ht:t<args.length∧args[t]?=some a:=by
      have e': (dB .leaf 0 args).at t=some a:=e;unfold dB at e';rw [cD]at e';split at e'
      ·rename_i hlt;exact⟨hlt,e'⟩
      ·cases e'
     have ht':args'[t]?=some args'[t] :=getElem?_eq_getElem (by omega)
     obtain⟨cv,g1,g2⟩ :=hfr.tm.2 t args'[t] (by
      show(dB .leaf 0 args').at t=_;unfold dB;rw [cD,if_pos (by omega)];exact ht')
     exact⟨cv,g1,ha E t _ _ cv ht.2 ht' g2⟩
   ·cases hg
 ·cases hg
theorem iK (s:aB) :∀ (l:List LUnit) (i:Nat),cA s l i<0↔aQ (aN l) s=false
 | [],i=>by simp [cA,aQ,aN]
 | u ::l,i=>by
  rw [cA,jG,iJ];by_cases e:aQ (aC u) s=true
  · rw [if_pos e,e,Bool.true_or];constructor
    ·intro h;omega
    ·intro h;cases h
  · rw [if_neg e,iK s l (i+1)];rw [not_eq_true]at e;rw [e,Bool.false_or]
abbrev aJk :AObj:=.cells (putCells .leaf 0 [.int .i64 0]) 1 [] false
abbrev aRd :AObj:=.cells (putCells .leaf 0 [.nils,.nils,.int .i64 0,.nils]) 4 [] false
abbrev aJl (l:List LUnit)(mf mh:List (aB×Int))(od:List aB)(tw:Bool) :List (Nat×AObj×Bool) :=[(0,aRd,false),(1,aJk,false),(2,aQ9 l 3 4 5 od tw,false),(3,MTb mf,true),(4,MTb mh,true),(5,aOp od,true)]
section
variable (l :List LUnit) (mf mh:List (aB×Int)) (od:List aB) (tw:Bool)
theorem aYk {f:Nat}{args args':List AV}{res:Res}(hs:Spec PP (.enter f args) (aD (THp l mf mh od tw) 4) res (aD (THp l mf mh od tw) 4))(hargs:AV.renL (eY 0 4 6 [2,3,4,5]) args=args')(hv:aCr res) :
  Spec PP (.enter f args') (aD (aJl l mf mh od tw) 6) res (aD (aJl l mf mh od tw) 6) :=
 aCs (ks:=[2,3,4,5]) (n2:=6) (lc:=aJl l mf mh od tw) (lc':=aJl l mf mh od tw) hs hargs hv (by kernel_rfl) (by kernel_rfl) ⟨zR _,zR _,aFn _,trivial⟩ (by kernel_rfl) ⟨zR _,zR _,aFn _,trivial⟩
theorem bGM (hs:aCp PP (.enter 69 [.ilst 5 (map LUnit.av l) false]) (aD [] 0) (.ret (.ptr 0 0)) (aD (THp l mf mh od tw) 4)) :
  Spec PP (.enter 69 [.ilst 5 (map LUnit.av l) false]) (aD [(0,aRd,false),(1,aJk,false)] 2) (.ret (.ptr 2 0)) (aD (aJl l mf mh od tw) 6) :=
 mW (m:=0) (ks:=[]) (n2:=2) (n3:=6) (v':=.ptr 2 0) (args':=[.ilst 5 (map LUnit.av l) false]) (lc:=[(0,aRd,false),(1,aJk,false)]) (lc':=aJl l mf mh od tw)
  hs (by rfl) (by rfl) (by kernel_rfl) (by rfl) (by rfl) (by kernel_rfl) (by kernel_rfl) trivial (by kernel_rfl) ⟨zR _,zR _,aFn _,trivial⟩
end
section
variable (l :List LUnit) (mf mh:List (aB×Int)) (od:List aB) (tw:Bool)
end
theorem bEK (l:List LUnit)(fs:List LFun)(ns:List Node)(mn:Int)(c:List Con)(hf:fs.length≤1000) :∀ (t:List LFun) (i:Nat) (acc:List Int),fs.drop i=t→acc.length=i →
  Ends PP 0 (aLK l fs ((fs.length:Nat) :Int) ns mn c (i:Int) acc).as (.ret (.tup [Prog.av ⟨ns,acc++t.map LFun.body,mn,c⟩,.int .i64 0])) (aD [] 0)
 | [],i,acc,h,ha=>by
  have:=bA h;rw [map_nil,append_nil];exact bCz l fs _ ns mn c i acc sd
 | f::t,i,acc,h,ha=>by
  obtain⟨q1,q2,q3⟩ :=aZ h;have ih:=bEK l fs ns mn c hf t (i+1) (acc++ [f.body]) q2 (by simp [ha]);rw [append_assoc]at ih;exact(bCy l fs _ ns mn c i acc f sd sd sd (by simp;omega) sd).ends ih
theorem aBJ (l:List LUnit)(hl:l.length≤11)(hu:∀u∈l,FewU u∧NumU u) :Pure PP 12 [.ilst 5 (map LUnit.av l) false] (.tup [Prog.av (zM l).1,.int .i64 (zM l).2]) :=by
 have hf:=fun u h=> (hu u h).1;have hal:=aGP l hf;have err:∀e:Int,Ends PP 0 (aSm l).as (.ret (.tup [aK8,.int .i64 e])) (aD [] 0) →Pure PP 12 [.ilst 5 (map LUnit.av l) false] (.tup [Prog.av aJd,.int .i64 e]) :=fun e h=>
  aDA (dP (s:=aSm l) (by kernel_rfl) (by kernel_rfl) (by simp [keylessL,keyless]) (by simp [keylessL,keyless]) h) (fun E cv hv=>bAf hv)
 unfold zM;by_cases h0:gR l=true
 · rw [if_pos h0];obtain⟨hl10,hg⟩ :=vW hf h0;obtain⟨mf,mh,ht,hs⟩ :=bFI l hu h0;have s0:=bGM l mf mh _ _ hs;have hc25:∀u∈l,u.cons.length≤25:=fun u h=> (hg u h).small.2;have s1:=aX7 l mf mh (aN l) (!cC (aN l)) hl hc25;have s2:=aX4 l mf mh (aN l) (!cC (aN l)) ht hl hf;have s3:=aX5 l mf mh (aN l) (!cC (aN l)) hl (fun u h=> (hg u h).small.1);have s2':=aYk l mf mh _ _ s2 (args':=[.ptr 2 0]) (by rfl) (by simp [aCr,keyless]);have s3':=aYk l mf mh _ _ s3 (args':=[.ptr 2 0]) (by rfl) (by simp [aCr,keyless]);have hm:=ht.f cV;cases hc:aGQ l with
   | none=>
    rw [hc]at s1;exact err 7 (bCq l mf mh (aN l) _ s0 (aYk l mf mh _ _ s1 (args':=[.ptr 2 0]) (by rfl) (by simp [aCr,keyless,keylessL])))
   | some c =>
    rw [hc]at s1;have s1':=aYk l mf mh _ _ s1 (args':=[.ptr 2 0]) (by rfl) (by simp [aCr,keyless]);have hcl:=aJe hf hc;dsimp only;cases h5:aQ (aN l) cV
    case false=>
     rw [h5,if_neg (by simp)]at hm;rw [if_neg (fun h=>h.2.2 ((iK cV l 0).2 h5))];cases h3:cC (aN l)
     case false=>
      rw [h3]at s0 s1';exact err 7 (bCw l mf mh (aN l) true c s0 s1' hm rfl)
     rw [h3]at s0 s1';exact err 7 (bCx l mf mh (aN l) false c s0 s1' hm rfl)
    rw [h5,if_pos rfl]at hm;have h5':¬cA cV l 0<0:=fun h=>by rw [(iK cV l 0).1 h]at h5;cases h5
    cases h3:cC (aN l)
    case false=>
     rw [h3]at s0 s1';rw [if_neg (fun h=>by cases h.1)];exact err 7 (bCr l mf mh (aN l) true c _ s0 s1' hm rfl)
    by_cases h4:zJ l= []
    · rw [if_pos ⟨rfl,h4,h5'⟩];have hp:=bGD (ls:=[]) (cs:=c) hl10 hg (by simp);have s4:=aYj l mf mh (aN l) (!cC (aN l)) c [] (by omega) (by simp) (by simp at hcl;omega) ht hl (fun u h=> ⟨hf u h,bBc (hg u h)⟩) hp.eq;have s4a:=aYk l mf mh _ _ s4 (args':=[.ptr 2 0,.ilst 2 (map Con.av c) false,.ilst 1 (map aH []) false]) (by kernel_rfl) (by simp [aCr,keyless,keylessL])
      have s4':=aUw s4a (args':=[.ptr 2 0,.ilst 2 (map Con.av c) false,.nils]) rfl (fun E i a a' cv e1 e2 hv=>by
       match i with
       |0=>simp only [getElem?_cons_zero,Option.some.injEq]at e1 e2;rw [←e1,e2];exact hv
       |1=>simp only [getElem?_cons_succ,getElem?_cons_zero,Option.some.injEq]at e1 e2;rw [←e1,e2];exact hv
       | 2=>
        simp only [getElem?_cons_succ,getElem?_cons_zero,Option.some.injEq]at e1 e2;rw [←e1];rw [←e2]at hv;exact aCL _ hv
       |i+3=>simp at e1)
      rw [h3]at s0 s1' s2' s3' s4';have e4:zI (aN l) [] l= [] :=h4;rw [e4]at s2';by_cases h6:aR l≤300
      · by_cases h7:c.length≤20
        · rw [if_pos ⟨h6,h7⟩];have hff:=hp.funs
          exact dP (s:=aSm l) (by kernel_rfl) (by kernel_rfl) (by simp [keylessL,keyless]) (by simp [keylessL,keyless,Prog.av])
           ((bCv l mf mh (aN l) false c _ [] _ (aBI [] c l).1 (aBI [] c l).2 s0 s1' hm rfl s2' rfl s3' (by simp;omega) (by simp;omega) s4').ends
            (bEK l (aBI [] c l).1 (aBI [] c l).2 _ c (by omega) (aBI [] c l).1 0 [] rfl rfl))
        · rw [if_neg (fun h=>h7 h.2)];exact err 3 (bCu l mf mh (aN l) false c _ [] _ s0 s1' hm rfl s2' rfl s3' (by simp;omega) (by simp;omega))
      · rw [if_neg (fun h=>h6 h.1)];exact err 3 (bCt l mf mh (aN l) false c _ [] _ s0 s1' hm rfl s2' rfl s3' (by simp;omega))
    · rw [if_neg (fun h=>h4 h.2.1)];have:0< (zJ l).length:=List.length_pos_iff.2 h4;rw [h3]at s0 s1' s2';exact err 7 (bCs l mf mh (aN l) false c _ (zJ l) s0 s1' hm rfl s2' (decide_eq_true (by omega)))
 · rw [if_neg h0];rw [not_eq_true]at h0;exact err 2 (bCp l (aX2 l hu h0 _))
theorem aOr {out o:List Con}{c:Con}(h:aEM out c=some o)(hd: (out.map Con.name).Nodup) : (o.map Con.name).Nodup∧ (∀d∈o,d∈out∨d=c) ∧ (∀d∈out,d∈o) ∧c∈o:=by
 unfold aEM at h;split at h
 · rename_i hf;cases h
   have hno:c.name∉out.map Con.name:=fun hm=>by
    obtain⟨d,hd1,hd2⟩ :=List.mem_map.1 hm;have:=List.find?_eq_none.1 hf d hd1;simp [hd2]at this
   refine⟨?_,fun d h=>by simpa using h,fun d h=>by simp [h],by simp⟩;rw [List.map_append,List.nodup_append];refine⟨hd,by simp,fun a ha b hb e=>?_⟩;simp at hb;exact hno (by rw [←hb,←e];exact ha)
 · rename_i d hf;split at h
   · rename_i ha;cases h;have h1:=List.mem_of_find?_eq_some hf;have h2:=List.find?_some hf;have h3:d.name=c.name:=by simpa using h2
     have e:c=d:=by
      obtain⟨a,b⟩ :=c;obtain⟨a',b'⟩ :=d;simp only at ha h3;rw [ha,h3]
     exact⟨hd,fun d h=>.inl h,fun d h=>h,by rw [e];exact h1⟩
   ·cases h
theorem aEQ :∀ {t out o:List Con},zK out t=some o→ (out.map Con.name).Nodup→ (o.map Con.name).Nodup∧ (∀d∈o,d∈out∨d∈t) ∧ (∀d∈out,d∈o) ∧∀c∈t,c∈o
 | [],out,o,h,hd=>by cases h;exact⟨hd,fun d h=>.inl h,fun d h=>h,fun c h=>by cases h⟩
 | c :: t,out,o,h,hd=>by
  rw [zK]at h;split at h
  · rename_i o1 h1;obtain⟨a1,a2,a3,a4⟩ :=aOr h1 hd;obtain⟨b1,b2,b3,b4⟩ :=aEQ h a1;refine⟨b1,fun d hd=>?_,fun d hd=>b3 d (a3 d hd),fun d hd=>?_⟩
    · rcases b2 d hd with g|g
      · rcases a2 d g with g|g
        ·exact .inl g
        ·exact .inr (by rw [g];exact mem_cons_self ..)
      ·exact .inr (mem_cons_of_mem _ g)
    · rcases List.mem_cons.1 hd with g|g
      ·rw [g];exact b3 c a4
      ·exact b4 d g
  ·cases h
theorem oD :∀ {l:List LUnit} {out o:List Con},tJ out l=some o→ (out.map Con.name).Nodup→ (o.map Con.name).Nodup∧ (∀d∈o,d∈out∨∃u∈l,d∈u.cons) ∧ (∀d∈out,d∈o) ∧∀u∈l,∀c∈u.cons,c∈o
 | [],out,o,h,hd=>by cases h;exact⟨hd,fun d h=>.inl h,fun d h=>h,fun c h=>by cases h⟩
 | u :: l,out,o,h,hd=>by
  rw [tJ]at h;split at h
  · rename_i o1 h1;obtain⟨a1,a2,a3,a4⟩ :=aEQ h1 hd;obtain⟨b1,b2,b3,b4⟩ :=oD h a1;refine⟨b1,fun d hd=>?_,fun d hd=>b3 d (a3 d hd),fun v hv=>?_⟩
    · rcases b2 d hd with g| ⟨v,g1,g2⟩
      · rcases a2 d g with g|g
        ·exact .inl g
        ·exact .inr ⟨u,mem_cons_self ..,g⟩
      ·exact .inr ⟨v,mem_cons_of_mem _ g1,g2⟩
    · rcases List.mem_cons.1 hv with g|g
      ·rw [g];exact fun c hc=>b3 c (a4 c hc)
      ·exact b4 v g
  ·cases h
theorem aER (own:List aB) :∀ (t out:List aB),(∀s,aQ out s=true→aQ (tI own out t) s=true) ∧∀s∈t,aQ own s=true∨aQ (tI own out t) s=true
 | [],out=> ⟨fun s h=>h,fun s h=>by cases h⟩
 | x :: t,out=>by
  rw [tI];obtain⟨h1,h2⟩ :=aER own t (if aQ own x=true∨aQ out x=true then out else out++ [x])
  have h0:∀s,aQ out s=true→aQ (if aQ own x=true∨aQ out x=true then out else out++ [x]) s=true:=fun s h=>by
   split
   ·exact h
   ·rw [iJ,h];rfl
  refine⟨fun s h=>h1 s (h0 s h),fun s hs=>?_⟩;rcases List.mem_cons.1 hs with rfl|hs
  · by_cases ho:aQ own s=true
    ·exact .inl ho
    · refine .inr (h1 s ?_);split
      · rename_i g;exact g.resolve_left ho
      ·rw [iJ];simp [aQ]
  ·exact h2 s hs
theorem zS (own:List aB) :∀ (l:List LUnit) (out:List aB),(∀s,aQ out s=true→aQ (zI own out l) s=true) ∧∀u∈l,∀s∈u.needs,aQ own s=true∨aQ (zI own out l) s=true
 | [],out=> ⟨fun s h=>h,fun u h=>by cases h⟩
 | u::l,out=>by
  rw [zI];obtain⟨h1,h2⟩ :=zS own l (tI own out u.needs);obtain⟨g1,g2⟩ :=aER own u.needs out;refine⟨fun s h=>h1 s (g1 s h),fun v hv s hs=>?_⟩;rcases List.mem_cons.1 hv with rfl|hv
  ·exact(g2 s hs).imp_right (h1 s)
  ·exact h2 v hv s hs
theorem aHk {l:List LUnit}{u:LUnit}(hu:u∈l){s:aB}(hs:s∈aC u) :s∈aN l:=List.mem_flatten.2 ⟨aC u,List.mem_map.2 ⟨u,hu,rfl⟩,hs⟩
theorem aHl {l:List LUnit}{u:LUnit}(hu:u∈l) :aSd (aN l) (zJ l) u:=fun s hs=>by
 unfold mE;split
 · rename_i h;have h1:aQ (aN l) s=false:= (nB s _ 0).1 h;have h2:aQ (zJ l) s=true:=by
    rcases List.mem_append.1 hs with g|g
    ·rw [hasS_mem.2 (aHk hu g)]at h1;cases h1
    · rcases(zS (aN l) l []).2 u hu s g with g|g
      ·rw [g]at h1;cases h1
      ·exact g
   have:¬dX s (zJ l) 0<0:=fun g=>by rw [(nB s _ 0).1 g]at h2;cases h2
   omega
 ·omega
def bL (l:List LUnit)(cs:List Con) :Prog:= ⟨nZ (aN l) [] cs 0 l,kL 0 l,dX cV (aN l) 0,cs⟩
structure LinkOk (l:List LUnit) (cs:List Con) :Prop where
 hl:l.length≤10
 good:∀u∈l,GoodU u
 cons:aGQ l=some cs
 differ:cC (aN l) =true
 lost:zJ l= []
 main:¬cA cV l 0<0
 size:aR l≤300
 c20:cs.length≤20
theorem aSn {ls:List aB}{cs:List Con}{l:List LUnit}(hl:l.length≤10)(hg:∀u∈l,GoodU u)(hls:ls.length≤1000)(hn:∀u∈l,aSd (aN l) ls u) :aBI ls cs l= (aG4 0 l,nZ (aN l) ls cs 0 l) :=by
 have h1:=aGP l (fun u h=> (hg u h).few);have h2:=aG3 hg;unfold aBI;rw [aSe (by omega) hls l [] [] (fun u hu=> ⟨hg u hu,hn u hu⟩) (by simp;omega)];rfl
theorem aOs {l:List LUnit}(hu:∀u∈l,FewU u) : (zM l).1=aJd∧ (zM l).2≠0∨∃cs,LinkOk l cs∧zM l= (bL l cs,0) :=by
 unfold zM;split
 · rename_i h0;obtain⟨hl10,hg⟩ :=vW hu h0;split
   ·exact .inl ⟨rfl,by simp⟩
   · rename_i c hc;split
     · rename_i h1;split
       · rename_i h6;refine .inr ⟨c,⟨hl10,hg,hc,h1.1,h1.2.1,h1.2.2,h6.1,h6.2⟩,?_⟩;have:=aSn (cs:=c) hl10 hg (ls:=[]) (by simp) (fun u hu=>by have:=aHl hu;rw [h1.2.1]at this;exact this);rw [this];simp only [vX];rfl
       ·exact .inl ⟨rfl,by simp⟩
     ·exact .inl ⟨rfl,by simp⟩
 ·exact .inl ⟨rfl,by simp⟩
theorem aLL :∀ (l:List LUnit) (i:Nat),i<aR l→∃l1 u l2 j,l=l1++u::l2∧j<u.nodes.length∧i=aR l1+j
 | [],i,h=>by simp [aR]at h
 | u ::l,i,h=>by
  rw [aR]at h;by_cases hi:i<u.nodes.length
  ·exact⟨[],u,l,i,rfl,hi,by simp [aR]⟩
  · obtain⟨l1,v,l2,j,h1,h2,h3⟩ :=aLL l (i-u.nodes.length) (by omega);exact⟨u::l1,v,l2,j,by rw [h1];rfl,h2,by rw [aR];omega⟩
theorem aRe {u:LUnit}(h:GoodU u)(off:Nat) :∀f∈aIa off u,(off:Int) ≤f∧f<off+u.nodes.length:=fun f hf=>by
 have hw:=rS h;obtain⟨k,hk,rfl⟩ :=List.mem_map.1 hf;have hr:=hw.fine.funs k hk;obtain⟨j,hj⟩ :=hw.mem hr.1 hr.2;have h1:= (List.getElem?_eq_some_iff.1 hj).1;rw [hw.len]at h1
 change j<u.nodes.length at h1
 rw [hw.toL off j k hj];omega
theorem aES :∀ (l:List LUnit) (off:Nat),(∀u∈l,GoodU u) →∀f∈kL off l,(off:Int) ≤f∧f<off+aR l
 | [],off,_,f,hf=>by cases hf
 | u ::l,off,hg,f,hf=>by
  rw [kL]at hf;rw [aR];rcases List.mem_append.1 hf with h|h
  · have:=aRe (hg u (mem_cons_self ..)) off f h;omega
  · have:=aES l _ (fun x hx=>hg x (mem_cons_of_mem _ hx)) f h;omega
theorem bCA {u:LUnit}(h:GoodU u) : (aC u).length≤u.nodes.length:=by
 unfold aC;rw [length_map];rcases h.cases with⟨h0,_⟩ | ⟨_,hr⟩
 ·rw [h0];simp
 · have:= (Fs.of (lJ h.few) hr).head.2.2.1;simpa [gW,cI]using this
theorem aSo :∀ (l:List LUnit),(∀u∈l,GoodU u) → (aN l).length≤aR l
 | [],_=>by simp [aN]
 | u::l,hg=>by
  have:=bCA (hg u (mem_cons_self ..));have:=aSo l (fun x hx=>hg x (mem_cons_of_mem _ hx));rw [jG,aR,List.length_append];omega
theorem aUx {u:LUnit}(h:GoodU u){c:Con}(hc:c∈u.cons) :gB c=true∧c.name.length≤40:=by
 have hp:=h.few.p;simp only [aJ,and_eq_true,fR]at hp;refine⟨?_,by simpa using List.all_eq_true.1 hp.1.2 c hc⟩;have hf:=h.formed;unfold jJ at hf;simp only [and_eq_true]at hf;have h2:=hf.2;split at h2
 · simp only [and_eq_true]at h2;exact(Fs.of (aBF h.few) h2.2).head.2.2.2.2.2.2 c hc
 ·exact(Fs.of (lJ h.few) h2).head.2.2.2.2.2.2 c hc
section
variable {l :List LUnit} {cs:List Con}
theorem LinkOk.laid (h:LinkOk l cs){l1 l2:List LUnit}{u:LUnit}(hl:l=l1++u::l2) :Laid (bL l cs) (aR l1) (dI u) (mfU (aN l) [] u) (mcU cs u) (toL (dI u) (aR l1)) :=
 aG6 h.good rfl hl
theorem aLM {l:List LUnit}{cs:List Con}(hc:aGQ l=some cs){u:LUnit}(hu:u∈l){i:Nat}{d:Con}(hd:u.cons[i]?=some d) :0≤iL (mcU cs u) (i:Int) ∧cs[(iL (mcU cs u) (i:Int)).toNat]?=some d:=by
 have hf:=oD hc (by simp);have hm:=hf.2.2.2 u hu d (mem_of_getElem? hd);obtain⟨j,hj⟩ :=List.mem_iff_getElem?.1 hm;have e:=aLn cs u.cons 0 [] i d hd;rw [show(0:Int) + (i:Int) =i by omega,tL hf.1 hj]at e;unfold mcU;rw [e];exact⟨by omega,by rw [Int.toNat_natCast];exact hj⟩
theorem aCT {T ls:List aB}{s:aB}(h:aQ T s=true) :0≤mE T ls s∧mE T ls s<T.length∧T[(mE T ls s).toNat]?=some s:=by
 unfold mE;split
 · rename_i g;rw [(nB s T 0).1 g]at h;cases h
 · rename_i g;rcases lK s T 0 with r| ⟨_,r1,r2⟩
   ·omega
   ·exact⟨by omega,by omega,by simpa using r2⟩
theorem LinkOk.own (h:LinkOk l cs){u:LUnit}(hu:u∈l){s:aB}(hs:s∈aC u++u.needs) :aQ (aN l) s=true:=by
 rcases List.mem_append.1 hs with g|g
 ·exact hasS_mem.2 (aHk hu g)
 · rcases(zS (aN l) l []).2 u hu s g with g|g
   ·exact g
   · change aQ (zJ l) s=true at g
     rw [h.lost]at g;cases g
theorem LinkOk.maps (h:LinkOk l cs){u:LUnit}(hu:u∈l) :MapsOk (rR u) (bL l cs) (mfU (aN l) [] u) (mcU cs u) :=by
 refine⟨fun i h0 h1=>?_,fun i d hd=>aLM h.cons hu hd⟩;have hw: (rR u).funs.length=u.funs.length+u.needs.length:=by simp [rR]
 rw [hw]at h1;obtain⟨s,hs,e⟩ :=aLv (T:=aN l) (ls:=[]) (u:=u) h0 (by omega);have:=aCT (ls:=[]) (h.own hu (mem_of_getElem? hs));rw [e];have e2: (bL l cs).funs.length= (aN l).length:=lL l 0;omega
theorem LinkOk.len (h:LinkOk l cs) : (bL l cs).nodes.length=aR l:=aDJ l 0 h.good
theorem LinkOk.walk (h:LinkOk l cs) :dY (bL l cs) = (List.range (aR l)).map fun(i:Nat) => (i:Int) :=by
 have e:=aG7 (T:=aN l) (ls:=[]) (cs:=cs) (a:=bL l cs) h.good rfl (N:= (bL l cs).nodes.length) (by rw [h.len];exact le_refl _) l [] rfl;unfold dY
 change ((kL (aR []) l).map _).flatten=_
 rw [e];refine List.map_congr_left (fun i _=>?_);simp [aR]
theorem LinkOk.fs (h:LinkOk l cs) :Fs (bL l cs) :=by
 have hf:=oD h.cons (by simp);have hm:0≤dX cV (aN l) 0∧dX cV (aN l) 0< (aN l).length:=by
  have g:¬dX cV (aN l) 0<0:=fun g=>h.main ((iK cV l 0).2 ((nB cV (aN l) 0).1 g));rcases lK cV (aN l) 0 with r|r<;>omega
 have hfl: (bL l cs).funs.length= (aN l).length:=lL l 0;refine aCN (N:=aR l) h.len h.size (by omega) (by rw [hfl];exact aSo l h.good) hm.1 (by rw [hfl];exact hm.2) h.c20 (fun c hc=>?_) hf.1 (fun i x hx=>?_) (fun f hf=>?_) h.walk
 · rcases hf.2.1 c hc with g| ⟨u,g1,g2⟩
   ·cases g
   ·exact aUx (h.good u g1) g2
 · have hi:= (List.getElem?_eq_some_iff.1 hx).1;rw [h.len]at hi;obtain⟨l1,u,l2,j,h1,h2,h3⟩ :=aLL l i hi;have hu:u∈l:=by rw [h1];simp
   have hg:=h.good u hu;have hw:=rS hg;have hL:=h.laid h1;have hsz:aR l=aR l1+ (u.nodes.length+aR l2) :=by rw [h1,aAr,aR]
   obtain⟨k,hk⟩ :∃k,(dY (dI u))[j]?=some k:= ⟨_,getElem?_eq_getElem (by rw [hw.len];exact h2)⟩;have hkr:=hw.into k (mem_of_getElem? hk);obtain⟨y,hy⟩ :∃y,u.nodes[k.toNat]?=some y:= ⟨_,getElem?_eq_getElem (by have:=hkr.2;change k<u.nodes.length at this;omega)⟩;have e:=hL.node j k hk;rw [←h3,hx,fD (p:=dI u) hy]at e;have e:=Option.some.inj e;obtain⟨n1,_,n3⟩ :=tN hg hy;rw [e];refine⟨aGW (h.maps hu) _ n1,aEO _ n3,fun c hc=>?_⟩;obtain⟨c0,hc0,rfl⟩ :=List.mem_map.1 hc;have ek:cT (dI u) k=y.kids:=by unfold cT;rw [show(dI u).nodes=u.nodes from rfl,hy]
   obtain⟨j2,hj,e2⟩ :=hw.after j k c0 hk (by rw [ek];exact hc0);rw [hL.to j2 c0 e2];have:= (List.getElem?_eq_some_iff.1 e2).1;rw [hw.len]at this
   change j2<u.nodes.length at this
   omega
 · have:=aES l 0 h.good f hf;omega
end
mutual
theorem aUy {cons:List Con}:∀q:Pat,cM cons q=true→qS (sM cons.length) q=q
 | .mk f n s ps,h=>by
  rw [cM,and_eq_true]at h;rw [qS,wF ps h.2];by_cases e:f=6
  · rw [if_pos e];have h1:=h.1;simp [cX,e,dG]at h1;rw [aIZ (by omega) (by omega)]
  ·rw [if_neg e]
theorem wF {cons:List Con}:∀ps:List Pat,bX cons ps=true→eJ (sM cons.length) ps=ps
 | [],_=>rfl
 | q::ps,h=>by
  rw [bX,and_eq_true]at h;rw [eJ,aUy q h.1,wF ps h.2]
end
def aHm (i:Nat) :List Int→List Int→List Int
 | [],l=>l
 |k::t,l=>aHm i t (l.set k.toNat (l.getD i 0))
def aE3 :List Node→Nat→List Int→List Int
 | [],_,l=>l
 |x::t,i,l=>aE3 t (i+1) (aHm i x.kids l)
def aIb :List Int→Nat→List Int→List Int
 | [],_,l=>l
 |f::t,i,l=>aIb t (i+1) (l.set f.toNat (i:Int))
def lO (p:Prog) :List Int:=aE3 p.nodes 0 (aIb p.funs 0 (replicate p.nodes.length 0))
theorem aCU (i:Nat) :∀ (t l:List Int),(aHm i t l).length=l.length
 | [],_=>rfl
 |k::t,l=>by rw [aHm,aCU i t];simp
theorem aOt :∀ (t:List Node) (i:Nat) (l:List Int),(aE3 t i l).length=l.length
 | [],_,_=>rfl
 |x::t,i,l=>by rw [aE3,aOt t,aCU]
theorem aHn :∀ (t:List Int) (i:Nat) (l:List Int),(aIb t i l).length=l.length
 | [],_,_=>rfl
 |f::t,i,l=>by rw [aIb,aHn t];simp
theorem aYl (p:Prog) : (lO p).length=p.nodes.length:=by rw [lO,aOt,aHn];simp
def kM (own:List Int) :List Node→Nat→List Bool→List Bool
 | [],_,l=>l
 |x::t,i,l=>kM own t (i+1) (if x.op=4∧x.n<0∧l.getD (own.getD i 0).toNat false=true then l.set (-1-x.n).toNat true else l)
def rU (p:Prog)(own:List Int) :Nat→List Bool→List Bool
 |0,l=>l
 |k+1,l=>rU p own k (kM own p.nodes 0 l)
def aX (p:Prog) :List Bool:=rU p (lO p) p.funs.length ((replicate p.funs.length false).set p.main.toNat true)
theorem aAt (own:List Int) :∀ (t:List Node) (i:Nat) (l:List Bool),(kM own t i l).length=l.length
 | [],_,_=>rfl
 |x::t,i,l=>by rw [kM,aAt own t];split<;>simp
theorem aJm (p:Prog)(own:List Int) :∀ (k:Nat) (l:List Bool),(rU p own k l).length=l.length
 |0,_=>rfl
 |k+1,l=>by rw [rU,aJm p own k,aAt]
theorem nC (p:Prog) : (aX p).length=p.funs.length:=by rw [aX,aJm];simp
structure OwnsP (p:Prog) (own:List Int) :Prop where
 len:own.length=p.nodes.length
 own:∀i:Nat,i<p.nodes.length→0≤own.getD i 0∧own.getD i 0<p.funs.length
 name:∀ (i:Nat) (x:Node),p.nodes[i]?=some x→x.op=4→x.n<0→ -1-x.n<p.funs.length
 small:p.nodes.length≤320
 fsmall:p.funs.length≤320
 main:0≤p.main∧p.main<p.funs.length
abbrev inK (l:List Bool)(x:Nat) :Prop:=l.getD x false=true
theorem aSp (l:List Bool)(y x:Nat) :inK (l.set y true) x→inK l x∨x=y:=fun h=>by
 unfold inK at h ⊢;rw [getD_eq_getElem?_getD,getElem?_set]at h;split at h
 ·rename_i e;exact .inr e.symm
 ·rw [←getD_eq_getElem?_getD]at h;exact .inl h
theorem aOu (l:List Bool)(y x:Nat)(h:inK l x) :inK (l.set y true) x:=by
 unfold inK at h ⊢;rw [getD_eq_getElem?_getD,getElem?_set];rw [getD_eq_getElem?_getD]at h;split
 · rename_i e;subst e;have:y<l.length:=by
    rcases Nat.lt_or_ge y l.length with q|q
    ·exact q
    ·rw [List.getElem?_eq_none q]at h;cases h
   rw [if_pos this];rfl
 ·exact h
theorem aSq (l:List Bool)(y:Nat)(h:y<l.length) :inK (l.set y true) y:=by
 unfold inK;rw [getD_eq_getElem?_getD,getElem?_set,if_pos rfl,if_pos h];rfl
abbrev bH8 (own:List Int)(l:List Bool)(i:Nat)(x:Node) :Prop:=x.op=4∧x.n<0∧l.getD (own.getD i 0).toNat false=true
theorem wG (own:List Int) :∀ (t:List Node) (i:Nat) (l:List Bool) (x:Nat),inK l x→inK (kM own t i l) x
 | [],_,_,_,h=>h
 | y::t,i,l,x,h=>by
  rw [kM];apply wG own t (i+1);split
  ·exact aOu _ _ _ h
  ·exact h
theorem aET (own:List Int)(R:Nat→Prop) :∀ (t:List Node) (i:Nat) (l:List Bool),(∀ (j:Nat) (x:Node),t[j]?=some x→x.op=4→x.n<0→R (own.getD (i+j) 0).toNat→R (-1-x.n).toNat) → (∀x,inK l x→R x) →∀x,inK (kM own t i l) x→R x
 | [],_,_,_,hl,x,h=>hl x h
 | y :: t,i,l,hR,hl,x,h=>by
  rw [kM]at h;refine aET own R t (i+1) _ (fun j z hz=>?_) (fun z hz=>?_) x h
  · have:=hR (j+1) z (by simpa using hz);rw [show i+1+j=i+ (j+1)by omega];exact this
  · split at hz
    · rename_i hh;rcases aSp _ _ _ hz with q|q
      ·exact hl z q
      · rw [q];exact hR 0 y rfl hh.1 hh.2.1 (hl _ hh.2.2)
    ·exact hl z hz
theorem aHo (own:List Int) :∀ (t:List Node) (i:Nat) (l:List Bool),(∀x,inK (kM own t i l) x→inK l x) → (∀ (j:Nat) (x:Node),t[j]?=some x→x.op=4→x.n<0→ (-1-x.n).toNat<l.length) →
  ∀ (j:Nat) (x:Node),t[j]?=some x→bH8 own l (i+j) x→inK l (-1-x.n).toNat
 | [],_,_,_,_,j,x,h,_=>by simp at h
 | y::t,i,l,hc,hn,0,x,h,hh=>by
  simp only [getElem?_cons_zero,Option.some.injEq]at h;subst h;apply hc;rw [Nat.add_zero]at hh;rw [kM,if_pos hh];exact wG own t (i+1) _ _ (aSq _ _ (hn 0 y rfl hh.1 hh.2.1))
 | y ::t,i,l,hc,hn,j+1,x,h,hh=>by
  simp only [getElem?_cons_succ]at h;rw [kM]at hc;have same:∀z,inK (if y.op=4∧y.n<0∧l.getD (own.getD i 0).toNat false=true then l.set (-1-y.n).toNat true else l) z→inK l z:=fun z hz=>hc z (wG own t (i+1) _ z hz)
  have more:∀z,inK l z→inK (if y.op=4∧y.n<0∧l.getD (own.getD i 0).toNat false=true then l.set (-1-y.n).toNat true else l) z:=fun z hz=>by
   split
   ·exact aOu _ _ _ hz
   ·exact hz
  apply same;refine aHo own t (i+1) _ (fun z hz=>more z (hc z hz)) (fun j z hz q1 q2=>?_) j x h ⟨hh.1,hh.2.1,?_⟩
  · have:=hn (j+1) z (by simpa using hz) q1 q2;split
    ·rw [List.length_set];exact this
    ·exact this
  · rw [show i+1+j=i+ (j+1)by omega];exact more _ hh.2.2
theorem aDU :∀ (l:List Bool) (y:Nat),l.count true≤ (l.set y true).count true
 | [],_=>by simp
 |b::l,0=>by cases b<;>simp
 | b::l,y+1=>by
  have:=aDU l y;simp only [List.set_cons_succ,List.count_cons];omega
theorem aHp :∀ (l:List Bool) (y:Nat),(l.set y true).count true=l.count true→l.set y true=l
 | [],_,_=>by simp
 |b::l,0,h=>by cases b<;>simp_all
 | b::l,y+1,h=>by
  simp only [List.set_cons_succ,List.count_cons]at h ⊢;rw [aHp l y (by omega)]
theorem zT (own:List Int) :∀ (t:List Node) (i:Nat) (l:List Bool),l.count true≤ (kM own t i l).count true
 | [],_,_=>le_refl _
 | y::t,i,l=>by
  rw [kM];refine Nat.le_trans ?_ (zT own t (i+1) _);split
  ·exact aDU _ _
  ·exact le_refl _
theorem aBK (own:List Int) :∀ (t:List Node) (i:Nat) (l:List Bool),(kM own t i l).count true=l.count true→kM own t i l=l
 | [],_,_,_=>rfl
 | y ::t,i,l,h=>by
  rw [kM]at h ⊢;have h1:=zT own t (i+1) (if y.op=4∧y.n<0∧l.getD (own.getD i 0).toNat false=true then l.set (-1-y.n).toNat true else l);split at h
  · rename_i hh;rw [if_pos hh]at h1 ⊢;have h2:=aDU l (-1-y.n).toNat;have h3: (l.set (-1-y.n).toNat true).count true=l.count true:=by omega
    rw [aBK own t (i+1) _ (by omega),aHp l _ h3]
  · rename_i hh;rw [if_neg hh];exact aBK own t (i+1) l h
theorem aJn (p:Prog)(own:List Int) :∀ (k:Nat) (l:List Bool),l.length<k+l.count true→kM own p.nodes 0 (rU p own k l) =rU p own k l
 | 0,l,h=>by
  have:=List.count_le_length (a:=true) (l:=l);omega
 | k +1,l,h=>by
  rw [rU];have h1:=zT own p.nodes 0 l;by_cases e: (kM own p.nodes 0 l).count true=l.count true
  · have e2:=aBK own p.nodes 0 l e;rw [e2]
    have:∀k,rU p own k l=l:=fun k=>by
     induction k with
     |zero=>rfl
     |succ k ih=>rw [rU,e2];exact ih
    rw [this k,e2]
  ·exact aJn p own k _ (by rw [aAt];omega)
theorem aHq (p:Prog)(own:List Int) :∀ (k:Nat) (l:List Bool) (x:Nat),inK l x→inK (rU p own k l) x
 |0,_,_,h=>h
 |k+1,l,x,h=>by rw [rU];exact aHq p own k _ x (wG own _ _ _ x h)
theorem aEU (p:Prog)(own:List Int)(R:Nat→Prop)(hR:∀ (j:Nat) (x:Node),p.nodes[j]?=some x→x.op=4→x.n<0→R (own.getD j 0).toNat→R (-1-x.n).toNat) :∀ (k:Nat) (l:List Bool),(∀x,inK l x→R x) →∀x,inK (rU p own k l) x→R x
 |0,_,hl,x,h=>hl x h
 | k+1,l,hl,x,h=>by
  rw [rU]at h;exact aEU p own R hR k _ (fun z hz=>aET own R p.nodes 0 l (fun j y hy=>by rw [zero_add];exact hR j y hy) hl z hz) x h
inductive ReaN (p:Prog) (own:List Int) :Nat→Prop
 |main:ReaN p own p.main.toNat
 |step {j:Nat} {x:Node}:p.nodes[j]?=some x→x.op=4→x.n<0→ReaN p own (own.getD j 0).toNat→ReaN p own (-1-x.n).toNat
theorem qQ {p:Prog}(ho:OwnsP p (lO p))(x:Nat) :inK (aX p) x↔ReaN p (lO p) x:=by
 obtain⟨m0,m1⟩ :=ho.main;have hmain:p.main.toNat< (replicate p.funs.length false).length:=by rw [List.length_replicate];omega
 constructor
 · intro h;refine aEU p (lO p) (ReaN p (lO p)) (fun j y hy q1 q2 q3=>.step hy q1 q2 q3) p.funs.length _ (fun z hz=>?_) x h;rcases aSp _ _ _ hz with q|q
   · unfold inK at q;rw [getD_eq_getElem?_getD,List.getElem?_replicate]at q;split at q<;>cases q
   ·rw [q];exact .main
 · intro h;have hfix:kM (lO p) p.nodes 0 (aX p) =aX p:=by
    refine aJn p (lO p) p.funs.length _ ?_;have:0< ((replicate p.funs.length false).set p.main.toNat true).count true:=by
     rw [List.count_pos_iff];exact mem_of_getElem? (i:=p.main.toNat) (by rw [getElem?_set,if_pos rfl,if_pos hmain])
    rw [List.length_set,List.length_replicate];omega
   induction h with
   |main=>exact aHq p (lO p) _ _ _ (aSq _ _ hmain)
   | @step j y hy q1 q2 _ ih=>
    refine aHo (lO p) p.nodes 0 (aX p) (fun z hz=>by rw [hfix]at hz;exact hz) (fun j z hz w1 w2=>?_) j y hy ⟨q1,q2,by rw [zero_add];exact ih⟩;have:=ho.name j z hz w1 w2;rw [nC];omega
def dQ :List Bool→Int→List Int
 | [],_=>[]
 |b::t,n=>n::dQ t (if b=true then n+1 else n)
theorem aDV :∀ (is:List Bool) (n:Int),(dQ is n).length=is.length
 | [],_=>rfl
 |b::t,n=>by rw [dQ,length_cons,aDV t,length_cons]
def aO {α:Type}:List Bool→List α→List α
 |true::bs,x::t=>x::aO bs t
 |false::bs,_::t=>aO bs t
 |_,_=>[]
section
variable (p :Prog) (mf mc:List (Int×Int)) (ml:List (Int×Bool))
variable {p mf mc ml}
end
section
variable (p :Prog) (mf mc:List (Int×Int)) (ml:List (Int×Bool)) (to:List Int)
variable {p mf mc ml to}
end
section
variable {p :Prog} {mf mc:List (Int×Int)} {ml:List (Int×Bool)}
end
def fA :List Bool→Int→List Int
 | [],_=>[]
 |b::t,i=>if b=true then i::fA t (i+1)else fA t (i+1)
theorem kY :∀ (is:List Bool) (b:Int),∀x∈fA is b,b≤x
 | [],_,x,h=>by cases h
 | c ::t,b,x,h=>by
  simp only [fA]at h;split at h
  · rcases List.mem_cons.1 h with rfl|h
    ·omega
    ·have:=kY t (b+1) x h;omega
  ·have:=kY t (b+1) x h;omega
theorem oG :∀ (is:List Bool) (b:Int) (j:Nat),is[j]?=some true↔b+ (j:Int) ∈fA is b
 | [],b,j=>by simp [fA]
 | c::t,b,0=>by
  simp only [fA];have h:b∉fA t (b+1) :=fun h=>by have:=kY t (b+1) b h;omega
  cases c
  case true=>simp
  simpa using h
 | c::t,b,j+1=>by
  have ih:=oG t (b+1) j;have e:b+1+ (j:Int) =b+ ((j+1:Nat) :Int) :=by omega
  rw [e]at ih;simp only [fA,getElem?_cons_succ];rw [ih];cases c
  case true=>
   rw [if_pos rfl,List.mem_cons];exact⟨.inr,fun h=>h.resolve_left (by omega)⟩
  rw [if_neg (by simp)]
section
variable (p :Prog) (mn:List (Int×List Int))
variable {p mn}
end
section
variable {p :Prog}
end
theorem aDW {lo n:Int}:∀ {ks:List Int} {u v:List Bool},marks lo n ks u=some v→∀k∈ks,v[k.toNat]?=some true
 | [],_,_,_,k,hk=>by cases hk
 | a::ks,u,v,h,k,hk=>by
  obtain⟨h1,h2⟩ :=eX h;rcases List.mem_cons.1 hk with rfl|hk
  ·exact jV h2 _ (getElem?_set_self (List.getElem?_eq_some_iff.1 h1).1)
  ·exact aDW h2 k hk
theorem aAu {i:Nat}{lo n:Int}:∀ {t:List Int} {u v:List Bool} {l:List Int},marks lo n t u=some v→∀m:Nat,u[m]?=some true→ (aHm i t l)[m]?=l[m]?
 | [],_,_,_,_,_,_=>rfl
 | k::t,u,v,l,h,m,hm=>by
  obtain⟨h1,h2⟩ :=eX h;have hne:k.toNat≠m:=fun e=>by rw [e,hm]at h1;cases h1
  rw [aHm,aAu h2 m (by rw [getElem?_set_ne hne];exact hm),getElem?_set_ne hne]
theorem aAv {p:Prog}:∀ {t:List Node} {i:Nat} {u v:List Bool} {l:List Int},bW p i t u=some v→∀m:Nat,u[m]?=some true→ (aE3 t i l)[m]?=l[m]?
 | [],_,_,_,_,_,_,_=>rfl
 | x::t,i,u,v,l,h,m,hm=>by
  obtain⟨_,w,hw,h2⟩ :=eM h;rw [aE3,aAv h2 m (jV hw m hm),aAu hw m hm]
theorem aJo {lo n:Int}:∀ {t:List Int} {i:Nat} {u v:List Bool} {l:List Int},marks lo n t u=some v→∀m:Nat,u[m]?=some true→ (aIb t i l)[m]?=l[m]?
 | [],_,_,_,_,_,_,_=>rfl
 | k::t,i,u,v,l,h,m,hm=>by
  obtain⟨h1,h2⟩ :=eX h;have hne:k.toNat≠m:=fun e=>by rw [e,hm]at h1;cases h1
  rw [aIb,aJo h2 m (by rw [getElem?_set_ne hne];exact hm),getElem?_set_ne hne]
theorem aOv {i:Nat}{lo n:Int}:∀ {t:List Int} {u v:List Bool} {l:List Int},marks lo n t u=some v→u.length=l.length→u[i]?=some true→∀ (d:Nat) (k:Int),t[d]?=some k→ (aHm i t l)[k.toNat]?=some (l.getD i 0)
 | [],_,_,_,_,_,_,d,k,hk=>by simp at hk
 | a::t,u,v,l,h,hul,hi,d,k,hk=>by
  obtain⟨h1,h2⟩ :=eX h;have hai:a.toNat≠i:=fun e=>by rw [e,hi]at h1;cases h1
  have hal:a.toNat<u.length:= (List.getElem?_eq_some_iff.1 h1).1;rw [aHm];cases d with
  | zero=>
   simp at hk;subst hk;rw [aAu h2 _ (by rw [getElem?_set_self hal]),getElem?_set_self (by omega)]
  | succ d=>
   have:=aOv (i:=i) (l:=l.set a.toNat (l.getD i 0)) h2 (by simpa using hul) (by rw [getElem?_set_ne hai];exact hi) d k (by simpa using hk);rw [this,getD_eq_getElem?_getD,getElem?_set_ne hai,←getD_eq_getElem?_getD]
theorem aOw {p:Prog}:∀ {t:List Node} {i:Nat} {u v:List Bool} {l:List Int},bW p i t u=some v→ (∀m,m<v.length→v[m]?=some true) →u.length=l.length→i+t.length≤u.length→∀ (j:Nat) (x:Node) (d:Nat) (k:Int),t[j]?=some x→x.kids[d]?=some k →
  ∃s,(aE3 t i l)[i+j]?=some s∧ (aE3 t i l)[k.toNat]?=some s
 | [],_,_,_,_,_,_,_,_,j,x,d,k,hx,_=>by simp at hx
 | y ::t,i,u,v,l,h,hv,hul,hil,j,x,d,k,hx,hk=>by
  obtain⟨_,w,hw,h2⟩ :=eM h;have hwl:=iG hw;simp only [length_cons]at hil;rw [aE3];cases j with
  | zero=>
   simp at hx;subst hx;have hvl:=iZ h;have hi:u[i]?=some true:=vN h i (le_refl _) (hv i (by omega));have hk2:=aOv (i:=i) (l:=l) hw hul hi d k hk;have hwk:w[k.toNat]?=some true:=aDW hw k (mem_of_getElem? hk);refine⟨l.getD i 0,?_,?_⟩
   · show(aE3 t (i+1) (aHm i y.kids l))[i]?=some (l.getD i 0);rw [aAv h2 i (jV hw i hi),aAu hw i hi,getD_eq_getElem?_getD,getElem?_eq_getElem (by omega)];rfl
   ·rw [aAv h2 _ hwk,hk2]
  | succ j=>
   obtain⟨s,a1,a2⟩ :=aOw (l:=aHm i y.kids l) h2 hv (by rw [aCU,hwl,hul]) (by omega) j x d k (by simpa using hx) hk;exact⟨s,by rw [←a1];congr 1;omega,a2⟩
theorem aJp {lo n:Int}:∀ {t:List Int} {i:Nat} {u v:List Bool} {l:List Int},marks lo n t u=some v→u.length=l.length→∀ (d:Nat) (f:Int),t[d]?=some f→ (aIb t i l)[f.toNat]?=some ((i+d:Nat) :Int)
 | [],_,_,_,_,_,_,d,f,hf=>by simp at hf
 | a::t,i,u,v,l,h,hul,d,f,hf=>by
  obtain⟨h1,h2⟩ :=eX h;have hal:a.toNat<u.length:= (List.getElem?_eq_some_iff.1 h1).1;rw [aIb];cases d with
  | zero=>
   simp at hf;subst hf;rw [aJo h2 _ (getElem?_set_self hal),getElem?_set_self (by omega)];rfl
  | succ d=>
   have:=aJp (i:=i+1) (l:=l.set a.toNat (i:Int)) h2 (by simpa using hul) d f (by simpa using hf);rw [this];congr 2;omega
structure Oprop (p:Prog) (S:List Int) :Prop where
 len:S.length=p.nodes.length
 root:∀ (d:Nat) (f:Int),p.funs[d]?=some f→S[f.toNat]?=some (d:Int)
 kid:∀ (i:Nat) (x:Node) (k:Int),p.nodes[i]?=some x→k∈x.kids→S[k.toNat]?=S[i]?
theorem oH {p:Prog}(hf:aP p=true) :Oprop p (lO p) :=by
 simp only [aP,and_eq_true]at hf;obtain⟨_,hf⟩ :=hf;split at hf
 · rename_i u hu;unfold allT at hf;split at hf
   · rename_i v hv;have hul:u.length=p.nodes.length:=by rw [iG hu];simp
     have hvl:v.length=p.nodes.length:=by rw [iZ hv,hul]
     have hall:∀m,m<v.length→v[m]?=some true:=fun m hm=>by
      rw [getElem?_eq_getElem hm];have:=List.all_eq_true.1 hf _ (List.getElem_mem hm);simpa using this
     refine⟨aYl p,fun d f hd=>?_,fun i x k hx hk=>?_⟩
     · rw [lO,aAv hv _ (aDW hu f (mem_of_getElem? hd)),aJp hu (by simp) d f hd];congr 2;omega
     · obtain⟨d,hd⟩ :=List.getElem?_of_mem hk;obtain⟨s,a1,a2⟩ :=aOw (l:=aIb p.funs 0 (replicate p.nodes.length 0)) hv hall (by rw [aHn];simp [hul]) (by omega) i x d k hx hd;rw [zero_add]at a1;rw [lO,a1,a2]
   ·cases hf
 ·cases hf
theorem aFq {p:Prog}(hp:FineP p){S:List Int}(hS:Oprop p S) :∀ (f:Nat) (a:Int),0≤a→a<p.nodes.length→p.nodes.length-a.toNat≤f→∀x∈pre p f a,S[x.toNat]?=S[a.toNat]?
 |0,a,h0,h1,hf,_,_=>by omega
 | f +1,a,h0,h1,hf,x,hx=>by
  obtain⟨y,g,e,hy,hpre⟩ :=qN hp h0 h1 hf;rw [hpre]at hx;obtain rfl:f=g:=by omega
  rcases List.mem_cons.1 hx with rfl|hx
  ·rfl
  · rw [List.mem_flatten]at hx;obtain⟨l,hl,hx⟩ :=hx;rw [List.mem_map]at hl;obtain⟨k,hk,rfl⟩ :=hl;obtain⟨_,_,hks⟩ :=hp.node _ _ hy;have:=hks k hk;rw [aFq hp hS f k (by omega) (by omega) (by omega) x hx,hS.kid a.toNat y k hy hk]
theorem aYm {p:Prog}{S:List Int}(hS:Oprop p S)(hc:aRY p) :∀ (b m:Nat),m≤b→m<p.nodes.length→∃d:Nat,d<p.funs.length∧S[m]?=some (d:Int)
 | b,m,hb,hm=>by
  rcases hc m hm with⟨f,hf,e⟩ | ⟨i,x,k,hx,hk,e,hi⟩
  · obtain⟨d,hd⟩ :=List.getElem?_of_mem hf;exact⟨d,(List.getElem?_eq_some_iff.1 hd).1,by rw [←e];exact hS.root d f hd⟩
  · rw [←e,hS.kid i x k hx hk];cases b with
    |zero=>omega
    |succ b=>exact aYm hS hc b i (by omega) (by omega)
theorem aCV {p:Prog}(hs:aJ p=true)(hf:aP p=true)(hn:∀ (i:Nat) (x:Node),p.nodes[i]?=some x→bJ p x=true)(hm:0≤p.main∧p.main<p.funs.length) :OwnsP p (lO p) :=by
 obtain⟨hp,_,hc⟩ :=aK5 hs hf;have hS:=oH hf;refine⟨hS.len,fun i hi=>?_,fun i x hx h4 h0=>?_,hp.small,hp.fsmall,hm⟩
 · obtain⟨d,hd,e⟩ :=aYm hS hc i i (le_refl _) hi;rw [getD_eq_getElem?_getD,e];show 0≤ (d:Int) ∧ (d:Int) <p.funs.length;omega
 · have:=hn i x hx;simp only [bJ,and_eq_true,fJ,bP,h4]at this;have h1:=this.1.1.1;simp [inB_iff]at h1;omega
section
variable {p :Prog} {mf mf' mc:List (Int×Int)} {F C:List Int} {to:List Int}
theorem aOx (hp:FineP p)(hm:MOk p mf mc F C)(fs:List Int)(hfs:∀k∈fs,k∈p.funs)(frm:Nat){f:Nat}(hf:p.nodes.length≤f)
  (hd: ((fs.map (pre p f)).flatten).Nodup) (hlen:frm+ ((fs.map (pre p f)).flatten).length≤1000000) (hin:∀x∈ (fs.map (pre p f)).flatten,0≤x∧x<p.nodes.length) :
  ∃n,wAs (wA p f) fs (replicate p.nodes.length (0:Int),(frm:Int)) =some (eI (replicate p.nodes.length 0) frm (fs.map (pre p f)).flatten,n) ∧jD (dA p F C f) frm fs=some (fs.map (fC (eI (replicate p.nodes.length 0) frm (fs.map (pre p f)).flatten)),(fs.map (wB p mf mc (eI (replicate p.nodes.length 0) frm (fs.map (pre p f)).flatten) f)).flatten) ∧ ((fs.map (wB p mf mc (eI (replicate p.nodes.length 0) frm (fs.map (pre p f)).flatten) f)).flatten).length= ((fs.map (pre p f)).flatten).length:=by
 have hA:wAs (wA p f) fs (replicate p.nodes.length (0:Int),(frm:Int)) =some (eI (replicate p.nodes.length 0) frm (fs.map (pre p f)).flatten,(frm:Int) + (((fs.map (pre p f)).flatten).length:Int)) :=by
  exact aK4 (q:=pre p f) fs _ _ (fun k hk l n h1 h2=>by
   have:=hp.funs k (hfs k hk);exact aW3 hp f k (by omega) (by omega) (by omega) l n h1 h2) (by omega) (by omega)
 have ht:=aAl (fs.map (pre p f)).flatten (replicate p.nodes.length 0) frm hd (fun x hx=>by rw [List.length_replicate];exact hin x hx);refine⟨_,hA,?_,?_⟩
 · exact aCJ (to:=eI (replicate p.nodes.length 0) frm (fs.map (pre p f)).flatten) (h:=wB p mf mc (eI (replicate p.nodes.length 0) frm (fs.map (pre p f)).flatten) f) (q:=pre p f) fs frm (fun k hk len h1 h2=>by
    have:=hp.funs k (hfs k hk);exact aDy hp hm f k len (by omega) (by omega) (by omega) h1 h2) (fun k hk=>by
    have:=hp.funs k (hfs k hk);obtain⟨y,g,_,_,h3⟩ :=qN hp (f:=f) (a:=k) (by omega) (by omega) (by omega);exact⟨aGF _ _ _ f k,by rw [h3];rfl⟩) (by omega) (fun i b h=>by rw [ht i b h];simp)
 · rw [List.length_flatten,map_map];have:map (length ∘ wB p mf mc (eI (replicate p.nodes.length 0) frm (fs.map (pre p f)).flatten) f) fs=map (length ∘ pre p f) fs:=List.map_congr_left (fun k _=>aGF _ _ _ f k);rw [this,←map_map,←List.length_flatten]
end
end
end Go.Hb
