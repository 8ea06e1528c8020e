/- A machine on abstract values, its soundness, ways, plain laws. -/
import Derived.Test.YtabmpnmmkeieiaaGreatHF
import Derived.Test.YtabmpnmmkeieiaaGreatHG
import Derived.Test.YtabmpnmmkeieiaaGreatHH
import Derived.Test.YtabmpnmmkeieiaaGreatHI
import Derived.Test.YtabmpnmmkeieiaaGreatHJ
set_option linter.defProp false
set_option linter.unusedVariables false
set_option linter.unusedSimpArgs false
set_option linter.unusedSectionVars false
set_option maxRecDepth 100000
set_option maxHeartbeats 4000000
namespace Go.Hb
open AV (keyless keylessL)
open List (all_cons all_map count_append flatten_cons getElem?_cons_succ getElem?_eq_getElem length map map_cons mem_cons_self mem_of_getElem?)
open Terms (av)
open Go.Proofs Tryz
noncomputable section
def aD4(a:DataD)(b:Int):TS:=⟨(tf 61 53 [kp 1 0,(2,(bV false)),(3,(nI b))] [kc f61 116,kl f61 116,.inBlock 0,kc f61 15]),[],[oC 0 [(aA a.name),(.ilst 2 (map ConD.av a.cons) false)]],1⟩
def aHk(a:DataD)(b:aB)(c:List Typ)(d e:Int):TS:=⟨(tf 61 53 [kp 1 0,(2,(bV false)),(3,(nI e)),kp 4 1,(5,(nI d))] [kc f61 29852,kl f61 29852,.inBlock 2,.inBlock 1,kc f61 467,kl f61 116,.inBlock 0,kc f61 15]),[],[oC 0 [(aA a.name),(.ilst 2 (map ConD.av a.cons) false)],oC 1 [(aA b),(.ilst 4 (Typs.av c) false)]],2⟩
def aHl(a:Mod)(b:Int):TS:=⟨(tf 14 77 [kp 1 0,(2,(bV false)),(3,(nI b))] [kc f14 116,kl f14 116,.inBlock 0,kc f14 15]),[],[oC 0 [(aA a.name),(.ilst 2 (map DataD.av a.datas) false),(.ilst 15 (FunDs.av a.funs) false)]],1⟩
def aHm(a:Mod)(b:Int):TS:=⟨(tf 14 77 [kp 1 0,(2,(bV false)),(4,(nI b))] [kc f14 244,kl f14 244,.inBlock 2,kc f14 31]),[],[oC 0 [(aA a.name),(.ilst 2 (map DataD.av a.datas) false),(.ilst 15 (FunDs.av a.funs) false)]],1⟩
def aD5(a:DataD)(b:Int):TS:=⟨(tf 34 52 [kp 1 0,(2,(bV false)),(3,(nI b))] [kc f34 116,kl f34 116,.inBlock 0,kc f34 15]),[],[oC 0 [(aA a.name),(.ilst 2 (map ConD.av a.cons) false)]],1⟩
def aHn(a:DataD)(b:aB)(c:List Typ)(d e:Int):TS:=⟨(tf 34 52 [kp 1 0,(2,(bV false)),(3,(nI e)),kp 4 1,(5,(nI d))] [kc f34 29852,kl f34 29852,.inBlock 2,.inBlock 1,kc f34 467,kl f34 116,.inBlock 0,kc f34 15]),[],[oC 0 [(aA a.name),(.ilst 2 (map ConD.av a.cons) false)],oC 1 [(aA b),(.ilst 4 (Typs.av c) false)]],2⟩
def aHo(a:Mod)(b:Int):TS:=⟨(tf 8 76 [kp 1 0,(2,(bV false)),(3,(nI b))] [kc f8 116,kl f8 116,.inBlock 0,kc f8 15]),[],[oC 0 [(aA a.name),(.ilst 2 (map DataD.av a.datas) false),(.ilst 15 (FunDs.av a.funs) false)]],1⟩
def aHp(a:Mod)(b:Int):TS:=⟨(tf 8 76 [kp 1 0,(2,(bV false)),(4,(nI b))] [kc f8 244,kl f8 244,.inBlock 2,kc f8 31]),[],[oC 0 [(aA a.name),(.ilst 2 (map DataD.av a.datas) false),(.ilst 15 (FunDs.av a.funs) false)]],1⟩
def aHq(a b:Int)(c:aB)(d:List Term)(e:List Pat)(f:Int):TS:=⟨(tf 58 43 [kp 1 0,(2,(bV false)),(3,(nI f))] [kc f58 116,kl f58 116,.inBlock 0,kc f58 15]),[],[oC 0 [(nI a),(nI b),(aA c),(.ilst 5 (av d) false),(iP e)]],1⟩
def aHr(a b:Int)(c:aB)(d:List Term)(e:List Pat)(f:Int):TS:=⟨(tf 58 43 [kp 1 0,(2,(bV false)),(4,(nI f))] [kc f58 244,kl f58 244,.inBlock 2,kc f58 31]),[],[oC 0 [(nI a),(nI b),(aA c),(.ilst 5 (av d) false),(iP e)]],1⟩
def aSw(a:DataD):=tT 0 (start PP 61 [(.agg [(aA a.name),(.ilst 2 (map ConD.av a.cons) false)])])<|dR 10 120 [(aA a.name)]<|fun b=>.b 2 10 (!b) (gE 13 1 (bV false))<|gl 2 ConD.av a.cons<|dR 0 60 [(nI (a.cons.length:Int)),(nI 1),(nI 5)]<|fun c=>.b 3 16 (!c) (gE 6 1 (bV false))<|.W 9 1 [0] (aD4 a 0)
def aYu:=fun a b c d=>aSw a b c|>.t d tv
def aYv:=fun a b c d e f g=>aSw a b d|>.f e c f|>.t g tv
def aYw:=fun a b c d e f g=>aSw a b d|>.f e c f|>.f g tv
def aML(a:DataD)(c:Int):=tT 0 (aD4 a c)<|gl 6 ConD.av a.cons<|gd 2 21 (c< (a.cons.length:Int)) (gX ConD.av 9 a.cons c<|fun b=>dR 9 120 [(aA b.name)]<|fun d=>.b 2 33 (!d) (gE 12 2 (bV false))<|gm 2 dD b.args<|gd 3 38 ((b.args.length:Int) >3) (gE 6 2 (bV false))<|.W 8 2 [0,1] (aHk a b.name b.args 0 c))<|gE 7 1 (bV true)
def aYx:=fun a b c d e f g i j=>aML a b|>.t e c f g d i|>.t j tv
def aYy:=fun a b c d e f g i j k=>aML a b|>.t e c f g d i|>.f j|>.t k tv
def aYz:=fun a b c d e f g i j k=>aML a b|>.t e c f g d i|>.f j|>.f k tv
def aYA:=fun a b c=>aML a b|>.f c tv
def aSx(d:DataD)(e:aB)(a:List Typ)(b c:Int):=tT 0 (aHk d e a b c)<|gm 6 dD a<|gd 2 43 (b< (a.length:Int)) (aIP 9 a b<|fun f g i j=>dR 1 62 [(.agg [(nI f),(nI g),(aA i),(.ilst 4 (Typs.av j) false)])]<|fun k=>.b 2 52 (!k) (gE 6 2 (bV false))<|gw 6 45 (b+1)<|.W 3 2 [0,1] (aHk d e a (b+1) c))<|gw 6 23 (c+1)<|.W 3 2 [0] (aD4 d (c+1))
def aYB:=fun a b c d e f g i j k l m n o p=>aSx a b c d e|>.t l f g i j m n k o|>.t p tv
def aYC:=fun a b c d e f g i j k l m n o p q=>aSx a b c d e|>.t l f g i j m n k o|>.f p q tv
def aYD:=fun a b c d e f g=>aSx a b c d e|>.f f g tv
def aMM(a:Mod):=tT 0 (start PP 14 [(.agg [(aA a.name),(.ilst 2 (map DataD.av a.datas) false),(.ilst 15 (FunDs.av a.funs) false)])])<|dR 10 59 [(aA a.name)]<|fun b=>.b 2 10 (!b) (gE 19 1 (bV false))<|gl 2 DataD.av a.datas<|gd 3 16 ((a.datas.length:Int) >4) (gE 13 1 (bV false))<|gm 2 cJ a.funs<|dR 0 60 [(nI (a.funs.length:Int)),(nI 1),(nI 5)]<|fun c=>.b 3 22 (!c) (gE 6 1 (bV false))<|.W 9 1 [0] (aHl a 0)
def aYE:=fun a b c d=>aMM a b c|>.t d tv
def aYF:=fun a b c d e=>aMM a b c|>.f d|>.t e tv
def aYG:=fun a b c d e f g i=>aMM a b d|>.f e|>.f f c g|>.t i tv
def aYH:=fun a b c d e f g i=>aMM a b d|>.f e|>.f f c g|>.f i tv
def aSy(a:Mod)(b:Int):=tT 0 (aHl a b)<|gl 6 DataD.av a.datas<|gd 2 27 (b< (a.datas.length:Int)) (gX DataD.av 9 a.datas b<|fun c=>dR 1 61 [(.agg [(aA c.name),(.ilst 2 (map ConD.av c.cons) false)])]<|fun d=>.b 2 36 (!d) (gE 6 1 (bV false))<|gw 6 29 (b+1)<|.W 3 1 [0] (aHl a (b+1)))<|.W 9 1 [0] (aHm a 0)
def aYI:=fun a b c d e f g i j=>aSy a b|>.t e c f g d i|>.t j tv
def aYJ:=fun a b c d e f g i j k=>aSy a b|>.t e c f g d i|>.f j k tv
def aYK:=fun a b c=>aSy a b|>.f c tv
def aD6(a:Mod)(b:Int):=tT 0 (aHm a b)<|gm 6 cJ a.funs<|gd 2 41 (b< (a.funs.length:Int)) (.y fun c:aB=>.y fun d:aB=>.y fun e:Int=>.y fun f:Int=>.y fun g:aB=>.y fun i:List Typ=>.y fun j:Int=>.y fun k:Int=>.y fun l:aB=>.y fun m:List Typ=>.y fun n:Int=>.y fun o:Int=>.y fun p:aB=>.y fun q:List Term=>.y fun r:List Pat=>giF cJ 9 a.funs b (FunD.mk c d (Typ.mk e f g i) (Typ.mk j k l m) (Term.mk n o p q r))<|dR 8 59 [(aA c)]<|fun s=>.b 2 53 (!s) (gE 30 2 (bV false))<|dR 2 59 [(aA d)]<|fun t=>.b 3 59 (!t) (gE 24 2 (bV false))<|dR 2 62 [(.agg [(nI e),(nI f),(aA g),(.ilst 4 (Typs.av i) false)])]<|fun u=>.b 3 65 (!u) (gE 18 2 (bV false))<|dR 2 62 [(.agg [(nI j),(nI k),(aA l),(.ilst 4 (Typs.av m) false)])]<|fun v=>.b 3 71 (!v) (gE 12 2 (bV false))<|dR 2 15 [(.agg [(nI n),(nI o),(aA p),(.ilst 5 (av q) false),(iP r)])]<|fun w=>.b 3 76 (!w) (gE 6 2 (bV false))<|gw 6 43 (b+1)<|.W 3 2 [0] (aHm a (b+1)))<|gE 7 1 (bV true)
def aYL:=fun a b c d e f g i j k l m n o p q r s t u v w x=>aD6 a b|>.t t c d e f g i j k l m n o p q r u v s w|>.t x tv
def aYM:=fun a b c d e f g i j k l m n o p q r s t u v w x y z A=>aD6 a b|>.t u c d e f g i j k l m n o p q r v w s x|>.f y t z|>.t A tv
def aYN:=fun a b c d e f g i j k l m n o p q r s t u v w x y z A B C D=>aD6 a b|>.t v c d e f g i j k l m n o p q r w x s y|>.f z t A|>.f B u C|>.t D tv
def aYO:=fun a b c d e f g i j k l m n o p q r s t u v w x y z A B C D F G H=>aD6 a b|>.t w c d e f g i j k l m n o p q r x y s z|>.f A t B|>.f C u D|>.f F v G|>.t H tv
def aYP:=fun a b c d e f g i j k l m n o p q r s t u v w x y z A B C D F G H I J K=>aD6 a b|>.t x c d e f g i j k l m n o p q r y z s A|>.f B t C|>.f D u F|>.f G v H|>.f I w J|>.t K tv
def aYQ:=fun a b c d e f g i j k l m n o p q r s t u v w x y z A B C D F G H I J K L=>aD6 a b|>.t x c d e f g i j k l m n o p q r y z s A|>.f B t C|>.f D u F|>.f G v H|>.f I w J|>.f K L tv
def aYR:=fun a b c=>aD6 a b|>.f c tv
def aSz(a:DataD):=tT 0 (start PP 34 [(.agg [(aA a.name),(.ilst 2 (map ConD.av a.cons) false)])])<|gd 13 10 ((a.name.length:Int) >30) (gE 12 1 (bV false))<|gl 2 ConD.av a.cons<|gd 3 15 ((a.cons.length:Int) >8) (gE 6 1 (bV false))<|.W 9 1 [0] (aD5 a 0)
def aYS:=fun a b=>aSz a|>.t b tv
def aYT:=fun a b c=>aSz a|>.f b|>.t c tv
def aYU:=fun a b c=>aSz a|>.f b|>.f c tv
def aMN(a:DataD)(c:Int):=tT 0 (aD5 a c)<|gl 6 ConD.av a.cons<|gd 2 20 (c< (a.cons.length:Int)) (gX ConD.av 9 a.cons c<|fun b=>gd 12 32 ((b.name.length:Int) >30) (gE 12 2 (bV false))<|gm 2 dD b.args<|gd 3 37 ((b.args.length:Int) >6) (gE 6 2 (bV false))<|.W 8 2 [0,1] (aHn a b.name b.args 0 c))<|gE 7 1 (bV true)
def aYV:=fun a b c d e f g=>aMN a b|>.t d c e f|>.t g tv
def aYW:=fun a b c d e f g i=>aMN a b|>.t d c e f|>.f g|>.t i tv
def aYX:=fun a b c d e f g i=>aMN a b|>.t d c e f|>.f g|>.f i tv
def aYY:=fun a b c=>aMN a b|>.f c tv
def aSA(d:DataD)(e:aB)(a:List Typ)(b c:Int):=tT 0 (aHn d e a b c)<|gm 6 dD a<|gd 2 42 (b< (a.length:Int)) (aIP 9 a b<|fun f g i j=>dR 1 35 [(.agg [(nI f),(nI g),(aA i),(.ilst 4 (Typs.av j) false)])]<|fun k=>.b 2 51 (!k) (gE 6 2 (bV false))<|gw 6 44 (b+1)<|.W 3 2 [0,1] (aHn d e a (b+1) c))<|gw 6 22 (c+1)<|.W 3 2 [0] (aD5 d (c+1))
def aYZ:=fun a b c d e f g i j k l m n o p=>aSA a b c d e|>.t l f g i j m n k o|>.t p tv
def aY0:=fun a b c d e f g i j k l m n o p q=>aSA a b c d e|>.t l f g i j m n k o|>.f p q tv
def aY1:=fun a b c d e f g=>aSA a b c d e|>.f f g tv
def aMO(a:Mod):=tT 0 (start PP 8 [(.agg [(aA a.name),(.ilst 2 (map DataD.av a.datas) false),(.ilst 15 (FunDs.av a.funs) false)])])<|gd 13 10 ((a.name.length:Int) >30) (gE 18 1 (bV false))<|gl 2 DataD.av a.datas<|gd 3 16 ((a.datas.length:Int) >6) (gE 12 1 (bV false))<|gm 2 cJ a.funs<|gd 3 21 ((a.funs.length:Int) >8) (gE 6 1 (bV false))<|.W 9 1 [0] (aHo a 0)
def aY2:=fun a b=>aMO a|>.t b tv
def aY3:=fun a b c=>aMO a|>.f b|>.t c tv
def aY4:=fun a b c d=>aMO a|>.f b|>.f c|>.t d tv
def aY5:=fun a b c d=>aMO a|>.f b|>.f c|>.f d tv
def aLw(a:Mod)(b:Int):=tT 0 (aHo a b)<|gl 6 DataD.av a.datas<|gd 2 26 (b< (a.datas.length:Int)) (gX DataD.av 9 a.datas b<|fun c=>dR 1 34 [(.agg [(aA c.name),(.ilst 2 (map ConD.av c.cons) false)])]<|fun d=>.b 2 35 (!d) (gE 6 1 (bV false))<|gw 6 28 (b+1)<|.W 3 1 [0] (aHo a (b+1)))<|.W 9 1 [0] (aHp a 0)
def aY6:=fun a b c d e f g i j=>aLw a b|>.t e c f g d i|>.t j tv
def aY7:=fun a b c d e f g i j k=>aLw a b|>.t e c f g d i|>.f j k tv
def aY8:=fun a b c=>aLw a b|>.f c tv
def zJ(a:Mod)(b:Int):=tT 0 (aHp a b)<|gm 6 cJ a.funs<|gd 2 40 (b< (a.funs.length:Int)) (.y fun c:aB=>.y fun d:aB=>.y fun e:Int=>.y fun f:Int=>.y fun g:aB=>.y fun i:List Typ=>.y fun j:Int=>.y fun k:Int=>.y fun l:aB=>.y fun m:List Typ=>.y fun n:Int=>.y fun o:Int=>.y fun p:aB=>.y fun q:List Term=>.y fun r:List Pat=>giF cJ 9 a.funs b (FunD.mk c d (Typ.mk e f g i) (Typ.mk j k l m) (Term.mk n o p q r))<|gd 11 52 ((c.length:Int) >30) (gE 30 2 (bV false))<|gd 6 58 ((d.length:Int) >30) (gE 24 2 (bV false))<|dR 2 35 [(.agg [(nI e),(nI f),(aA g),(.ilst 4 (Typs.av i) false)])]<|fun s=>.b 3 64 (!s) (gE 18 2 (bV false))<|dR 2 35 [(.agg [(nI j),(nI k),(aA l),(.ilst 4 (Typs.av m) false)])]<|fun t=>.b 3 70 (!t) (gE 12 2 (bV false))<|dR 2 13 [(.agg [(nI n),(nI o),(aA p),(.ilst 5 (av q) false),(iP r)])]<|fun u=>.b 3 75 (!u) (gE 6 2 (bV false))<|gw 6 42 (b+1)<|.W 3 2 [0] (aHp a (b+1)))<|gE 7 1 (bV true)
def aY9:=fun a b c d e f g i j k l m n o p q r s t u v=>zJ a b|>.t s c d e f g i j k l m n o p q r t u|>.t v tv
def aZa:=fun a b c d e f g i j k l m n o p q r s t u v w=>zJ a b|>.t s c d e f g i j k l m n o p q r t u|>.f v|>.t w tv
def aZb:=fun a b c d e f g i j k l m n o p q r s t u v w x y z=>zJ a b|>.t t c d e f g i j k l m n o p q r u v|>.f w|>.f x s y|>.t z tv
def aZc:=fun a b c d e f g i j k l m n o p q r s t u v w x y z A B C=>zJ a b|>.t u c d e f g i j k l m n o p q r v w|>.f x|>.f y s z|>.f A t B|>.t C tv
def aZd:=fun a b c d e f g i j k l m n o p q r s t u v w x y z A B C D F G=>zJ a b|>.t v c d e f g i j k l m n o p q r w x|>.f y|>.f z s A|>.f B t C|>.f D u F|>.t G tv
def aZe:=fun a b c d e f g i j k l m n o p q r s t u v w x y z A B C D F G H=>zJ a b|>.t v c d e f g i j k l m n o p q r w x|>.f y|>.f z s A|>.f B t C|>.f D u F|>.f G H tv
def aZf:=fun a b c=>zJ a b|>.f c tv
def aLx(c d:Int)(b:aB)(e:List Term)(a:List Pat):=tT 0 (start PP 58 [(.agg [(nI c),(nI d),(aA b),(.ilst 5 (av e) false),(iP a)])])<|gd 13 9 ((b.length:Int) >30) (gE 12 1 (bV false))<|gm 2 aJ a<|gd 3 14 ((a.length:Int) >8) (gE 6 1 (bV false))<|.W 9 1 [0] (aHq c d b e a 0)
def aZg:=fun a b c d e f=>aLx a b c d e|>.t f tv
def aZh:=fun a b c d e f g=>aLx a b c d e|>.f f|>.t g tv
def aZi:=fun a b c d e f g=>aLx a b c d e|>.f f|>.f g tv
def aLy(c d:Int)(e:aB)(f:List Term)(a:List Pat)(b:Int):=tT 0 (aHq c d e f a b)<|gm 6 aJ a<|gd 2 19 (b< (a.length:Int)) (xM 9 a b<|fun g i j k=>dR 1 64 [(.agg [(nI g),(nI i),(aA j),(iP k)])]<|fun l=>.b 2 28 (!l) (gE 6 1 (bV false))<|gw 6 21 (b+1)<|.W 3 1 [0] (aHq c d e f a (b+1)))<|.W 9 1 [0] (aHr c d e f a 0)
def aZj:=fun a b c d e f g i j k l m n o p q=>aLy a b c d e f|>.t m g i j k n o l p|>.t q tv
def aZk:=fun a b c d e f g i j k l m n o p q r=>aLy a b c d e f|>.t m g i j k n o l p|>.f q r tv
def aZl:=fun a b c d e f g=>aLy a b c d e f|>.f g tv
def aLz(c d:Int)(e:aB)(a:List Term)(f:List Pat)(b:Int):=tT 0 (aHr c d e a f b)<|gm 6 aU a<|gd 2 33 (b< (a.length:Int)) (aAP 9 a b<|fun g i j k l=>dR 1 58 [(.agg [(nI g),(nI i),(aA j),(.ilst 5 (av k) false),(iP l)])]<|fun m=>.b 2 42 (!m) (gE 6 1 (bV false))<|gw 6 35 (b+1)<|.W 3 1 [0] (aHr c d e a f (b+1)))<|gE 7 1 (bV true)
def aZm:=fun a b c d e f g i j k l m n o p q r=>aLz a b c d e f|>.t n g i j k l o p m q|>.t r tv
def aZn:=fun a b c d e f g i j k l m n o p q r s=>aLz a b c d e f|>.t n g i j k l o p m q|>.f r s tv
def aZo:=fun a b c d e f g=>aLz a b c d e f|>.f g tv
def aSB(a b:Int)(c:aB)(d:List Term)(e:List Pat):=tT 0 (start PP 13 [(.agg [(nI a),(nI b),(aA c),(.ilst 5 (av d) false),(iP e)])])<|gpI 8 57 [(.agg [(nI a),(nI b),(aA c),(.ilst 5 (av d) false),(iP e)]),(nI 80),(nI 16)]<|fun f=>gd 2 6 (f≥0) (dR 1 58 [(.agg [(nI a),(nI b),(aA c),(.ilst 5 (av d) false),(iP e)])]<|fun g=>gE 4 1 (bV g))<|gE 6 1 (bV false)
def aZp:=fun a b c d e f g i j k=>aSB a b c d e f i|>.t j g k tv
def aZq:=fun a b c d e f g i=>aSB a b c d e f g|>.f i tv
def bGX(a:List Typ):TS:=bQ PP 182 [(.ilst 4 (Typs.av a) false),(.func 183 [] [])] [] 0
def aMP(a:List Typ)(b:Int):TS:=⟨(tf 264 19 [(0,(.ilst 4 (Typs.av a) false)),(1,(.func 232 [] [(.ptr 0 0)])),(4,(nI 0)),(7,(nI (a.length:Int))),(8,(nI b))] [kc f264 52,kl f264 52,.inBlock 0,kc f264 7]),[(tf 231 9 [(4,(bV false)),(5,(.ilst 4 (Typs.av a) false)),(6,(.func 232 [] [(.ptr 0 0)]))] [ko f231 6 2,kc f231 7]),(tf 182 9 [(4,(bV false)),(5,(.ilst 4 (Typs.av a) false)),(6,(.func 232 [] [(.ptr 0 0)]))] [ko f182 6 2,kc f182 7])],[oC 0 [(.func 183 [] [])]],1⟩
def bGY(a:List ConD):TS:=bQ PP 180 [(.ilst 2 (map ConD.av a) false),(.func 181 [] [])] [] 0
def aMQ(a:List ConD)(b:Int):TS:=⟨(tf 263 19 [(0,(.ilst 2 (map ConD.av a) false)),(1,(.func 230 [] [(.ptr 0 0)])),(4,(nI 0)),(7,(nI (a.length:Int))),(8,(nI b))] [kc f263 52,kl f263 52,.inBlock 0,kc f263 7]),[(tf 229 9 [(4,(bV false)),(5,(.ilst 2 (map ConD.av a) false)),(6,(.func 230 [] [(.ptr 0 0)]))] [ko f229 6 2,kc f229 7]),(tf 180 9 [(4,(bV false)),(5,(.ilst 2 (map ConD.av a) false)),(6,(.func 230 [] [(.ptr 0 0)]))] [ko f180 6 2,kc f180 7])],[oC 0 [(.func 181 [] [])]],1⟩
def bDW(a:DataD):TS:=bQ PP 105 [(.iface 177 (.agg [(aA a.name),(.ilst 2 (map ConD.av a.cons) false)]))] [] 0
def bDX(a b:aB)(c d:Int)(e:aB)(f:List Typ)(g i:Int)(j:aB)(k:List Typ)(l m:Int)(n:aB)(o:List Term)(p:List Pat):TS:=bQ PP 105 [(.iface 179 (.agg [(aA a),(aA b),(nI c),(nI d),(aA e),(.ilst 4 (Typs.av f) false),(nI g),(nI i),(aA j),(.ilst 4 (Typs.av k) false),(nI l),(nI m),(aA n),(.ilst 5 (av o) false),(iP p)]))] [] 0
def bDY(a:List Part):TS:=bQ PP 104 [(.ilst 1 (Parts.av a) false),(.func 105 [] [])] [] 0
def aHs(a:List Part)(b:Int):TS:=⟨(tf 228 19 [(0,(.ilst 1 (Parts.av a) false)),(1,(.func 178 [] [(.ptr 0 0)])),(4,(nI 0)),(7,(nI (a.length:Int))),(8,(nI b))] [kc f228 52,kl f228 52,.inBlock 0,kc f228 7]),[(tf 177 9 [(4,(bV false)),(5,(.ilst 1 (Parts.av a) false)),(6,(.func 178 [] [(.ptr 0 0)]))] [ko f177 6 2,kc f177 7]),(tf 104 9 [(4,(bV false)),(5,(.ilst 1 (Parts.av a) false)),(6,(.func 178 [] [(.ptr 0 0)]))] [ko f104 6 2,kc f104 7])],[oC 0 [(.func 105 [] [])]],1⟩
def aSC(a:List Part)(b:Int):TS:=⟨(tf 228 19 [(0,(.ilst 1 (Parts.av a) false)),(1,(.func 178 [] [(.ptr 0 0)])),(4,(nI 0)),(7,(nI (a.length:Int))),(8,(nI b))] [kc f228 52,kl f228 52,.inBlock 0,kc f228 7]),[(tf 177 9 [(4,(bV false)),(5,(.ilst 1 (Parts.av a) false)),(6,(.func 178 [] [(.ptr 0 0)]))] [ko f177 6 2,kc f177 7]),(tf 104 9 [(4,(bV false)),(5,(.ilst 1 (Parts.av a) false)),(6,(.func 178 [] [(.ptr 0 0)]))] [ko f104 6 2,kc f104 7])],[oC 0 [(.func 105 [] [])]],1⟩
def bDZ(a:Mod):TS:=bQ PP 41 [(.agg [(aA a.name),(.ilst 2 (map DataD.av a.datas) false),(.ilst 15 (FunDs.av a.funs) false)])] [] 0
def aHt(a:Mod)(c:Int)(b:List Part):TS:=⟨(tf 41 61 [kp 1 0,(2,(nI 0)),(3,(.gl 1 1 0 b.length false)),(31,(.ilst 2 (map DataD.av a.datas) false)),(32,(nI (a.datas.length:Int))),(33,(nI c))] [kc f41 244,kl f41 244,.inBlock 0,kc f41 31]),[],[oC 0 [(aA a.name),(.ilst 2 (map DataD.av a.datas) false),(.ilst 15 (FunDs.av a.funs) false)],oL 1 1 (Parts.av b)],2⟩
def aHu(a:Mod)(b:List Part)(c:Int):TS:=⟨(tf 41 61 [(2,(nI 0)),(3,(.gl 0 1 0 b.length false)),(45,(.ilst 15 (FunDs.av a.funs) false)),(46,(nI (a.funs.length:Int))),(47,(nI c))] [kc f41 500,kl f41 500,.inBlock 2,kc f41 63]),[],[oL 0 1 (Parts.av b)],1⟩
def bFJ (a:List Typ):=(tT 0 (bGX a)<|gm 27 dD a<|.W 4 1 [0] (aMP a 0)) tv
def aSD(b:List Typ)(a:Int):=tT 0 (aMP b a)<|gd 5 9 (a< (b.length:Int)) (aIP 14 b a<|fun c d e f=>dR 11 183 [(.agg [(nI c),(nI d),(aA e),(.ilst 4 (Typs.av f) false)])]<|fun g=>.b 6 16 (!g) (gE 17 2 (bV (!(decide (a≥0)))))<|gw 5 18 (a+1)<|.W 3 2 [0] (aMP b (a+1)))<|gE 17 1 (bV true)
def bFK:=fun a b c d e f g i j k l m=>aSD a b|>.t i c d e f j k g l|>.t m tv
def bFL:=fun a b c d e f g i j k l m n=>aSD a b|>.t i c d e f j k g l|>.f m n tv
def bFM:=fun a b c=>aSD a b|>.f c tv
def aSE(a:ConD):=tT 0 (start PP 181 [(.agg [(aA a.name),(.ilst 4 (Typs.av a.args) false)])])<|dR 9 179 [(aA a.name)]<|fun b=>.b 1 6 b (gm 2 dD a.args<|gd 3 12 ((a.args.length:Int) ≤3) (dR 2 182 [(.ilst 4 (Typs.av a.args) false),(.func 183 [] [])]<|fun c=>gE 4 1 (bV c))<|gE 7 1 (bV false))<|gE 13 1 (bV false)
def aZr:=fun a b c d e f g=>aSE a b d|>.t e|>.t f c g tv
def aZs:=fun a b c d e=>aSE a b c|>.t d|>.f e tv
def aZt:=fun a b c d=>aSE a b c|>.f d tv
def bFN (a:List ConD):=(tT 0 (bGY a)<|gl 27 ConD.av a<|.W 4 1 [0] (aMQ a 0)) tv
def aSF(b:List ConD)(a:Int):=tT 0 (aMQ b a)<|gd 5 9 (a< (b.length:Int)) (gX ConD.av 14 b a<|fun c=>dR 11 181 [(.agg [(aA c.name),(.ilst 4 (Typs.av c.args) false)])]<|fun d=>.b 6 16 (!d) (gE 17 2 (bV (!(decide (a≥0)))))<|gw 5 18 (a+1)<|.W 3 2 [0] (aMQ b (a+1)))<|gE 17 1 (bV true)
def bFO:=fun a b c d e f g i j=>aSF a b|>.t e c f g d i|>.t j tv
def bFP:=fun a b c d e f g i j k=>aSF a b|>.t e c f g d i|>.f j k tv
def bFQ:=fun a b c=>aSF a b|>.f c tv
def aMR(a:DataD):=tT 0 (bDW a)<|dR 27 179 [(aA a.name)]<|fun b=>.b 1 13 b (gl 3 ConD.av a.cons<|gd 3 20 ((a.cons.length:Int) ≥1) (gl 3 ConD.av a.cons<|gd 3 27 ((a.cons.length:Int) ≤5) (dR 3 180 [(.ilst 2 (map ConD.av a.cons) false),(.func 181 [] [])]<|fun c=>gE 4 1 (bV c))<|gE 8 1 (bV false))<|gE 15 1 (bV false))<|gE 22 1 (bV false)
def aZu:=fun a b c d e f g i=>aMR a b d|>.t e|>.t f|>.t g c i tv
def aZv:=fun a b c d e f=>aMR a b c|>.t d|>.t e|>.f f tv
def aZw:=fun a b c d e=>aMR a b c|>.t d|>.f e tv
def aZx:=fun a b c d=>aMR a b c|>.f d tv
def aJf(a b:aB)(c d:Int)(e:aB)(f:List Typ)(g i:Int)(j:aB)(k:List Typ)(l m:Int)(n:aB)(o:List Term)(p:List Pat):=tT 0 (bDX a b c d e f g i j k l m n o p)<|dR 34 103 [(aA a)]<|fun q=>.b 1 40 q (dR 3 103 [(aA b)]<|fun r=>.b 2 46 r (dR 3 183 [(.agg [(nI c),(nI d),(aA e),(.ilst 4 (Typs.av f) false)])]<|fun s=>.b 2 52 s (dR 3 183 [(.agg [(nI g),(nI i),(aA j),(.ilst 4 (Typs.av k) false)])]<|fun t=>.b 2 58 t (gpI 3 80 [(.agg [(nI l),(nI m),(aA n),(.ilst 5 (av o) false),(iP p)])]<|fun u=>gE 5 1 (bV (u==0)))<|gE 9 1 (bV false))<|gE 15 1 (bV false))<|gE 21 1 (bV false))<|gE 27 1 (bV false)
def aZy:=fun a b c d e f g i j k l m n o p q r s t u v w x y z A B C D=>aJf a b c d e f g i j k l m n o p q v|>.t w r x|>.t y s z|>.t A t B|>.t C u D tv
def aZz:=fun a b c d e f g i j k l m n o p q r s t u v w x y z A B=>aJf a b c d e f g i j k l m n o p q u|>.t v r w|>.t x s y|>.t z t A|>.f B tv
def aZA:=fun a b c d e f g i j k l m n o p q r s t u v w x y=>aJf a b c d e f g i j k l m n o p q t|>.t u r v|>.t w s x|>.f y tv
def aZB:=fun a b c d e f g i j k l m n o p q r s t u v=>aJf a b c d e f g i j k l m n o p q s|>.t t r u|>.f v tv
def aZC:=fun a b c d e f g i j k l m n o p q r s=>aJf a b c d e f g i j k l m n o p q r|>.f s tv
def aZD (a:List Part):=(tT 0 (bDY a)<|gm 27 oO a<|.W 4 1 [0] (aHs a 0)) tv
def aSG(b:List Part)(a:Int):=tT 0 (aHs b a)<|gd 5 9 (a< (b.length:Int)) (.y fun c:DataD=>giF oO 14 b a (Part.data c)<|dR 10 105 [(.iface 177 (.agg [(aA c.name),(.ilst 2 (map ConD.av c.cons) false)]))]<|fun d=>.b 6 16 (!d) (gE 17 1 (bV (!(decide (a≥0)))))<|gw 5 18 (a+1)<|.W 3 1 [0] (aHs b (a+1)))<|gE 17 1 (bV true)
def aZE:=fun a b c d e f g i j=>aSG a b|>.t e c f g d i|>.t j tv
def aZF:=fun a b c d e f g i j k=>aSG a b|>.t e c f g d i|>.f j k tv
def aZG:=fun a b c=>aSG a b|>.f c tv
def bD0(b:List Part)(a:Int):=tT 0 (aSC b a)<|gd 5 9 (a< (b.length:Int)) (.y fun c:aB=>.y fun d:aB=>.y fun e:Int=>.y fun f:Int=>.y fun g:aB=>.y fun i:List Typ=>.y fun j:Int=>.y fun k:Int=>.y fun l:aB=>.y fun m:List Typ=>.y fun n:Int=>.y fun o:Int=>.y fun p:aB=>.y fun q:List Term=>.y fun r:List Pat=>giF oO 14 b a (Part.fn (FunD.mk c d (Typ.mk e f g i) (Typ.mk j k l m) (Term.mk n o p q r)))<|dR 10 105 [(.iface 179 (.agg [(aA c),(aA d),(nI e),(nI f),(aA g),(.ilst 4 (Typs.av i) false),(nI j),(nI k),(aA l),(.ilst 4 (Typs.av m) false),(nI n),(nI o),(aA p),(.ilst 5 (av q) false),(iP r)]))]<|fun s=>.b 6 16 (!s) (gE 17 1 (bV (!(decide (a≥0)))))<|gw 5 18 (a+1)<|.W 3 1 [0] (aSC b (a+1)))<|gE 17 1 (bV true)
def aZH:=fun a b c d e f g i j k l m n o p q r s t u v w x=>bD0 a b|>.t t c d e f g i j k l m n o p q r u v s w|>.t x tv
def aZI:=fun a b c d e f g i j k l m n o p q r s t u v w x y=>bD0 a b|>.t t c d e f g i j k l m n o p q r u v s w|>.f x y tv
def aJg(a:Mod):=tT 0 (bDZ a)<|dR 10 103 [(aA a.name)]<|fun b=>.b 2 12 (!b) (gE 24 1 (nI 2))<|gl 2 DataD.av a.datas<|gd 3 18 ((a.datas.length:Int) >4) (gE 18 1 (nI 2))<|gm 2 cJ a.funs<|gd 3 24 ((a.funs.length:Int) <1) (gE 12 1 (nI 2))<|gm 2 cJ a.funs<|gd 3 29 ((a.funs.length:Int) >5) (gE 6 1 (nI 2))<|gl 11 DataD.av a.datas<|.i [rn 4,.nilL 3 1] []<|gu 0 1 (Parts.av ([] :List Part))<|gs 0 3 (.gl 1 1 0 ([] :List Part).length false)<|.W 0 2 [0,1] (aHt a 0 ([] :List Part))
def aZJ:=fun a b c d=>aJg a b c|>.t d tv
def aZK:=fun a b c d e=>aJg a b c|>.f d|>.t e tv
def aZL:=fun a b c d e f=>aJg a b c|>.f d|>.f e|>.t f tv
def aZM:=fun a b c d e f g=>aJg a b c|>.f d|>.f e|>.f f|>.t g tv
def aZN:=fun a b c d e f g=>aJg a b c|>.f d|>.f e|>.f f|>.f g ⟨wH,trivial⟩
def bD1(a:Mod)(b:Int)(c:List Part):=tT 0 (aHt a b c)<|gd 5 34 (b< (a.datas.length:Int)) (gX DataD.av 6 a.datas b<|fun d=>gA 10 oO c [(Part.data d)]<|gw 5 43 (b+1)<|.W 3 5 [0,4] (aHt a (b+1) (c++ [(Part.data d)])))<|gm 7 cJ a.funs<|.W 4 2 [1] (aHu a c 0)
def aZO:=fun a b c d e f g i j=>bD1 a b c|>.t e d f g i j ⟨wH,trivial⟩
def aZP:=fun a b c d=>bD1 a b c|>.f d ⟨wH,trivial⟩
def aSH(c:Mod)(a:List Part)(b:Int):=tT 0 (aHu c a b)<|gd 5 48 (b< (c.funs.length:Int)) (.y fun d:aB=>.y fun e:aB=>.y fun f:Int=>.y fun g:Int=>.y fun i:aB=>.y fun j:List Typ=>.y fun k:Int=>.y fun l:Int=>.y fun m:aB=>.y fun n:List Typ=>.y fun o:Int=>.y fun p:Int=>.y fun q:aB=>.y fun r:List Term=>.y fun s:List Pat=>giF cJ 6 c.funs b (FunD.mk d e (Typ.mk f g i j) (Typ.mk k l m n) (Term.mk o p q r s))<|gA 10 oO a [(Part.fn (FunD.mk d e (Typ.mk f g i j) (Typ.mk k l m n) (Term.mk o p q r s)))]<|gw 5 57 (b+1)<|.W 3 4 [3] (aHu c (a++ [(Part.fn (FunD.mk d e (Typ.mk f g i j) (Typ.mk k l m n) (Term.mk o p q r s)))]) (b+1)))<|gZ 6 58 0 1 oO wH a false<|dR 0 104 [(.ilst 1 (Parts.av a) false),(.func 105 [] [])]<|fun t=>.b 2 60 (!t) (gE 6 1 (nI 2))<|gE 7 1 (nI 0)
def aZQ:=fun a b c d e f g i j k l m n o p q r s t u v w x=>aSH a b c|>.t t d e f g i j k l m n o p q r s u v w x ⟨wH,trivial⟩
def aZR:=fun a b c d e f g=>aSH a b c|>.f e d f|>.t g tv
def aZS:=fun a b c d e f g=>aSH a b c|>.f e d f|>.f g tv
mutual
def tsm :Term→Bool
 | .mk _ _ s ks ps=>decide (((length s:Nat) :Int) ≤30) &&decide (((length ps:Nat) :Int) ≤8) &&ps.all nU&&aBL ks
def aBL :List Term→Bool
 | [] =>true
 |t::ts=>tsm t&&aBL ts
end
theorem pM :∀ts:List Term,ts.length≤aY ts
 | [] =>by simp
 | .mk o n s ks ps::ts=>by have:=pM ts;simp only [aY,bD,List.length_cons];omega
theorem bGZ (o n:Int)(s:aB)(ks:List Term)(ps:List Pat)(hl:ks.length<1000000)(ih:∀t∈ks,Pure PP 58 [Term.av t] (.bool (tsm t))) :
  ∀ (ts:List Term) (i:Nat),ks.drop i=ts→Ends PP 0 (aHr o n s ks ps (i:Int)).as (.ret (.bool (aBL ts))) (aG [] 0)
 | [],i,h=>by
  have:=bL h;exact aZo o n s ks ps i sd
 | .mk o' n' s' ks' ps'::ts,i,h=>by
  obtain⟨g1,g2,g3⟩ :=bH h;have hp:=ih _ (mem_of_getElem? g1);rw [aBL];cases hb:tsm (.mk o' n' s' ks' ps')with
  | true=>
   rw [hb]at hp;exact(aZn o n s ks ps i o' n' s' ks' ps' true sd sd sd hp rfl sd).ends (Ends.eqv (bGZ o n s ks ps hl ih ts (i+1) g2) (by simp))
  | false=>
   rw [hb]at hp;exact Ends.eqv (aZm o n s ks ps i o' n' s' ks' ps' false sd sd sd hp rfl) (by simp)
theorem bG0 (o n:Int)(s:aB)(ks:List Term)(ps:List Pat)(hl:ks.length<1000000)(hl2:ps.length<1000000)(ih:∀t∈ks,Pure PP 58 [Term.av t] (.bool (tsm t))) :
  ∀ (qs:List Pat) (i:Nat),ps.drop i=qs→Ends PP 0 (aHq o n s ks ps (i:Int)).as (.ret (.bool (qs.all nU&&aBL ks))) (aG [] 0)
 | [],i,h=>by
  have:=bL h;exact(aZl o n s ks ps i sd).ends (Ends.eqv (bGZ o n s ks ps hl ih ks 0 rfl) (by simp))
 | .mk f' n' s' ps'::qs,i,h=>by
  obtain⟨g1,g2,g3⟩ :=bH h;have hp:=aG7 (.mk f' n' s' ps');cases hb:nU (.mk f' n' s' ps')with
  | true=>
   rw [hb]at hp;exact(aZk o n s ks ps i f' n' s' ps' true sd sd sd hp rfl sd).ends (Ends.eqv (bG0 o n s ks ps hl hl2 ih qs (i+1) g2) (by simp [hb]))
  | false=>
   rw [hb]at hp;exact Ends.eqv (aZj o n s ks ps i f' n' s' ps' false sd sd sd hp rfl) (by simp [hb])
mutual
theorem aJh :∀ (t:Term),bD t<1000000→Pure PP 58 [Term.av t] (.bool (tsm t))
 | .mk o n s ks ps,hf=>by
  simp only [bD]at hf;have:=pM ks;refine bC (by kernel_rfl) (by simp [keylessL,dF]) rfl ?_;rw [tsm];by_cases h1: ((length s:Nat) :Int) ≤30
  · by_cases h2: ((length ps:Nat) :Int) ≤8
    ·exact(aZi o n s ks ps (by simp;omega) (by simp;omega)).ends (Ends.eqv (bG0 o n s ks ps (by omega) (by omega) (aMS ks (by omega)) ps 0 rfl) (by simp [h1,h2]))
    ·exact Ends.eqv (aZh o n s ks ps (by simp;omega) (by simp;omega)) (by simp [h2])
  ·exact Ends.eqv (aZg o n s ks ps (by simp;omega)) (by simp [h1])
theorem aMS :∀ (ts:List Term),aY ts<1000000→∀t∈ts,Pure PP 58 [Term.av t] (.bool (tsm t))
 | [],_,t,ht=>by cases ht
 | u::ts,hf,t,ht=>by
  simp only [aY]at hf;rcases List.mem_cons.1 ht with e|ht
  ·rw [e];exact aJh u (by omega)
  ·exact aMS ts (by omega) t ht
end
def mL (t:Term) :Bool:=decide (bD t≤80) &&decide (fK t≤16) &&tsm t
theorem aJi (t:Term) :Pure PP 13 [Term.av t] (.bool (mL t)) :=by
 have hw:=aDX t 80 16 (by omega) (by omega) (by omega) (by omega);unfold mL;unfold jL at hw;obtain⟨o,n,s,ks,ps⟩ :=t;refine bC (by kernel_rfl) (by simp [keylessL,dF]) rfl ?_;by_cases h:bD (.mk o n s ks ps) ≤80∧fK (.mk o n s ks ps) ≤16
 · rw [if_pos (by omega)]at hw;exact Ends.eqv (aZp o n s ks ps _ _ hw (by simp;omega) (aJh (.mk o n s ks ps) (by omega))) (by simp [h.1,h.2])
 · rw [if_neg (by omega)]at hw
   exact Ends.eqv (aZq o n s ks ps _ hw (by simp)) (by
    by_cases h1:bD (.mk o n s ks ps) ≤80
    · have:¬fK (.mk o n s ks ps) ≤16:=fun h2=>h ⟨h1,h2⟩;simp [this]
    ·simp [h1])
def aA0 (s:aB) :Bool:=decide (((length s:Nat) :Int) ≤30)
def xG (c:ConD) :Bool:=aA0 c.name&&decide (((length c.args:Nat) :Int) ≤6) &&c.args.all pL
def zK (d:DataD) :Bool:=aA0 d.name&&decide (((length d.cons:Nat) :Int) ≤8) &&d.cons.all xG
theorem bG1 (d:DataD)(nm:aB)(tys:List Typ)(j:Int)(b:Bool)(hj: -1≤j∧j≤1000)(hl:tys.length<1000000)(hk:Ends PP 0 (aD5 d (j+1)).as (.ret (.bool b)) (aG [] 0)) :
  ∀ (ts:List Typ) (i:Nat),tys.drop i=ts→Ends PP 0 (aHn d nm tys (i:Int) j).as (.ret (.bool (ts.all pL&&b))) (aG [] 0)
 | [],i,h=>by
  have:=bL h;exact(aY1 d nm tys i j sd sd).ends (Ends.eqv hk (by simp))
 | .mk o n s ps::ts,i,h=>by
  obtain⟨g1,g2,g3⟩ :=bH h;have hp:=aD2 (.mk o n s ps);cases hb:pL (.mk o n s ps)with
  | true=>
   rw [hb]at hp;exact(aY0 d nm tys i j o n s ps true sd sd sd hp rfl sd).ends (Ends.eqv (bG1 d nm tys j b hj hl hk ts (i+1) g2) (by simp [hb]))
  | false=>
   rw [hb]at hp;exact Ends.eqv (aYZ d nm tys i j o n s ps false sd sd sd hp rfl) (by simp [hb])
theorem bG2 (d:DataD)(hl:d.cons.length≤8) :∀ (cs:List ConD) (i:Nat),d.cons.drop i=cs→Ends PP 0 (aD5 d (i:Int)).as (.ret (.bool (cs.all xG))) (aG [] 0)
 | [],i,h=>by
  have:=bL h;exact aYY d i sd
 | c ::cs,i,h=>by
  obtain⟨g1,g2,g3⟩ :=bH h;have hi:i<d.cons.length:= (List.getElem?_eq_some_iff.1 g1).1;rw [all_cons];by_cases h1: ((length c.name:Nat) :Int) ≤30
  · by_cases h2: ((length c.args:Nat) :Int) ≤6
    · have hk:=bG2 d hl cs (i+1) g2;exact(aYX d i c sd sd sd (by simp;omega) (by simp;omega)).ends (Ends.eqv (bG1 d c.name c.args i _ (by omega) (by omega) hk c.args 0 rfl) (by simp [xG,aA0,h1,h2]))
    ·exact Ends.eqv (aYW d i c sd sd sd (by simp;omega) (by simp;omega)) (by simp [xG,h2])
  ·exact Ends.eqv (aYV d i c sd sd sd (by simp;omega)) (by simp [xG,aA0,h1])
theorem aSI (d:DataD) :Pure PP 34 [DataD.av d] (.bool (zK d)) :=by
 refine bC (by kernel_rfl) (by simp [keylessL,DataD.av,keyless,aA]) rfl ?_;unfold zK;by_cases h1: ((length d.name:Nat) :Int) ≤30
 · by_cases h2: ((length d.cons:Nat) :Int) ≤8
   ·exact(aYU d (by simp;omega) (by simp;omega)).ends (Ends.eqv (bG2 d (by omega) d.cons 0 rfl) (by simp [aA0,h1,h2]))
   ·exact Ends.eqv (aYT d (by simp;omega) (by simp;omega)) (by simp [h2])
 ·exact Ends.eqv (aYS d (by simp;omega)) (by simp [aA0,h1])
def mO :FunD→Bool
 | .mk n p f g b=>aA0 n&&aA0 p&&pL f&&pL g&&mL b
def iL (m:Mod) :Bool:=aA0 m.name&&decide (((length m.datas:Nat) :Int) ≤6) &&decide (((length m.funs:Nat) :Int) ≤8) &&m.datas.all zK&&m.funs.all mO
theorem bG3 (m:Mod)(hl:m.funs.length≤8) :∀ (fs:List FunD) (i:Nat),m.funs.drop i=fs→Ends PP 0 (aHp m (i:Int)).as (.ret (.bool (fs.all mO))) (aG [] 0)
 | [],i,h=>by
  have:=bL h;exact aZf m i sd
 | .mk n p (.mk f0 f1 f2 f3) (.mk g0 g1 g2 g3) (.mk b0 b1 b2 b3 b4) ::fs,i,h=>by
  obtain⟨g1',g2',g3'⟩ :=bH h;have hf:=aD2 (.mk f0 f1 f2 f3);have hg:=aD2 (.mk g0 g1 g2 g3);have hb:=aJi (.mk b0 b1 b2 b3 b4);rw [all_cons];by_cases h1: ((length n:Nat) :Int) ≤30
  · by_cases h2: ((length p:Nat) :Int) ≤30
    · cases e1:pL (.mk f0 f1 f2 f3)with
      | false=>
       rw [e1]at hf;exact Ends.eqv (aZb m i n p f0 f1 f2 f3 g0 g1 g2 g3 b0 b1 b2 b3 b4 false sd sd sd (by simp;omega) (by simp;omega) hf rfl) (by simp [mO,e1])
      | true=>
       rw [e1]at hf;cases e2:pL (.mk g0 g1 g2 g3)with
       | false=>
        rw [e2]at hg;exact Ends.eqv (aZc m i n p f0 f1 f2 f3 g0 g1 g2 g3 b0 b1 b2 b3 b4 true false sd sd sd (by simp;omega) (by simp;omega) hf rfl hg rfl) (by simp [mO,e2])
       | true=>
        rw [e2]at hg;cases e3:mL (.mk b0 b1 b2 b3 b4)with
        | false=>
         rw [e3]at hb;exact Ends.eqv (aZd m i n p f0 f1 f2 f3 g0 g1 g2 g3 b0 b1 b2 b3 b4 true true false sd sd sd (by simp;omega) (by simp;omega) hf rfl hg rfl hb rfl) (by simp [mO,e3])
        | true=>
         rw [e3]at hb;exact(aZe m i n p f0 f1 f2 f3 g0 g1 g2 g3 b0 b1 b2 b3 b4 true true true sd sd sd (by simp;omega) (by simp;omega) hf rfl hg rfl hb rfl sd).ends (Ends.eqv (bG3 m hl fs (i+1) g2') (by simp [mO,aA0,h1,h2,e1,e2,e3]))
    ·exact Ends.eqv (aZa m i n p f0 f1 f2 f3 g0 g1 g2 g3 b0 b1 b2 b3 b4 sd sd sd (by simp;omega) (by simp;omega)) (by simp [mO,aA0,h2])
  ·exact Ends.eqv (aY9 m i n p f0 f1 f2 f3 g0 g1 g2 g3 b0 b1 b2 b3 b4 sd sd sd (by simp;omega)) (by simp [mO,aA0,h1])
theorem bG4 (m:Mod)(hl:m.funs.length≤8)(hl2:m.datas.length≤6) :∀ (ds:List DataD) (i:Nat),m.datas.drop i=ds→Ends PP 0 (aHo m (i:Int)).as (.ret (.bool (ds.all zK&&m.funs.all mO))) (aG [] 0)
 | [],i,h=>by
  have:=bL h;exact(aY8 m i sd).ends (Ends.eqv (bG3 m hl m.funs 0 rfl) (by simp))
 | d::ds,i,h=>by
  obtain⟨g1,g2,g3⟩ :=bH h;have hp:=aSI d;rw [all_cons];cases hb:zK d with
  | true=>
   rw [hb]at hp;exact(aY7 m i d true sd sd sd hp rfl sd).ends (Ends.eqv (bG4 m hl hl2 ds (i+1) g2) (by simp))
  | false=>
   rw [hb]at hp;exact Ends.eqv (aY6 m i d false sd sd sd hp rfl) (by simp)
theorem aHv (m:Mod) :keyless (Mod.av m) =true:=by simp [Mod.av,keyless,keylessL,aA]
theorem aSJ (m:Mod) :Pure PP 8 [Mod.av m] (.bool (iL m)) :=by
 refine bC (by kernel_rfl) (by simp [keylessL,aHv]) rfl ?_;unfold iL;by_cases h1: ((length m.name:Nat) :Int) ≤30
 · by_cases h2: ((length m.datas:Nat) :Int) ≤6
   · by_cases h3: ((length m.funs:Nat) :Int) ≤8
     ·exact(aY5 m (by simp;omega) (by simp;omega) (by simp;omega)).ends (Ends.eqv (bG4 m (by omega) (by omega) m.datas 0 rfl) (by simp [aA0,h1,h2,h3]))
     ·exact Ends.eqv (aY4 m (by simp;omega) (by simp;omega) (by simp;omega)) (by simp [h3])
   ·exact Ends.eqv (aY3 m (by simp;omega) (by simp;omega)) (by simp [h2])
 ·exact Ends.eqv (aY2 m (by simp;omega)) (by simp [aA0,h1])
def rA (c:ConD) :Bool:=cD c.name&&decide (((length c.args:Nat) :Int) ≤3) &&c.args.all wG
def pN (d:DataD) :Bool:=cD d.name&&cF (length d.cons) 1 5&&d.cons.all rA
def lV :FunD→Bool
 | .mk n p f g b=>dK n&&dK p&&wG f&&wG g&&wC b
def pO (m:Mod) :Bool:=dK m.name&&decide (((length m.datas:Nat) :Int) ≤4) &&cF (length m.funs) 1 5&&m.datas.all pN&&m.funs.all lV
def rB :FunD→Prop
 | .mk _ _ f g b=>cC f<1000000∧cC g<1000000∧fA b<1000000
def aD7 (d:DataD) :Prop:=∀c∈d.cons,∀t∈c.args,cC t<1000000
theorem bG5 (d:DataD)(nm:aB)(tys:List Typ)(j:Int)(b:Bool)(hj: -1≤j∧j≤1000)(hl:tys.length<1000000)(hk:Ends PP 0 (aD4 d (j+1)).as (.ret (.bool b)) (aG [] 0)) :
  ∀ (ts:List Typ) (i:Nat),tys.drop i=ts→Ends PP 0 (aHk d nm tys (i:Int) j).as (.ret (.bool (ts.all wG&&b))) (aG [] 0)
 | [],i,h=>by
  have:=bL h;exact(aYD d nm tys i j sd sd).ends (Ends.eqv hk (by simp))
 | .mk o n s ps::ts,i,h=>by
  obtain⟨g1,g2,g3⟩ :=bH h;have hp:=aD1 (.mk o n s ps);cases hb:wG (.mk o n s ps)with
  | true=>
   rw [hb]at hp;exact(aYC d nm tys i j o n s ps true sd sd sd hp rfl sd).ends (Ends.eqv (bG5 d nm tys j b hj hl hk ts (i+1) g2) (by simp [hb]))
  | false=>
   rw [hb]at hp;exact Ends.eqv (aYB d nm tys i j o n s ps false sd sd sd hp rfl) (by simp [hb])
theorem bG6 (d:DataD)(hl:d.cons.length≤5) :∀ (cs:List ConD) (i:Nat),d.cons.drop i=cs→Ends PP 0 (aD4 d (i:Int)).as (.ret (.bool (cs.all rA))) (aG [] 0)
 | [],i,h=>by
  have:=bL h;exact aYA d i sd
 | c ::cs,i,h=>by
  obtain⟨g1,g2,g3⟩ :=bH h;have hi:i<d.cons.length:= (List.getElem?_eq_some_iff.1 g1).1;have hg:=nG c.name;rw [all_cons];cases e1:cD c.name with
  | false=>
   rw [e1]at hg;exact Ends.eqv (aYx d i c false sd sd sd hg rfl) (by simp [rA,e1])
  | true=>
   rw [e1]at hg;by_cases h2: ((length c.args:Nat) :Int) ≤3
   · have hk:=bG6 d hl cs (i+1) g2;exact(aYz d i c true sd sd sd hg rfl (by simp;omega)).ends (Ends.eqv (bG5 d c.name c.args i _ (by omega) (by omega) hk c.args 0 rfl) (by simp [rA,e1,h2]))
   ·exact Ends.eqv (aYy d i c true sd sd sd hg rfl (by simp;omega)) (by simp [rA,h2])
theorem aSK (d:DataD) :Pure PP 61 [DataD.av d] (.bool (pN d)) :=by
 refine bC (by kernel_rfl) (by simp [keylessL,DataD.av,keyless,aA]) rfl ?_;have hg:=nG d.name;have hi:=hI (length d.cons:Int) 1 5;unfold pN;cases e1:cD d.name with
 | false=>
  rw [e1]at hg;exact Ends.eqv (aYu d false hg rfl) (by simp)
 | true=>
  rw [e1]at hg;cases e2:cF (length d.cons:Int) 1 5 with
  | false=>
   rw [e2]at hi;exact Ends.eqv (aYv d true false hg rfl hi rfl) (by simp)
  | true=>
   rw [e2]at hi;have:=inB_iff.1 e2;exact(aYw d true true hg rfl hi rfl).ends (Ends.eqv (bG6 d (by omega) d.cons 0 rfl) (by simp))
theorem bG7 (m:Mod)(hl:m.funs.length≤5)(hf:∀f∈m.funs,rB f) :∀ (fs:List FunD) (i:Nat),m.funs.drop i=fs→Ends PP 0 (aHm m (i:Int)).as (.ret (.bool (fs.all lV))) (aG [] 0)
 | [],i,h=>by
  have:=bL h;exact aYR m i sd
 | .mk n p (.mk f0 f1 f2 f3) (.mk g0 g1 g2 g3) (.mk b0 b1 b2 b3 b4) ::fs,i,h=>by
  obtain⟨g1',g2',g3'⟩ :=bH h;obtain⟨_,_,hb'⟩ :=hf _ (mem_of_getElem? g1');have hn:=lI n;have hp:=lI p;have hf1:=aD1 (.mk f0 f1 f2 f3);have hg1:=aD1 (.mk g0 g1 g2 g3);have hb1:=aI0 (.mk b0 b1 b2 b3 b4) hb';have ih:=bG7 m hl hf fs (i+1) g2';rw [all_cons];cases e1:dK n with
  |false=>rw [e1]at hn;exact Ends.eqv (aYL m i n p f0 f1 f2 f3 g0 g1 g2 g3 b0 b1 b2 b3 b4 false sd sd sd hn rfl) (by simp [lV,e1])
  | true=>
   rw [e1]at hn;cases e2:dK p with
   |false=>rw [e2]at hp;exact Ends.eqv (aYM m i n p f0 f1 f2 f3 g0 g1 g2 g3 b0 b1 b2 b3 b4 true false sd sd sd hn rfl hp rfl) (by simp [lV,e2])
   | true=>
    rw [e2]at hp;cases e3:wG (.mk f0 f1 f2 f3)with
    |false=>rw [e3]at hf1;exact Ends.eqv (aYN m i n p f0 f1 f2 f3 g0 g1 g2 g3 b0 b1 b2 b3 b4 true true false sd sd sd hn rfl hp rfl hf1 rfl) (by simp [lV,e3])
    | true=>
     rw [e3]at hf1;cases e4:wG (.mk g0 g1 g2 g3)with
     |false=>rw [e4]at hg1;exact Ends.eqv (aYO m i n p f0 f1 f2 f3 g0 g1 g2 g3 b0 b1 b2 b3 b4 true true true false sd sd sd hn rfl hp rfl hf1 rfl hg1 rfl) (by simp [lV,e4])
     | true=>
      rw [e4]at hg1;cases e5:wC (.mk b0 b1 b2 b3 b4)with
      |false=>rw [e5]at hb1;exact Ends.eqv (aYP m i n p f0 f1 f2 f3 g0 g1 g2 g3 b0 b1 b2 b3 b4 true true true true false sd sd sd hn rfl hp rfl hf1 rfl hg1 rfl hb1 rfl) (by simp [lV,e5])
      |true=>rw [e5]at hb1;exact(aYQ m i n p f0 f1 f2 f3 g0 g1 g2 g3 b0 b1 b2 b3 b4 true true true true true sd sd sd hn rfl hp rfl hf1 rfl hg1 rfl hb1 rfl sd).ends (Ends.eqv ih (by simp [lV,e1,e2,e3,e4,e5]))
theorem bG8 (m:Mod)(hl:m.funs.length≤5)(hl2:m.datas.length≤4)(hf:∀f∈m.funs,rB f) :∀ (ds:List DataD) (i:Nat),m.datas.drop i=ds→Ends PP 0 (aHl m (i:Int)).as (.ret (.bool (ds.all pN&&m.funs.all lV))) (aG [] 0)
 | [],i,h=>by
  have:=bL h;exact(aYK m i sd).ends (Ends.eqv (bG7 m hl hf m.funs 0 rfl) (by simp))
 | d::ds,i,h=>by
  obtain⟨g1,g2,g3⟩ :=bH h;have hp:=aSK d;rw [all_cons];cases hb:pN d with
  | true=>
   rw [hb]at hp;exact(aYJ m i d true sd sd sd hp rfl sd).ends (Ends.eqv (bG8 m hl hl2 hf ds (i+1) g2) (by simp))
  | false=>
   rw [hb]at hp;exact Ends.eqv (aYI m i d false sd sd sd hp rfl) (by simp)
theorem aSL (m:Mod)(hf:∀f∈m.funs,rB f) :Pure PP 14 [Mod.av m] (.bool (pO m)) :=by
 refine bC (by kernel_rfl) (by simp [keylessL,aHv]) rfl ?_;have hn:=lI m.name;have hi:=hI (length m.funs:Int) 1 5;unfold pO;cases e1:dK m.name with
 |false=>rw [e1]at hn;exact Ends.eqv (aYE m false hn rfl) (by simp)
 | true=>
  rw [e1]at hn;by_cases h2: ((length m.datas:Nat) :Int) ≤4
  · cases e2:cF (length m.funs:Int) 1 5 with
    | false=>
     rw [e2]at hi;exact Ends.eqv (aYG m true false hn rfl (by simp;omega) hi rfl) (by simp)
    | true=>
     rw [e2]at hi;have:=inB_iff.1 e2;exact(aYH m true true hn rfl (by simp;omega) hi rfl).ends (Ends.eqv (bG8 m (by omega) (by omega) hf m.datas 0 rfl) (by simp [h2]))
  ·exact Ends.eqv (aYF m true hn rfl (by simp;omega)) (by simp [h2])
theorem aMT (l:List Typ)(hl:l.length<1000000)(hf:∀t∈l,cC t<1000000) :∀ (ts:List Typ) (i:Nat),l.drop i=ts→Ends PP 0 (aMP l (i:Int)).as (.ret (.bool (ts.all wG))) (aG [] 0)
 | [],i,h=>by
  have:=bL h;exact bFM l i sd
 | .mk o n s ps::ts,i,h=>by
  obtain⟨g1,g2,g3⟩ :=bH h;have hp:=aD3 (.mk o n s ps) (hf _ (mem_of_getElem? g1));cases hb:wG (.mk o n s ps)with
  | true=>
   rw [hb]at hp;exact(bFL l i o n s ps true sd sd sd hp rfl sd).ends (Ends.eqv (aMT l hl hf ts (i+1) g2) (by simp [hb]))
  | false=>
   rw [hb]at hp;exact Ends.eqv (bFK l i o n s ps false sd sd sd hp rfl) (by simp [hb])
theorem aZT (l:List Typ)(hl:l.length<1000000)(hf:∀t∈l,cC t<1000000) :Pure PP 182 [.ilst 4 (Typs.av l) false,.func 183 [] []] (.bool (l.all wG)) :=
 cB (s:=bGX l) (by kernel_rfl) (by kernel_rfl) (by simp [keylessL,keyless]) rfl ((bFJ l).ends (aMT l hl hf l 0 rfl))
theorem aSM (c:ConD)(hf:∀t∈c.args,cC t<1000000) :Pure PP 181 [ConD.av c] (.bool (rA c)) :=by
 refine bC (by kernel_rfl) (by simp [keylessL,ConD.av,keyless,aA]) rfl ?_;have hg:=hO c.name;unfold rA;cases e1:cD c.name with
 |false=>rw [e1]at hg;exact Ends.eqv (aZt c false hg rfl) (by simp)
 | true=>
  rw [e1]at hg;by_cases h2: ((length c.args:Nat) :Int) ≤3
  ·exact Ends.eqv (aZr c true _ hg rfl (by simp;omega) (aZT c.args (by omega) hf)) (by simp [h2])
  ·exact Ends.eqv (aZs c true hg rfl (by simp;omega)) (by simp [h2])
theorem aMU (l:List ConD)(hl:l.length<1000000)(hf:∀c∈l,∀t∈c.args,cC t<1000000) :∀ (ts:List ConD) (i:Nat),l.drop i=ts→Ends PP 0 (aMQ l (i:Int)).as (.ret (.bool (ts.all rA))) (aG [] 0)
 | [],i,h=>by
  have:=bL h;exact bFQ l i sd
 | c::ts,i,h=>by
  obtain⟨g1,g2,g3⟩ :=bH h;have hp:=aSM c (hf _ (mem_of_getElem? g1));cases hb:rA c with
  | true=>
   rw [hb]at hp;exact(bFP l i c true sd sd sd hp rfl sd).ends (Ends.eqv (aMU l hl hf ts (i+1) g2) (by simp [hb]))
  | false=>
   rw [hb]at hp;exact Ends.eqv (bFO l i c false sd sd sd hp rfl) (by simp [hb])
theorem aZU (l:List ConD)(hl:l.length<1000000)(hf:∀c∈l,∀t∈c.args,cC t<1000000) :Pure PP 180 [.ilst 2 (map ConD.av l) false,.func 181 [] []] (.bool (l.all rA)) :=
 cB (s:=bGY l) (by kernel_rfl) (by kernel_rfl) (by simp [keylessL,keyless]) rfl ((bFN l).ends (aMU l hl hf l 0 rfl))
def tH :Part→Bool
 | .data d=>pN d
 | .fn f=>lV f
def aHw :Part→Prop
 | .data d=>aD7 d
 | .fn f=>rB f
theorem aSN (d:DataD)(hf:aD7 d) :Pure PP 105 [Part.av (.data d)] (.bool (pN d)) :=by
 refine cB (s:=bDW d) (by kernel_rfl) (by kernel_rfl) (by simp [keylessL,aHj]) rfl ?_;have hg:=hO d.name;unfold pN;cases e1:cD d.name with
 |false=>rw [e1]at hg;exact Ends.eqv (aZx d false hg rfl) (by simp)
 | true=>
  rw [e1]at hg;by_cases h1: (1:Int) ≤ ((length d.cons:Nat) :Int)
  · by_cases h2: ((length d.cons:Nat) :Int) ≤5
    ·exact Ends.eqv (aZu d true _ hg rfl (by simp;omega) (by simp;omega) (aZU d.cons (by omega) hf)) (by simp [cF,h1,h2])
    ·exact Ends.eqv (aZv d true hg rfl (by simp;omega) (by simp;omega)) (by simp [cF,h2])
  ·exact Ends.eqv (aZw d true hg rfl (by simp;omega)) (by simp [cF,h1])
theorem aSO :∀ (f:FunD),rB f→Pure PP 105 [Part.av (.fn f)] (.bool (lV f))
 | .mk n p (.mk f0 f1 f2 f3) (.mk g0 g1 g2 g3) (.mk b0 b1 b2 b3 b4),hf=>by
  obtain⟨hf1',hg1',hb1'⟩ :=hf;refine cB (s:=bDX n p f0 f1 f2 f3 g0 g1 g2 g3 b0 b1 b2 b3 b4) (by kernel_rfl) (by kernel_rfl) (by simp [keylessL,aHj]) rfl ?_;have hn:=lJ n;have hp:=lJ p;have hf1:=aD3 (.mk f0 f1 f2 f3) hf1';have hg1:=aD3 (.mk g0 g1 g2 g3) hg1';have hb1:=aRZ (.mk b0 b1 b2 b3 b4) hb1';unfold lV;cases e1:dK n with
  |false=>rw [e1]at hn;exact Ends.eqv (aZC n p f0 f1 f2 f3 g0 g1 g2 g3 b0 b1 b2 b3 b4 false hn rfl) (by simp [e1])
  | true=>
   rw [e1]at hn;cases e2:dK p with
   |false=>rw [e2]at hp;exact Ends.eqv (aZB n p f0 f1 f2 f3 g0 g1 g2 g3 b0 b1 b2 b3 b4 true false hn rfl hp rfl) (by simp [e2])
   | true=>
    rw [e2]at hp;cases e3:wG (.mk f0 f1 f2 f3)with
    |false=>rw [e3]at hf1;exact Ends.eqv (aZA n p f0 f1 f2 f3 g0 g1 g2 g3 b0 b1 b2 b3 b4 true true false hn rfl hp rfl hf1 rfl) (by simp [e3])
    | true=>
     rw [e3]at hf1;cases e4:wG (.mk g0 g1 g2 g3)with
     |false=>rw [e4]at hg1;exact Ends.eqv (aZz n p f0 f1 f2 f3 g0 g1 g2 g3 b0 b1 b2 b3 b4 true true true false hn rfl hp rfl hf1 rfl hg1 rfl) (by simp [e4])
     | true=>
      rw [e4]at hg1;exact Ends.eqv (aZy n p f0 f1 f2 f3 g0 g1 g2 g3 b0 b1 b2 b3 b4 true true true true _ hn rfl hp rfl hf1 rfl hg1 rfl hb1) (by cases e5:wC (.mk b0 b1 b2 b3 b4) <;>simp [e1,e2,e3,e4,e5])
theorem aHx (l:List Part)(hl:l.length<1000000)(hf:∀x∈l,aHw x) :∀ (ts:List Part) (i:Nat),l.drop i=ts→Ends PP 0 (aHs l (i:Int)).as (.ret (.bool (ts.all tH))) (aG [] 0)
 | [],i,h=>by
  have:=bL h;exact aZG l i sd
 | .data d::ts,i,h=>by
  obtain⟨g1,g2,g3⟩ :=bH h;have hp:=aSN d (hf _ (mem_of_getElem? g1));rw [all_cons,tH];cases hb:pN d with
  | true=>
   rw [hb]at hp;exact(aZF l i d true sd sd sd hp rfl sd).ends (Ends.eqv (aHx l hl hf ts (i+1) g2) (by simp))
  | false=>
   rw [hb]at hp;exact Ends.eqv (aZE l i d false sd sd sd hp rfl) (by simp)
 | .fn (.mk n p (.mk f0 f1 f2 f3) (.mk g0 g1 g2 g3) (.mk b0 b1 b2 b3 b4)) ::ts,i,h=>by
  obtain⟨q1,q2,q3⟩ :=bH h;have hp:=aSO (.mk n p (.mk f0 f1 f2 f3) (.mk g0 g1 g2 g3) (.mk b0 b1 b2 b3 b4)) (hf _ (mem_of_getElem? q1));rw [all_cons,tH];cases hb:lV (.mk n p (.mk f0 f1 f2 f3) (.mk g0 g1 g2 g3) (.mk b0 b1 b2 b3 b4))with
  | true=>
   rw [hb]at hp;exact(aZI l i n p f0 f1 f2 f3 g0 g1 g2 g3 b0 b1 b2 b3 b4 true sd sd sd hp rfl sd).ends (Ends.eqv (aHx l hl hf ts (i+1) q2) (by simp))
  | false=>
   rw [hb]at hp;exact Ends.eqv (aZH l i n p f0 f1 f2 f3 g0 g1 g2 g3 b0 b1 b2 b3 b4 false sd sd sd hp rfl) (by simp)
theorem aZV (l:List Part)(hl:l.length<1000000)(hf:∀x∈l,aHw x) :Pure PP 104 [.ilst 1 (Parts.av l) false,.func 105 [] []] (.bool (l.all tH)) :=
 cB (s:=bDY l) (by kernel_rfl) (by kernel_rfl) (by simp [keylessL,keyless]) rfl ((aZD l).ends (aHx l hl hf l 0 rfl))
theorem bG9 (m:Mod)(h5:m.funs.length≤5)(l0:List Part)(hl0:l0.length≤10)(hf0:∀x∈l0,aHw x)(hf:∀f∈m.funs,rB f) :∀ (fs:List FunD) (i:Nat) (l:List Part),m.funs.drop i=fs→l=l0++ (m.funs.take i).map Part.fn →
  Ends PP 0 (aHu m l (i:Int)).as (.ret (.int .i64 (if(l0.all tH&&m.funs.all lV) =true then 0 else 2))) (aG [] 0)
 | [],i,l,h,e=>by
  have:=bL h;have e2:l=l0++m.funs.map Part.fn:=by rw [e,List.take_of_length_le this]
  have hp:=aZV l (by rw [e2];simp;omega) (fun x hx=>by
   rw [e2]at hx;rcases List.mem_append.1 hx with hx|hx
   ·exact hf0 x hx
   · obtain⟨f,hf',rfl⟩ :=List.mem_map.1 hx;exact hf f hf')
  have ea:l.all tH= (l0.all tH&&m.funs.all lV) :=by
   rw [e2,List.all_append,all_map];rfl
  rw [ea]at hp;cases hb: (l0.all tH&&m.funs.all lV)with
  |true=>rw [hb]at hp;exact Ends.eqv (aZS m l i true sd hp rfl) (by simp)
  |false=>rw [hb]at hp;exact Ends.eqv (aZR m l i false sd hp rfl) (by simp)
 | .mk n p (.mk f0 f1 f2 f3) (.mk g0 g1 g2 g3) (.mk b0 b1 b2 b3 b4) ::fs,i,l,h,e=>by
  obtain⟨q1,q2,q3⟩ :=bH h;have hi:i<m.funs.length:= (List.getElem?_eq_some_iff.1 q1).1;refine(aZQ m l i n p f0 f1 f2 f3 g0 g1 g2 g3 b0 b1 b2 b3 b4 sd sd sd (by rw [e];simp;omega) sd).ends ?_;refine bG9 m h5 l0 hl0 hf0 hf fs (i+1) _ q2 ?_;rw [e,List.take_add_one,q1];simp
theorem bHa (m:Mod)(h5:m.funs.length≤5)(h4:m.datas.length≤4)(hf:∀f∈m.funs,rB f)(hd:∀d∈m.datas,aD7 d) :∀ (ds:List DataD) (i:Nat) (l:List Part),m.datas.drop i=ds→l= (m.datas.take i).map Part.data →
  Ends PP 0 (aHt m (i:Int) l).as (.ret (.int .i64 (if(m.datas.all pN&&m.funs.all lV) =true then 0 else 2))) (aG [] 0)
 | [],i,l,h,e=>by
  have:=bL h;have e2:l=m.datas.map Part.data:=by rw [e,List.take_of_length_le this]
  have E:=bG9 m h5 l (by rw [e2];simp;omega) (fun x hx=>by
   rw [e2]at hx;obtain⟨d,hd',rfl⟩ :=List.mem_map.1 hx;exact hd d hd') hf m.funs 0 l rfl (by simp)
  have ea:l.all tH=m.datas.all pN:=by rw [e2,all_map];rfl
  rw [ea]at E;exact(aZP m i l sd).ends E
 | d::ds,i,l,h,e=>by
  obtain⟨g1,g2,g3⟩ :=bH h;have hi:i<m.datas.length:= (List.getElem?_eq_some_iff.1 g1).1;refine(aZO m i l d sd sd sd (by rw [e];simp;omega) sd).ends ?_;refine bHa m h5 h4 hf hd ds (i+1) _ g2 ?_;rw [e,List.take_add_one,g1];simp
theorem aSP (m:Mod)(hf:∀f∈m.funs,rB f)(hd:∀d∈m.datas,aD7 d) :Pure PP 41 [Mod.av m] (.int .i64 (if pO m=true then 0 else 2)) :=by
 refine cB (s:=bDZ m) (by kernel_rfl) (by kernel_rfl) (by simp [keylessL,aHv]) (by simp [keyless]) ?_;have hn:=lJ m.name;unfold pO;cases e1:dK m.name with
 |false=>rw [e1]at hn;exact Ends.eqv (aZJ m false hn rfl) (by simp)
 | true=>
  rw [e1]at hn;by_cases h2: ((length m.datas:Nat) :Int) ≤4
  · by_cases h3: (1:Int) ≤ ((length m.funs:Nat) :Int)
    · by_cases h4: ((length m.funs:Nat) :Int) ≤5
      ·exact(aZN m true hn rfl (by simp;omega) (by simp;omega) (by simp;omega)).ends (Ends.eqv (bHa m (by omega) (by omega) hf hd m.datas 0 [] rfl (by simp)) (by simp [cF,h2,h3,h4]))
      ·exact Ends.eqv (aZM m true hn rfl (by simp;omega) (by simp;omega) (by simp;omega)) (by simp [cF,h4])
    ·exact Ends.eqv (aZL m true hn rfl (by simp;omega) (by simp;omega)) (by simp [cF,h3])
  ·exact Ends.eqv (aZK m true hn rfl (by simp;omega)) (by simp [h2])
def pre (p:Prog) :Nat→Int→List Int
 |0,_=>[]
 | f+1,a=>match p.nodes[a.toNat]? with
  |some x=>a:: (x.kids.map (pre p f)).flatten
  |none=>[]
def aSQ :List Int→Int→List Int→List Int
 |l,_,[] =>l
 |l,n,b::bs=>aSQ (l.set b.toNat n) (n+1) bs
section
variable {p :Prog}
end
section
variable {p :Prog} {mf mc:List (Int×Int)} {F C:List Int} {to:List Int}
end
def aSR (x:Node)(i:Nat) :Nat→List Int→List Int→List Int
 |_,[],l=>l
 |j,k::ks,l=>aSR x i (j+1) ks (l.set k.toNat (l.getD i 0+aI1 x j))
def aMV :Nat→List Node→List Int→List Int
 |_,[],l=>l
 |i,x::t,l=>aMV (i+1) t (aSR x i 0 x.kids l)
def aSS :List Int→List Int→List Int
 | [],l=>l
 |f::fs,l=>aSS fs (l.set f.toNat 1)
def aLA (p:Prog) :List Int:=aMV 0 p.nodes (aSS p.funs (List.replicate p.nodes.length 0))
theorem aA1 {lo n:Int}:∀ {ks:List Int} {u v:List Bool},marks lo n ks u=some v→∀k∈ks,lo≤k∧k≤n-1
 | [],_,_,_,k,hk=>by cases hk
 | a ::ks,u,v,h,k,hk=>by
  simp only [marks]at h;split at h
  · rename_i g;rcases List.mem_cons.1 hk with rfl|hk
    ·exact inB_iff.1 g.1
    ·exact aA1 h k hk
  ·cases h
theorem aLB {lo n k:Int}{ks:List Int}{u v:List Bool}(h:marks lo n (k::ks) u=some v) :u[k.toNat]?=some false∧marks lo n ks (u.set k.toNat true) =some v:=by
 simp only [marks]at h;split at h
 ·rename_i g;exact⟨g.2,h⟩
 ·cases h
theorem rC {p:Prog}{i:Nat}{x:Node}{t:List Node}{u v:List Bool}(h:jR p i (x::t) u=some v) :tG p x=true∧∃w,marks ((i:Int) +1) p.nodes.length x.kids u=some w∧jR p (i+1) t w=some v:=by
 simp only [jR]at h;split at h
 · rename_i g;split at h
   ·rename_i w hw;exact⟨g,w,hw,h⟩
   ·cases h
 ·cases h
theorem aA2 {p:Prog}:∀ {t:List Node} {i:Nat} {u v:List Bool},jR p i t u=some v→v.length=u.length
 | [],i,u,v,h=>by simp only [jR,Option.some.injEq]at h;rw [h]
 | x::t,i,u,v,h=>by
  obtain⟨_,w,hw,h2⟩ :=rC h;rw [aA2 h2,aBK hw]
theorem tI {p:Prog}:∀ {t:List Node} {i:Nat} {u v:List Bool},jR p i t u=some v→∀ (j:Nat) (x:Node),t[j]?=some x→tG p x=true∧∀k∈x.kids,((i+j:Nat) :Int) <k∧k<p.nodes.length
 | [],i,u,v,h,j,x,hx=>by simp at hx
 | y::t,i,u,v,h,j,x,hx=>by
  obtain⟨g,w,hw,h2⟩ :=rC h;cases j with
  | zero=>
   simp at hx;subst hx;exact⟨g,fun k hk=>by have:=aA1 hw k hk;omega⟩
  | succ j=>
   have:=tI h2 j x (by simpa using hx);exact⟨this.1,fun k hk=>by have:=this.2 k hk;omega⟩
structure Sprop (p:Prog) (S:List Int) :Prop where
 len:S.length=p.nodes.length
 root:∀f∈p.funs,S[f.toNat]?=some 1
 kid:∀ (i:Nat) (x:Node) (d:Nat) (k:Int),p.nodes[i]?=some x→x.kids[d]?=some k→∃s,S[i]?=some s∧S[k.toNat]?=some (s+aI1 x d)
inductive Reach (p:Prog) :Nat→Nat→Prop where
 |refl (a:Nat) :Reach p a a
 |step {a i:Nat} {x:Node} {k:Int}:Reach p a i→p.nodes[i]?=some x→k∈x.kids→Reach p a k.toNat
theorem Reach.first {p:Prog}{a m:Nat}(h:Reach p a m) :m=a∨∃ (x:Node) (k:Int),p.nodes[a]?=some x∧k∈x.kids∧Reach p k.toNat m:=by
 induction h with
 |refl=>exact .inl rfl
 | step h hx hk ih=>
  rename_i i x k;rcases ih with rfl| ⟨y,q,h1,h2,h3⟩
  ·exact .inr ⟨x,k,hx,hk,Reach.refl _⟩
  ·exact .inr ⟨y,q,h1,h2,h3.step hx hk⟩
theorem aCs {p:Prog}(hp:mJ p=true)(hf:jH p=true) :FineP p:=by
 have hs:=hp;simp only [mJ,Bool.and_eq_true,decide_eq_true_eq]at hs;obtain⟨⟨⟨⟨s1,s2⟩,s3⟩,_⟩,s5⟩ :=hs;simp only [jH,Bool.and_eq_true]at hf;obtain⟨_,hf⟩ :=hf;split at hf
 · rename_i u hu;unfold allT at hf;split at hf
   · rename_i v hv;refine⟨s1,s2,fun i x hx=>?_,fun f hf=>?_⟩
     · have:=tI hv i x hx;have h10:=List.all_eq_true.1 s5 x (mem_of_getElem? hx);simp only [aBI,Bool.and_eq_true,decide_eq_true_eq]at h10;exact⟨aWU this.1,h10.1.1,fun k hk=>by have:=this.2 k hk;omega⟩
     ·have:=aA1 hu f hf;omega
   ·cases hf
 ·cases hf
theorem aD8 {cons:List Con}:∀ {ps:List Pat},(∀q∈ps,aFJ cons q=true) →zH cons ps=true
 | [],_=>rfl
 | q::ps,h=>by
  rw [zH,h q (mem_cons_self ..),aD8 (fun x hx=>h x (List.mem_cons_of_mem _ hx))];rfl
def fL (p:Prog)(i:Int) :List Int:=match p.nodes[i.toNat]? with
 |some x=>x.kids
 |none=>[]
section
variable {p :Prog}
theorem zL {q:Int→List Int}(m:Int) :∀ (ks:List Int),(∀k∈ks,(q k).count m= [k].count m+ (((q k).map (fL p)).flatten).count m) →
  ((ks.map q).flatten).count m=ks.count m+ ((((ks.map q).flatten).map (fL p)).flatten).count m
 | [],_=>rfl
 | k::ks,h=>by
  have h1:=h k (mem_cons_self ..);have h2:=zL m ks (fun x hx=>h x (List.mem_cons_of_mem _ hx));rw [map_cons,flatten_cons,count_append,List.map_append,List.flatten_append,count_append,h1,h2,show k::ks= [k] ++ks from rfl,count_append];omega
theorem aFN (hp:FineP p)(m:Int) :∀ (f:Nat) (a:Int),0≤a→a<p.nodes.length→p.nodes.length-a.toNat≤f→ (pre p f a).count m= [a].count m+ (((pre p f a).map (fL p)).flatten).count m
 |0,a,ha,hn,hf=>by omega
 | f+1,a,ha,hn,hf=>by
  obtain⟨x,hx⟩ :∃x,p.nodes[a.toNat]?=some x:= ⟨_,getElem?_eq_getElem (by omega)⟩;obtain⟨_,_,hks⟩ :=hp.node _ _ hx;have e:pre p (f+1) a=a:: (x.kids.map (pre p f)).flatten:=by rw [pre,hx]
  have ek:fL p a=x.kids:=by unfold fL;rw [hx]
  have h2:=zL (p:=p) m x.kids (fun k hk=>by
   have:=hks k hk;exact aFN hp m f k (by omega) (by omega) (by omega))
  rw [e,map_cons,flatten_cons,count_append,ek,show a:: (x.kids.map (pre p f)).flatten= [a] ++ (x.kids.map (pre p f)).flatten from rfl,count_append,h2]
theorem aST (hp:FineP p) :∀ (f:Nat) (a:Int),0≤a→a<p.nodes.length→∀y∈pre p f a,0≤y∧y<p.nodes.length
 |0,a,_,_,y,hy=>by cases hy
 | f +1,a,ha,hn,y,hy=>by
  obtain⟨x,hx⟩ :∃x,p.nodes[a.toNat]?=some x:= ⟨_,getElem?_eq_getElem (by omega)⟩;obtain⟨_,_,hks⟩ :=hp.node _ _ hx;have e:pre p (f+1) a=a:: (x.kids.map (pre p f)).flatten:=by rw [pre,hx]
  rw [e]at hy;rcases List.mem_cons.1 hy with rfl|hy
  ·exact⟨ha,hn⟩
  · obtain⟨l,hl,hy⟩ :=List.mem_flatten.1 hy;obtain⟨k,hk,rfl⟩ :=List.mem_map.1 hl;have:=hks k hk;exact aST hp f k (by omega) (by omega) y hy
def wI (u:List Bool)(m:Int) :Nat:=if u[m.toNat]?=some true then 1 else 0
theorem qN {lo n:Int}(hlo:0≤lo){m:Int}(hm:0≤m) :∀ {ks:List Int} {u v:List Bool},marks lo n ks u=some v→ks.count m+wI u m=wI v m
 | [],u,v,h=>by cases h;simp
 | k ::ks,u,v,h=>by
  have hk:=aA1 h k (mem_cons_self ..);obtain⟨h1,h2⟩ :=aLB h;have h3:=qN hlo hm h2;rw [←h3,show k::ks= [k] ++ks from rfl,count_append];have hlt:= (List.getElem?_eq_some_iff.1 h1).1;by_cases e:k=m
  · subst e;have a1:wI u k=0:=by unfold wI;rw [h1];rfl
    have a2:wI (u.set k.toNat true) k=1:=by unfold wI;rw [List.getElem?_set_self hlt];rfl
    rw [a1,a2];simp;omega
  · have a1:wI (u.set k.toNat true) m=wI u m:=by unfold wI;rw [List.getElem?_set_ne (by omega)]
    rw [a1,List.count_singleton,if_neg (by simpa using e)];omega
theorem pP {m:Int}(hm:0≤m) :∀ {t:List Node} {i:Nat} {u v:List Bool},jR p i t u=some v→ ((t.map Node.kids).flatten).count m+wI u m=wI v m
 | [],i,u,v,h=>by simp only [jR,Option.some.injEq]at h;subst h;simp
 | x::t,i,u,v,h=>by
  obtain⟨_,w,h1,h2⟩ :=rC h;have h3:=qN (by omega) hm h1;have h4:=pP hm h2;rw [map_cons,flatten_cons,count_append];omega
theorem aFO {m:Int}:∀ {t:List Node},((t.map Node.kids).flatten).count m≤1→∀ (i j:Nat) (x y:Node),t[i]?=some x→t[j]?=some y→m∈x.kids→m∈y.kids→i=j
 | [],_,i,j,x,y,hx,_,_,_=>by simp at hx
 | z ::t,h,i,j,x,y,hx,hy,mx,my=>by
  rw [map_cons,flatten_cons,count_append]at h;have inT:∀ {i:Nat} {x:Node},t[i]?=some x→m∈x.kids→0< ((t.map Node.kids).flatten).count m:=fun {i x} hx mx=>
   List.count_pos_iff.2 (List.mem_flatten.2 ⟨x.kids,List.mem_map.2 ⟨x,mem_of_getElem? hx,rfl⟩,mx⟩)
  cases i with
  | zero=>
   simp only [List.getElem?_cons_zero,Option.some.injEq]at hx;subst hx;cases j with
   |zero=>rfl
   | succ j=>
    simp only [getElem?_cons_succ]at hy;have:=inT hy my;have:=List.count_pos_iff.2 mx;omega
  | succ i=>
   simp only [getElem?_cons_succ]at hx;cases j with
   | zero=>
    simp only [List.getElem?_cons_zero,Option.some.injEq]at hy;subst hy;have:=inT hx mx;have:=List.count_pos_iff.2 my;omega
   | succ j=>
    simp only [getElem?_cons_succ]at hy;rw [aFO (by omega) i j x y hx hy mx my]
theorem aMW {m:Int}:∀ {t:List Node} {i:Nat} {x:Node},t[i]?=some x→x.kids.count m≤ ((t.map Node.kids).flatten).count m
 | [],i,x,hx=>by simp at hx
 | z::t,0,x,hx=>by
  simp only [List.getElem?_cons_zero,Option.some.injEq]at hx;subst hx;rw [map_cons,flatten_cons,count_append];omega
 | z::t,i+1,x,hx=>by
  simp only [getElem?_cons_succ]at hx;have:=aMW (m:=m) hx;rw [map_cons,flatten_cons,count_append];omega
theorem aMX {m i:Int}:∀ (L:List Int),(∀j∈L,m∈fL p j→j=i) → ((L.map (fL p)).flatten).count m≤L.count i* (fL p i).count m
 | [],_=>by simp
 | j ::L,h=>by
  have h1:=aMX L (fun x hx=>h x (List.mem_cons_of_mem _ hx));rw [map_cons,flatten_cons,count_append,show j::L= [j] ++L from rfl,count_append,Nat.add_mul];by_cases hm:m∈fL p j
  · have:=h j (mem_cons_self ..) hm;subst this;simp;exact h1
  · rw [List.count_eq_zero.2 hm];exact Nat.le_trans (by simpa using h1) (Nat.le_add_left ..)
theorem bHX (hp:FineP p)(hK:∀m:Int,0≤m→p.funs.count m+ ((p.nodes.map Node.kids).flatten).count m≤1){L:List Int}(hin:∀x∈L,0≤x∧x<p.nodes.length)(hL:∀m:Int,L.count m=p.funs.count m+ ((L.map (fL p)).flatten).count m) :∀ (b m:Nat),m≤b→L.count (m:Int) ≤1:=by
 intro b
 induction b with
 | zero=>
  intro m hmb;have hm:m=0:=by omega
  subst hm;have e:=hL ((0:Nat) :Int);have z: ((L.map (fL p)).flatten).count ((0:Nat) :Int) =0:=by
   refine List.count_eq_zero.2 (fun h=>?_);obtain⟨l,hl,hy⟩ :=List.mem_flatten.1 h;obtain⟨j,hj,rfl⟩ :=List.mem_map.1 hl;unfold fL at hy;split at hy
   · rename_i x hx;have:= (hp.node _ _ hx).2.2 _ hy;omega
   ·cases hy
  have:=hK ((0:Nat) :Int) (by omega);omega
 | succ b ih=>
  intro m hmb;have e:=hL (m:Int);have hk:=hK (m:Int) (by omega);by_cases hz: ((L.map (fL p)).flatten).count (m:Int) =0
  ·omega
  · have hpos:=List.count_pos_iff.1 (Nat.pos_of_ne_zero hz);obtain⟨l,hl,hy⟩ :=List.mem_flatten.1 hpos;obtain⟨i,hi,rfl⟩ :=List.mem_map.1 hl;have hir:=hin i hi;obtain⟨x,hx⟩ :∃x,p.nodes[i.toNat]?=some x:= ⟨_,getElem?_eq_getElem (by omega)⟩;have ei:fL p i=x.kids:=by unfold fL;rw [hx]
    rw [ei]at hy;have him:= (hp.node _ _ hx).2.2 _ hy;have hci:L.count i≤1:=by
     have:=ih i.toNat (by omega);rwa [show((i.toNat:Nat) :Int) =i by omega]at this
    have hle:=aMX (p:=p) (m:= (m:Int)) (i:=i) L (fun j hj hmj=>by
     have hjr:=hin j hj;obtain⟨y,hy'⟩ :∃y,p.nodes[j.toNat]?=some y:= ⟨_,getElem?_eq_getElem (by omega)⟩;have ej:fL p j=y.kids:=by unfold fL;rw [hy']
     rw [ej]at hmj;have:=aFO (by omega) _ _ y x hy' hx hmj hy;omega)
    rw [ei]at hle;have hkl:=aMW (m:= (m:Int)) hx;have:L.count i*x.kids.count (m:Int) ≤1*x.kids.count (m:Int) :=Nat.mul_le_mul_right _ hci;omega
theorem xH :∀ (n:Nat) (l:List Nat),l.Nodup→ (∀x∈l,x<n) →l.length≤n
 |0,[],_,_=>by simp
 |0,x::l,_,h=>by have:=h x (mem_cons_self ..);omega
 | n+1,l,hd,h=>by
  by_cases hm:n∈l
  · have h1:=xH n (l.erase n) (hd.erase n) (fun x hx=>by
     have:=h x (List.mem_of_mem_erase hx)
     have hne:x≠n:=fun e=>by
      subst e;exact hd.not_mem_erase hx
     omega)
    rw [List.length_erase_of_mem hm]at h1;omega
  · have:=xH n l hd (fun x hx=>by
     have:=h x hx;have hne:x≠n:=fun e=>hm (e ▸ hx);omega)
    omega
end
theorem aD9 {L:List Int}(h:∀a,L.count a≤1) :L.Nodup:=List.nodup_iff_count.2 h
theorem aMY :∀ (n:Nat) (l:List Int),(∀i:Nat,i<n→ (i:Int) ∈l) →n≤l.length
 |0,l,_=>Nat.zero_le _
 | n+1,l,h=>by
  have h0:=h n (Nat.lt_succ_self n);have h1:=aMY n (l.erase (n:Int)) (fun i hi=> (List.mem_erase_of_ne (by omega)).2 (h i (by omega)));rw [List.length_erase_of_mem h0]at h1;have:=List.length_pos_of_mem h0;omega
theorem all_in {p:Prog}(hp:FineP p)(hK:∀m:Nat,m<p.nodes.length→p.funs.count (m:Int) + ((p.nodes.map Node.kids).flatten).count (m:Int) =1){L:List Int}(hL:∀m:Int,L.count m=p.funs.count m+ ((L.map (fL p)).flatten).count m) :∀ (b m:Nat),m≤b→m<p.nodes.length→ (m:Int) ∈L:=by
 intro b
 induction b with
 | zero=>
  intro m hmb hm;have e:=hL (m:Int);have hk:=hK m hm;by_cases hz: ((p.nodes.map Node.kids).flatten).count (m:Int) =0
  ·exact List.count_pos_iff.1 (by omega)
  · obtain⟨l,hl,hy⟩ :=List.mem_flatten.1 (List.count_pos_iff.1 (Nat.pos_of_ne_zero hz));obtain⟨x,hx,rfl⟩ :=List.mem_map.1 hl;obtain⟨i,hi⟩ :=List.mem_iff_getElem?.1 hx;have:= (hp.node _ _ hi).2.2 _ hy;omega
 | succ b ih=>
  intro m hmb hm;have e:=hL (m:Int);have hk:=hK m hm;by_cases hz: ((p.nodes.map Node.kids).flatten).count (m:Int) =0
  ·exact List.count_pos_iff.1 (by omega)
  · obtain⟨l,hl,hy⟩ :=List.mem_flatten.1 (List.count_pos_iff.1 (Nat.pos_of_ne_zero hz));obtain⟨x,hx,rfl⟩ :=List.mem_map.1 hl;obtain⟨i,hi⟩ :=List.mem_iff_getElem?.1 hx;have him:= (hp.node _ _ hi).2.2 _ hy;have hiL:=ih i (by omega) (by omega);have: (m:Int) ∈ (L.map (fL p)).flatten:=List.mem_flatten.2 ⟨x.kids,List.mem_map.2 ⟨(i:Int),hiL,by unfold fL;rw [Int.toNat_natCast,hi]⟩,hy⟩;have:=List.count_pos_iff.2 this;exact List.count_pos_iff.1 (by omega)
theorem aLC {p:Prog}(hs:mJ p=true)(hf:jH p=true) : ((p.funs.map (pre p p.nodes.length)).flatten).Nodup∧ ((p.funs.map (pre p p.nodes.length)).flatten).length=p.nodes.length∧ (∀x∈ (p.funs.map (pre p p.nodes.length)).flatten,0≤x∧x<p.nodes.length) ∧
  (∀ (i:Nat) (x:Node),p.nodes[i]?=some x→tG p x=true) :=by
 have hp:=aCs hs hf;simp only [jH,Bool.and_eq_true]at hf;obtain⟨_,hf⟩ :=hf;split at hf
 · rename_i u hu;unfold allT at hf;split at hf
   · rename_i v hv
     have hK:∀m:Int,0≤m→p.funs.count m+ ((p.nodes.map Node.kids).flatten).count m≤1:=fun m hm=>by
      have h1:=qN (by omega) hm hu;have h2:=pP hm hv;have h3:wI v m≤1:=by unfold wI;split<;>omega
      omega
     have hin:∀x∈ (p.funs.map (pre p p.nodes.length)).flatten,0≤x∧x<p.nodes.length:=fun x hx=>by
      obtain⟨l,hl,hy⟩ :=List.mem_flatten.1 hx;obtain⟨k,hk,rfl⟩ :=List.mem_map.1 hl;have:=hp.funs k hk;exact aST hp _ k this.1 this.2 x hy
     have hL:∀m:Int,((p.funs.map (pre p p.nodes.length)).flatten).count m=p.funs.count m+ ((((p.funs.map (pre p p.nodes.length)).flatten).map (fL p)).flatten).count m:=fun m=>zL m p.funs (fun k hk=>by
      have:=hp.funs k hk;exact aFN hp m _ k this.1 this.2 (by omega))
     have hd: ((p.funs.map (pre p p.nodes.length)).flatten).Nodup:=aD9 (fun a=>by
      by_cases ha:a∈ (p.funs.map (pre p p.nodes.length)).flatten
      · have hr:=hin a ha;have:=bHX hp hK hin hL a.toNat a.toNat (Nat.le_refl _);rwa [show((a.toNat:Nat) :Int) =a by omega]at this
      ·rw [List.count_eq_zero.2 ha];omega)
     refine⟨hd,?_,hin,fun i x hx=> (tI hv i x hx).1⟩;have hd2: (((p.funs.map (pre p p.nodes.length)).flatten).map Int.toNat).Nodup:=by
      rw [List.nodup_iff_pairwise_ne]at hd ⊢;refine List.pairwise_map.2 (hd.imp_of_mem (fun {a b} ha hb hne e=>?_));have:=hin a ha;have:=hin b hb;exact hne (by omega)
     have:=xH p.nodes.length _ hd2 (fun x hx=>by
      obtain⟨y,hy,rfl⟩ :=List.mem_map.1 hx;have:=hin y hy;omega)
     rw [List.length_map]at this;refine Nat.le_antisymm this (aMY _ _ (fun i hi=>all_in hp (fun m hm=>?_) hL i i (Nat.le_refl _) hi));have h1:=qN (m:= (m:Int)) (by omega) (by omega) hu;have h2:=pP (m:= (m:Int)) (by omega) hv;have hl1:=aBK hu;have hl2:=aA2 hv;rw [List.length_replicate]at hl1;have h3:wI (List.replicate p.nodes.length false) (m:Int) =0:=by
      unfold wI;rw [Int.toNat_natCast,List.getElem?_replicate,if_pos hm];rfl
     have h4:wI v (m:Int) =1:=by
      unfold wI;have hlt:m<v.length:=by omega
      have:=List.all_eq_true.1 hf _ (List.getElem_mem hlt);rw [Int.toNat_natCast,getElem?_eq_getElem hlt,this];rfl
     omega
   ·cases hf
 ·cases hf
abbrev aMZ :AV:=.agg [.ilst 4 (map Node.av ([] :List Node)) true,.ilst 1 (map aP ([] :List Int)) true,.int .i64 0,.ilst 2 (map Con.av ([] :List Con)) true]
def eB (s:aB) :List Con→Int→Int
 | [],_=> -1
 |c::t,i=>if c.name=s then i else eB s t (i+1)
theorem kT (s:aB) :∀ (l:List Con) (i:Int),0≤i→eB s l i= -1∨ (i≤eB s l i∧eB s l i<i+l.length∧∃d,l[(eB s l i-i).toNat]?=some d∧d.name=s)
 | [],i,h=>.inl rfl
 | c ::t,i,h=>by
  simp only [eB];split
  · rename_i e;exact .inr ⟨by omega,by simp;omega,c,by simp,e⟩
  · rcases kT s t (i+1) (by omega)with g| ⟨g1,g2,d,g3,g4⟩
    ·exact .inl g
    · refine .inr ⟨by omega,by rw [List.length_cons];omega,d,?_,g4⟩;rw [show(eB s t (i+1) -i).toNat= (eB s t (i+1) - (i+1)).toNat+1 by omega,getElem?_cons_succ];exact g3
def aSU (x:Node) :Prop:=x.kids.length<1000000∧aM x.pats<1000000
structure FitP (q:Prog) :Prop where
 nodes:q.nodes.length≤1000000
 funs:q.funs.length<1000000
 cons:q.cons.length<1000000
 node:∀x∈q.nodes,aSU x
theorem aFP {f:Nat}{args:List AV}{v v':AV}(h:Pure PP f args v)(hv:∀ (E:Emb) (cv:Value),VR E v cv→VR E v' cv) :Pure PP f args v':=fun hh=>by
 obtain⟨g,hg,he⟩ :=h hh;exact⟨g,hg,aN8 he hv⟩
def aSV(a b:Int)(c:aB)(d:List Term)(e:List Pat)(f:Int):TS:=bQ PP 116 [(.agg [(nI a),(nI b),(aA c),(.ilst 5 (av d) false),(iP e)]),(nI f)] [] 0
def aEa(b f:Int)(a:aB)(g:List Term)(d:List Pat)(c:Int):=tT 0 (aSV b f a g d c)<|.b 18 7 (b==5) (.i [rn 11,.toL 4 false [(aA a)]] [hr (some [(aA a)]),hr true]<|gu 0 1 (map aA [a])<|gs 0 4 (.gl 1 1 0 [a].length true)<|.i [.weak 4] []<|gz 0 4 1 1 aA [a] false<|gE 0 2 (iS [a]))<|.b 5 7 (b==27) (.i [rn 9,.toL 4 false [(aA a)]] [hr (some [(aA a)]),hr true]<|gu 0 1 (map aA [a])<|gs 0 4 (.gl 1 1 0 [a].length true)<|.i [.weak 4] []<|gz 0 4 1 1 aA [a] false<|gE 0 2 (iS [a]))<|.b 6 13 (b==7) (.b 6 16 (c==1) (.i [rn 9,.toL 4 false [(aA a)]] [hr (some [(aA a)]),hr true]<|gu 0 1 (map aA [a])<|gs 0 4 (.gl 1 1 0 [a].length true)<|.i [.weak 4] []<|gz 0 4 1 1 aA [a] false<|gE 0 2 (iS [a]))<|.i [rn 8,.nilI 4 1] []<|gE 0 1 (.ilst 1 (map aA ([] :List aB)) true))<|.b 6 20 (b==15) (gd 6 23 (c>0) (gw 7 27 (c-1)<|xM 0 d (c-1)<|fun i j k l=>.y fun e:List aB=>gp 1 186 [(.agg [(nI i),(nI j),(aA k),(iP l)])] (iS e)<|gE 3 1 (iS e))<|.i [rn 8,.nilI 4 1] []<|gE 0 1 (.ilst 1 (map aA ([] :List aB)) true))<|.i [rn 8,.nilI 4 1] []<|gE 0 1 (.ilst 1 (map aA ([] :List aB)) true)
def aZW:=fun a b c d e f g=>aEa a b c d e f|>.t g tv
def aZX:=fun a b c d e f g i=>aEa a b c d e f|>.f g|>.t i tv
def aZY:=fun a b c d e f g i j k=>aEa a b c d e f|>.f g|>.f i|>.t j|>.t k tv
def aZZ:=fun a b c d e f g i j k=>aEa a b c d e f|>.f g|>.f i|>.t j|>.f k tv
def aZ0:=fun a b c d e f g i j k l m n o p q r s t u=>aEa a b c d e f|>.f m|>.f n|>.f o|>.t p|>.t q r g i j k s t l u tv
def aZ1:=fun a b c d e f g i j k l=>aEa a b c d e f|>.f g|>.f i|>.f j|>.t k|>.f l tv
def aZ2:=fun a b c d e f g i j k=>aEa a b c d e f|>.f g|>.f i|>.f j|>.f k tv
def FunD.nm :FunD→aB
 | .mk n _ _ _ _=>n
def sE (c:ConD) :Con:= ⟨c.name,(length c.args:Int)⟩
def gP (m:Mod) :List Con:= (m.datas.map fun d=>d.cons.map sE).flatten
def bW (l:List aB)(s:aB) :Nat→Int
 |0=> -1
 |i+1=>if l[i]?=some s then(i:Int)else bW l s i
def aZ (l:List aB)(s:aB) :Int:=bW l s l.length
def aR (op:Int)(s:aB)(ps:List Pat)(k:Nat) :List aB:=
 if op=5∨op=27 then [s]else if op=7 then(if k=1 then [s]else [])else if op=15 then(match k with|0=>[] |j+1=>match ps[j]? with|some p=>aO p|none=>[])else []
theorem aSW (o n:Int)(s:aB)(ks:List Term)(ps:List Pat)(k:Nat)(hk:k≤1000)(h15:o=15→k≤ps.length)(hp:∀p∈ps,aV p≤1000) :Pure PP 116 [Term.av (.mk o n s ks ps),.int .i64 (k:Int)] (.ilst 1 (map aA (aR o s ps k)) false) :=by
 have W:∀ {l:List aB} {x:Bool},Ends PP 0 (aSV o n s ks ps (k:Int)).as (.ret (.ilst 1 (map aA l) x)) (aG [] 0) →Pure PP 116 [Term.av (.mk o n s ks ps),.int .i64 (k:Int)] (.ilst 1 (map aA l) false) :=fun {l x} he=>by
  have h0:Pure PP 116 [Term.av (.mk o n s ks ps),.int .i64 (k:Int)] (.ilst 1 (map aA l) x) :=cB (s:=aSV o n s ks ps (k:Int)) (by kernel_rfl) (by kernel_rfl) (by simp [keylessL,dF,keyless]) (by simp [keyless]) he;cases x with
  |false=>exact h0
  |true=>exact aFP h0 (fun E cv h=>aAV h)
 unfold aR;by_cases h5:o=5
 ·rw [if_pos (.inl h5)];exact W (aZW o n s ks ps k (by simp [h5]))
 · by_cases h27:o=27
   ·rw [if_pos (.inr h27)];exact W (aZX o n s ks ps k (by simp [h5]) (by simp [h27]))
   · rw [if_neg (by simp [h5,h27])];by_cases h7:o=7
     · rw [if_pos h7];by_cases hk1:k=1
       ·rw [if_pos hk1];exact W (aZY o n s ks ps k (by simp [h5]) (by simp [h27]) (by simp [h7]) (by simp [hk1]))
       ·rw [if_neg hk1];exact W (aZZ o n s ks ps k (by simp [h5]) (by simp [h27]) (by simp [h7]) (by simp;omega))
     · rw [if_neg h7];by_cases h15':o=15
       · rw [if_pos h15'];cases k with
         |zero=>exact W (aZ1 o n s ks ps ((0:Nat) :Int) (by simp [h5]) (by simp [h27]) (by simp [h7]) (by simp [h15']) (by simp))
         | succ j=>
          have hj:=h15 h15';obtain⟨p,hpj⟩ :∃p,ps[j]?=some p:= ⟨_,getElem?_eq_getElem (by omega)⟩;have hpp:=aDW p (hp p (mem_of_getElem? hpj));simp only [hpj];obtain⟨pf,pn,pt,pq⟩ :=p;have e: ((j+1:Nat) :Int) -1= (j:Int) :=by omega
          exact W (aZ0 o n s ks ps ((j+1:Nat) :Int) pf pn pt pq _ (by simp [h5]) (by simp [h27]) (by simp [h7]) (by simp [h15']) (by simp) (by apply wrap64<;>omega) (by omega) (by rw [e,Int.toNat_natCast];exact hpj) hpp)
       ·rw [if_neg h15'];exact W (aZ2 o n s ks ps k (by simp [h5]) (by simp [h27]) (by simp [h7]) (by simp [h15']))
end
end Go.Hb
