/- A machine on abstract values, its soundness, ways, plain laws. -/
import Derived.Test.YtchdjelfnchjcaaGreatHF
import Derived.Test.YtchdjelfnchjcaaGreatHG
import Derived.Test.YtchdjelfnchjcaaGreatHH
set_option linter.defProp false
set_option linter.unusedVariables false
set_option linter.unusedSimpArgs false
set_option linter.unusedSectionVars false
set_option maxRecDepth 100000
set_option maxHeartbeats 4000000
namespace Go.Hb
open AV (agg ilst keyless keylessL)
open Bool (and_eq_true)
open List (all_cons all_map count_append flatten_cons getElem?_cons_succ getElem?_eq_getElem length length_cons map map_cons map_map mem_cons_of_mem mem_cons_self mem_of_getElem? replicate take_add_one)
open Go.Proofs Tryz
noncomputable section
def aCa(a:DataD)(b:Int):TS:=⟨(tf 74 53 [kp 1 0,(2,(bV false)),(3,(nI b))] [kc f74 116,kl f74 116,.inBlock 0,kc f74 15]),[],[oC 0 [(aD a.name),(.ilst 2 (map ConD.av a.cons) false)]],1⟩
def aEA(a:DataD)(b:aE)(c:List Typ)(d e:Int):TS:=⟨(tf 74 53 [kp 1 0,(2,(bV false)),(3,(nI e)),kp 4 1,(5,(nI d))] [kc f74 29852,kl f74 29852,.inBlock 2,.inBlock 1,kc f74 467,kl f74 116,.inBlock 0,kc f74 15]),[],[oC 0 [(aD a.name),(.ilst 2 (map ConD.av a.cons) false)],oC 1 [(aD b),(.ilst 4 (Typs.av c) false)]],2⟩
def aEB(a:Mod)(b:Int):TS:=⟨(tf 37 77 [kp 1 0,(2,(bV false)),(3,(nI b))] [kc f37 116,kl f37 116,.inBlock 0,kc f37 15]),[],[oC 0 [(aD a.name),(.ilst 2 (map DataD.av a.datas) false),(.ilst 15 (FunDs.av a.funs) false)]],1⟩
def aEC(a:Mod)(b:Int):TS:=⟨(tf 37 77 [kp 1 0,(2,(bV false)),(4,(nI b))] [kc f37 244,kl f37 244,.inBlock 2,kc f37 31]),[],[oC 0 [(aD a.name),(.ilst 2 (map DataD.av a.datas) false),(.ilst 15 (FunDs.av a.funs) false)]],1⟩
def aCb(a:DataD)(b:Int):TS:=⟨(tf 18 52 [kp 1 0,(2,(bV false)),(3,(nI b))] [kc f18 116,kl f18 116,.inBlock 0,kc f18 15]),[],[oC 0 [(aD a.name),(.ilst 2 (map ConD.av a.cons) false)]],1⟩
def aED(a:DataD)(b:aE)(c:List Typ)(d e:Int):TS:=⟨(tf 18 52 [kp 1 0,(2,(bV false)),(3,(nI e)),kp 4 1,(5,(nI d))] [kc f18 29852,kl f18 29852,.inBlock 2,.inBlock 1,kc f18 467,kl f18 116,.inBlock 0,kc f18 15]),[],[oC 0 [(aD a.name),(.ilst 2 (map ConD.av a.cons) false)],oC 1 [(aD b),(.ilst 4 (Typs.av c) false)]],2⟩
def aEE(a:Mod)(b:Int):TS:=⟨(tf 5 76 [kp 1 0,(2,(bV false)),(3,(nI b))] [kc f5 116,kl f5 116,.inBlock 0,kc f5 15]),[],[oC 0 [(aD a.name),(.ilst 2 (map DataD.av a.datas) false),(.ilst 15 (FunDs.av a.funs) false)]],1⟩
def aEF(a:Mod)(b:Int):TS:=⟨(tf 5 76 [kp 1 0,(2,(bV false)),(4,(nI b))] [kc f5 244,kl f5 244,.inBlock 2,kc f5 31]),[],[oC 0 [(aD a.name),(.ilst 2 (map DataD.av a.datas) false),(.ilst 15 (FunDs.av a.funs) false)]],1⟩
def aEG(a b:Int)(c:aE)(d:List Term)(e:List Pat)(f:Int):TS:=⟨(tf 65 43 [kp 1 0,(2,(bV false)),(3,(nI f))] [kc f65 116,kl f65 116,.inBlock 0,kc f65 15]),[],[oC 0 [(nI a),(nI b),(aD c),(.ilst 5 (Terms.av d) false),(iP e)]],1⟩
def aEH(a b:Int)(c:aE)(d:List Term)(e:List Pat)(f:Int):TS:=⟨(tf 65 43 [kp 1 0,(2,(bV false)),(4,(nI f))] [kc f65 244,kl f65 244,.inBlock 2,kc f65 31]),[],[oC 0 [(nI a),(nI b),(aD c),(.ilst 5 (Terms.av d) false),(iP e)]],1⟩
def aN4(a:DataD):=tT 0 (start PP 74 [(.agg [(aD a.name),(.ilst 2 (map ConD.av a.cons) false)])])<|cZ 10 114 [(aD a.name)]<|fun b=>.b 2 10 (!b) (gE 13 1 (bV false))<|gl 2 ConD.av a.cons<|cZ 0 73 [(nI (a.cons.length:Int)),(nI 1),(nI 5)]<|fun c=>.b 3 16 (!c) (gE 6 1 (bV false))<|.W 9 1 [0] (aCa a 0)
def aSH:=fun a b c d=>aN4 a b c|>.t d tv
def aSI:=fun a b c d e f g=>aN4 a b d|>.f e c f|>.t g tv
def aSJ:=fun a b c d e f g=>aN4 a b d|>.f e c f|>.f g tv
def aIT(a:DataD)(c:Int):=tT 0 (aCa a c)<|gl 6 ConD.av a.cons<|gd 2 21 (c< (a.cons.length:Int)) (gX ConD.av 9 a.cons c<|fun b=>cZ 9 114 [(aD b.name)]<|fun d=>.b 2 33 (!d) (gE 12 2 (bV false))<|gm 2 aU b.args<|gd 3 38 ((b.args.length:Int) >3) (gE 6 2 (bV false))<|.W 8 2 [0,1] (aEA a b.name b.args 0 c))<|gE 7 1 (bV true)
def aSK:=fun a b c d e f g i j=>aIT a b|>.t e c f g d i|>.t j tv
def aSL:=fun a b c d e f g i j k=>aIT a b|>.t e c f g d i|>.f j|>.t k tv
def aSM:=fun a b c d e f g i j k=>aIT a b|>.t e c f g d i|>.f j|>.f k tv
def aSN:=fun a b c=>aIT a b|>.f c tv
def aN5(d:DataD)(e:aE)(a:List Typ)(b c:Int):=tT 0 (aEA d e a b c)<|gm 6 aU a<|gd 2 43 (b< (a.length:Int)) (yJ 9 a b<|fun f g i j=>cZ 1 75 [(.agg [(nI f),(nI g),(aD i),(.ilst 4 (Typs.av j) false)])]<|fun k=>.b 2 52 (!k) (gE 6 2 (bV false))<|gw 6 45 (b+1)<|.W 3 2 [0,1] (aEA d e a (b+1) c))<|gw 6 23 (c+1)<|.W 3 2 [0] (aCa d (c+1))
def aSO:=fun a b c d e f g i j k l m n o p=>aN5 a b c d e|>.t l f g i j m n k o|>.t p tv
def aSP:=fun a b c d e f g i j k l m n o p q=>aN5 a b c d e|>.t l f g i j m n k o|>.f p q tv
def aSQ:=fun a b c d e f g=>aN5 a b c d e|>.f f g tv
def aIU(a:Mod):=tT 0 (start PP 37 [(.agg [(aD a.name),(.ilst 2 (map DataD.av a.datas) false),(.ilst 15 (FunDs.av a.funs) false)])])<|cZ 10 72 [(aD a.name)]<|fun b=>.b 2 10 (!b) (gE 19 1 (bV false))<|gl 2 DataD.av a.datas<|gd 3 16 ((a.datas.length:Int) >4) (gE 13 1 (bV false))<|gm 2 bE a.funs<|cZ 0 73 [(nI (a.funs.length:Int)),(nI 1),(nI 5)]<|fun c=>.b 3 22 (!c) (gE 6 1 (bV false))<|.W 9 1 [0] (aEB a 0)
def aSR:=fun a b c d=>aIU a b c|>.t d tv
def aSS:=fun a b c d e=>aIU a b c|>.f d|>.t e tv
def aST:=fun a b c d e f g i=>aIU a b d|>.f e|>.f f c g|>.t i tv
def aSU:=fun a b c d e f g i=>aIU a b d|>.f e|>.f f c g|>.f i tv
def aN6(a:Mod)(b:Int):=tT 0 (aEB a b)<|gl 6 DataD.av a.datas<|gd 2 27 (b< (a.datas.length:Int)) (gX DataD.av 9 a.datas b<|fun c=>cZ 1 74 [(.agg [(aD c.name),(.ilst 2 (map ConD.av c.cons) false)])]<|fun d=>.b 2 36 (!d) (gE 6 1 (bV false))<|gw 6 29 (b+1)<|.W 3 1 [0] (aEB a (b+1)))<|.W 9 1 [0] (aEC a 0)
def aSV:=fun a b c d e f g i j=>aN6 a b|>.t e c f g d i|>.t j tv
def aSW:=fun a b c d e f g i j k=>aN6 a b|>.t e c f g d i|>.f j k tv
def aSX:=fun a b c=>aN6 a b|>.f c tv
def aCc(a:Mod)(b:Int):=tT 0 (aEC a b)<|gm 6 bE a.funs<|gd 2 41 (b< (a.funs.length:Int)) (.y fun c:aE=>.y fun d:aE=>.y fun e:Int=>.y fun f:Int=>.y fun g:aE=>.y fun i:List Typ=>.y fun j:Int=>.y fun k:Int=>.y fun l:aE=>.y fun m:List Typ=>.y fun n:Int=>.y fun o:Int=>.y fun p:aE=>.y fun q:List Term=>.y fun r:List Pat=>giF bE 9 a.funs b (FunD.mk c d (Typ.mk e f g i) (Typ.mk j k l m) (Term.mk n o p q r))<|cZ 8 72 [(aD c)]<|fun s=>.b 2 53 (!s) (gE 30 2 (bV false))<|cZ 2 72 [(aD d)]<|fun t=>.b 3 59 (!t) (gE 24 2 (bV false))<|cZ 2 75 [(.agg [(nI e),(nI f),(aD g),(.ilst 4 (Typs.av i) false)])]<|fun u=>.b 3 65 (!u) (gE 18 2 (bV false))<|cZ 2 75 [(.agg [(nI j),(nI k),(aD l),(.ilst 4 (Typs.av m) false)])]<|fun v=>.b 3 71 (!v) (gE 12 2 (bV false))<|cZ 2 76 [(.agg [(nI n),(nI o),(aD p),(.ilst 5 (Terms.av q) false),(iP r)])]<|fun w=>.b 3 76 (!w) (gE 6 2 (bV false))<|gw 6 43 (b+1)<|.W 3 2 [0] (aEC a (b+1)))<|gE 7 1 (bV true)
def aSY:=fun a b c d e f g i j k l m n o p q r s t u v w x=>aCc a b|>.t t c d e f g i j k l m n o p q r u v s w|>.t x tv
def aSZ:=fun a b c d e f g i j k l m n o p q r s t u v w x y z A=>aCc a b|>.t u c d e f g i j k l m n o p q r v w s x|>.f y t z|>.t A tv
def aS0:=fun a b c d e f g i j k l m n o p q r s t u v w x y z A B C D=>aCc a b|>.t v c d e f g i j k l m n o p q r w x s y|>.f z t A|>.f B u C|>.t D tv
def aS1:=fun a b c d e f g i j k l m n o p q r s t u v w x y z A B C D F G H=>aCc a b|>.t w c d e f g i j k l m n o p q r x y s z|>.f A t B|>.f C u D|>.f F v G|>.t H tv
def aS2:=fun a b c d e f g i j k l m n o p q r s t u v w x y z A B C D F G H I J K=>aCc a b|>.t x c d e f g i j k l m n o p q r y z s A|>.f B t C|>.f D u F|>.f G v H|>.f I w J|>.t K tv
def aS3:=fun a b c d e f g i j k l m n o p q r s t u v w x y z A B C D F G H I J K L=>aCc a b|>.t x c d e f g i j k l m n o p q r y z s A|>.f B t C|>.f D u F|>.f G v H|>.f I w J|>.f K L tv
def aS4:=fun a b c=>aCc a b|>.f c tv
def aN7(a:DataD):=tT 0 (start PP 18 [(.agg [(aD a.name),(.ilst 2 (map ConD.av a.cons) false)])])<|gd 13 10 ((a.name.length:Int) >30) (gE 12 1 (bV false))<|gl 2 ConD.av a.cons<|gd 3 15 ((a.cons.length:Int) >8) (gE 6 1 (bV false))<|.W 9 1 [0] (aCb a 0)
def aS5:=fun a b=>aN7 a|>.t b tv
def aS6:=fun a b c=>aN7 a|>.f b|>.t c tv
def aS7:=fun a b c=>aN7 a|>.f b|>.f c tv
def aIV(a:DataD)(c:Int):=tT 0 (aCb a c)<|gl 6 ConD.av a.cons<|gd 2 20 (c< (a.cons.length:Int)) (gX ConD.av 9 a.cons c<|fun b=>gd 12 32 ((b.name.length:Int) >30) (gE 12 2 (bV false))<|gm 2 aU b.args<|gd 3 37 ((b.args.length:Int) >6) (gE 6 2 (bV false))<|.W 8 2 [0,1] (aED a b.name b.args 0 c))<|gE 7 1 (bV true)
def aS8:=fun a b c d e f g=>aIV a b|>.t d c e f|>.t g tv
def aS9:=fun a b c d e f g i=>aIV a b|>.t d c e f|>.f g|>.t i tv
def aTa:=fun a b c d e f g i=>aIV a b|>.t d c e f|>.f g|>.f i tv
def aTb:=fun a b c=>aIV a b|>.f c tv
def aN8(d:DataD)(e:aE)(a:List Typ)(b c:Int):=tT 0 (aED d e a b c)<|gm 6 aU a<|gd 2 42 (b< (a.length:Int)) (yJ 9 a b<|fun f g i j=>cZ 1 19 [(.agg [(nI f),(nI g),(aD i),(.ilst 4 (Typs.av j) false)])]<|fun k=>.b 2 51 (!k) (gE 6 2 (bV false))<|gw 6 44 (b+1)<|.W 3 2 [0,1] (aED d e a (b+1) c))<|gw 6 22 (c+1)<|.W 3 2 [0] (aCb d (c+1))
def aTc:=fun a b c d e f g i j k l m n o p=>aN8 a b c d e|>.t l f g i j m n k o|>.t p tv
def aTd:=fun a b c d e f g i j k l m n o p q=>aN8 a b c d e|>.t l f g i j m n k o|>.f p q tv
def aTe:=fun a b c d e f g=>aN8 a b c d e|>.f f g tv
def aIW(a:Mod):=tT 0 (start PP 5 [(.agg [(aD a.name),(.ilst 2 (map DataD.av a.datas) false),(.ilst 15 (FunDs.av a.funs) false)])])<|gd 13 10 ((a.name.length:Int) >30) (gE 18 1 (bV false))<|gl 2 DataD.av a.datas<|gd 3 16 ((a.datas.length:Int) >6) (gE 12 1 (bV false))<|gm 2 bE a.funs<|gd 3 21 ((a.funs.length:Int) >8) (gE 6 1 (bV false))<|.W 9 1 [0] (aEE a 0)
def aTf:=fun a b=>aIW a|>.t b tv
def aTg:=fun a b c=>aIW a|>.f b|>.t c tv
def aTh:=fun a b c d=>aIW a|>.f b|>.f c|>.t d tv
def aTi:=fun a b c d=>aIW a|>.f b|>.f c|>.f d tv
def aHV(a:Mod)(b:Int):=tT 0 (aEE a b)<|gl 6 DataD.av a.datas<|gd 2 26 (b< (a.datas.length:Int)) (gX DataD.av 9 a.datas b<|fun c=>cZ 1 18 [(.agg [(aD c.name),(.ilst 2 (map ConD.av c.cons) false)])]<|fun d=>.b 2 35 (!d) (gE 6 1 (bV false))<|gw 6 28 (b+1)<|.W 3 1 [0] (aEE a (b+1)))<|.W 9 1 [0] (aEF a 0)
def aTj:=fun a b c d e f g i j=>aHV a b|>.t e c f g d i|>.t j tv
def aTk:=fun a b c d e f g i j k=>aHV a b|>.t e c f g d i|>.f j k tv
def aTl:=fun a b c=>aHV a b|>.f c tv
def wJ(a:Mod)(b:Int):=tT 0 (aEF a b)<|gm 6 bE a.funs<|gd 2 40 (b< (a.funs.length:Int)) (.y fun c:aE=>.y fun d:aE=>.y fun e:Int=>.y fun f:Int=>.y fun g:aE=>.y fun i:List Typ=>.y fun j:Int=>.y fun k:Int=>.y fun l:aE=>.y fun m:List Typ=>.y fun n:Int=>.y fun o:Int=>.y fun p:aE=>.y fun q:List Term=>.y fun r:List Pat=>giF bE 9 a.funs b (FunD.mk c d (Typ.mk e f g i) (Typ.mk j k l m) (Term.mk n o p q r))<|gd 11 52 ((c.length:Int) >30) (gE 30 2 (bV false))<|gd 6 58 ((d.length:Int) >30) (gE 24 2 (bV false))<|cZ 2 19 [(.agg [(nI e),(nI f),(aD g),(.ilst 4 (Typs.av i) false)])]<|fun s=>.b 3 64 (!s) (gE 18 2 (bV false))<|cZ 2 19 [(.agg [(nI j),(nI k),(aD l),(.ilst 4 (Typs.av m) false)])]<|fun t=>.b 3 70 (!t) (gE 12 2 (bV false))<|cZ 2 20 [(.agg [(nI n),(nI o),(aD p),(.ilst 5 (Terms.av q) false),(iP r)])]<|fun u=>.b 3 75 (!u) (gE 6 2 (bV false))<|gw 6 42 (b+1)<|.W 3 2 [0] (aEF a (b+1)))<|gE 7 1 (bV true)
def aTm:=fun a b c d e f g i j k l m n o p q r s t u v=>wJ a b|>.t s c d e f g i j k l m n o p q r t u|>.t v tv
def aTn:=fun a b c d e f g i j k l m n o p q r s t u v w=>wJ a b|>.t s c d e f g i j k l m n o p q r t u|>.f v|>.t w tv
def aTo:=fun a b c d e f g i j k l m n o p q r s t u v w x y z=>wJ a b|>.t t c d e f g i j k l m n o p q r u v|>.f w|>.f x s y|>.t z tv
def aTp:=fun a b c d e f g i j k l m n o p q r s t u v w x y z A B C=>wJ a b|>.t u c d e f g i j k l m n o p q r v w|>.f x|>.f y s z|>.f A t B|>.t C tv
def aTq:=fun a b c d e f g i j k l m n o p q r s t u v w x y z A B C D F G=>wJ a b|>.t v c d e f g i j k l m n o p q r w x|>.f y|>.f z s A|>.f B t C|>.f D u F|>.t G tv
def aTr:=fun a b c d e f g i j k l m n o p q r s t u v w x y z A B C D F G H=>wJ a b|>.t v c d e f g i j k l m n o p q r w x|>.f y|>.f z s A|>.f B t C|>.f D u F|>.f G H tv
def aTs:=fun a b c=>wJ a b|>.f c tv
def aHW(c d:Int)(b:aE)(e:List Term)(a:List Pat):=tT 0 (start PP 65 [(.agg [(nI c),(nI d),(aD b),(.ilst 5 (Terms.av e) false),(iP a)])])<|gd 13 9 ((b.length:Int) >30) (gE 12 1 (bV false))<|gm 2 aK a<|gd 3 14 ((a.length:Int) >8) (gE 6 1 (bV false))<|.W 9 1 [0] (aEG c d b e a 0)
def aTt:=fun a b c d e f=>aHW a b c d e|>.t f tv
def aTu:=fun a b c d e f g=>aHW a b c d e|>.f f|>.t g tv
def aTv:=fun a b c d e f g=>aHW a b c d e|>.f f|>.f g tv
def aHX(c d:Int)(e:aE)(f:List Term)(a:List Pat)(b:Int):=tT 0 (aEG c d e f a b)<|gm 6 aK a<|gd 2 19 (b< (a.length:Int)) (aBU 9 a b<|fun g i j k=>cZ 1 101 [(.agg [(nI g),(nI i),(aD j),(iP k)])]<|fun l=>.b 2 28 (!l) (gE 6 1 (bV false))<|gw 6 21 (b+1)<|.W 3 1 [0] (aEG c d e f a (b+1)))<|.W 9 1 [0] (aEH c d e f a 0)
def aTw:=fun a b c d e f g i j k l m n o p q=>aHX a b c d e f|>.t m g i j k n o l p|>.t q tv
def aTx:=fun a b c d e f g i j k l m n o p q r=>aHX a b c d e f|>.t m g i j k n o l p|>.f q r tv
def aTy:=fun a b c d e f g=>aHX a b c d e f|>.f g tv
def aHY(c d:Int)(e:aE)(a:List Term)(f:List Pat)(b:Int):=tT 0 (aEH c d e a f b)<|gm 6 cG a<|gd 2 33 (b< (a.length:Int)) (aDp 9 a b<|fun g i j k l=>cZ 1 65 [(.agg [(nI g),(nI i),(aD j),(.ilst 5 (Terms.av k) false),(iP l)])]<|fun m=>.b 2 42 (!m) (gE 6 1 (bV false))<|gw 6 35 (b+1)<|.W 3 1 [0] (aEH c d e a f (b+1)))<|gE 7 1 (bV true)
def aTz:=fun a b c d e f g i j k l m n o p q r=>aHY a b c d e f|>.t n g i j k l o p m q|>.t r tv
def aTA:=fun a b c d e f g i j k l m n o p q r s=>aHY a b c d e f|>.t n g i j k l o p m q|>.f r s tv
def aTB:=fun a b c d e f g=>aHY a b c d e f|>.f g tv
def aN9(a b:Int)(c:aE)(d:List Term)(e:List Pat):=tT 0 (start PP 20 [(.agg [(nI a),(nI b),(aD c),(.ilst 5 (Terms.av d) false),(iP e)])])<|gpI 8 64 [(.agg [(nI a),(nI b),(aD c),(.ilst 5 (Terms.av d) false),(iP e)]),(nI 80),(nI 16)]<|fun f=>gd 2 6 (f≥0) (cZ 1 65 [(.agg [(nI a),(nI b),(aD c),(.ilst 5 (Terms.av d) false),(iP e)])]<|fun g=>gE 4 1 (bV g))<|gE 6 1 (bV false)
def aTC:=fun a b c d e f g i j k=>aN9 a b c d e f i|>.t j g k tv
def aTD:=fun a b c d e f g i=>aN9 a b c d e f g|>.f i tv
def aY8(a:List Typ):TS:=cK PP 107 [(.ilst 4 (Typs.av a) false),(.func 108 [] [])] [] 0
def aIX(a:List Typ)(b:Int):TS:=⟨(tf 180 19 [(0,(.ilst 4 (Typs.av a) false)),(1,(.func 153 [] [(.ptr 0 0)])),(4,(nI 0)),(7,(nI (a.length:Int))),(8,(nI b))] [kc f180 52,kl f180 52,.inBlock 0,kc f180 7]),[(tf 152 9 [(4,(bV false)),(5,(.ilst 4 (Typs.av a) false)),(6,(.func 153 [] [(.ptr 0 0)]))] [ko f152 6 2,kc f152 7]),(tf 107 9 [(4,(bV false)),(5,(.ilst 4 (Typs.av a) false)),(6,(.func 153 [] [(.ptr 0 0)]))] [ko f107 6 2,kc f107 7])],[oC 0 [(.func 108 [] [])]],1⟩
def aY9(a:List ConD):TS:=cK PP 105 [(.ilst 2 (map ConD.av a) false),(.func 106 [] [])] [] 0
def aIY(a:List ConD)(b:Int):TS:=⟨(tf 179 19 [(0,(.ilst 2 (map ConD.av a) false)),(1,(.func 151 [] [(.ptr 0 0)])),(4,(nI 0)),(7,(nI (a.length:Int))),(8,(nI b))] [kc f179 52,kl f179 52,.inBlock 0,kc f179 7]),[(tf 150 9 [(4,(bV false)),(5,(.ilst 2 (map ConD.av a) false)),(6,(.func 151 [] [(.ptr 0 0)]))] [ko f150 6 2,kc f150 7]),(tf 105 9 [(4,(bV false)),(5,(.ilst 2 (map ConD.av a) false)),(6,(.func 151 [] [(.ptr 0 0)]))] [ko f105 6 2,kc f105 7])],[oC 0 [(.func 106 [] [])]],1⟩
def aXd(a:DataD):TS:=cK PP 67 [(.iface 129 (.agg [(aD a.name),(.ilst 2 (map ConD.av a.cons) false)]))] [] 0
def aXe(a b:aE)(c d:Int)(e:aE)(f:List Typ)(g i:Int)(j:aE)(k:List Typ)(l m:Int)(n:aE)(o:List Term)(p:List Pat):TS:=cK PP 67 [(.iface 131 (.agg [(aD a),(aD b),(nI c),(nI d),(aD e),(.ilst 4 (Typs.av f) false),(nI g),(nI i),(aD j),(.ilst 4 (Typs.av k) false),(nI l),(nI m),(aD n),(.ilst 5 (Terms.av o) false),(iP p)]))] [] 0
def aXf(a:List Part):TS:=cK PP 66 [(.ilst 1 (Parts.av a) false),(.func 67 [] [])] [] 0
def aEI(a:List Part)(b:Int):TS:=⟨(tf 149 19 [(0,(.ilst 1 (Parts.av a) false)),(1,(.func 103 [] [(.ptr 0 0)])),(4,(nI 0)),(7,(nI (a.length:Int))),(8,(nI b))] [kc f149 52,kl f149 52,.inBlock 0,kc f149 7]),[(tf 102 9 [(4,(bV false)),(5,(.ilst 1 (Parts.av a) false)),(6,(.func 103 [] [(.ptr 0 0)]))] [ko f102 6 2,kc f102 7]),(tf 66 9 [(4,(bV false)),(5,(.ilst 1 (Parts.av a) false)),(6,(.func 103 [] [(.ptr 0 0)]))] [ko f66 6 2,kc f66 7])],[oC 0 [(.func 67 [] [])]],1⟩
def aOa(a:List Part)(b:Int):TS:=⟨(tf 149 19 [(0,(.ilst 1 (Parts.av a) false)),(1,(.func 103 [] [(.ptr 0 0)])),(4,(nI 0)),(7,(nI (a.length:Int))),(8,(nI b))] [kc f149 52,kl f149 52,.inBlock 0,kc f149 7]),[(tf 102 9 [(4,(bV false)),(5,(.ilst 1 (Parts.av a) false)),(6,(.func 103 [] [(.ptr 0 0)]))] [ko f102 6 2,kc f102 7]),(tf 66 9 [(4,(bV false)),(5,(.ilst 1 (Parts.av a) false)),(6,(.func 103 [] [(.ptr 0 0)]))] [ko f66 6 2,kc f66 7])],[oC 0 [(.func 67 [] [])]],1⟩
def aXg(a:Mod):TS:=cK PP 24 [(.agg [(aD a.name),(.ilst 2 (map DataD.av a.datas) false),(.ilst 15 (FunDs.av a.funs) false)])] [] 0
def aEJ(a:Mod)(c:Int)(b:List Part):TS:=⟨(tf 24 61 [kp 1 0,(2,(nI 0)),(3,(.gl 1 1 0 b.length false)),(31,(.ilst 2 (map DataD.av a.datas) false)),(32,(nI (a.datas.length:Int))),(33,(nI c))] [kc f24 244,kl f24 244,.inBlock 0,kc f24 31]),[],[oC 0 [(aD a.name),(.ilst 2 (map DataD.av a.datas) false),(.ilst 15 (FunDs.av a.funs) false)],oL 1 1 (Parts.av b)],2⟩
def aEK(a:Mod)(b:List Part)(c:Int):TS:=⟨(tf 24 61 [(2,(nI 0)),(3,(.gl 0 1 0 b.length false)),(45,(.ilst 15 (FunDs.av a.funs) false)),(46,(nI (a.funs.length:Int))),(47,(nI c))] [kc f24 500,kl f24 500,.inBlock 2,kc f24 63]),[],[oL 0 1 (Parts.av b)],1⟩
def aYo (a:List Typ):=(tT 0 (aY8 a)<|gm 27 aU a<|.W 4 1 [0] (aIX a 0)) tv
def aOb(b:List Typ)(a:Int):=tT 0 (aIX b a)<|gd 5 9 (a< (b.length:Int)) (yJ 14 b a<|fun c d e f=>cZ 11 108 [(.agg [(nI c),(nI d),(aD e),(.ilst 4 (Typs.av f) false)])]<|fun g=>.b 6 16 (!g) (gE 17 2 (bV (!(decide (a≥0)))))<|gw 5 18 (a+1)<|.W 3 2 [0] (aIX b (a+1)))<|gE 17 1 (bV true)
def aYp:=fun a b c d e f g i j k l m=>aOb a b|>.t i c d e f j k g l|>.t m tv
def aYq:=fun a b c d e f g i j k l m n=>aOb a b|>.t i c d e f j k g l|>.f m n tv
def aYr:=fun a b c=>aOb a b|>.f c tv
def aOc(a:ConD):=tT 0 (start PP 106 [(.agg [(aD a.name),(.ilst 4 (Typs.av a.args) false)])])<|cZ 9 104 [(aD a.name)]<|fun b=>.b 1 6 b (gm 2 aU a.args<|gd 3 12 ((a.args.length:Int) ≤3) (cZ 2 107 [(.ilst 4 (Typs.av a.args) false),(.func 108 [] [])]<|fun c=>gE 4 1 (bV c))<|gE 7 1 (bV false))<|gE 13 1 (bV false)
def aTE:=fun a b c d e f g=>aOc a b d|>.t e|>.t f c g tv
def aTF:=fun a b c d e=>aOc a b c|>.t d|>.f e tv
def aTG:=fun a b c d=>aOc a b c|>.f d tv
def aYs (a:List ConD):=(tT 0 (aY9 a)<|gl 27 ConD.av a<|.W 4 1 [0] (aIY a 0)) tv
def aOd(b:List ConD)(a:Int):=tT 0 (aIY b a)<|gd 5 9 (a< (b.length:Int)) (gX ConD.av 14 b a<|fun c=>cZ 11 106 [(.agg [(aD c.name),(.ilst 4 (Typs.av c.args) false)])]<|fun d=>.b 6 16 (!d) (gE 17 2 (bV (!(decide (a≥0)))))<|gw 5 18 (a+1)<|.W 3 2 [0] (aIY b (a+1)))<|gE 17 1 (bV true)
def aYt:=fun a b c d e f g i j=>aOd a b|>.t e c f g d i|>.t j tv
def aYu:=fun a b c d e f g i j k=>aOd a b|>.t e c f g d i|>.f j k tv
def aYv:=fun a b c=>aOd a b|>.f c tv
def aIZ(a:DataD):=tT 0 (aXd a)<|cZ 27 104 [(aD a.name)]<|fun b=>.b 1 13 b (gl 3 ConD.av a.cons<|gd 3 20 ((a.cons.length:Int) ≥1) (gl 3 ConD.av a.cons<|gd 3 27 ((a.cons.length:Int) ≤5) (cZ 3 105 [(.ilst 2 (map ConD.av a.cons) false),(.func 106 [] [])]<|fun c=>gE 4 1 (bV c))<|gE 8 1 (bV false))<|gE 15 1 (bV false))<|gE 22 1 (bV false)
def aTH:=fun a b c d e f g i=>aIZ a b d|>.t e|>.t f|>.t g c i tv
def aTI:=fun a b c d e f=>aIZ a b c|>.t d|>.t e|>.f f tv
def aTJ:=fun a b c d e=>aIZ a b c|>.t d|>.f e tv
def aTK:=fun a b c d=>aIZ a b c|>.f d tv
def aGp(a b:aE)(c d:Int)(e:aE)(f:List Typ)(g i:Int)(j:aE)(k:List Typ)(l m:Int)(n:aE)(o:List Term)(p:List Pat):=tT 0 (aXe a b c d e f g i j k l m n o p)<|cZ 34 58 [(aD a)]<|fun q=>.b 1 40 q (cZ 3 58 [(aD b)]<|fun r=>.b 2 46 r (cZ 3 108 [(.agg [(nI c),(nI d),(aD e),(.ilst 4 (Typs.av f) false)])]<|fun s=>.b 2 52 s (cZ 3 108 [(.agg [(nI g),(nI i),(aD j),(.ilst 4 (Typs.av k) false)])]<|fun t=>.b 2 58 t (gpI 3 109 [(.agg [(nI l),(nI m),(aD n),(.ilst 5 (Terms.av o) false),(iP p)])]<|fun u=>gE 5 1 (bV (u==0)))<|gE 9 1 (bV false))<|gE 15 1 (bV false))<|gE 21 1 (bV false))<|gE 27 1 (bV false)
def aTL:=fun a b c d e f g i j k l m n o p q r s t u v w x y z A B C D=>aGp a b c d e f g i j k l m n o p q v|>.t w r x|>.t y s z|>.t A t B|>.t C u D tv
def aTM:=fun a b c d e f g i j k l m n o p q r s t u v w x y z A B=>aGp a b c d e f g i j k l m n o p q u|>.t v r w|>.t x s y|>.t z t A|>.f B tv
def aTN:=fun a b c d e f g i j k l m n o p q r s t u v w x y=>aGp a b c d e f g i j k l m n o p q t|>.t u r v|>.t w s x|>.f y tv
def aTO:=fun a b c d e f g i j k l m n o p q r s t u v=>aGp a b c d e f g i j k l m n o p q s|>.t t r u|>.f v tv
def aTP:=fun a b c d e f g i j k l m n o p q r s=>aGp a b c d e f g i j k l m n o p q r|>.f s tv
def aTQ (a:List Part):=(tT 0 (aXf a)<|gm 27 lM a<|.W 4 1 [0] (aEI a 0)) tv
def aOe(b:List Part)(a:Int):=tT 0 (aEI b a)<|gd 5 9 (a< (b.length:Int)) (.y fun c:DataD=>giF lM 14 b a (Part.data c)<|cZ 10 67 [(.iface 129 (.agg [(aD c.name),(.ilst 2 (map ConD.av c.cons) false)]))]<|fun d=>.b 6 16 (!d) (gE 17 1 (bV (!(decide (a≥0)))))<|gw 5 18 (a+1)<|.W 3 1 [0] (aEI b (a+1)))<|gE 17 1 (bV true)
def aTR:=fun a b c d e f g i j=>aOe a b|>.t e c f g d i|>.t j tv
def aTS:=fun a b c d e f g i j k=>aOe a b|>.t e c f g d i|>.f j k tv
def aTT:=fun a b c=>aOe a b|>.f c tv
def aXh(b:List Part)(a:Int):=tT 0 (aOa b a)<|gd 5 9 (a< (b.length:Int)) (.y fun c:aE=>.y fun d:aE=>.y fun e:Int=>.y fun f:Int=>.y fun g:aE=>.y fun i:List Typ=>.y fun j:Int=>.y fun k:Int=>.y fun l:aE=>.y fun m:List Typ=>.y fun n:Int=>.y fun o:Int=>.y fun p:aE=>.y fun q:List Term=>.y fun r:List Pat=>giF lM 14 b a (Part.fn (FunD.mk c d (Typ.mk e f g i) (Typ.mk j k l m) (Term.mk n o p q r)))<|cZ 10 67 [(.iface 131 (.agg [(aD c),(aD d),(nI e),(nI f),(aD g),(.ilst 4 (Typs.av i) false),(nI j),(nI k),(aD l),(.ilst 4 (Typs.av m) false),(nI n),(nI o),(aD p),(.ilst 5 (Terms.av q) false),(iP r)]))]<|fun s=>.b 6 16 (!s) (gE 17 1 (bV (!(decide (a≥0)))))<|gw 5 18 (a+1)<|.W 3 1 [0] (aOa b (a+1))) .x
def aTU:=fun a b c d e f g i j k l m n o p q r s t u v w x=>aXh a b|>.t t c d e f g i j k l m n o p q r u v s w|>.t x tv
def aTV:=fun a b c d e f g i j k l m n o p q r s t u v w x y=>aXh a b|>.t t c d e f g i j k l m n o p q r u v s w|>.f x y tv
def aGq(a:Mod):=tT 0 (aXg a)<|cZ 10 58 [(aD a.name)]<|fun b=>.b 2 12 (!b) (gE 24 1 (nI 2))<|gl 2 DataD.av a.datas<|gd 3 18 ((a.datas.length:Int) >4) (gE 18 1 (nI 2))<|gm 2 bE a.funs<|gd 3 24 ((a.funs.length:Int) <1) (gE 12 1 (nI 2))<|gm 2 bE a.funs<|gd 3 29 ((a.funs.length:Int) >5) (gE 6 1 (nI 2))<|gl 11 DataD.av a.datas<|.i [rn 4,.nilL 3 1] []<|gu 0 1 (Parts.av ([] :List Part))<|gs 0 3 (.gl 1 1 0 ([] :List Part).length false)<|.W 0 2 [0,1] (aEJ a 0 ([] :List Part))
def aTW:=fun a b c d=>aGq a b c|>.t d tv
def aTX:=fun a b c d e=>aGq a b c|>.f d|>.t e tv
def aTY:=fun a b c d e f=>aGq a b c|>.f d|>.f e|>.t f tv
def aTZ:=fun a b c d e f g=>aGq a b c|>.f d|>.f e|>.f f|>.t g tv
def aT0:=fun a b c d e f g=>aGq a b c|>.f d|>.f e|>.f f|>.f g ⟨sO,trivial⟩
def aXi(a:Mod)(b:Int)(c:List Part):=tT 0 (aEJ a b c)<|gd 5 34 (b< (a.datas.length:Int)) (gX DataD.av 6 a.datas b<|fun d=>gA 10 lM c [(Part.data d)]<|gw 5 43 (b+1)<|.W 3 5 [0,4] (aEJ a (b+1) (c++ [(Part.data d)])))<|gm 7 bE a.funs<|.W 4 2 [1] (aEK a c 0)
def aT1:=fun a b c d e f g i j=>aXi a b c|>.t e d f g i j ⟨sO,trivial⟩
def aT2:=fun a b c d=>aXi a b c|>.f d ⟨sO,trivial⟩
def aOf(c:Mod)(a:List Part)(b:Int):=tT 0 (aEK c a b)<|gd 5 48 (b< (c.funs.length:Int)) (.y fun d:aE=>.y fun e:aE=>.y fun f:Int=>.y fun g:Int=>.y fun i:aE=>.y fun j:List Typ=>.y fun k:Int=>.y fun l:Int=>.y fun m:aE=>.y fun n:List Typ=>.y fun o:Int=>.y fun p:Int=>.y fun q:aE=>.y fun r:List Term=>.y fun s:List Pat=>giF bE 6 c.funs b (FunD.mk d e (Typ.mk f g i j) (Typ.mk k l m n) (Term.mk o p q r s))<|gA 10 lM a [(Part.fn (FunD.mk d e (Typ.mk f g i j) (Typ.mk k l m n) (Term.mk o p q r s)))]<|gw 5 57 (b+1)<|.W 3 4 [3] (aEK c (a++ [(Part.fn (FunD.mk d e (Typ.mk f g i j) (Typ.mk k l m n) (Term.mk o p q r s)))]) (b+1)))<|gZ 6 58 0 1 lM sO a false<|cZ 0 66 [(.ilst 1 (Parts.av a) false),(.func 67 [] [])]<|fun t=>.b 2 60 (!t) (gE 6 1 (nI 2))<|gE 7 1 (nI 0)
def aT3:=fun a b c d e f g i j k l m n o p q r s t u v w x=>aOf a b c|>.t t d e f g i j k l m n o p q r s u v w x ⟨sO,trivial⟩
def aT4:=fun a b c d e f g=>aOf a b c|>.f e d f|>.t g tv
def aT5:=fun a b c d e f g=>aOf a b c|>.f e d f|>.f g tv
mutual
def tsm :Term→Bool
 | .mk _ _ s ks ps=>decide (((length s:Nat) :Int) ≤30) &&decide (((length ps:Nat) :Int) ≤8) &&ps.all mA&&aHZ ks
def aHZ :List Term→Bool
 | [] =>true
 |t::ts=>tsm t&&aHZ ts
end
theorem aCd :∀ts:List Term,ts.length≤dS ts
 | [] =>by simp
 | .mk o n s ks ps::ts=>by have:=aCd ts;simp only [dS,dL,length_cons];omega
theorem aZa (o n:Int)(s:aE)(ks:List Term)(ps:List Pat)(hl:ks.length<1000000)(ih:∀t∈ks,Pure PP 65 [Term.av t] (.bool (tsm t))) :
  ∀ (ts:List Term) (i:Nat),ks.drop i=ts→Ends PP 0 (aEH o n s ks ps (i:Int)).as (.ret (.bool (aHZ ts))) (aO [] 0)
 | [],i,h=>by
  have:=bD h;exact aTB o n s ks ps i sd
 | .mk o' n' s' ks' ps'::ts,i,h=>by
  obtain⟨g1,g2,g3⟩ :=aW h;have hp:=ih _ (mem_of_getElem? g1);rw [aHZ];cases hb:tsm (.mk o' n' s' ks' ps')with
  | true=>
   rw [hb]at hp;exact(aTA o n s ks ps i o' n' s' ks' ps' true sd sd sd hp rfl sd).ends (Ends.eqv (aZa o n s ks ps hl ih ts (i+1) g2) (by simp))
  | false=>
   rw [hb]at hp;exact Ends.eqv (aTz o n s ks ps i o' n' s' ks' ps' false sd sd sd hp rfl) (by simp)
theorem aZb (o n:Int)(s:aE)(ks:List Term)(ps:List Pat)(hl:ks.length<1000000)(hl2:ps.length<1000000)(ih:∀t∈ks,Pure PP 65 [Term.av t] (.bool (tsm t))) :
  ∀ (qs:List Pat) (i:Nat),ps.drop i=qs→Ends PP 0 (aEG o n s ks ps (i:Int)).as (.ret (.bool (qs.all mA&&aHZ ks))) (aO [] 0)
 | [],i,h=>by
  have:=bD h;exact(aTy o n s ks ps i sd).ends (Ends.eqv (aZa o n s ks ps hl ih ks 0 rfl) (by simp))
 | .mk f' n' s' ps'::qs,i,h=>by
  obtain⟨g1,g2,g3⟩ :=aW h;have hp:=aEo (.mk f' n' s' ps');cases hb:mA (.mk f' n' s' ps')with
  | true=>
   rw [hb]at hp;exact(aTx o n s ks ps i f' n' s' ps' true sd sd sd hp rfl sd).ends (Ends.eqv (aZb o n s ks ps hl hl2 ih qs (i+1) g2) (by simp [hb]))
  | false=>
   rw [hb]at hp;exact Ends.eqv (aTw o n s ks ps i f' n' s' ps' false sd sd sd hp rfl) (by simp [hb])
mutual
theorem aGr :∀ (t:Term),dL t<1000000→Pure PP 65 [Term.av t] (.bool (tsm t))
 | .mk o n s ks ps,hf=>by
  simp only [dL]at hf;have:=aCd ks;refine bC (by kernel_rfl) (by simp [keylessL,fC]) rfl ?_;rw [tsm];by_cases h1: ((length s:Nat) :Int) ≤30
  · by_cases h2: ((length ps:Nat) :Int) ≤8
    ·exact(aTv o n s ks ps (by simp;omega) (by simp;omega)).ends (Ends.eqv (aZb o n s ks ps (by omega) (by omega) (aI0 ks (by omega)) ps 0 rfl) (by simp [h1,h2]))
    ·exact Ends.eqv (aTu o n s ks ps (by simp;omega) (by simp;omega)) (by simp [h2])
  ·exact Ends.eqv (aTt o n s ks ps (by simp;omega)) (by simp [h1])
theorem aI0 :∀ (ts:List Term),dS ts<1000000→∀t∈ts,Pure PP 65 [Term.av t] (.bool (tsm t))
 | [],_,t,ht=>by cases ht
 | u::ts,hf,t,ht=>by
  simp only [dS]at hf;rcases List.mem_cons.1 ht with e|ht
  ·rw [e];exact aGr u (by omega)
  ·exact aI0 ts (by omega) t ht
end
def aCe (t:Term) :Bool:=decide (dL t≤80) &&decide (eU t≤16) &&tsm t
theorem aOh (t:Term) :Pure PP 20 [Term.av t] (.bool (aCe t)) :=by
 have hw:=aB2 t 80 16 (by omega) (by omega) (by omega) (by omega);unfold aCe;unfold gV at hw;obtain⟨o,n,s,ks,ps⟩ :=t;refine bC (by kernel_rfl) (by simp [keylessL,fC]) rfl ?_;by_cases h:dL (.mk o n s ks ps) ≤80∧eU (.mk o n s ks ps) ≤16
 · rw [if_pos (by omega)]at hw;exact Ends.eqv (aTC o n s ks ps _ _ hw (by simp;omega) (aGr (.mk o n s ks ps) (by omega))) (by simp [h.1,h.2])
 · rw [if_neg (by omega)]at hw
   exact Ends.eqv (aTD o n s ks ps _ hw (by simp)) (by
    by_cases h1:dL (.mk o n s ks ps) ≤80
    · have:¬eU (.mk o n s ks ps) ≤16:=fun h2=>h ⟨h1,h2⟩;simp [this]
    ·simp [h1])
def yQ (s:aE) :Bool:=decide (((length s:Nat) :Int) ≤30)
def uA (c:ConD) :Bool:=yQ c.name&&decide (((length c.args:Nat) :Int) ≤6) &&c.args.all mD
def aAg (d:DataD) :Bool:=yQ d.name&&decide (((length d.cons:Nat) :Int) ≤8) &&d.cons.all uA
theorem aZc (d:DataD)(nm:aE)(tys:List Typ)(j:Int)(b:Bool)(hj: -1≤j∧j≤1000)(hl:tys.length<1000000)(hk:Ends PP 0 (aCb d (j+1)).as (.ret (.bool b)) (aO [] 0)) :
  ∀ (ts:List Typ) (i:Nat),tys.drop i=ts→Ends PP 0 (aED d nm tys (i:Int) j).as (.ret (.bool (ts.all mD&&b))) (aO [] 0)
 | [],i,h=>by
  have:=bD h;exact(aTe d nm tys i j sd sd).ends (Ends.eqv hk (by simp))
 | .mk o n s ps::ts,i,h=>by
  obtain⟨g1,g2,g3⟩ :=aW h;have hp:=aB8 (.mk o n s ps);cases hb:mD (.mk o n s ps)with
  | true=>
   rw [hb]at hp;exact(aTd d nm tys i j o n s ps true sd sd sd hp rfl sd).ends (Ends.eqv (aZc d nm tys j b hj hl hk ts (i+1) g2) (by simp [hb]))
  | false=>
   rw [hb]at hp;exact Ends.eqv (aTc d nm tys i j o n s ps false sd sd sd hp rfl) (by simp [hb])
theorem aZd (d:DataD)(hl:d.cons.length≤8) :∀ (cs:List ConD) (i:Nat),d.cons.drop i=cs→Ends PP 0 (aCb d (i:Int)).as (.ret (.bool (cs.all uA))) (aO [] 0)
 | [],i,h=>by
  have:=bD h;exact aTb d i sd
 | c ::cs,i,h=>by
  obtain⟨g1,g2,g3⟩ :=aW h;have hi:i<d.cons.length:= (List.getElem?_eq_some_iff.1 g1).1;rw [all_cons];by_cases h1: ((length c.name:Nat) :Int) ≤30
  · by_cases h2: ((length c.args:Nat) :Int) ≤6
    · have hk:=aZd d hl cs (i+1) g2;exact(aTa d i c sd sd sd (by simp;omega) (by simp;omega)).ends (Ends.eqv (aZc d c.name c.args i _ (by omega) (by omega) hk c.args 0 rfl) (by simp [uA,yQ,h1,h2]))
    ·exact Ends.eqv (aS9 d i c sd sd sd (by simp;omega) (by simp;omega)) (by simp [uA,h2])
  ·exact Ends.eqv (aS8 d i c sd sd sd (by simp;omega)) (by simp [uA,yQ,h1])
theorem aOi (d:DataD) :Pure PP 18 [DataD.av d] (.bool (aAg d)) :=by
 refine bC (by kernel_rfl) (by simp [keylessL,DataD.av,keyless,aD]) rfl ?_;unfold aAg;by_cases h1: ((length d.name:Nat) :Int) ≤30
 · by_cases h2: ((length d.cons:Nat) :Int) ≤8
   ·exact(aS7 d (by simp;omega) (by simp;omega)).ends (Ends.eqv (aZd d (by omega) d.cons 0 rfl) (by simp [yQ,h1,h2]))
   ·exact Ends.eqv (aS6 d (by simp;omega) (by simp;omega)) (by simp [h2])
 ·exact Ends.eqv (aS5 d (by simp;omega)) (by simp [yQ,h1])
def mE :FunD→Bool
 | .mk n p f g b=>yQ n&&yQ p&&mD f&&mD g&&aCe b
def sY (m:Mod) :Bool:=yQ m.name&&decide (((length m.datas:Nat) :Int) ≤6) &&decide (((length m.funs:Nat) :Int) ≤8) &&m.datas.all aAg&&m.funs.all mE
theorem aZe (m:Mod)(hl:m.funs.length≤8) :∀ (fs:List FunD) (i:Nat),m.funs.drop i=fs→Ends PP 0 (aEF m (i:Int)).as (.ret (.bool (fs.all mE))) (aO [] 0)
 | [],i,h=>by
  have:=bD h;exact aTs m i sd
 | .mk n p (.mk f0 f1 f2 f3) (.mk g0 g1 g2 g3) (.mk b0 b1 b2 b3 b4) ::fs,i,h=>by
  obtain⟨g1',g2',g3'⟩ :=aW h;have hf:=aB8 (.mk f0 f1 f2 f3);have hg:=aB8 (.mk g0 g1 g2 g3);have hb:=aOh (.mk b0 b1 b2 b3 b4);rw [all_cons];by_cases h1: ((length n:Nat) :Int) ≤30
  · by_cases h2: ((length p:Nat) :Int) ≤30
    · cases e1:mD (.mk f0 f1 f2 f3)with
      | false=>
       rw [e1]at hf;exact Ends.eqv (aTo m i n p f0 f1 f2 f3 g0 g1 g2 g3 b0 b1 b2 b3 b4 false sd sd sd (by simp;omega) (by simp;omega) hf rfl) (by simp [mE,e1])
      | true=>
       rw [e1]at hf;cases e2:mD (.mk g0 g1 g2 g3)with
       | false=>
        rw [e2]at hg;exact Ends.eqv (aTp m i n p f0 f1 f2 f3 g0 g1 g2 g3 b0 b1 b2 b3 b4 true false sd sd sd (by simp;omega) (by simp;omega) hf rfl hg rfl) (by simp [mE,e2])
       | true=>
        rw [e2]at hg;cases e3:aCe (.mk b0 b1 b2 b3 b4)with
        | false=>
         rw [e3]at hb;exact Ends.eqv (aTq m i n p f0 f1 f2 f3 g0 g1 g2 g3 b0 b1 b2 b3 b4 true true false sd sd sd (by simp;omega) (by simp;omega) hf rfl hg rfl hb rfl) (by simp [mE,e3])
        | true=>
         rw [e3]at hb;exact(aTr m i n p f0 f1 f2 f3 g0 g1 g2 g3 b0 b1 b2 b3 b4 true true true sd sd sd (by simp;omega) (by simp;omega) hf rfl hg rfl hb rfl sd).ends (Ends.eqv (aZe m hl fs (i+1) g2') (by simp [mE,yQ,h1,h2,e1,e2,e3]))
    ·exact Ends.eqv (aTn m i n p f0 f1 f2 f3 g0 g1 g2 g3 b0 b1 b2 b3 b4 sd sd sd (by simp;omega) (by simp;omega)) (by simp [mE,yQ,h2])
  ·exact Ends.eqv (aTm m i n p f0 f1 f2 f3 g0 g1 g2 g3 b0 b1 b2 b3 b4 sd sd sd (by simp;omega)) (by simp [mE,yQ,h1])
theorem aZf (m:Mod)(hl:m.funs.length≤8)(hl2:m.datas.length≤6) :∀ (ds:List DataD) (i:Nat),m.datas.drop i=ds→Ends PP 0 (aEE m (i:Int)).as (.ret (.bool (ds.all aAg&&m.funs.all mE))) (aO [] 0)
 | [],i,h=>by
  have:=bD h;exact(aTl m i sd).ends (Ends.eqv (aZe m hl m.funs 0 rfl) (by simp))
 | d::ds,i,h=>by
  obtain⟨g1,g2,g3⟩ :=aW h;have hp:=aOi d;rw [all_cons];cases hb:aAg d with
  | true=>
   rw [hb]at hp;exact(aTk m i d true sd sd sd hp rfl sd).ends (Ends.eqv (aZf m hl hl2 ds (i+1) g2) (by simp))
  | false=>
   rw [hb]at hp;exact Ends.eqv (aTj m i d false sd sd sd hp rfl) (by simp)
theorem wK (m:Mod) :keyless (Mod.av m) =true:=by simp [Mod.av,keyless,keylessL,aD]
theorem aOj (m:Mod) :Pure PP 5 [Mod.av m] (.bool (sY m)) :=by
 refine bC (by kernel_rfl) (by simp [keylessL,wK]) rfl ?_;unfold sY;by_cases h1: ((length m.name:Nat) :Int) ≤30
 · by_cases h2: ((length m.datas:Nat) :Int) ≤6
   · by_cases h3: ((length m.funs:Nat) :Int) ≤8
     ·exact(aTi m (by simp;omega) (by simp;omega) (by simp;omega)).ends (Ends.eqv (aZf m (by omega) (by omega) m.datas 0 rfl) (by simp [yQ,h1,h2,h3]))
     ·exact Ends.eqv (aTh m (by simp;omega) (by simp;omega) (by simp;omega)) (by simp [h3])
   ·exact Ends.eqv (aTg m (by simp;omega) (by simp;omega)) (by simp [h2])
 ·exact Ends.eqv (aTf m (by simp;omega)) (by simp [yQ,h1])
def nN (c:ConD) :Bool:=cB c.name&&decide (((length c.args:Nat) :Int) ≤3) &&c.args.all sX
def mF (d:DataD) :Bool:=cB d.name&&cC (length d.cons) 1 5&&d.cons.all nN
def kM :FunD→Bool
 | .mk n p f g b=>dQ n&&dQ p&&sX f&&sX g&&aAJ b
def qZ (m:Mod) :Bool:=dQ m.name&&decide (((length m.datas:Nat) :Int) ≤4) &&cC (length m.funs) 1 5&&m.datas.all mF&&m.funs.all kM
def fD :FunD→Prop
 | .mk _ _ f g b=>bI f<1000000∧bI g<1000000∧qF b<1000000
def aAh (d:DataD) :Prop:=∀c∈d.cons,∀t∈c.args,bI t<1000000
theorem aZg (d:DataD)(nm:aE)(tys:List Typ)(j:Int)(b:Bool)(hj: -1≤j∧j≤1000)(hl:tys.length<1000000)(hk:Ends PP 0 (aCa d (j+1)).as (.ret (.bool b)) (aO [] 0)) :
  ∀ (ts:List Typ) (i:Nat),tys.drop i=ts→Ends PP 0 (aEA d nm tys (i:Int) j).as (.ret (.bool (ts.all sX&&b))) (aO [] 0)
 | [],i,h=>by
  have:=bD h;exact(aSQ d nm tys i j sd sd).ends (Ends.eqv hk (by simp))
 | .mk o n s ps::ts,i,h=>by
  obtain⟨g1,g2,g3⟩ :=aW h;have hp:=aB7 (.mk o n s ps);cases hb:sX (.mk o n s ps)with
  | true=>
   rw [hb]at hp;exact(aSP d nm tys i j o n s ps true sd sd sd hp rfl sd).ends (Ends.eqv (aZg d nm tys j b hj hl hk ts (i+1) g2) (by simp [hb]))
  | false=>
   rw [hb]at hp;exact Ends.eqv (aSO d nm tys i j o n s ps false sd sd sd hp rfl) (by simp [hb])
theorem aZh (d:DataD)(hl:d.cons.length≤5) :∀ (cs:List ConD) (i:Nat),d.cons.drop i=cs→Ends PP 0 (aCa d (i:Int)).as (.ret (.bool (cs.all nN))) (aO [] 0)
 | [],i,h=>by
  have:=bD h;exact aSN d i sd
 | c ::cs,i,h=>by
  obtain⟨g1,g2,g3⟩ :=aW h;have hi:i<d.cons.length:= (List.getElem?_eq_some_iff.1 g1).1;have hg:=kF c.name;rw [all_cons];cases e1:cB c.name with
  | false=>
   rw [e1]at hg;exact Ends.eqv (aSK d i c false sd sd sd hg rfl) (by simp [nN,e1])
  | true=>
   rw [e1]at hg;by_cases h2: ((length c.args:Nat) :Int) ≤3
   · have hk:=aZh d hl cs (i+1) g2;exact(aSM d i c true sd sd sd hg rfl (by simp;omega)).ends (Ends.eqv (aZg d c.name c.args i _ (by omega) (by omega) hk c.args 0 rfl) (by simp [nN,e1,h2]))
   ·exact Ends.eqv (aSL d i c true sd sd sd hg rfl (by simp;omega)) (by simp [nN,h2])
theorem aOk (d:DataD) :Pure PP 74 [DataD.av d] (.bool (mF d)) :=by
 refine bC (by kernel_rfl) (by simp [keylessL,DataD.av,keyless,aD]) rfl ?_;have hg:=kF d.name;have hi:=eT (length d.cons:Int) 1 5;unfold mF;cases e1:cB d.name with
 | false=>
  rw [e1]at hg;exact Ends.eqv (aSH d false hg rfl) (by simp)
 | true=>
  rw [e1]at hg;cases e2:cC (length d.cons:Int) 1 5 with
  | false=>
   rw [e2]at hi;exact Ends.eqv (aSI d true false hg rfl hi rfl) (by simp)
  | true=>
   rw [e2]at hi;have:=inB_iff.1 e2;exact(aSJ d true true hg rfl hi rfl).ends (Ends.eqv (aZh d (by omega) d.cons 0 rfl) (by simp))
theorem aZi (m:Mod)(hl:m.funs.length≤5)(hf:∀f∈m.funs,fD f) :∀ (fs:List FunD) (i:Nat),m.funs.drop i=fs→Ends PP 0 (aEC m (i:Int)).as (.ret (.bool (fs.all kM))) (aO [] 0)
 | [],i,h=>by
  have:=bD h;exact aS4 m i sd
 | .mk n p (.mk f0 f1 f2 f3) (.mk g0 g1 g2 g3) (.mk b0 b1 b2 b3 b4) ::fs,i,h=>by
  obtain⟨g1',g2',g3'⟩ :=aW h;obtain⟨_,_,hb'⟩ :=hf _ (mem_of_getElem? g1');have hn:=kK n;have hp:=kK p;have hf1:=aB7 (.mk f0 f1 f2 f3);have hg1:=aB7 (.mk g0 g1 g2 g3);have hb1:=aMR (.mk b0 b1 b2 b3 b4) hb';have ih:=aZi m hl hf fs (i+1) g2';rw [all_cons];cases e1:dQ n with
  |false=>rw [e1]at hn;exact Ends.eqv (aSY m i n p f0 f1 f2 f3 g0 g1 g2 g3 b0 b1 b2 b3 b4 false sd sd sd hn rfl) (by simp [kM,e1])
  | true=>
   rw [e1]at hn;cases e2:dQ p with
   |false=>rw [e2]at hp;exact Ends.eqv (aSZ m i n p f0 f1 f2 f3 g0 g1 g2 g3 b0 b1 b2 b3 b4 true false sd sd sd hn rfl hp rfl) (by simp [kM,e2])
   | true=>
    rw [e2]at hp;cases e3:sX (.mk f0 f1 f2 f3)with
    |false=>rw [e3]at hf1;exact Ends.eqv (aS0 m i n p f0 f1 f2 f3 g0 g1 g2 g3 b0 b1 b2 b3 b4 true true false sd sd sd hn rfl hp rfl hf1 rfl) (by simp [kM,e3])
    | true=>
     rw [e3]at hf1;cases e4:sX (.mk g0 g1 g2 g3)with
     |false=>rw [e4]at hg1;exact Ends.eqv (aS1 m i n p f0 f1 f2 f3 g0 g1 g2 g3 b0 b1 b2 b3 b4 true true true false sd sd sd hn rfl hp rfl hf1 rfl hg1 rfl) (by simp [kM,e4])
     | true=>
      rw [e4]at hg1;cases e5:aAJ (.mk b0 b1 b2 b3 b4)with
      |false=>rw [e5]at hb1;exact Ends.eqv (aS2 m i n p f0 f1 f2 f3 g0 g1 g2 g3 b0 b1 b2 b3 b4 true true true true false sd sd sd hn rfl hp rfl hf1 rfl hg1 rfl hb1 rfl) (by simp [kM,e5])
      |true=>rw [e5]at hb1;exact(aS3 m i n p f0 f1 f2 f3 g0 g1 g2 g3 b0 b1 b2 b3 b4 true true true true true sd sd sd hn rfl hp rfl hf1 rfl hg1 rfl hb1 rfl sd).ends (Ends.eqv ih (by simp [kM,e1,e2,e3,e4,e5]))
theorem aZj (m:Mod)(hl:m.funs.length≤5)(hl2:m.datas.length≤4)(hf:∀f∈m.funs,fD f) :∀ (ds:List DataD) (i:Nat),m.datas.drop i=ds→Ends PP 0 (aEB m (i:Int)).as (.ret (.bool (ds.all mF&&m.funs.all kM))) (aO [] 0)
 | [],i,h=>by
  have:=bD h;exact(aSX m i sd).ends (Ends.eqv (aZi m hl hf m.funs 0 rfl) (by simp))
 | d::ds,i,h=>by
  obtain⟨g1,g2,g3⟩ :=aW h;have hp:=aOk d;rw [all_cons];cases hb:mF d with
  | true=>
   rw [hb]at hp;exact(aSW m i d true sd sd sd hp rfl sd).ends (Ends.eqv (aZj m hl hl2 hf ds (i+1) g2) (by simp))
  | false=>
   rw [hb]at hp;exact Ends.eqv (aSV m i d false sd sd sd hp rfl) (by simp)
theorem aGs (m:Mod)(hf:∀f∈m.funs,fD f) :Pure PP 37 [Mod.av m] (.bool (qZ m)) :=by
 refine bC (by kernel_rfl) (by simp [keylessL,wK]) rfl ?_;have hn:=kK m.name;have hi:=eT (length m.funs:Int) 1 5;unfold qZ;cases e1:dQ m.name with
 |false=>rw [e1]at hn;exact Ends.eqv (aSR m false hn rfl) (by simp)
 | true=>
  rw [e1]at hn;by_cases h2: ((length m.datas:Nat) :Int) ≤4
  · cases e2:cC (length m.funs:Int) 1 5 with
    | false=>
     rw [e2]at hi;exact Ends.eqv (aST m true false hn rfl (by simp;omega) hi rfl) (by simp)
    | true=>
     rw [e2]at hi;have:=inB_iff.1 e2;exact(aSU m true true hn rfl (by simp;omega) hi rfl).ends (Ends.eqv (aZj m (by omega) (by omega) hf m.datas 0 rfl) (by simp [h2]))
  ·exact Ends.eqv (aSS m true hn rfl (by simp;omega)) (by simp [h2])
theorem aI1 (l:List Typ)(hl:l.length<1000000)(hf:∀t∈l,bI t<1000000) :∀ (ts:List Typ) (i:Nat),l.drop i=ts→Ends PP 0 (aIX l (i:Int)).as (.ret (.bool (ts.all sX))) (aO [] 0)
 | [],i,h=>by
  have:=bD h;exact aYr l i sd
 | .mk o n s ps::ts,i,h=>by
  obtain⟨g1,g2,g3⟩ :=aW h;have hp:=aB9 (.mk o n s ps) (hf _ (mem_of_getElem? g1));cases hb:sX (.mk o n s ps)with
  | true=>
   rw [hb]at hp;exact(aYq l i o n s ps true sd sd sd hp rfl sd).ends (Ends.eqv (aI1 l hl hf ts (i+1) g2) (by simp [hb]))
  | false=>
   rw [hb]at hp;exact Ends.eqv (aYp l i o n s ps false sd sd sd hp rfl) (by simp [hb])
theorem aT6 (l:List Typ)(hl:l.length<1000000)(hf:∀t∈l,bI t<1000000) :Pure PP 107 [.ilst 4 (Typs.av l) false,.func 108 [] []] (.bool (l.all sX)) :=
 bS (s:=aY8 l) (by kernel_rfl) (by kernel_rfl) (by simp [keylessL,keyless]) rfl ((aYo l).ends (aI1 l hl hf l 0 rfl))
theorem aOl (c:ConD)(hf:∀t∈c.args,bI t<1000000) :Pure PP 106 [ConD.av c] (.bool (nN c)) :=by
 refine bC (by kernel_rfl) (by simp [keylessL,ConD.av,keyless,aD]) rfl ?_;have hg:=eV c.name;unfold nN;cases e1:cB c.name with
 |false=>rw [e1]at hg;exact Ends.eqv (aTG c false hg rfl) (by simp)
 | true=>
  rw [e1]at hg;by_cases h2: ((length c.args:Nat) :Int) ≤3
  ·exact Ends.eqv (aTE c true _ hg rfl (by simp;omega) (aT6 c.args (by omega) hf)) (by simp [h2])
  ·exact Ends.eqv (aTF c true hg rfl (by simp;omega)) (by simp [h2])
theorem aI2 (l:List ConD)(hl:l.length<1000000)(hf:∀c∈l,∀t∈c.args,bI t<1000000) :∀ (ts:List ConD) (i:Nat),l.drop i=ts→Ends PP 0 (aIY l (i:Int)).as (.ret (.bool (ts.all nN))) (aO [] 0)
 | [],i,h=>by
  have:=bD h;exact aYv l i sd
 | c::ts,i,h=>by
  obtain⟨g1,g2,g3⟩ :=aW h;have hp:=aOl c (hf _ (mem_of_getElem? g1));cases hb:nN c with
  | true=>
   rw [hb]at hp;exact(aYu l i c true sd sd sd hp rfl sd).ends (Ends.eqv (aI2 l hl hf ts (i+1) g2) (by simp [hb]))
  | false=>
   rw [hb]at hp;exact Ends.eqv (aYt l i c false sd sd sd hp rfl) (by simp [hb])
theorem aT7 (l:List ConD)(hl:l.length<1000000)(hf:∀c∈l,∀t∈c.args,bI t<1000000) :Pure PP 105 [.ilst 2 (map ConD.av l) false,.func 106 [] []] (.bool (l.all nN)) :=
 bS (s:=aY9 l) (by kernel_rfl) (by kernel_rfl) (by simp [keylessL,keyless]) rfl ((aYs l).ends (aI2 l hl hf l 0 rfl))
def qG :Part→Bool
 | .data d=>mF d
 | .fn f=>kM f
def aEL :Part→Prop
 | .data d=>aAh d
 | .fn f=>fD f
theorem aOm (d:DataD)(hf:aAh d) :Pure PP 67 [Part.av (.data d)] (.bool (mF d)) :=by
 refine bS (s:=aXd d) (by kernel_rfl) (by kernel_rfl) (by simp [keylessL,aEn]) rfl ?_;have hg:=eV d.name;unfold mF;cases e1:cB d.name with
 |false=>rw [e1]at hg;exact Ends.eqv (aTK d false hg rfl) (by simp)
 | true=>
  rw [e1]at hg;by_cases h1: (1:Int) ≤ ((length d.cons:Nat) :Int)
  · by_cases h2: ((length d.cons:Nat) :Int) ≤5
    ·exact Ends.eqv (aTH d true _ hg rfl (by simp;omega) (by simp;omega) (aT7 d.cons (by omega) hf)) (by simp [cC,h1,h2])
    ·exact Ends.eqv (aTI d true hg rfl (by simp;omega) (by simp;omega)) (by simp [cC,h2])
  ·exact Ends.eqv (aTJ d true hg rfl (by simp;omega)) (by simp [cC,h1])
theorem aOn :∀ (f:FunD),fD f→Pure PP 67 [Part.av (.fn f)] (.bool (kM f))
 | .mk n p (.mk f0 f1 f2 f3) (.mk g0 g1 g2 g3) (.mk b0 b1 b2 b3 b4),hf=>by
  obtain⟨hf1',hg1',hb1'⟩ :=hf;refine bS (s:=aXe n p f0 f1 f2 f3 g0 g1 g2 g3 b0 b1 b2 b3 b4) (by kernel_rfl) (by kernel_rfl) (by simp [keylessL,aEn]) rfl ?_;have hn:=jD n;have hp:=jD p;have hf1:=aB9 (.mk f0 f1 f2 f3) hf1';have hg1:=aB9 (.mk g0 g1 g2 g3) hg1';have hb1:=aNy (.mk b0 b1 b2 b3 b4) hb1';unfold kM;cases e1:dQ n with
  |false=>rw [e1]at hn;exact Ends.eqv (aTP n p f0 f1 f2 f3 g0 g1 g2 g3 b0 b1 b2 b3 b4 false hn rfl) (by simp [e1])
  | true=>
   rw [e1]at hn;cases e2:dQ p with
   |false=>rw [e2]at hp;exact Ends.eqv (aTO n p f0 f1 f2 f3 g0 g1 g2 g3 b0 b1 b2 b3 b4 true false hn rfl hp rfl) (by simp [e2])
   | true=>
    rw [e2]at hp;cases e3:sX (.mk f0 f1 f2 f3)with
    |false=>rw [e3]at hf1;exact Ends.eqv (aTN n p f0 f1 f2 f3 g0 g1 g2 g3 b0 b1 b2 b3 b4 true true false hn rfl hp rfl hf1 rfl) (by simp [e3])
    | true=>
     rw [e3]at hf1;cases e4:sX (.mk g0 g1 g2 g3)with
     |false=>rw [e4]at hg1;exact Ends.eqv (aTM n p f0 f1 f2 f3 g0 g1 g2 g3 b0 b1 b2 b3 b4 true true true false hn rfl hp rfl hf1 rfl hg1 rfl) (by simp [e4])
     | true=>
      rw [e4]at hg1;exact Ends.eqv (aTL n p f0 f1 f2 f3 g0 g1 g2 g3 b0 b1 b2 b3 b4 true true true true _ hn rfl hp rfl hf1 rfl hg1 rfl hb1) (by cases e5:aAJ (.mk b0 b1 b2 b3 b4) <;>simp [e1,e2,e3,e4,e5])
theorem aEM (l:List Part)(hl:l.length<1000000)(hf:∀x∈l,aEL x) :∀ (ts:List Part) (i:Nat),l.drop i=ts→Ends PP 0 (aEI l (i:Int)).as (.ret (.bool (ts.all qG))) (aO [] 0)
 | [],i,h=>by
  have:=bD h;exact aTT l i sd
 | .data d::ts,i,h=>by
  obtain⟨g1,g2,g3⟩ :=aW h;have hp:=aOm d (hf _ (mem_of_getElem? g1));rw [all_cons,qG];cases hb:mF d with
  | true=>
   rw [hb]at hp;exact(aTS l i d true sd sd sd hp rfl sd).ends (Ends.eqv (aEM l hl hf ts (i+1) g2) (by simp))
  | false=>
   rw [hb]at hp;exact Ends.eqv (aTR l i d false sd sd sd hp rfl) (by simp)
 | .fn (.mk n p (.mk f0 f1 f2 f3) (.mk g0 g1 g2 g3) (.mk b0 b1 b2 b3 b4)) ::ts,i,h=>by
  obtain⟨q1,q2,q3⟩ :=aW h;have hp:=aOn (.mk n p (.mk f0 f1 f2 f3) (.mk g0 g1 g2 g3) (.mk b0 b1 b2 b3 b4)) (hf _ (mem_of_getElem? q1));rw [all_cons,qG];cases hb:kM (.mk n p (.mk f0 f1 f2 f3) (.mk g0 g1 g2 g3) (.mk b0 b1 b2 b3 b4))with
  | true=>
   rw [hb]at hp;exact(aTV l i n p f0 f1 f2 f3 g0 g1 g2 g3 b0 b1 b2 b3 b4 true sd sd sd hp rfl sd).ends (Ends.eqv (aEM l hl hf ts (i+1) q2) (by simp))
  | false=>
   rw [hb]at hp;exact Ends.eqv (aTU l i n p f0 f1 f2 f3 g0 g1 g2 g3 b0 b1 b2 b3 b4 false sd sd sd hp rfl) (by simp)
theorem aT8 (l:List Part)(hl:l.length<1000000)(hf:∀x∈l,aEL x) :Pure PP 66 [.ilst 1 (Parts.av l) false,.func 67 [] []] (.bool (l.all qG)) :=
 bS (s:=aXf l) (by kernel_rfl) (by kernel_rfl) (by simp [keylessL,keyless]) rfl ((aTQ l).ends (aEM l hl hf l 0 rfl))
theorem aZk (m:Mod)(h5:m.funs.length≤5)(l0:List Part)(hl0:l0.length≤10)(hf0:∀x∈l0,aEL x)(hf:∀f∈m.funs,fD f) :∀ (fs:List FunD) (i:Nat) (l:List Part),m.funs.drop i=fs→l=l0++ (m.funs.take i).map Part.fn →
  Ends PP 0 (aEK m l (i:Int)).as (.ret (.int .i64 (if(l0.all qG&&m.funs.all kM) =true then 0 else 2))) (aO [] 0)
 | [],i,l,h,e=>by
  have:=bD h;have e2:l=l0++m.funs.map Part.fn:=by rw [e,List.take_of_length_le this]
  have hp:=aT8 l (by rw [e2];simp;omega) (fun x hx=>by
   rw [e2]at hx;rcases List.mem_append.1 hx with hx|hx
   ·exact hf0 x hx
   · obtain⟨f,hf',rfl⟩ :=List.mem_map.1 hx;exact hf f hf')
  have ea:l.all qG= (l0.all qG&&m.funs.all kM) :=by
   rw [e2,List.all_append,all_map];rfl
  rw [ea]at hp;cases hb: (l0.all qG&&m.funs.all kM)with
  |true=>rw [hb]at hp;exact Ends.eqv (aT5 m l i true sd hp rfl) (by simp)
  |false=>rw [hb]at hp;exact Ends.eqv (aT4 m l i false sd hp rfl) (by simp)
 | .mk n p (.mk f0 f1 f2 f3) (.mk g0 g1 g2 g3) (.mk b0 b1 b2 b3 b4) ::fs,i,l,h,e=>by
  obtain⟨q1,q2,q3⟩ :=aW h;have hi:i<m.funs.length:= (List.getElem?_eq_some_iff.1 q1).1;refine(aT3 m l i n p f0 f1 f2 f3 g0 g1 g2 g3 b0 b1 b2 b3 b4 sd sd sd (by rw [e];simp;omega) sd).ends ?_;refine aZk m h5 l0 hl0 hf0 hf fs (i+1) _ q2 ?_;rw [e,take_add_one,q1];simp
theorem aZl (m:Mod)(h5:m.funs.length≤5)(h4:m.datas.length≤4)(hf:∀f∈m.funs,fD f)(hd:∀d∈m.datas,aAh d) :∀ (ds:List DataD) (i:Nat) (l:List Part),m.datas.drop i=ds→l= (m.datas.take i).map Part.data →
  Ends PP 0 (aEJ m (i:Int) l).as (.ret (.int .i64 (if(m.datas.all mF&&m.funs.all kM) =true then 0 else 2))) (aO [] 0)
 | [],i,l,h,e=>by
  have:=bD h;have e2:l=m.datas.map Part.data:=by rw [e,List.take_of_length_le this]
  have E:=aZk m h5 l (by rw [e2];simp;omega) (fun x hx=>by
   rw [e2]at hx;obtain⟨d,hd',rfl⟩ :=List.mem_map.1 hx;exact hd d hd') hf m.funs 0 l rfl (by simp)
  have ea:l.all qG=m.datas.all mF:=by rw [e2,all_map];rfl
  rw [ea]at E;exact(aT2 m i l sd).ends E
 | d::ds,i,l,h,e=>by
  obtain⟨g1,g2,g3⟩ :=aW h;have hi:i<m.datas.length:= (List.getElem?_eq_some_iff.1 g1).1;refine(aT1 m i l d sd sd sd (by rw [e];simp;omega) sd).ends ?_;refine aZl m h5 h4 hf hd ds (i+1) _ g2 ?_;rw [e,take_add_one,g1];simp
theorem aGt (m:Mod)(hf:∀f∈m.funs,fD f)(hd:∀d∈m.datas,aAh d) :Pure PP 24 [Mod.av m] (.int .i64 (if qZ m=true then 0 else 2)) :=by
 refine bS (s:=aXg m) (by kernel_rfl) (by kernel_rfl) (by simp [keylessL,wK]) (by simp [keyless]) ?_;have hn:=jD m.name;unfold qZ;cases e1:dQ m.name with
 |false=>rw [e1]at hn;exact Ends.eqv (aTW m false hn rfl) (by simp)
 | true=>
  rw [e1]at hn;by_cases h2: ((length m.datas:Nat) :Int) ≤4
  · by_cases h3: (1:Int) ≤ ((length m.funs:Nat) :Int)
    · by_cases h4: ((length m.funs:Nat) :Int) ≤5
      ·exact(aT0 m true hn rfl (by simp;omega) (by simp;omega) (by simp;omega)).ends (Ends.eqv (aZl m (by omega) (by omega) hf hd m.datas 0 [] rfl (by simp)) (by simp [cC,h2,h3,h4]))
      ·exact Ends.eqv (aTZ m true hn rfl (by simp;omega) (by simp;omega) (by simp;omega)) (by simp [cC,h4])
    ·exact Ends.eqv (aTY m true hn rfl (by simp;omega) (by simp;omega)) (by simp [cC,h3])
  ·exact Ends.eqv (aTX m true hn rfl (by simp;omega)) (by simp [h2])
def pre (p:Prog) :Nat→Int→List Int
 |0,_=>[]
 | f+1,a=>match p.nodes[a.toNat]? with
  |some x=>a:: (x.kids.map (pre p f)).flatten
  |none=>[]
def aOo :List Int→Int→List Int→List Int
 |l,_,[] =>l
 |l,n,b::bs=>aOo (l.set b.toNat n) (n+1) bs
section
variable {p :Prog}
end
section
variable {p :Prog} {mf mc:List (Int×Int)} {F C:List Int} {to:List Int}
end
def aOp (x:Node)(i:Nat) :Nat→List Int→List Int→List Int
 |_,[],l=>l
 |j,k::ks,l=>aOp x i (j+1) ks (l.set k.toNat (l.getD i 0+aGc x j))
def aI3 :Nat→List Node→List Int→List Int
 |_,[],l=>l
 |i,x::t,l=>aI3 (i+1) t (aOp x i 0 x.kids l)
def aOq :List Int→List Int→List Int
 | [],l=>l
 |f::fs,l=>aOq fs (l.set f.toNat 1)
def aH0 (p:Prog) :List Int:=aI3 0 p.nodes (aOq p.funs (replicate p.nodes.length 0))
theorem yR {lo n:Int}:∀ {ks:List Int} {u v:List Bool},marks lo n ks u=some v→∀k∈ks,lo≤k∧k≤n-1
 | [],_,_,_,k,hk=>by cases hk
 | a ::ks,u,v,h,k,hk=>by
  simp only [marks]at h;split at h
  · rename_i g;rcases List.mem_cons.1 hk with rfl|hk
    ·exact inB_iff.1 g.1
    ·exact yR h k hk
  ·cases h
theorem aH1 {lo n k:Int}{ks:List Int}{u v:List Bool}(h:marks lo n (k::ks) u=some v) :u[k.toNat]?=some false∧marks lo n ks (u.set k.toNat true) =some v:=by
 simp only [marks]at h;split at h
 ·rename_i g;exact⟨g.2,h⟩
 ·cases h
theorem nO {p:Prog}{i:Nat}{x:Node}{t:List Node}{u v:List Bool}(h:hI p i (x::t) u=some v) :qE p x=true∧∃w,marks ((i:Int) +1) p.nodes.length x.kids u=some w∧hI p (i+1) t w=some v:=by
 simp only [hI]at h;split at h
 · rename_i g;split at h
   ·rename_i w hw;exact⟨g,w,hw,h⟩
   ·cases h
 ·cases h
theorem yS {p:Prog}:∀ {t:List Node} {i:Nat} {u v:List Bool},hI p i t u=some v→v.length=u.length
 | [],i,u,v,h=>by simp only [hI,Option.some.injEq]at h;rw [h]
 | x::t,i,u,v,h=>by
  obtain⟨_,w,hw,h2⟩ :=nO h;rw [yS h2,aAf hw]
theorem qH {p:Prog}:∀ {t:List Node} {i:Nat} {u v:List Bool},hI p i t u=some v→∀ (j:Nat) (x:Node),t[j]?=some x→qE p x=true∧∀k∈x.kids,((i+j:Nat) :Int) <k∧k<p.nodes.length
 | [],i,u,v,h,j,x,hx=>by simp at hx
 | y::t,i,u,v,h,j,x,hx=>by
  obtain⟨g,w,hw,h2⟩ :=nO h;cases j with
  | zero=>
   simp at hx;subst hx;exact⟨g,fun k hk=>by have:=yR hw k hk;omega⟩
  | succ j=>
   have:=qH h2 j x (by simpa using hx);exact⟨this.1,fun k hk=>by have:=this.2 k hk;omega⟩
structure Sprop (p:Prog) (S:List Int) :Prop where
 len:S.length=p.nodes.length
 root:∀f∈p.funs,S[f.toNat]?=some 1
 kid:∀ (i:Nat) (x:Node) (d:Nat) (k:Int),p.nodes[i]?=some x→x.kids[d]?=some k→∃s,S[i]?=some s∧S[k.toNat]?=some (s+aGc x d)
inductive Reach (p:Prog) :Nat→Nat→Prop where
 |refl (a:Nat) :Reach p a a
 |step {a i:Nat} {x:Node} {k:Int}:Reach p a i→p.nodes[i]?=some x→k∈x.kids→Reach p a k.toNat
theorem Reach.first {p:Prog}{a m:Nat}(h:Reach p a m) :m=a∨∃ (x:Node) (k:Int),p.nodes[a]?=some x∧k∈x.kids∧Reach p k.toNat m:=by
 induction h with
 |refl=>exact .inl rfl
 | step h hx hk ih=>
  rename_i i x k;rcases ih with rfl| ⟨y,q,h1,h2,h3⟩
  ·exact .inr ⟨x,k,hx,hk,Reach.refl _⟩
  ·exact .inr ⟨y,q,h1,h2,h3.step hx hk⟩
theorem aAN {p:Prog}(hp:jS p=true)(hf:gP p=true) :FineP p:=by
 have hs:=hp;simp only [jS,and_eq_true,decide_eq_true_eq]at hs;obtain⟨⟨⟨⟨s1,s2⟩,s3⟩,_⟩,s5⟩ :=hs;simp only [gP,and_eq_true]at hf;obtain⟨_,hf⟩ :=hf;split at hf
 · rename_i u hu;unfold allT at hf;split at hf
   · rename_i v hv;refine⟨s1,s2,fun i x hx=>?_,fun f hf=>?_⟩
     · have:=qH hv i x hx;have h10:=List.all_eq_true.1 s5 x (mem_of_getElem? hx);simp only [aAd,and_eq_true,decide_eq_true_eq]at h10;exact⟨aQ7 this.1,h10.1.1,fun k hk=>by have:=this.2 k hk;omega⟩
     ·have:=yR hu f hf;omega
   ·cases hf
 ·cases hf
theorem aCf {cons:List Con}:∀ {ps:List Pat},(∀q∈ps,aDr cons q=true) →wG cons ps=true
 | [],_=>rfl
 | q::ps,h=>by
  rw [wG,h q (mem_cons_self ..),aCf (fun x hx=>h x (mem_cons_of_mem _ hx))];rfl
def dX (p:Prog)(i:Int) :List Int:=match p.nodes[i.toNat]? with
 |some x=>x.kids
 |none=>[]
section
variable {p :Prog}
theorem wL {q:Int→List Int}(m:Int) :∀ (ks:List Int),(∀k∈ks,(q k).count m= [k].count m+ (((q k).map (dX p)).flatten).count m) →
  ((ks.map q).flatten).count m=ks.count m+ ((((ks.map q).flatten).map (dX p)).flatten).count m
 | [],_=>rfl
 | k::ks,h=>by
  have h1:=h k (mem_cons_self ..);have h2:=wL m ks (fun x hx=>h x (mem_cons_of_mem _ hx));rw [map_cons,flatten_cons,count_append,List.map_append,List.flatten_append,count_append,h1,h2,show k::ks= [k] ++ks from rfl,count_append];omega
theorem aDu (hp:FineP p)(m:Int) :∀ (f:Nat) (a:Int),0≤a→a<p.nodes.length→p.nodes.length-a.toNat≤f→ (pre p f a).count m= [a].count m+ (((pre p f a).map (dX p)).flatten).count m
 |0,a,ha,hn,hf=>by omega
 | f+1,a,ha,hn,hf=>by
  obtain⟨x,hx⟩ :∃x,p.nodes[a.toNat]?=some x:= ⟨_,getElem?_eq_getElem (by omega)⟩;obtain⟨_,_,hks⟩ :=hp.node _ _ hx;have e:pre p (f+1) a=a:: (x.kids.map (pre p f)).flatten:=by rw [pre,hx]
  have ek:dX p a=x.kids:=by unfold dX;rw [hx]
  have h2:=wL (p:=p) m x.kids (fun k hk=>by
   have:=hks k hk;exact aDu hp m f k (by omega) (by omega) (by omega))
  rw [e,map_cons,flatten_cons,count_append,ek,show a:: (x.kids.map (pre p f)).flatten= [a] ++ (x.kids.map (pre p f)).flatten from rfl,count_append,h2]
theorem aOr (hp:FineP p) :∀ (f:Nat) (a:Int),0≤a→a<p.nodes.length→∀y∈pre p f a,0≤y∧y<p.nodes.length
 |0,a,_,_,y,hy=>by cases hy
 | f +1,a,ha,hn,y,hy=>by
  obtain⟨x,hx⟩ :∃x,p.nodes[a.toNat]?=some x:= ⟨_,getElem?_eq_getElem (by omega)⟩;obtain⟨_,_,hks⟩ :=hp.node _ _ hx;have e:pre p (f+1) a=a:: (x.kids.map (pre p f)).flatten:=by rw [pre,hx]
  rw [e]at hy;rcases List.mem_cons.1 hy with rfl|hy
  ·exact⟨ha,hn⟩
  · obtain⟨l,hl,hy⟩ :=List.mem_flatten.1 hy;obtain⟨k,hk,rfl⟩ :=List.mem_map.1 hl;have:=hks k hk;exact aOr hp f k (by omega) (by omega) y hy
def sZ (u:List Bool)(m:Int) :Nat:=if u[m.toNat]?=some true then 1 else 0
theorem nC {lo n:Int}(hlo:0≤lo){m:Int}(hm:0≤m) :∀ {ks:List Int} {u v:List Bool},marks lo n ks u=some v→ks.count m+sZ u m=sZ v m
 | [],u,v,h=>by cases h;simp
 | k ::ks,u,v,h=>by
  have hk:=yR h k (mem_cons_self ..);obtain⟨h1,h2⟩ :=aH1 h;have h3:=nC hlo hm h2;rw [←h3,show k::ks= [k] ++ks from rfl,count_append];have hlt:= (List.getElem?_eq_some_iff.1 h1).1;by_cases e:k=m
  · subst e;have a1:sZ u k=0:=by unfold sZ;rw [h1];rfl
    have a2:sZ (u.set k.toNat true) k=1:=by unfold sZ;rw [List.getElem?_set_self hlt];rfl
    rw [a1,a2];simp;omega
  · have a1:sZ (u.set k.toNat true) m=sZ u m:=by unfold sZ;rw [List.getElem?_set_ne (by omega)]
    rw [a1,List.count_singleton,if_neg (by simpa using e)];omega
theorem mG {m:Int}(hm:0≤m) :∀ {t:List Node} {i:Nat} {u v:List Bool},hI p i t u=some v→ ((t.map Node.kids).flatten).count m+sZ u m=sZ v m
 | [],i,u,v,h=>by simp only [hI,Option.some.injEq]at h;subst h;simp
 | x::t,i,u,v,h=>by
  obtain⟨_,w,h1,h2⟩ :=nO h;have h3:=nC (by omega) hm h1;have h4:=mG hm h2;rw [map_cons,flatten_cons,count_append];omega
theorem aDv {m:Int}:∀ {t:List Node},((t.map Node.kids).flatten).count m≤1→∀ (i j:Nat) (x y:Node),t[i]?=some x→t[j]?=some y→m∈x.kids→m∈y.kids→i=j
 | [],_,i,j,x,y,hx,_,_,_=>by simp at hx
 | z ::t,h,i,j,x,y,hx,hy,mx,my=>by
  rw [map_cons,flatten_cons,count_append]at h;have inT:∀ {i:Nat} {x:Node},t[i]?=some x→m∈x.kids→0< ((t.map Node.kids).flatten).count m:=fun {i x} hx mx=>
   List.count_pos_iff.2 (List.mem_flatten.2 ⟨x.kids,List.mem_map.2 ⟨x,mem_of_getElem? hx,rfl⟩,mx⟩)
  cases i with
  | zero=>
   simp only [List.getElem?_cons_zero,Option.some.injEq]at hx;subst hx;cases j with
   |zero=>rfl
   | succ j=>
    simp only [getElem?_cons_succ]at hy;have:=inT hy my;have:=List.count_pos_iff.2 mx;omega
  | succ i=>
   simp only [getElem?_cons_succ]at hx;cases j with
   | zero=>
    simp only [List.getElem?_cons_zero,Option.some.injEq]at hy;subst hy;have:=inT hx mx;have:=List.count_pos_iff.2 my;omega
   | succ j=>
    simp only [getElem?_cons_succ]at hy;rw [aDv (by omega) i j x y hx hy mx my]
theorem aI4 {m:Int}:∀ {t:List Node} {i:Nat} {x:Node},t[i]?=some x→x.kids.count m≤ ((t.map Node.kids).flatten).count m
 | [],i,x,hx=>by simp at hx
 | z::t,0,x,hx=>by
  simp only [List.getElem?_cons_zero,Option.some.injEq]at hx;subst hx;rw [map_cons,flatten_cons,count_append];omega
 | z::t,i+1,x,hx=>by
  simp only [getElem?_cons_succ]at hx;have:=aI4 (m:=m) hx;rw [map_cons,flatten_cons,count_append];omega
theorem aI5 {m i:Int}:∀ (L:List Int),(∀j∈L,m∈dX p j→j=i) → ((L.map (dX p)).flatten).count m≤L.count i* (dX p i).count m
 | [],_=>by simp
 | j ::L,h=>by
  have h1:=aI5 L (fun x hx=>h x (mem_cons_of_mem _ hx));rw [map_cons,flatten_cons,count_append,show j::L= [j] ++L from rfl,count_append,Nat.add_mul];by_cases hm:m∈dX p j
  · have:=h j (mem_cons_self ..) hm;subst this;simp;exact h1
  · rw [List.count_eq_zero.2 hm];exact Nat.le_trans (by simpa using h1) (Nat.le_add_left ..)
theorem bAL (hp:FineP p)(hK:∀m:Int,0≤m→p.funs.count m+ ((p.nodes.map Node.kids).flatten).count m≤1){L:List Int}(hin:∀x∈L,0≤x∧x<p.nodes.length)(hL:∀m:Int,L.count m=p.funs.count m+ ((L.map (dX p)).flatten).count m) :∀ (b m:Nat),m≤b→L.count (m:Int) ≤1:=by
 intro b
 induction b with
 | zero=>
  intro m hmb;have hm:m=0:=by omega
  subst hm;have e:=hL ((0:Nat) :Int);have z: ((L.map (dX p)).flatten).count ((0:Nat) :Int) =0:=by
   refine List.count_eq_zero.2 (fun h=>?_);obtain⟨l,hl,hy⟩ :=List.mem_flatten.1 h;obtain⟨j,hj,rfl⟩ :=List.mem_map.1 hl;unfold dX at hy;split at hy
   · rename_i x hx;have:= (hp.node _ _ hx).2.2 _ hy;omega
   ·cases hy
  have:=hK ((0:Nat) :Int) (by omega);omega
 | succ b ih=>
  intro m hmb;have e:=hL (m:Int);have hk:=hK (m:Int) (by omega);by_cases hz: ((L.map (dX p)).flatten).count (m:Int) =0
  ·omega
  · have hpos:=List.count_pos_iff.1 (Nat.pos_of_ne_zero hz);obtain⟨l,hl,hy⟩ :=List.mem_flatten.1 hpos;obtain⟨i,hi,rfl⟩ :=List.mem_map.1 hl;have hir:=hin i hi;obtain⟨x,hx⟩ :∃x,p.nodes[i.toNat]?=some x:= ⟨_,getElem?_eq_getElem (by omega)⟩;have ei:dX p i=x.kids:=by unfold dX;rw [hx]
    rw [ei]at hy;have him:= (hp.node _ _ hx).2.2 _ hy;have hci:L.count i≤1:=by
     have:=ih i.toNat (by omega);rwa [show((i.toNat:Nat) :Int) =i by omega]at this
    have hle:=aI5 (p:=p) (m:= (m:Int)) (i:=i) L (fun j hj hmj=>by
     have hjr:=hin j hj;obtain⟨y,hy'⟩ :∃y,p.nodes[j.toNat]?=some y:= ⟨_,getElem?_eq_getElem (by omega)⟩;have ej:dX p j=y.kids:=by unfold dX;rw [hy']
     rw [ej]at hmj;have:=aDv (by omega) _ _ y x hy' hx hmj hy;omega)
    rw [ei]at hle;have hkl:=aI4 (m:= (m:Int)) hx;have:L.count i*x.kids.count (m:Int) ≤1*x.kids.count (m:Int) :=Nat.mul_le_mul_right _ hci;omega
theorem uB :∀ (n:Nat) (l:List Nat),l.Nodup→ (∀x∈l,x<n) →l.length≤n
 |0,[],_,_=>by simp
 |0,x::l,_,h=>by have:=h x (mem_cons_self ..);omega
 | n+1,l,hd,h=>by
  by_cases hm:n∈l
  · have h1:=uB n (l.erase n) (hd.erase n) (fun x hx=>by
     have:=h x (List.mem_of_mem_erase hx)
     have hne:x≠n:=fun e=>by
      subst e;exact hd.not_mem_erase hx
     omega)
    rw [List.length_erase_of_mem hm]at h1;omega
  · have:=uB n l hd (fun x hx=>by
     have:=h x hx;have hne:x≠n:=fun e=>hm (e ▸ hx);omega)
    omega
end
theorem aCg {L:List Int}(h:∀a,L.count a≤1) :L.Nodup:=List.nodup_iff_count.2 h
theorem aI6 :∀ (n:Nat) (l:List Int),(∀i:Nat,i<n→ (i:Int) ∈l) →n≤l.length
 |0,l,_=>Nat.zero_le _
 | n+1,l,h=>by
  have h0:=h n (Nat.lt_succ_self n);have h1:=aI6 n (l.erase (n:Int)) (fun i hi=> (List.mem_erase_of_ne (by omega)).2 (h i (by omega)));rw [List.length_erase_of_mem h0]at h1;have:=List.length_pos_of_mem h0;omega
theorem all_in {p:Prog}(hp:FineP p)(hK:∀m:Nat,m<p.nodes.length→p.funs.count (m:Int) + ((p.nodes.map Node.kids).flatten).count (m:Int) =1){L:List Int}(hL:∀m:Int,L.count m=p.funs.count m+ ((L.map (dX p)).flatten).count m) :∀ (b m:Nat),m≤b→m<p.nodes.length→ (m:Int) ∈L:=by
 intro b
 induction b with
 | zero=>
  intro m hmb hm;have e:=hL (m:Int);have hk:=hK m hm;by_cases hz: ((p.nodes.map Node.kids).flatten).count (m:Int) =0
  ·exact List.count_pos_iff.1 (by omega)
  · obtain⟨l,hl,hy⟩ :=List.mem_flatten.1 (List.count_pos_iff.1 (Nat.pos_of_ne_zero hz));obtain⟨x,hx,rfl⟩ :=List.mem_map.1 hl;obtain⟨i,hi⟩ :=List.mem_iff_getElem?.1 hx;have:= (hp.node _ _ hi).2.2 _ hy;omega
 | succ b ih=>
  intro m hmb hm;have e:=hL (m:Int);have hk:=hK m hm;by_cases hz: ((p.nodes.map Node.kids).flatten).count (m:Int) =0
  ·exact List.count_pos_iff.1 (by omega)
  · obtain⟨l,hl,hy⟩ :=List.mem_flatten.1 (List.count_pos_iff.1 (Nat.pos_of_ne_zero hz));obtain⟨x,hx,rfl⟩ :=List.mem_map.1 hl;obtain⟨i,hi⟩ :=List.mem_iff_getElem?.1 hx;have him:= (hp.node _ _ hi).2.2 _ hy;have hiL:=ih i (by omega) (by omega);have: (m:Int) ∈ (L.map (dX p)).flatten:=List.mem_flatten.2 ⟨x.kids,List.mem_map.2 ⟨(i:Int),hiL,by unfold dX;rw [Int.toNat_natCast,hi]⟩,hy⟩;have:=List.count_pos_iff.2 this;exact List.count_pos_iff.1 (by omega)
theorem aH2 {p:Prog}(hs:jS p=true)(hf:gP p=true) : ((p.funs.map (pre p p.nodes.length)).flatten).Nodup∧ ((p.funs.map (pre p p.nodes.length)).flatten).length=p.nodes.length∧ (∀x∈ (p.funs.map (pre p p.nodes.length)).flatten,0≤x∧x<p.nodes.length) ∧
  (∀ (i:Nat) (x:Node),p.nodes[i]?=some x→qE p x=true) :=by
 have hp:=aAN hs hf;simp only [gP,and_eq_true]at hf;obtain⟨_,hf⟩ :=hf;split at hf
 · rename_i u hu;unfold allT at hf;split at hf
   · rename_i v hv
     have hK:∀m:Int,0≤m→p.funs.count m+ ((p.nodes.map Node.kids).flatten).count m≤1:=fun m hm=>by
      have h1:=nC (by omega) hm hu;have h2:=mG hm hv;have h3:sZ v m≤1:=by unfold sZ;split<;>omega
      omega
     have hin:∀x∈ (p.funs.map (pre p p.nodes.length)).flatten,0≤x∧x<p.nodes.length:=fun x hx=>by
      obtain⟨l,hl,hy⟩ :=List.mem_flatten.1 hx;obtain⟨k,hk,rfl⟩ :=List.mem_map.1 hl;have:=hp.funs k hk;exact aOr hp _ k this.1 this.2 x hy
     have hL:∀m:Int,((p.funs.map (pre p p.nodes.length)).flatten).count m=p.funs.count m+ ((((p.funs.map (pre p p.nodes.length)).flatten).map (dX p)).flatten).count m:=fun m=>wL m p.funs (fun k hk=>by
      have:=hp.funs k hk;exact aDu hp m _ k this.1 this.2 (by omega))
     have hd: ((p.funs.map (pre p p.nodes.length)).flatten).Nodup:=aCg (fun a=>by
      by_cases ha:a∈ (p.funs.map (pre p p.nodes.length)).flatten
      · have hr:=hin a ha;have:=bAL hp hK hin hL a.toNat a.toNat (Nat.le_refl _);rwa [show((a.toNat:Nat) :Int) =a by omega]at this
      ·rw [List.count_eq_zero.2 ha];omega)
     refine⟨hd,?_,hin,fun i x hx=> (qH hv i x hx).1⟩;have hd2: (((p.funs.map (pre p p.nodes.length)).flatten).map Int.toNat).Nodup:=by
      rw [List.nodup_iff_pairwise_ne]at hd ⊢;refine List.pairwise_map.2 (hd.imp_of_mem (fun {a b} ha hb hne e=>?_));have:=hin a ha;have:=hin b hb;exact hne (by omega)
     have:=uB p.nodes.length _ hd2 (fun x hx=>by
      obtain⟨y,hy,rfl⟩ :=List.mem_map.1 hx;have:=hin y hy;omega)
     rw [List.length_map]at this;refine Nat.le_antisymm this (aI6 _ _ (fun i hi=>all_in hp (fun m hm=>?_) hL i i (Nat.le_refl _) hi));have h1:=nC (m:= (m:Int)) (by omega) (by omega) hu;have h2:=mG (m:= (m:Int)) (by omega) hv;have hl1:=aAf hu;have hl2:=yS hv;rw [List.length_replicate]at hl1;have h3:sZ (replicate p.nodes.length false) (m:Int) =0:=by
      unfold sZ;rw [Int.toNat_natCast,List.getElem?_replicate,if_pos hm];rfl
     have h4:sZ v (m:Int) =1:=by
      unfold sZ;have hlt:m<v.length:=by omega
      have:=List.all_eq_true.1 hf _ (List.getElem_mem hlt);rw [Int.toNat_natCast,getElem?_eq_getElem hlt,this];rfl
     omega
   ·cases hf
 ·cases hf
def aI7 (s:aE) :List Con→Int→Int
 | [],_=> -1
 |c::t,i=>if c.name=s then i else aI7 s t (i+1)
def bAM (x:Node) :Prop:=x.kids.length<1000000∧aZ x.pats<1000000
structure FitP (q:Prog) :Prop where
 nodes:q.nodes.length≤1000000
 funs:q.funs.length<1000000
 cons:q.cons.length<1000000
 node:∀x∈q.nodes,bAM x
def FunD.nm :FunD→aE
 | .mk n _ _ _ _=>n
def aOs (l:List aE)(s:aE) :Nat→Int
 |0=> -1
 |i+1=>if l[i]?=some s then(i:Int)else aOs l s i
def aAi (l:List aE)(s:aE) :Int:=aOs l s l.length
def aCh (op:Int)(s:aE)(ps:List Pat)(k:Nat) :List aE:=
 if op=5∨op=27 then [s]else if op=7 then(if k=1 then [s]else [])else if op=15 then(match k with|0=>[] |j+1=>match ps[j]? with|some p=>fO p|none=>[])else []
abbrev UB :List (AV×Bool) :=[((.iface 999999 (.agg [])),false)]
abbrev MSI (ml:List (aE×Int)) :AObj:=.map (aN aD avI 0 ml) (length ml)
structure WS where
 l:List Con
 mc:List (aE×Int)
 ar:List Int
def aZm (mc:List (aE×Int))(ar:List Int)(s:aE)(k:Int) :Option Int:=
 match fS s mc with
 |none=>none
 |some n=>if ar[n.toNat]?=some k then some n else none
def aZn (mf:List (aE×Int))(pl:List aE)(s:aE) :Option Int:=
 if 0≤aAi pl s then some (aAi pl s)else match fS s mf with
  |none=>none
  |some f=>some (-1-f)
def aZo (n:Int) :aE:=[UInt8.ofNat n.toNat]
def aEN(a b:Int)(c:aE)(d:List Typ)(e f:Int)(g:aE)(i:List Typ)(j:Int):TS:=⟨(tf 43 53 [kp 2 0,kp 3 1,(4,(bV false)),(5,(nI j))] [kc f43 116,kl f43 116,.inBlock 0,kc f43 15]),[],[oC 0 [(nI a),(nI b),(aD c),(.ilst 4 (Typs.av d) false)],oC 1 [(nI e),(nI f),(aD g),(.ilst 4 (Typs.av i) false)]],2⟩
def aCi(a b:DataD)(c:Int):TS:=⟨(tf 42 73 [kp 2 0,kp 3 1,(4,(bV false)),(5,(nI c))] [kc f42 116,kl f42 116,.inBlock 0,kc f42 15]),[],[oC 0 [(aD a.name),(.ilst 2 (map ConD.av a.cons) false)],oC 1 [(aD b.name),(.ilst 2 (map ConD.av b.cons) false)]],2⟩
def aCj(a b:DataD)(c:aE)(d:List Typ)(e:aE)(f:List Typ)(g i:Int):TS:=⟨(tf 42 73 [kp 2 0,kp 3 1,(4,(bV false)),(5,(nI i)),kp 6 2,kp 7 3,(8,(nI g))] [kc f42 29852,kl f42 29852,.inBlock 2,.inBlock 1,kc f42 467,kl f42 116,.inBlock 0,kc f42 15]),[],[oC 0 [(aD a.name),(.ilst 2 (map ConD.av a.cons) false)],oC 1 [(aD b.name),(.ilst 2 (map ConD.av b.cons) false)],oC 2 [(aD c),(.ilst 4 (Typs.av d) false)],oC 3 [(aD e),(.ilst 4 (Typs.av f) false)]],4⟩
def aEO(a b:Mod)(c:Int):TS:=⟨(tf 8 104 [kp 2 0,kp 3 1,(4,(bV false)),(5,(nI c))] [kc f8 116,kl f8 116,.inBlock 0,kc f8 15]),[],[oC 0 [(aD a.name),(.ilst 2 (map DataD.av a.datas) false),(.ilst 15 (FunDs.av a.funs) false)],oC 1 [(aD b.name),(.ilst 2 (map DataD.av b.datas) false),(.ilst 15 (FunDs.av b.funs) false)]],2⟩
def aEP(a b:Mod)(c:Int):TS:=⟨(tf 8 104 [kp 2 0,kp 3 1,(4,(bV false)),(6,(nI c))] [kc f8 244,kl f8 244,.inBlock 2,kc f8 31]),[],[oC 0 [(aD a.name),(.ilst 2 (map DataD.av a.datas) false),(.ilst 15 (FunDs.av a.funs) false)],oC 1 [(aD b.name),(.ilst 2 (map DataD.av b.datas) false),(.ilst 15 (FunDs.av b.funs) false)]],2⟩
def aXj(a:List Con):TS:=cK PP 40 [(iC a)] [] 0
def aEQ(b:List Con)(c:Int)(a:List aE):TS:=⟨(tf 40 20 [(0,(iC b)),(2,.nils),(3,(.gl 0 1 0 a.length false)),(4,(nI c))] [kc f40 116,kl f40 116,.inBlock 0,kc f40 15]),[],[oL 0 1 (map aD a)],1⟩
def aXk(a:Mod):TS:=cK PP 41 [(.agg [(aD a.name),(.ilst 2 (map DataD.av a.datas) false),(.ilst 15 (FunDs.av a.funs) false)])] [] 0
def aCk(a:Mod)(c:Int)(b:List Con):TS:=⟨(tf 41 44 [kp 1 0,(2,.nils),(3,(.gl 1 2 0 b.length false)),(4,(nI c))] [kc f41 116,kl f41 116,.inBlock 0,kc f41 15]),[],[oC 0 [(aD a.name),(.ilst 2 (map DataD.av a.datas) false),(.ilst 15 (FunDs.av a.funs) false)],oL 1 2 (jC b)],2⟩
def aER(a:Mod)(c:Int)(b:List Con)(d:Int):TS:=⟨(tf 41 44 [kp 1 0,(2,.nils),(3,(.gl 1 2 0 b.length false)),(4,(nI d)),(5,(nI c))] [kc f41 7460,kl f41 7460,.inBlock 2,.inBlock 1,kc f41 467,kl f41 116,.inBlock 0,kc f41 15]),[],[oC 0 [(aD a.name),(.ilst 2 (map DataD.av a.datas) false),(.ilst 15 (FunDs.av a.funs) false)],oL 1 2 (jC b)],2⟩
def aXl(a b:Int)(c:aE)(d:List Typ):TS:=cK PP 29 [(.agg [(nI a),(nI b),(aD c),(.ilst 4 (Typs.av d) false)])] [] 0
def aES(c d:Int)(e:aE)(a:List Typ)(f:Int)(b:List Typ):TS:=⟨(tf 29 22 [kp 1 0,kp 2 1,(3,(.gl 2 4 0 b.length false)),(7,(.ilst 4 (Typs.av a) false)),(8,(nI (a.length:Int))),(9,(nI f))] [kc f29 116,kl f29 116,.inBlock 0,kc f29 15]),[],[oC 0 [(nI c),(nI d),(aD e),(.ilst 4 (Typs.av a) false)],oC 1 [(nI 0),(nI 0),(.str 0 0),.nils],oL 2 4 (Typs.av b)],3⟩
def aXm(a b:Int)(c:aE)(d:List Pat):TS:=cK PP 71 [(.agg [(nI a),(nI b),(aD c),(iP d)])] [] 0
def aET(c d:Int)(e:aE)(a:List Pat)(f:Int)(b:List Pat):TS:=⟨(tf 71 22 [kp 1 0,kp 2 1,(3,(.gl 2 4 0 b.length false)),(7,(iP a)),(8,(nI (a.length:Int))),(9,(nI f))] [kc f71 116,kl f71 116,.inBlock 0,kc f71 15]),[],[oC 0 [(nI c),(nI d),(aD e),(iP a)],oC 1 [(nI 0),(nI 0),(.str 0 0),.nils],oL 2 4 (Pats.av b)],3⟩
def aXn(a b:Int)(c:aE)(d:List Term)(e:List Pat):TS:=cK PP 30 [(.agg [(nI a),(nI b),(aD c),(.ilst 5 (Terms.av d) false),(iP e)])] [] 0
def aEU(c d:Int)(e:aE)(a:List Term)(f:List Pat)(g:Int)(b:List Term):TS:=⟨(tf 30 40 [kp 1 0,kp 2 1,(3,(.gl 2 5 0 b.length false)),(4,.nils),(10,(.ilst 5 (Terms.av a) false)),(11,(nI (a.length:Int))),(12,(nI g))] [kc f30 244,kl f30 244,.inBlock 0,kc f30 31]),[],[oC 0 [(nI c),(nI d),(aD e),(.ilst 5 (Terms.av a) false),(iP f)],oC 1 [(nI 0),(nI 0),(.str 0 0),.nils,.nils],oL 2 5 (Terms.av b)],3⟩
def aEV(d e:Int)(f:aE)(g:List Term)(a:List Pat)(b:List Term)(i:Int)(c:List Pat):TS:=⟨(tf 30 40 [kp 1 0,kp 2 1,(3,(.gl 2 5 0 b.length false)),(4,(.gl 3 4 0 c.length false)),(23,(iP a)),(24,(nI (a.length:Int))),(25,(nI i))] [kc f30 500,kl f30 500,.inBlock 2,kc f30 63]),[],[oC 0 [(nI d),(nI e),(aD f),(.ilst 5 (Terms.av g) false),(iP a)],oC 1 [(nI 0),(nI 0),(.str 0 0),.nils,.nils],oL 2 5 (Terms.av b),oL 3 4 (Pats.av c)],4⟩
def aXo(a:DataD):TS:=cK PP 28 [(.agg [(aD a.name),(.ilst 2 (map ConD.av a.cons) false)])] [] 0
def aCl(a:DataD)(c:Int)(b:List ConD):TS:=⟨(tf 28 45 [kp 2 0,kp 3 1,(13,(.ilst 2 (map ConD.av a.cons) false)),(14,(nI (a.cons.length:Int))),(15,(nI c))] [kc f28 116,kl f28 116,.inBlock 0,kc f28 15]),[],[oC 0 [(.str 0 0),.nils],oC 1 [(aD a.name),(.gl 2 2 0 b.length false)],oL 2 2 (map ConD.av b)],3⟩
def aEW(a:DataD)(d:List Typ)(e:Int)(f:aE)(g:Int)(b:List Typ)(i:Int)(c:List ConD):TS:=⟨(tf 28 45 [kp 2 0,kp 3 1,kp 6 2,(13,(.ilst 2 (map ConD.av a.cons) false)),(14,(nI (a.cons.length:Int))),(15,(nI i)),(23,(.ilst 4 (Typs.av d) false)),(24,(nI e)),(25,(nI g))] [kc f28 119604,kl f28 119604,.inBlock 2,kc f28 14951,.inBlock 1,kc f28 935,kl f28 116,.inBlock 0,kc f28 15]),[],[oC 0 [(.str 0 0),.nils],oC 1 [(aD a.name),(.gl 3 2 0 c.length false)],oC 2 [(aD f),(.gl 4 4 0 b.length false)],oL 3 2 (map ConD.av c),oL 4 4 (Typs.av b)],5⟩
def aXp(a b:Int)(c:aE)(d:List Typ)(e f:Int)(g:aE)(i:List Typ):TS:=cK PP 111 [(.agg [(nI a),(nI b),(aD c),(.ilst 4 (Typs.av d) false)]),(.agg [(nI e),(nI f),(aD g),(.ilst 4 (Typs.av i) false)])] [] 0
def aEX(d e:Int)(f:aE)(a:List Typ)(g i:Int)(j:aE)(b:List Typ)(c:Int):TS:=⟨(tf 110 32 [(1,(.ilst 4 (Typs.av b) false)),(2,(.func 111 [] [])),(6,(bV false)),(15,(.ilst 4 (Typs.av a) false)),(16,(nI (a.length:Int))),(17,(nI c))] [kc f110 116,kl f110 116,.inBlock 0,kc f110 15]),[(tf 111 31 [(4,(bV false)),(24,(bV true)),(26,(.ilst 4 (Typs.av a) false)),(28,(.ilst 4 (Typs.av b) false))] [ko f111 6 24,kc f111 7])],[],0⟩
def aXq(a b:ConD):TS:=cK PP 70 [(.agg [(aD a.name),(.ilst 4 (Typs.av a.args) false)]),(.agg [(aD b.name),(.ilst 4 (Typs.av b.args) false)])] [] 0
def aEY(a b:ConD)(c:Int):TS:=⟨(tf 110 32 [(1,(.ilst 4 (Typs.av b.args) false)),(2,(.func 111 [] [])),(6,(bV false)),(15,(.ilst 4 (Typs.av a.args) false)),(16,(nI (a.args.length:Int))),(17,(nI c))] [kc f110 116,kl f110 116,.inBlock 0,kc f110 15]),[(tf 70 17 [(4,(bV false)),(10,(bV true)),(12,(.ilst 4 (Typs.av a.args) false)),(14,(.ilst 4 (Typs.av b.args) false))] [ko f70 6 10,kc f70 7])],[],0⟩
def aXr(a b:DataD):TS:=cK PP 27 [(.agg [(aD a.name),(.ilst 2 (map ConD.av a.cons) false)]),(.agg [(aD b.name),(.ilst 2 (map ConD.av b.cons) false)])] [] 0
def aEZ(a b:DataD)(c:Int):TS:=⟨(tf 69 32 [(1,(.ilst 2 (map ConD.av b.cons) false)),(2,(.func 70 [] [])),(6,(bV false)),(15,(.ilst 2 (map ConD.av a.cons) false)),(16,(nI (a.cons.length:Int))),(17,(nI c))] [kc f69 116,kl f69 116,.inBlock 0,kc f69 15]),[(tf 27 17 [(4,(bV false)),(10,(bV true)),(12,(.ilst 2 (map ConD.av a.cons) false)),(14,(.ilst 2 (map ConD.av b.cons) false))] [ko f27 6 10,kc f27 7])],[],0⟩
def aCm(e f:Int)(a:aE)(b:List Typ)(g i:Int)(c:aE)(d:List Typ):=tT 0 (start PP 43 [(.agg [(nI e),(nI f),(aD a),(.ilst 4 (Typs.av b) false)]),(.agg [(nI g),(nI i),(aD c),(.ilst 4 (Typs.av d) false)])])<|.b 15 11 (e != g) (gE 29 2 (bV false))<|.b 7 18 (f != i) (gE 22 2 (bV false))<|.b 7 25 (!(aP a.length (aA a) c.length (aA c))) (gE 15 2 (bV false))<|gm 2 aU b<|gm 2 aU d<|.b 3 33 ((b.length:Int) != (d.length:Int)) (gE 6 2 (bV false))<|.W 9 2 [0,1] (aEN e f a b g i c d 0)
def aT9:=fun a b c d e f g i j=>aCm a b c d e f g i|>.t j tv
def aUa:=fun a b c d e f g i j k=>aCm a b c d e f g i|>.f j|>.t k tv
def aUb:=fun a b c d e f g i j k l=>aCm a b c d e f g i|>.f j|>.f k|>.t l tv
def aUc:=fun a b c d e f g i j k l m=>aCm a b c d e f g i|>.f j|>.f k|>.f l|>.t m tv
def aUd:=fun a b c d e f g i j k l m=>aCm a b c d e f g i|>.f j|>.f k|>.f l|>.f m tv
def aH3(n o:Int)(p:aE)(b:List Typ)(q r:Int)(s:aE)(c:List Typ)(a:Int):=tT 0 (aEN n o p b q r s c a)<|gm 6 aU b<|gd 2 38 (a< (b.length:Int)) (.y fun d:Int=>.y fun e:Int=>.y fun f:aE=>.y fun g:List Typ=>.y fun i:Int=>.y fun j:Int=>.y fun k:aE=>.y fun l:List Typ=>.y fun m:Bool=>.i [rn 5,.reg (rd 3 (.ans (.idx (Typ.av (Typ.mk d e f g)))::rd 4 [.ans (.idx (Typ.av (Typ.mk i j k l))),.d,.pure (bV m),.d]))] [hA (0≤a),.a (((b)[a.toNat]?) =some (Typ.mk d e f g)) (eS aU),hA (0≤a),.a (((c)[a.toNat]?) =some (Typ.mk i j k l)) (eS aU),hA (Pure PP 43 [(.agg [(nI d),(nI e),(aD f),(.ilst 4 (Typs.av g) false)]),(.agg [(nI i),(nI j),(aD k),(.ilst 4 (Typs.av l) false)])] (bV m))]<|.b 0 52 (!m) (gE 6 2 (bV false))<|gw 6 40 (a+1)<|.W 3 2 [0,1] (aEN n o p b q r s c (a+1)))<|gE 7 2 (bV true)
def aUe:=fun b c d e f g i j k l m n o p q r s t u a v w x y=>aH3 b c d e f g i j k|>.t u l m n o p q r s t a v a w x|>.t y tv
def aUf:=fun b c d e f g i j k l m n o p q r s t u a v w x y z=>aH3 b c d e f g i j k|>.t u l m n o p q r s t a v a w x|>.f y z tv
def aUg:=fun a b c d e f g i j k=>aH3 a b c d e f g i j|>.f k tv
def aH4(a b:DataD):=tT 0 (start PP 42 [(.agg [(aD a.name),(.ilst 2 (map ConD.av a.cons) false)]),(.agg [(aD b.name),(.ilst 2 (map ConD.av b.cons) false)])])<|.b 15 14 (!(aP a.name.length (aA a.name) b.name.length (aA b.name))) (gE 15 2 (bV false))<|gl 2 ConD.av a.cons<|gl 2 ConD.av b.cons<|.b 3 22 ((a.cons.length:Int) != (b.cons.length:Int)) (gE 6 2 (bV false))<|.W 9 2 [0,1] (aCi a b 0)
def aUh:=fun a b c=>aH4 a b|>.t c tv
def aUi:=fun a b c d=>aH4 a b|>.f c|>.t d tv
def aUj:=fun a b c d=>aH4 a b|>.f c|>.f d tv
def aE0(d e:DataD)(c:Int):=tT 0 (aCi d e c)<|gl 6 ConD.av d.cons<|gd 2 27 (c< (d.cons.length:Int)) (.y fun b:ConD=>.y fun a:ConD=>.i [rn 5,.reg (rd 3 (.ans (.idx (ConD.av b))::rd 4 (.ans (.idx (ConD.av a))::rd 5 [])))] [hA (0≤c),.a (((d.cons)[c.toNat]?) =some b) (jZ (f:=ConD.av)),hA (0≤c),.a (((e.cons)[c.toNat]?) =some a) (jZ (f:=ConD.av)),hr (agg [(aD a.name),(.ilst 4 (Typs.av a.args) false)]),hr (agg [(aD a.name),(.ilst 4 (Typs.av a.args) false)]),hr (ilst 2 (map ConD.av e.cons) false),hr (ilst 2 (map ConD.av e.cons) false)]<|.b 9 45 (!(aP b.name.length (aA b.name) a.name.length (aA a.name))) (gE 15 4 (bV false))<|gm 2 aU b.args<|gm 2 aU a.args<|.b 3 53 ((b.args.length:Int) != (a.args.length:Int)) (gE 6 4 (bV false))<|.W 8 4 [0,1,2,3] (aCj d e b.name b.args a.name a.args 0 c))<|gE 7 2 (bV true)
def aUk:=fun b c d e f g a i j k=>aE0 b c d|>.t g e f a i a j|>.t k tv
def aUl:=fun b c d e f g a i j k l=>aE0 b c d|>.t g e f a i a j|>.f k|>.t l tv
def aUm:=fun b c d e f g a i j k l=>aE0 b c d|>.t g e f a i a j|>.f k|>.f l tv
def aUn:=fun a b c d=>aE0 a b c|>.f d tv
def aH5(d e:DataD)(q:aE)(b:List Typ)(r:aE)(f:List Typ)(a c:Int):=tT 0 (aCj d e q b r f a c)<|gm 6 aU b<|gd 2 58 (a< (b.length:Int)) (.y fun g:Int=>.y fun i:Int=>.y fun j:aE=>.y fun k:List Typ=>.y fun l:Int=>.y fun m:Int=>.y fun n:aE=>.y fun o:List Typ=>.y fun p:Bool=>.i [rn 5,.reg (rd 3 (.ans (.idx (Typ.av (Typ.mk g i j k)))::rd 4 [.ans (.idx (Typ.av (Typ.mk l m n o))),.d,.pure (bV p),.d]))] [hA (0≤a),.a (((b)[a.toNat]?) =some (Typ.mk g i j k)) (eS aU),hA (0≤a),.a (((f)[a.toNat]?) =some (Typ.mk l m n o)) (eS aU),hA (Pure PP 43 [(.agg [(nI g),(nI i),(aD j),(.ilst 4 (Typs.av k) false)]),(.agg [(nI l),(nI m),(aD n),(.ilst 4 (Typs.av o) false)])] (bV p))]<|.b 0 72 (!p) (gE 6 4 (bV false))<|gw 6 60 (a+1)<|.W 3 4 [0,1,2,3] (aCj d e q b r f (a+1) c))<|gw 6 29 (c+1)<|.W 3 4 [0,1] (aCi d e (c+1))
def aUo:=fun b c d e f g i j k l m n o p q r s t a u v w x=>aH5 b c d e f g i j|>.t t k l m n o p q r s a u a v w|>.t x tv
def aUp:=fun b c d e f g i j k l m n o p q r s t a u v w x y=>aH5 b c d e f g i j|>.t t k l m n o p q r s a u a v w|>.f x y tv
def aUq:=fun a b c d e f g i j k=>aH5 a b c d e f g i|>.f j k tv
def aYw(a b:Mod):=tT 0 (start PP 8 [(.agg [(aD a.name),(.ilst 2 (map DataD.av a.datas) false),(.ilst 15 (FunDs.av a.funs) false)]),(.agg [(aD b.name),(.ilst 2 (map DataD.av b.datas) false),(.ilst 15 (FunDs.av b.funs) false)])])<|.b 15 14 (!(aP a.name.length (aA a.name) b.name.length (aA b.name))) (gE 24 2 (bV false))<|gl 2 DataD.av a.datas<|gl 2 DataD.av b.datas<|.b 3 23 ((a.datas.length:Int) != (b.datas.length:Int)) (gE 15 2 (bV false))<|gm 2 bE a.funs<|gm 2 bE b.funs<|.b 3 31 ((a.funs.length:Int) != (b.funs.length:Int)) (gE 6 2 (bV false))<|.W 9 2 [0,1] (aEO a b 0)
def aUr:=fun a b c d e=>aYw a b|>.f c|>.f d|>.f e tv
def aOt(b c:Mod)(a:Int):=tT 0 (aEO b c a)<|gl 6 DataD.av b.datas<|gd 2 36 (a< (b.datas.length:Int)) (.y fun d:DataD=>.y fun e:DataD=>.y fun f:Bool=>.i [rn 5,.reg (rd 3 (.ans (.idx (DataD.av d))::rd 4 [.ans (.idx (DataD.av e)),.d,.pure (bV f),.d]))] [hA (0≤a),.a (((b.datas)[a.toNat]?) =some d) (jZ (f:=DataD.av)),hA (0≤a),.a (((c.datas)[a.toNat]?) =some e) (jZ (f:=DataD.av)),hA (Pure PP 42 [(.agg [(aD d.name),(.ilst 2 (map ConD.av d.cons) false)]),(.agg [(aD e.name),(.ilst 2 (map ConD.av e.cons) false)])] (bV f))]<|.b 0 50 (!f) (gE 6 2 (bV false))<|gw 6 38 (a+1)<|.W 3 2 [0,1] (aEO b c (a+1)))<|.W 9 2 [0,1] (aEP b c 0)
def aUs:=fun b c d e f g i a j k l m n=>aOt b c d|>.t i e f g a j a k l|>.f m n tv
def aUt:=fun a b c d=>aOt a b c|>.f d tv
def aOu(d e:Mod)(a:Int):=tT 0 (aEP d e a)<|gm 6 bE d.funs<|gd 2 55 (a< (d.funs.length:Int)) (.y fun t:aE=>.y fun u:aE=>.y fun v:Int=>.y fun w:Int=>.y fun x:aE=>.y fun y:List Typ=>.y fun z:Int=>.y fun A:Int=>.y fun B:aE=>.y fun C:List Typ=>.y fun D:Int=>.y fun F:Int=>.y fun G:aE=>.y fun H:List Term=>.y fun I:List Pat=>.y fun b:aE=>.y fun c:aE=>.y fun f:Int=>.y fun g:Int=>.y fun i:aE=>.y fun j:List Typ=>.y fun k:Int=>.y fun l:Int=>.y fun m:aE=>.y fun n:List Typ=>.y fun o:Int=>.y fun p:Int=>.y fun q:aE=>.y fun r:List Term=>.y fun s:List Pat=>.i [rn 5,.reg (rd 3 (.ans (.idx (FunD.av (FunD.mk t u (Typ.mk v w x y) (Typ.mk z A B C) (Term.mk D F G H I))))::rd 4 (.ans (.idx (FunD.av (FunD.mk b c (Typ.mk f g i j) (Typ.mk k l m n) (Term.mk o p q r s))))::rd 5 [])))] [hA (0≤a),.a (((d.funs)[a.toNat]?) =some (FunD.mk t u (Typ.mk v w x y) (Typ.mk z A B C) (Term.mk D F G H I))) (eS bE),hA (0≤a),.a (((e.funs)[a.toNat]?) =some (FunD.mk b c (Typ.mk f g i j) (Typ.mk k l m n) (Term.mk o p q r s))) (eS bE),hr (agg [(aD b),(aD c),(nI f),(nI g),(aD i),(.ilst 4 (Typs.av j) false),(nI k),(nI l),(aD m),(.ilst 4 (Typs.av n) false),(nI o),(nI p),(aD q),(.ilst 5 (Terms.av r) false),(iP s)]),hr (agg [(aD b),(aD c),(nI f),(nI g),(aD i),(.ilst 4 (Typs.av j) false),(nI k),(nI l),(aD m),(.ilst 4 (Typs.av n) false),(nI o),(nI p),(aD q),(.ilst 5 (Terms.av r) false),(iP s)]),hr (ilst 15 (FunDs.av e.funs) false),hr (ilst 15 (FunDs.av e.funs) false)]<|.b 8 73 (!(aP t.length (aA t) b.length (aA b))) (gE 37 4 (bV false))<|.b 7 80 (!(aP u.length (aA u) c.length (aA c))) (gE 30 4 (bV false))<|cZ 4 43 [(.agg [(nI v),(nI w),(aD x),(.ilst 4 (Typs.av y) false)]),(.agg [(nI f),(nI g),(aD i),(.ilst 4 (Typs.av j) false)])]<|fun J=>.b 3 88 (!J) (gE 22 4 (bV false))<|cZ 4 43 [(.agg [(nI z),(nI A),(aD B),(.ilst 4 (Typs.av C) false)]),(.agg [(nI k),(nI l),(aD m),(.ilst 4 (Typs.av n) false)])]<|fun K=>.b 3 96 (!K) (gE 14 4 (bV false))<|cZ 4 44 [(.agg [(nI D),(nI F),(aD G),(.ilst 5 (Terms.av H) false),(iP I)]),(.agg [(nI o),(nI p),(aD q),(.ilst 5 (Terms.av r) false),(iP s)])]<|fun L=>.b 3 103 (!L) (gE 6 4 (bV false))<|gw 6 57 (a+1)<|.W 3 4 [0,1] (aEP d e (a+1)))<|gE 7 2 (bV true)
def aUu:=fun b c d e f g i j k l m n o p q r s t u v w x y z A B C D F G H I J K L M N a O Q R S T U V X Y Z a0=>aOu b c d|>.t N e f g i j k l m n o p q r s t u v w x y z A B C D F G H I J a O a Q|>.f R|>.f S K T|>.f U L V|>.f X M Y|>.f Z a0 tv
def aUv:=fun a b c d=>aOu a b c|>.f d tv
def aUw (a:List Con):=(tT 0 (aXj a)<|.i [rn 15,.nilL 3 1] []<|gu 0 0 (map aD ([] :List aE))<|gs 0 3 (.gl 0 1 0 ([] :List aE).length false)<|.W 0 1 [0] (aEQ a 0 ([] :List aE))) ⟨kk,trivial⟩
def aOv(a:List Con)(b:Int)(c:List aE):=tT 0 (aEQ a b c)<|gl 5 Con.av a<|gd 2 8 (b< (a.length:Int)) (gX Con.av 8 a b<|fun d=>ga 3 aD c [d.name]<|gw 6 10 (b+1)<|.W 3 3 [2] (aEQ a (b+1) (c++ [d.name])))<|gz 8 2 0 1 aD c false<|gE 0 1 (iS c)
def aUx:=fun a b c d e f g i j=>aOv a b c|>.t e d f g i j ⟨kk,trivial⟩
def aUy:=fun a b c d=>aOv a b c|>.f d tv
def aUz (a:Mod):=(tT 0 (aXk a)<|.i [rn 16,.nilL 3 2] []<|gu 0 1 (jC ([] :List Con))<|gs 0 3 (.gl 1 2 0 ([] :List Con).length false)<|.W 0 2 [0,1] (aCk a 0 ([] :List Con))) ⟨kk,trivial⟩
def aOw(a:Mod)(c:Int)(b:List Con):=tT 0 (aCk a c b)<|gl 6 DataD.av a.datas<|gd 2 11 (c< (a.datas.length:Int)) (.W 10 2 [0,1] (aER a 0 b c))<|gz 8 2 1 2 Con.av b false<|gE 0 2 (iC b)
def aUA:=fun a b c d=>aOw a b c|>.t d ⟨kk,trivial⟩
def aUB:=fun a b c d=>aOw a b c|>.f d tv
def aI8(b:Mod)(c:Int)(e:List Con)(a:Int):=tT 0 (aER b c e a)<|gX DataD.av 7 b.datas a<|fun f=>gl 2 ConD.av f.cons<|gd 2 22 (c< (f.cons.length:Int)) (gi DataD.av 9 b.datas a f<|gX ConD.av 3 f.cons c<|fun d=>gm 10 aU d.args<|ga 2 Con.av e [(Con.mk d.name (d.args.length:Int))]<|gw 6 24 (c+1)<|.W 3 5 [0,4] (aER b (c+1) (e++ [(Con.mk d.name (d.args.length:Int))]) a))<|gw 6 13 (a+1)<|.W 3 2 [0,1] (aCk b (a+1) e)
def aUC:=fun c d e f g i a b j k l m n=>aI8 c d e f g a b|>.t j a b i k l m n ⟨kk,trivial⟩
def aUD:=fun a b c d e f g i j=>aI8 a b c d e f g|>.f i j ⟨kk,trivial⟩
def aUE (b c:Int)(d:aE)(a:List Typ):=(tT 0 (aXl b c d a)<|gm 14 aU a<|.i [rn 4,.nilL 3 4] []<|gu 0 2 (Typs.av ([] :List Typ))<|gs 0 3 (.gl 2 4 0 ([] :List Typ).length false)<|.W 0 3 [0,1,2] (aES b c d a 0 ([] :List Typ))) ⟨tW,trivial⟩
def aI9(d e:Int)(f:aE)(c:List Typ)(a:Int)(b:List Typ):=tT 0 (aES d e f c a b)<|gd 5 10 (a< (c.length:Int)) (yJ 6 c a<|fun l m n o=>.y fun g:Int=>.y fun i:Int=>.y fun j:aE=>.y fun k:List Typ=>gp 7 29 [(.agg [(nI l),(nI m),(aD n),(.ilst 4 (Typs.av o) false)])] (.agg [(nI g),(nI i),(aD j),(.ilst 4 (Typs.av k) false)])<|gA 1 aU b [(Typ.mk g i j k)]<|gw 5 18 (a+1)<|.W 3 6 [0,1,5] (aES d e f c (a+1) (b++ [(Typ.mk g i j k)])))<|gY 14 1 3 2 4 aU tW b false<|gE 0 3 (.agg [(nI d),(nI e),(aD f),(.ilst 4 (Typs.av b) false)])
def aUF:=fun a b c d e f g i j k l m n o p q r s t u=>aI9 a b c d e f|>.t p g i j k q r l m n o s t u ⟨tW,trivial⟩
def aUG:=fun a b c d e f g=>aI9 a b c d e f|>.f g tv
def aUH (b c:Int)(d:aE)(a:List Pat):=(tT 0 (aXm b c d a)<|gm 14 aK a<|.i [rn 4,.nilL 3 4] []<|gu 0 2 (Pats.av ([] :List Pat))<|gs 0 3 (.gl 2 4 0 ([] :List Pat).length false)<|.W 0 3 [0,1,2] (aET b c d a 0 ([] :List Pat))) ⟨tP,trivial⟩
def aJa(d e:Int)(f:aE)(c:List Pat)(a:Int)(b:List Pat):=tT 0 (aET d e f c a b)<|gd 5 10 (a< (c.length:Int)) (aBU 6 c a<|fun l m n o=>.y fun g:Int=>.y fun i:Int=>.y fun j:aE=>.y fun k:List Pat=>gp 7 71 [(.agg [(nI l),(nI m),(aD n),(iP o)])] (.agg [(nI g),(nI i),(aD j),(iP k)])<|gA 1 aK b [(Pat.mk g i j k)]<|gw 5 18 (a+1)<|.W 3 6 [0,1,5] (aET d e f c (a+1) (b++ [(Pat.mk g i j k)])))<|gY 14 1 3 2 4 aK tP b false<|gE 0 3 (.agg [(nI d),(nI e),(aD f),(iP b)])
def aUI:=fun a b c d e f g i j k l m n o p q r s t u=>aJa a b c d e f|>.t p g i j k q r l m n o s t u ⟨tP,trivial⟩
def aUJ:=fun a b c d e f g=>aJa a b c d e f|>.f g tv
def aUK (b c:Int)(d:aE)(a:List Term)(e:List Pat):=(tT 0 (aXn b c d a e)<|gm 18 cG a<|.i [rn 4,.nilL 3 5] []<|gu 0 2 (Terms.av ([] :List Term))<|gs 0 3 (.gl 2 5 0 ([] :List Term).length false)<|.W 0 3 [0,1,2] (aEU b c d a e 0 ([] :List Term))) ⟨sN,trivial⟩
def aJb(e f:Int)(g:aE)(a:List Term)(c:List Pat)(b:Int)(d:List Term):=tT 0 (aEU e f g a c b d)<|gd 5 13 (b< (a.length:Int)) (aDp 6 a b<|fun n o p q r=>.y fun i:Int=>.y fun j:Int=>.y fun k:aE=>.y fun l:List Term=>.y fun m:List Pat=>gp 7 30 [(.agg [(nI n),(nI o),(aD p),(.ilst 5 (Terms.av q) false),(iP r)])] (.agg [(nI i),(nI j),(aD k),(.ilst 5 (Terms.av l) false),(iP m)])<|gA 1 cG d [(Term.mk i j k l m)]<|gw 5 21 (b+1)<|.W 3 6 [0,1,5] (aEU e f g a c (b+1) (d++ [(Term.mk i j k l m)])))<|gm 7 aK c<|.i [rn 4,.nilL 4 4] []<|gu 0 3 (Pats.av ([] :List Pat))<|gs 0 4 (.gl 3 4 0 ([] :List Pat).length false)<|.W 0 4 [0,1,2,3] (aEV e f g a c d 0 ([] :List Pat))
def aUL:=fun a b c d e f g i j k l m n o p q r s t u v w x=>aJb a b c d e f g|>.t s i j k l m t u n o p q r v w x ⟨sN,trivial⟩
def aUM:=fun a b c d e f g i=>aJb a b c d e f g|>.f i ⟨sN,⟨tP,trivial⟩⟩
def aJc(e f:Int)(g:aE)(m:List Term)(c:List Pat)(d:List Term)(a:Int)(b:List Pat):=tT 0 (aEV e f g m c d a b)<|gd 5 26 (a< (c.length:Int)) (aBU 6 c a<|fun n o p q=>.y fun i:Int=>.y fun j:Int=>.y fun k:aE=>.y fun l:List Pat=>gp 7 71 [(.agg [(nI n),(nI o),(aD p),(iP q)])] (.agg [(nI i),(nI j),(aD k),(iP l)])<|gA 1 aK b [(Pat.mk i j k l)]<|gw 5 34 (a+1)<|.W 3 7 [0,1,2,6] (aEV e f g m c d (a+1) (b++ [(Pat.mk i j k l)])))<|gY 17 1 3 2 5 cG sN d false<|gY 0 1 4 3 4 aK tP b false<|gE 0 4 (.agg [(nI e),(nI f),(aD g),(.ilst 5 (Terms.av d) false),(iP b)])
def aUN:=fun a b c d e f g i j k l m n o p q r s t u v w=>aJc a b c d e f g i|>.t r j k l m s t n o p q u v w ⟨sN,⟨tP,trivial⟩⟩
def aUO:=fun a b c d e f g i j=>aJc a b c d e f g i|>.f j tv
def aUP (a:DataD):=(tT 0 (aXo a)<|gl 18 ConD.av a.cons<|.i [rn 4,.cnil 2 1 2] []<|gu 0 3 (map ConD.av ([] :List ConD))<|gv 0 2 1 (.gl 3 2 0 ([] :List ConD).length false)<|.W 0 4 [1,2,3] (aCl a 0 ([] :List ConD))) ⟨kk,trivial⟩
def aJd(a:DataD)(b:Int)(c:List ConD):=tT 0 (aCl a b c)<|gd 5 16 (b< (a.cons.length:Int)) (gX ConD.av 6 a.cons b<|fun d=>gm 17 aU d.args<|.i [rn 4,.cnil 4 1 4] []<|gu 0 5 (Typs.av ([] :List Typ))<|gv 0 4 1 (.gl 5 4 0 ([] :List Typ).length false)<|.W 0 6 [0,1,4,2,5] (aEW a d.args (d.args.length:Int) d.name 0 ([] :List Typ) b c))<|gy 3 1 1 2 2 ConD.av c false<|gE 5 3 (.agg [(aD a.name),(.ilst 2 (map ConD.av c) false)])
def aUQ:=fun a b c d e f g=>aJd a b c|>.t e d f g ⟨kk,⟨tW,trivial⟩⟩
def aUR:=fun a b c d=>aJd a b c|>.f d tv
def aJe(k:DataD)(l:List Typ)(m:Int)(g:aE)(f:Int)(a:List Typ)(i:Int)(j:List ConD):=tT 0 (aEW k l m g f a i j)<|gd 5 26 (f<m) (yJ 6 l f<|fun n o p q=>.y fun b:Int=>.y fun c:Int=>.y fun d:aE=>.y fun e:List Typ=>.i [rn 4,.reg (rd 3 [.pure (.agg [(nI b),(nI c),(aD d),(.ilst 4 (Typs.av e) false)]),.d,.app (Typs.av (a++ [(Typ.mk b c d e)])) (a++ [(Typ.mk b c d e)]).length,.d,.d])] [hA (Pure PP 29 [(.agg [(nI n),(nI o),(aD p),(.ilst 4 (Typs.av q) false)])] (.agg [(nI b),(nI c),(aD d),(.ilst 4 (Typs.av e) false)])),hB aU a,hA (length (a++ [(Typ.mk b c d e)]) ≤1000000),hC aU a [(Typ.mk b c d e)],hE aU a [(Typ.mk b c d e)],hr (AV.gl 4 4 0 a.length false),hr (AV.gl 4 4 0 a.length false)]<|gw 3 36 (f+1)<|.W 3 8 [0,1,2,3,7] (aEW k l m g (f+1) (a++ [(Typ.mk b c d e)]) i j))<|gY 2 2 1 4 4 aU tW a false<|ga 5 ConD.av j [(ConD.mk g a)]<|gw 6 43 (i+1)<|.W 3 7 [0,1,6] (aCl k (i+1) (j++ [(ConD.mk g a)]))
def aUS:=fun a b c d e f g i j k l m n o p q r s t u v w=>aJe a b c d e f g i|>.t r j k l m s t n o p q u v w ⟨kk,⟨tW,trivial⟩⟩
def aUT:=fun a b c d e f g i j k l=>aJe a b c d e f g i|>.f j k l ⟨kk,trivial⟩
def yT(e f:Int)(b:aE)(a:List Typ)(g i:Int)(c:aE)(d:List Typ):=tT 0 (aXp e f b a g i c d)<|.b 14 10 (e==g) (.b 7 17 (f==i) (.b 7 24 (aP b.length (aA b) c.length (aA c)) (gm 13 aU a<|gm 1 aU d<|.b 2 14 ((a.length:Int) != (d.length:Int)) (gE 11 2 (bV false))<|gm 6 aU a<|.W 4 2 [] (aEX e f b a g i c d 0))<|gE 9 2 (bV false))<|gE 16 2 (bV false))<|gE 23 2 (bV false)
def aUU:=fun a b c d e f g i j k l m=>yT a b c d e f g i|>.t j|>.t k|>.t l|>.t m tv
def aUV:=fun a b c d e f g i j k l m=>yT a b c d e f g i|>.t j|>.t k|>.t l|>.f m tv
def aUW:=fun a b c d e f g i j k l=>yT a b c d e f g i|>.t j|>.t k|>.f l tv
def aUX:=fun a b c d e f g i j k=>yT a b c d e f g i|>.t j|>.f k tv
def aUY:=fun a b c d e f g i j=>yT a b c d e f g i|>.f j tv
def aE1(d e:Int)(f:aE)(b:List Typ)(g i:Int)(j:aE)(c:List Typ)(a:Int):=tT 0 (aEX d e f b g i j c a)<|gd 5 18 (a< (b.length:Int)) (yJ 7 b a<|fun k l m n=>yJ 9 c a<|fun o p q r=>cZ 9 111 [(.agg [(nI k),(nI l),(aD m),(.ilst 4 (Typs.av n) false)]),(.agg [(nI o),(nI p),(aD q),(.ilst 4 (Typs.av r) false)])]<|fun s=>.b 2 30 (!s) (gE 11 2 (bV false))<|gw 5 31 (a+1)<|.W 3 2 [] (aEX d e f b g i j c (a+1)))<|gE 12 0 (bV true)
def aUZ:=fun b c d e f g i j k l m n o p q r s t u a v w x y=>aE1 b c d e f g i j k|>.t u l m n o a v p q r s a w t x|>.t y tv
def aU0:=fun b c d e f g i j k l m n o p q r s t u a v w x y z=>aE1 b c d e f g i j k|>.t u l m n o a v p q r s a w t x|>.f y z tv
def aU1:=fun a b c d e f g i j k=>aE1 a b c d e f g i j|>.f k tv
def aE2(a b:ConD):=tT 0 (aXq a b)<|.b 14 10 (aP a.name.length (aA a.name) b.name.length (aA b.name)) (gm 13 aU a.args<|gm 1 aU b.args<|.b 2 14 ((a.args.length:Int) != (b.args.length:Int)) (gE 11 2 (bV false))<|gm 6 aU a.args<|.W 4 2 [] (aEY a b 0))<|gE 9 2 (bV false)
def aU2:=fun a b c d=>aE2 a b|>.t c|>.t d tv
def aU3:=fun a b c d=>aE2 a b|>.t c|>.f d tv
def aU4:=fun a b c=>aE2 a b|>.f c tv
def aE3(b c:ConD)(a:Int):=tT 0 (aEY b c a)<|gd 5 18 (a< (b.args.length:Int)) (yJ 7 b.args a<|fun d e f g=>yJ 9 c.args a<|fun i j k l=>cZ 9 111 [(.agg [(nI d),(nI e),(aD f),(.ilst 4 (Typs.av g) false)]),(.agg [(nI i),(nI j),(aD k),(.ilst 4 (Typs.av l) false)])]<|fun m=>.b 2 30 (!m) (gE 11 2 (bV false))<|gw 5 31 (a+1)<|.W 3 2 [] (aEY b c (a+1)))<|gE 12 0 (bV true)
def aU5:=fun b c d e f g i j k l m n o a p q r s=>aE3 b c d|>.t o e f g i a p j k l m a q n r|>.t s tv
def aU6:=fun b c d e f g i j k l m n o a p q r s t=>aE3 b c d|>.t o e f g i a p j k l m a q n r|>.f s t tv
def aU7:=fun a b c d=>aE3 a b c|>.f d tv
def aE4(a b:DataD):=tT 0 (aXr a b)<|.b 14 10 (aP a.name.length (aA a.name) b.name.length (aA b.name)) (gl 13 ConD.av a.cons<|gl 1 ConD.av b.cons<|.b 2 14 ((a.cons.length:Int) != (b.cons.length:Int)) (gE 11 2 (bV false))<|gl 6 ConD.av a.cons<|.W 4 2 [] (aEZ a b 0))<|gE 9 2 (bV false)
def aU8:=fun a b c d=>aE4 a b|>.t c|>.t d tv
def aU9:=fun a b c d=>aE4 a b|>.t c|>.f d tv
def aVa:=fun a b c=>aE4 a b|>.f c tv
def aE5(b c:DataD)(a:Int):=tT 0 (aEZ b c a)<|gd 5 18 (a< (b.cons.length:Int)) (gX ConD.av 7 b.cons a<|fun d=>gX ConD.av 9 c.cons a<|fun e=>cZ 9 70 [(.agg [(aD d.name),(.ilst 4 (Typs.av d.args) false)]),(.agg [(aD e.name),(.ilst 4 (Typs.av e.args) false)])]<|fun f=>.b 2 30 (!f) (gE 11 2 (bV false))<|gw 5 31 (a+1)<|.W 3 2 [] (aEZ b c (a+1)))<|gE 12 0 (bV true)
def aVb:=fun b c d e f g i a j k l m=>aE5 b c d|>.t i e a j f a k g l|>.t m tv
def aVc:=fun b c d e f g i a j k l m n=>aE5 b c d|>.t i e a j f a k g l|>.f m n tv
def aVd:=fun a b c d=>aE5 a b c|>.f d tv
def aZp (n:Nat) :aE:=if h:n<26 then aZo (97+n)else aZp (n / 26-1) ++aZo (97+ (n % 26:Nat))
termination_by n
decreasing_by omega
structure TB (p:Prog) (fl pl:List aE) (A:Nat) :Prop where
 fl:fl.length≤1000000000
 pl:pl.length≤1000000000
 ks:∀x∈p.nodes,x.kids.length<1000000∧x.pats.length<1000000∧∀q∈x.pats,bJ q<1000000
 ad:∀x∈p.nodes,∀i:Nat,i<x.kids.length→Pure PP A [Node.av x,.int .i64 (i:Int)] (.int .i64 (aGc x i))
 kl:keyless (PA p) =true
def aE6(a b:Int)(c:aE)(d:List Term)(e:List Pat)(f g:Int)(i:aE)(j:List Term)(k:List Pat)(l:Int):TS:=⟨(tf 44 82 [kp 2 0,kp 3 1,(4,(bV false)),(5,(nI l))] [kc f44 116,kl f44 116,.inBlock 0,kc f44 15]),[],[oC 0 [(nI a),(nI b),(aD c),(.ilst 5 (Terms.av d) false),(iP e)],oC 1 [(nI f),(nI g),(aD i),(.ilst 5 (Terms.av j) false),(iP k)]],2⟩
def aCn(a b:Int)(c:aE)(d:List Term)(e:List Pat)(f g:Int)(i:aE)(j:List Term)(k:List Pat)(l:Int):TS:=⟨(tf 44 82 [kp 2 0,kp 3 1,(4,(bV false)),(6,(nI l))] [kc f44 244,kl f44 244,.inBlock 2,kc f44 31]),[],[oC 0 [(nI a),(nI b),(aD c),(.ilst 5 (Terms.av d) false),(iP e)],oC 1 [(nI f),(nI g),(aD i),(.ilst 5 (Terms.av j) false),(iP k)]],2⟩
def aDw(g i:Int)(a:aE)(b:List Term)(c:List Pat)(j k:Int)(d:aE)(e:List Term)(f:List Pat):=tT 0 (start PP 44 [(.agg [(nI g),(nI i),(aD a),(.ilst 5 (Terms.av b) false),(iP c)]),(.agg [(nI j),(nI k),(aD d),(.ilst 5 (Terms.av e) false),(iP f)])])<|.b 15 12 (g != j) (gE 38 2 (bV false))<|.b 7 19 (i != k) (gE 31 2 (bV false))<|.b 7 26 (!(aP a.length (aA a) d.length (aA d))) (gE 24 2 (bV false))<|gm 2 cG b<|gm 2 cG e<|.b 3 35 ((b.length:Int) != (e.length:Int)) (gE 15 2 (bV false))<|gm 2 aK c<|gm 2 aK f<|.b 3 43 ((c.length:Int) != (f.length:Int)) (gE 6 2 (bV false))<|.W 9 2 [0,1] (aE6 g i a b c j k d e f 0)
def aVe:=fun a b c d e f g i j k l=>aDw a b c d e f g i j k|>.t l tv
def aVf:=fun a b c d e f g i j k l m=>aDw a b c d e f g i j k|>.f l|>.t m tv
def aVg:=fun a b c d e f g i j k l m n=>aDw a b c d e f g i j k|>.f l|>.f m|>.t n tv
def aVh:=fun a b c d e f g i j k l m n o=>aDw a b c d e f g i j k|>.f l|>.f m|>.f n|>.t o tv
def aVi:=fun a b c d e f g i j k l m n o p=>aDw a b c d e f g i j k|>.f l|>.f m|>.f n|>.f o|>.t p tv
def aVj:=fun a b c d e f g i j k l m n o p=>aDw a b c d e f g i j k|>.f l|>.f m|>.f n|>.f o|>.f p tv
def aOx(d e:Int)(f:aE)(g:List Term)(b:List Pat)(i j:Int)(k:aE)(l:List Term)(c:List Pat)(a:Int):=tT 0 (aE6 d e f g b i j k l c a)<|gm 6 aK b<|gd 2 48 (a< (b.length:Int)) (.y fun m:Int=>.y fun n:Int=>.y fun o:aE=>.y fun p:List Pat=>.y fun q:Int=>.y fun r:Int=>.y fun s:aE=>.y fun t:List Pat=>.y fun u:Bool=>.i [rn 5,.reg (rd 3 (.ans (.idx (Pat.av (Pat.mk m n o p)))::rd 4 [.ans (.idx (Pat.av (Pat.mk q r s t))),.d,.pure (bV u),.d]))] [hA (0≤a),.a (((b)[a.toNat]?) =some (Pat.mk m n o p)) (eS aK),hA (0≤a),.a (((c)[a.toNat]?) =some (Pat.mk q r s t)) (eS aK),hA (Pure PP 78 [(.agg [(nI m),(nI n),(aD o),(iP p)]),(.agg [(nI q),(nI r),(aD s),(iP t)])] (bV u))]<|.b 0 62 (!u) (gE 6 2 (bV false))<|gw 6 50 (a+1)<|.W 3 2 [0,1] (aE6 d e f g b i j k l c (a+1)))<|.W 9 2 [0,1] (aCn d e f g b i j k l c 0)
def aVk:=fun b c d e f g i j k l m n o p q r s t u v w a x y z A=>aOx b c d e f g i j k l m|>.t w n o p q r s t u v a x a y z|>.t A tv
def aVl:=fun b c d e f g i j k l m n o p q r s t u v w a x y z A B=>aOx b c d e f g i j k l m|>.t w n o p q r s t u v a x a y z|>.f A B tv
def aVm:=fun a b c d e f g i j k l m=>aOx a b c d e f g i j k l|>.f m tv
def aOy(p q:Int)(r:aE)(b:List Term)(s:List Pat)(t u:Int)(v:aE)(c:List Term)(w:List Pat)(a:Int):=tT 0 (aCn p q r b s t u v c w a)<|gm 6 cG b<|gd 2 67 (a< (b.length:Int)) (.y fun d:Int=>.y fun e:Int=>.y fun f:aE=>.y fun g:List Term=>.y fun i:List Pat=>.y fun j:Int=>.y fun k:Int=>.y fun l:aE=>.y fun m:List Term=>.y fun n:List Pat=>.y fun o:Bool=>.i [rn 5,.reg (rd 3 (.ans (.idx (Term.av (Term.mk d e f g i)))::rd 4 [.ans (.idx (Term.av (Term.mk j k l m n))),.d,.pure (bV o),.d]))] [hA (0≤a),.a (((b)[a.toNat]?) =some (Term.mk d e f g i)) (eS cG),hA (0≤a),.a (((c)[a.toNat]?) =some (Term.mk j k l m n)) (eS cG),hA (Pure PP 44 [(.agg [(nI d),(nI e),(aD f),(.ilst 5 (Terms.av g) false),(iP i)]),(.agg [(nI j),(nI k),(aD l),(.ilst 5 (Terms.av m) false),(iP n)])] (bV o))]<|.b 0 81 (!o) (gE 6 2 (bV false))<|gw 6 69 (a+1)<|.W 3 2 [0,1] (aCn p q r b s t u v c w (a+1)))<|gE 7 2 (bV true)
def aVn:=fun b c d e f g i j k l m n o p q r s t u v w x y a z A B C=>aOy b c d e f g i j k l m|>.t y n o p q r s t u v w x a z a A B|>.t C tv
def aVo:=fun b c d e f g i j k l m n o p q r s t u v w x y a z A B C D=>aOy b c d e f g i j k l m|>.t y n o p q r s t u v w x a z a A B|>.f C D tv
def aVp:=fun a b c d e f g i j k l m=>aOy a b c d e f g i j k l|>.f m tv
structure Spk where
 prog:Prog
 funs:List aE
 places:List aE
def Spk.av (x:Spk) :AV:=.agg [.ilst 4 (map Node.av x.prog.nodes) false,.ilst 1 (map avI x.prog.funs) false,.int .i64 x.prog.main,.ilst 2 (map Con.av x.prog.cons) false,.ilst 1 (map aD x.funs) false,.ilst 1 (map aD x.places) false]
theorem aCo :∀ks:List Term,ks.length≤iL ks
 | [] =>Nat.zero_le _
 | k::ks=>by
  have:=aCo ks;obtain⟨_,_,_,_,_⟩ :=k;simp only [iL,qF,length_cons];omega
def aXs (n:Nat) :aE:=strOf [35] ++aZp n
mutual
def aZq (x y:aE) :Term→Term
 | .mk o n s ks ps=>if o=4 then .mk o n (if s=x then y else s) ks ps else .mk o n s (aXt x y o s ps 0 ks) ps
def aXt (x y:aE)(o:Int)(s:aE)(ps:List Pat) :Nat→List Term→List Term
 |_,[] =>[]
 |i,k::ks=> (if kG (aCh o s ps i) x=true then k else aZq x y k) ::aXt x y o s ps (i+1) ks
end
theorem hasS_mem {l:List aE}{s:aE}:kG l s=true↔s∈l:=by
 simp [kG]
theorem yU :∀ (l pre:List aE),bH pre l=true→l.Nodup∧∀x∈l,x∉pre
 | [],pre,_=> ⟨List.nodup_nil,fun x hx=>by cases hx⟩
 | x::t,pre,h=>by
  simp only [bH,and_eq_true,Bool.not_eq_true']at h;obtain⟨h1,h2⟩ :=yU t (pre++ [x]) h.2
  have hx:x∉pre:=fun hm=>by
   have:=hasS_mem.2 hm;rw [h.1]at this;cases this
  refine⟨List.nodup_cons.2 ⟨fun hm=>h2 x hm (by simp),h1⟩,fun y hy=>?_⟩;rcases List.mem_cons.1 hy with rfl|hy
  ·exact hx
  ·exact fun hm=>h2 y hy (List.mem_append_left _ hm)
structure Fm (p:Prog) :Prop where
 fine:FineP p
 cons:p.cons.length≤25
 dup: ((p.funs.map (pre p p.nodes.length)).flatten).Nodup
 len: ((p.funs.map (pre p p.nodes.length)).flatten).length=p.nodes.length
 into:∀x∈ (p.funs.map (pre p p.nodes.length)).flatten,0≤x∧x<p.nodes.length
 node:∀ (i:Nat) (x:Node),p.nodes[i]?=some x→qE p x=true∧x.pats.length≤10
 names: (p.cons.map Con.name).Nodup
theorem aH6 {p:Prog}(hs:jS p=true)(hf:gP p=true) :Fm p:=by
 have hss:=hs;simp only [jS,and_eq_true,decide_eq_true_eq]at hss;obtain⟨⟨⟨⟨s1,s2⟩,s3⟩,_⟩,s5⟩ :=hss;obtain⟨a,b,c,d⟩ :=aH2 hs hf;refine⟨aAN hs hf,s3,a,b,c,fun i x hx=> ⟨d i x hx,?_⟩,?_⟩
 · have h10:=List.all_eq_true.1 s5 x (mem_of_getElem? hx);simp only [aAd,and_eq_true,decide_eq_true_eq]at h10;omega
 · simp only [gP,and_eq_true,aHI]at hf;exact(yU _ _ hf.1.2.2).1
theorem aGu {α:Type}{l:List α}{i:Nat}{y:α}(h:l[i]?=some y) :l.take (i+1) =l.take i++ [y] :=by
 rw [take_add_one,h];rfl
section
variable (o n:Int) (s:aE) (ks:List Term) (ps:List Pat)
end
section
variable (o n:Int) (s:aE) (ks:List Term) (ps:List Pat)
end
def nodeAt (p:Prog)(k:Int) :Node:= (p.nodes[k.toNat]?).getD ⟨0,0,[],[]⟩
theorem aAj {p:Prog}{k:Int}{x:Node}(h:p.nodes[k.toNat]?=some x) :nodeAt p k=x:=by unfold nodeAt;rw [h];rfl
def wM (p:Prog) :List Int:= (p.funs.map (pre p p.nodes.length)).flatten
def KidsAfter (p:Prog)(l:List Int) :Prop:=∀ (i:Nat) (k c:Int),l[i]?=some k→c∈dX p k→∃j,i<j∧l[j]?=some c
theorem KidsAfter.append {p:Prog}{l m:List Int}(h1:KidsAfter p l)(h2:KidsAfter p m) :KidsAfter p (l++m) :=fun i k c hi hc=>by
 by_cases h:i<l.length
 · rw [List.getElem?_append_left h]at hi;obtain⟨j,hj,e⟩ :=h1 i k c hi hc;exact⟨j,hj,by rw [List.getElem?_append_left (List.getElem?_eq_some_iff.1 e).1];exact e⟩
 · rw [List.getElem?_append_right (by omega)]at hi;obtain⟨j,hj,e⟩ :=h2 _ k c hi hc;exact⟨l.length+j,by omega,by rw [List.getElem?_append_right (by omega),show l.length+j-l.length=j by omega];exact e⟩
theorem KidsAfter.flatten {p:Prog}:∀ {L:List (List Int)},(∀l∈L,KidsAfter p l) →KidsAfter p L.flatten
 | [],_=>fun i k c hi _=>by simp at hi
 | l::L,h=>by
  rw [flatten_cons];exact(h l (mem_cons_self ..)).append (KidsAfter.flatten fun m hm=>h m (mem_cons_of_mem _ hm))
theorem aGv {p:Prog}(h:Fm p){k:Int}(h0:0≤k)(h1:k<p.nodes.length) :∃i:Nat,(wM p)[i]?=some k:=by
 refine List.mem_iff_getElem?.1 ?_;have hd: ((wM p).map Int.toNat).Nodup:=by
  have hd:=h.dup;rw [List.nodup_iff_pairwise_ne]at hd ⊢;refine List.pairwise_map.2 (hd.imp_of_mem (fun {a b} ha hb hne e=>?_));have:=h.into a ha;have:=h.into b hb;exact hne (by omega)
 by_cases hm:k∈wM p
 ·exact hm
 · have h2:=uB (p.nodes.length) (k.toNat:: (wM p).map Int.toNat) (List.nodup_cons.2 ⟨fun hm2=>by
    obtain⟨y,hy,e⟩ :=List.mem_map.1 hm2;have:=h.into y hy;exact hm ((show y=k by omega) ▸ hy),hd⟩) (fun x hx=>by
    rcases List.mem_cons.1 hx with rfl|hx
    ·omega
    · obtain⟨y,hy,rfl⟩ :=List.mem_map.1 hx;have:=h.into y hy;omega)
   rw [length_cons,List.length_map]at h2;have:=h.len;unfold wM at h2;omega
structure Laid (a:Prog) (off:Nat) (p:Prog) (mf mc:List (Int×Int)) (to:List Int) :Prop where
 node:∀ (i:Nat) (k:Int),(wM p)[i]?=some k→a.nodes[off+i]?=some (aAK mf mc to (nodeAt p k))
 to:∀ (i:Nat) (k:Int),(wM p)[i]?=some k→aEv to k= ((off+i:Nat) :Int)
section
variable {a p:Prog} {off:Nat} {mf mc:List (Int×Int)} {to:List Int}
theorem Laid.at (h:Laid a off p mf mc to)(hp:Fm p){k:Int}(h0:0≤k)(h1:k<p.nodes.length) :0≤aEv to k∧a.nodes[(aEv to k).toNat]?=some (aAK mf mc to (nodeAt p k)) :=by
 obtain⟨i,hi⟩ :=aGv hp h0 h1;have e:=h.to i k hi;rw [e,Int.toNat_natCast];exact⟨by omega,h.node i k hi⟩
theorem Laid.pre (h:Laid a off p mf mc to)(hp:Fm p) :∀ (f:Nat) (k:Int),0≤k→k<p.nodes.length→p.nodes.length-k.toNat≤f→pre a f (aEv to k) = (pre p f k).map (aEv to)
 |0,k,h0,h1,h2=>by omega
 | f+1,k,h0,h1,h2=>by
  obtain⟨x,hx⟩ :∃x,p.nodes[k.toNat]?=some x:= ⟨_,getElem?_eq_getElem (by omega)⟩;obtain⟨g0,g1⟩ :=h.at hp h0 h1;rw [aAj hx]at g1;rw [Go.Hb.pre,Go.Hb.pre,hx,g1];simp only [map_cons,List.map_flatten,map_map,aAK];congr 2
  exact List.map_congr_left (fun c hc=>by
   have:= (hp.fine.node _ _ hx).2.2 c hc;exact h.pre hp f c (by omega) (by omega) (by omega))
end
structure MapsOk (p a:Prog) (mf mc:List (Int×Int)) :Prop where
 funs:∀i:Int,0≤i→i<p.funs.length→0≤mAt mf i∧mAt mf i<a.funs.length
 cons:∀ (i:Nat) (d:Con),p.cons[i]?=some d→0≤mAt mc (i:Int) ∧a.cons[(mAt mc (i:Int)).toNat]?=some d
section
variable {p a:Prog} {mf mc:List (Int×Int)}
theorem MapsOk.at (h:MapsOk p a mf mc){n:Int}(h0:0≤n)(h1:n<p.cons.length) :0≤mAt mc n∧mAt mc n<a.cons.length∧aBZ a.cons (mAt mc n) =aBZ p.cons n∧a.cons[(mAt mc n).toNat]?=p.cons[n.toNat]?:=by
 have e:p.cons[n.toNat]?=some p.cons[n.toNat] :=getElem?_eq_getElem (by omega);obtain⟨g0,g1⟩ :=h.cons n.toNat _ e;rw [show((n.toNat:Nat) :Int) =n by omega]at g0 g1;have:= (List.getElem?_eq_some_iff.1 g1).1;refine⟨g0,by omega,?_,by rw [g1,e]⟩;unfold aBZ;rw [g1,e]
end
def toL (p:Prog)(off:Nat) :List Int:=aOo (replicate p.nodes.length 0) off (wM p)
section
variable {p :Prog}
end
structure Fs (p:Prog) :Prop extends Fm p where
 sm:jS p=true
 fo:gP p=true
theorem Fs.of {p:Prog}(hs:jS p=true)(hf:gP p=true) :Fs p:={aH6 hs hf with sm:=hs,fo:=hf}
theorem Fs.head {p:Prog}(h:Fs p) :p.nodes.length≤300∧1≤p.funs.length∧p.funs.length≤p.nodes.length∧0≤p.main∧p.main<p.funs.length∧p.cons.length≤20∧ (∀c∈p.cons,aIu c=true) :=by
 have:=h.fo;simp only [gP,and_eq_true,aF4,aHI,decide_eq_true_eq]at this;obtain⟨⟨⟨⟨a1,a2⟩,a3⟩,⟨a4,a5⟩,_⟩,_⟩ :=this;simp [cC]at a2 a3;exact⟨a1,by omega,by omega,by omega,by omega,a5,fun c hc=>List.all_eq_true.1 a4 c hc⟩
section
variable {a :Prog} {N:Nat}
end
section
variable {p a:Prog} {off:Nat} {mf mc:List (Int×Int)} {to:List Int}
end
section
variable {p q:Prog}
end
mutual
theorem aJQ {cons:List Con}{mc mc' mc2:List (Int×Int)}(h:∀n:Int,0≤n→n<cons.length→mAt mc2 n=mAt mc' (mAt mc n)) :∀q:Pat,aDr cons q=true→aHT mc' (aHT mc q) =aHT mc2 q
 | .mk f n s ps,g=>by
  rw [aDr,and_eq_true]at g;rw [aHT,aHT,aHT,wN h ps g.2];by_cases hf:f=6
  · subst hf;have g1:=g.1;unfold aIt at g1;simp [cC]at g1;rw [if_pos rfl,if_pos rfl,if_pos rfl,h n g1.1.1.1 (by omega)]
  ·rw [if_neg hf,if_neg hf,if_neg hf]
theorem wN {cons:List Con}{mc mc' mc2:List (Int×Int)}(h:∀n:Int,0≤n→n<cons.length→mAt mc2 n=mAt mc' (mAt mc n)) :∀ps:List Pat,wG cons ps=true→yL mc' (yL mc ps) =yL mc2 ps
 | [],_=>rfl
 | q::ps,g=>by
  rw [wG,and_eq_true]at g;rw [yL,yL,yL,aJQ h q g.1,wN h ps g.2]
end
theorem aOz {p:Prog}{x:Node}(h:qE p x=true) : (x.op=4→ -(p.funs.length:Int) ≤x.n) ∧ (x.op=14→0≤x.n∧x.n<p.cons.length) ∧wG p.cons x.pats=true:=by
 simp only [qE,aF3,and_eq_true]at h;obtain⟨⟨⟨h1,_⟩,h2⟩,_⟩ :=h;refine⟨fun e=>?_,fun e=>?_,aCf fun q hq=>?_⟩
 · rw [e]at h1;simp [aAe,cC]at h1;omega
 · rw [e]at h1;simp [aAe,cC]at h1;omega
 · have:=List.all_eq_true.1 h2 q hq;simp only [aEp,and_eq_true]at this;exact this.2
structure Comp (p:Prog) (mf mc:List (Int×Int)) (to:List Int) (mf' mc':List (Int×Int)) (to':List Int) (mf2 mc2:List (Int×Int)) (to2:List Int) :Prop where
 f0:∀i:Int,0≤i→i<p.funs.length→0≤mAt mf i
 f:∀i:Int,0≤i→i<p.funs.length→mAt mf2 i=mAt mf' (mAt mf i)
 c:∀i:Int,0≤i→i<p.cons.length→mAt mc2 i=mAt mc' (mAt mc i)
 t:∀ (i:Nat) (k:Int),(wM p)[i]?=some k→aEv to2 k=aEv to' (aEv to k)
theorem Comp.node {p:Prog}{mf mc mf' mc' mf2 mc2:List (Int×Int)}{to to' to2:List Int}(h:Comp p mf mc to mf' mc' to' mf2 mc2 to2)(hp:Fm p){k:Int}(hk:k∈wM p) :aAK mf' mc' to' (aAK mf mc to (nodeAt p k)) =aAK mf2 mc2 to2 (nodeAt p k) :=by
 have hr:=hp.into k hk;obtain⟨x,hx⟩ :∃x,p.nodes[k.toNat]?=some x:= ⟨_,getElem?_eq_getElem (by omega)⟩;rw [aAj hx];obtain⟨h4,h14,hps⟩ :=aOz (hp.node _ x hx).1;unfold aAK;simp only [Node.mk.injEq,map_map,true_and];refine⟨?_,List.map_congr_left fun c hc=>?_,wN h.c _ hps⟩
 · unfold bN;by_cases e4:x.op=4
   · rw [if_pos e4,if_pos e4,if_pos e4];by_cases hn:0≤x.n
     ·rw [if_pos hn,if_pos hn,if_pos hn]
     · have:=h4 e4;have h0:=h.f0 (-1-x.n) (by omega) (by omega);have h1:=h.f (-1-x.n) (by omega) (by omega);rw [if_neg hn,if_neg hn,if_neg (by omega),h1];congr 2;omega
   · rw [if_neg e4,if_neg e4,if_neg e4];by_cases e14:x.op=14
     · have:=h14 e14;rw [if_pos e14,if_pos e14,if_pos e14,h.c x.n this.1 this.2]
     ·rw [if_neg e14,if_neg e14,if_neg e14]
 · have:= (hp.fine.node _ _ hx).2.2 c hc;obtain⟨i,hi⟩ :=aGv hp (k:=c) (by omega) (by omega);exact(h.t i c hi).symm
theorem Laid.slice {a p:Prog}{off:Nat}{mf mc:List (Int×Int)}{to:List Int}(h:Laid a off p mf mc to)(F:Node→Node) : ((List.range (wM p).length).map fun i=>F (nodeAt a ((off+i:Nat) :Int))) = (wM p).map fun k=>F (aAK mf mc to (nodeAt p k)) :=by
 refine List.ext_getElem? (fun i=>?_);rw [List.getElem?_map,List.getElem?_map];by_cases hi:i< (wM p).length
 · have e: (wM p)[i]?=some (wM p)[i] :=getElem?_eq_getElem hi;rw [List.getElem?_range hi,e];simp only [Option.map_some];rw [aAj (p:=a) (k:= ((off+i:Nat) :Int)) (by rw [Int.toNat_natCast];exact h.node i _ e)]
 ·rw [List.getElem?_eq_none (by simp;omega),List.getElem?_eq_none (by omega)];rfl
section
variable {p q r:Prog}
end
structure PlOk (p:Prog) (n:Nat) :Prop where
 low:30≤n
 big:n≤900000
 kid:∀ (a:Nat) (x:Node) (sz:Int) (i:Nat),(aH0 p)[a]?=some sz→p.nodes[a]?=some x→i<x.kids.length→sz+aGc x i≤n
 own:∀ (a:Nat) (x:Node) (sz:Int),(aH0 p)[a]?=some sz→p.nodes[a]?=some x→x.op=5∨x.op=27∨x.op=7→sz<n
def KidLe (p:Prog)(b:Int)(P:Nat→Prop) :Prop:=∀ (c:Nat) (x:Node) (s:Int) (i:Nat),P c→ (aH0 p)[c]?=some s→p.nodes[c]?=some x→i<x.kids.length→s+aGc x i≤b
theorem KidLe.mono {p:Prog}{b b':Int}{P:Nat→Prop}(h:KidLe p b P)(hb:b≤b') :KidLe p b' P:=fun c x s i a1 a2 a3 a4=>by
 have:=h c x s i a1 a2 a3 a4;omega
theorem Pure.val {P:Program}{f:Nat}{args:List AV}{v v':AV}(h:Pure P f args v)(hv:∀E cv,VR E v cv→VR E v' cv) :Pure P f args v':=fun hp=>by
 obtain⟨g,hg,he⟩ :=h hp;exact⟨g,hg,Ends.val he hv⟩
section
variable {P :Program}
end
inductive KVD where
 |row (l:List ConD)
 |nil
 |val (u:Value)
def KVD.av :KVD→AV
 | .row l=>.ilst 2 (map ConD.av l) false
 | .nil=>.nils
 | .val u=>.val u
structure ODat where
 name:aE
 kv:KVD
def ODat.av (x:ODat) :AV:=.agg [aD x.name,x.kv.av]
def DataD.o (x:DataD) :ODat:= ⟨x.name,.row x.cons⟩
end
end Go.Hb
