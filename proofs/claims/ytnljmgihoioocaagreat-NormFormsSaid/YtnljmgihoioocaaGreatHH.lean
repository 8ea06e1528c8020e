/- A machine on abstract values, its soundness, ways, plain laws. -/
import Derived.Test.YtnljmgihoioocaaGreatHF
import Derived.Test.YtnljmgihoioocaaGreatHG
set_option linter.defProp false
set_option linter.unusedVariables false
set_option linter.unusedSimpArgs false
set_option linter.unusedSectionVars false
set_option maxRecDepth 100000
set_option maxHeartbeats 2000000
namespace Go.Hb
open AV (func int keyless keylessL ren)
open List (all_cons drop length map map_nil map_set replicate set)
open Nat (add_zero ble blt div mod pow)
open Go.Proofs Tryz
noncomputable section
def zH(a:cF)(b:Nat):TS:=⟨(tf 195 16 [(2,(bV false)),kp 6 0] [kc f195 52,kl f195 52,.inBlock 0,kc f195 7]),[],[(0,(.siter a.length (aF a) b),false)],1⟩
def aBW(e f:Int)(g:cF)(a:List Pat)(b c d:Int):TS:=⟨(tf 171 27 [(1,(nI b)),(4,(nI 0)),(5,(nI c)),(9,(iP a)),(10,(nI (a.length:Int))),(11,(nI d))] [kc f171 116,kl f171 116,.inBlock 0,kc f171 15]),[],[],0⟩
def bHI(a b c:Int):=tT 0 (start PP 122 [(nI a),(nI b),(nI c)])<|gd 10 10 (a≥b) (gE 7 0 (bV (decide (a≤c))))<|gE 7 0 (bV false)
def bBC:=fun a b c d=>bHI a b c|>.t d tv
def bBD:=fun a b c d=>bHI a b c|>.f d tv
def aWu (b:Int):=fun a c=>(tT 0 (start PP 197 [(nI b)])<|kJ 7 122 [(nI b),(nI (-1000000000)),(nI 1000000000)]<|fun a=>gE 3 0 (bV a)) a c tv
def aPH (a:cF):=(tT 0 (start PP 195 [(dP a)])<|.W 12 1 [0] (zH a 0)) tv
def bBE(a:cF)(b:Nat):=tT 0 (zH a b)<|.o (.y fun c:Nat=>.y fun d:Nat=>.i [rn 2,.nxt c d] [hA (b<a.length),hA (aOl a.length (aF a) b=some (c,d))]<|gd 16 12 (((c:Nat) :Int) <97) (gE 10 1 (bV false))<|gd 4 15 (((c:Nat) :Int) >122) (gE 6 1 (bV false))<|.W 4 1 [0] (zH a (Nat.add b d)))<|.i [rn 2,.nxtE] [hA (a.length≤b)]<|gE 10 1 (bV true)
def aPI:=fun a b c d e f g=>bBE a b|>.1 c d e f|>.t g tv
def aPJ:=fun a b c d e f g i=>bBE a b|>.1 c d e f|>.f g|>.t i tv
def aPK:=fun a b c d e f g i=>bBE a b|>.1 c d e f|>.f g|>.f i tv
def aPL:=fun a b c=>bBE a b|>.2 c tv
def aWv(a:cF):=tT 0 (start PP 166 [(dP a)])<|.b 9 5 (!(kB a.length (aF a) 0 0)) (gd 5 10 ((a.length:Int) ≤8) (.y fun b:UInt8=>.i [rn 1,.ans (.ev (.int .u8 ((b.toNat:Nat) :Int)))] [.q (p:=0≤ (0:Int)) (by decide),.a ((a)[0]?=some b) (p':=(0:Int) < (a.length:Int)) (fun h=>(aCO (k:= (0:Int)) (by decide) h)),.a ((a)[0]?=some b) (p':=int .u8 ((mod (div (aF a) (pow 256 (0:Int).toNat)) 256:Nat) :Int) = (.int .u8 ((b.toNat:Nat) :Int))) (fun h=>(aCP (k:= (0:Int)) h))]<|gd 3 15 (((b.toNat:Nat) :Int) ≥65) (.i [rn 1,.ans (.ev (.int .u8 ((b.toNat:Nat) :Int)))] [.q (p:=0≤ (0:Int)) (by decide),.a ((a)[0]?=some b) (p':=(0:Int) < (a.length:Int)) (fun h=>(aCO (k:= (0:Int)) (by decide) h)),.a ((a)[0]?=some b) (p':=int .u8 ((mod (div (aF a) (pow 256 (0:Int).toNat)) 256:Nat) :Int) = (.int .u8 ((b.toNat:Nat) :Int))) (fun h=>(aCP (k:= (0:Int)) h))]<|gd 3 20 (((b.toNat:Nat) :Int) ≤90) (.i [rn 1,.ans (.ev (dP (drop 1 a)))] [.a (1≤length a) (p':=aS9 PP 9 (dP a) (some (nI 1)) none (dP (drop 1 a))) (fun h=>(aDz (k:= (1:Int)) aC (by decide) h))]<|kJ 0 195 [(dP (drop 1 a))]<|fun c=>gE 4 0 (bV c))<|gE 7 0 (bV false))<|gE 12 0 (bV false))<|gE 17 0 (bV false))<|gE 22 0 (bV false)
def aPM:=fun b c d e f a g i j k=>aWv b|>.t e|>.t f c a a|>.t g a a|>.t i j d k tv
def aPN:=fun b c d e a f g=>aWv b|>.t d|>.t e c a a|>.t f a a|>.f g tv
def aPO:=fun b c d e a f=>aWv b|>.t d|>.t e c a a|>.f f tv
def aPP:=fun a b c=>aWv a|>.t b|>.f c tv
def aPQ:=fun a b=>aWv a|>.f b tv
def bHJ(a:Con):=tT 0 (start PP 124 [(.agg [(dP a.name),(nI a.args)])])<|kJ 9 166 [(dP a.name)]<|fun b=>.b 1 6 b (kJ 2 122 [(nI a.args),(nI 0),(nI 3)]<|fun c=>gE 4 1 (bV c))<|gE 7 1 (bV false)
def aWw:=fun a b c d e f=>bHJ a b d|>.t e c f tv
def aWx:=fun a b c d=>bHJ a b c|>.f d tv
def aTW(c:Prog)(a:Node):=tT 0 (start PP 173 [(Prog.av c),(Node.av a)])<|.b 18 7 (a.op==1) (kJ 5 197 [(nI a.n)]<|fun b=>gE 3 2 (bV b))<|.b 6 12 (a.op==2) (kJ 5 122 [(nI a.n),(nI 0),(nI 1)]<|fun b=>gE 3 2 (bV b))<|.b 6 17 (a.op==24) (kJ 5 122 [(nI a.n),(nI 0),(nI 3)]<|fun b=>gE 3 2 (bV b))<|.b 6 22 (a.op==4) (gl 8 cG c.funs<|gw 1 30 (0- (c.funs.length:Int))<|kJ 0 122 [(nI a.n),(nI (0- (c.funs.length:Int))),(nI 29)]<|fun b=>gE 3 2 (bV b))<|.b 6 32 (a.op==14) (gE 6 2 (bV true))<|gE 11 2 (bV (a.n==0))
def aMq:=fun a b c d e=>aTW a b|>.t d c e tv
def aMr:=fun a b c d e f=>aTW a b|>.f d|>.t e c f tv
def aMs:=fun a b c d e f g=>aTW a b|>.f d|>.f e|>.t f c g tv
def aMt:=fun a b c d e f g i j=>aTW a b|>.f d|>.f e|>.f f|>.t g i c j tv
def aMu:=fun a b c d e f g=>aTW a b|>.f c|>.f d|>.f e|>.f f|>.t g tv
def aMv:=fun a b c d e f g=>aTW a b|>.f c|>.f d|>.f e|>.f f|>.f g tv
def aTX (b c:Int)(d:cF)(a:List Pat)(e:Int):=(tT 0 (start PP 171 [(.agg [(nI b),(nI c),(dP d),(iP a)]),(nI e)])<|gm 14 aH a<|.W 4 1 [] (aBW b c d a e 1 0)) tv
def bF8(e f:Int)(g:cF)(d:List Pat)(b a c:Int):=tT 0 (aBW e f g d b a c)<|gd 5 12 (c< (d.length:Int)) (uP 6 d c<|fun j k l m=>gd 11 17 (a>b) (gE 8 1 (nI a))<|gw 8 22 (b-a)<|gpI 0 171 [(.agg [(nI j),(nI k),(dP l),(iP m)]),(nI (b-a))]<|fun i=>gw 1 24 (a+i)<|gw 5 25 (c+1)<|.W 3 1 [] (aBW e f g d b (a+i) (c+1)))<|gE 8 0 (nI a)
def aTY:=fun a b c d e f g i j k l m n o p=>bF8 a b c d e f g|>.t m i j k l n o|>.t p tv
def aTZ:=fun a b c d e f g i j k l m n o p q r s t u=>bF8 a b c d e f g|>.t n i j k l o p|>.f q r m s t u tv
def aT0:=fun a b c d e f g i=>bF8 a b c d e f g|>.f i tv
def aAX(d:Prog)(e c:Int)(f:cF)(a:List Pat):=tT 0 (start PP 172 [(Prog.av d),(.agg [(nI e),(nI c),(dP f),(iP a)])])<|.b 13 8 (!(kB f.length (aF f) 0 0)) (gE 14 2 (bV false))<|kJ 4 174 [(iP a),(.func 172 [(Prog.av d)] [])]<|fun i=>.b 3 15 (!i) (gE 6 2 (bV false))<|.b 15 18 (e==1) (.b 9 25 (c==0) (gm 2 aH a<|gE 5 2 (bV ((a.length:Int) ==0)))<|gE 8 2 (bV false))<|.b 6 18 (e==2) (.b 9 25 (c==0) (gm 2 aH a<|gE 5 2 (bV ((a.length:Int) ==0)))<|gE 8 2 (bV false))<|.b 5 18 (e==5) (.b 7 25 (c==0) (gm 2 aH a<|gE 5 2 (bV ((a.length:Int) ==0)))<|gE 8 2 (bV false))<|.b 6 31 (e==3) (kJ 5 197 [(nI c)]<|fun b=>.b 1 36 b (gm 2 aH a<|gE 5 2 (bV ((a.length:Int) ==0)))<|gE 8 2 (bV false))<|.b 6 42 (e==4) (kJ 5 122 [(nI c),(nI 0),(nI 1)]<|fun b=>.b 1 47 b (gm 2 aH a<|gE 5 2 (bV ((a.length:Int) ==0)))<|gE 8 2 (bV false))<|.b 6 53 (e==6) (.o (.y fun b:Bool=>.y fun g:Con=>.i [rn 2,.reg (rd 5 (.ans (.len (d.cons.length:Int))::.d::.pure (bV b)::.d::.b 63 true::.d::.d::.ans (.len (a.length:Int))::rd 5 (.ans (.idx (Con.av g))::rd 5 [])))] [hl Con.av d.cons,hA (aK PP 122 [(nI c),(nI 0),(nI (IntKind.i64.wrap ((d.cons.length:Int) -1)))] (bV b)),hA (b=true),hm aH a,hA (0≤c),.a (((d.cons)[c.toNat]?) =some g) (bL (f:=Con.av))]<|gE 1 2 (bV ((a.length:Int) ==g.args)))<|.y fun b:Bool=>.i [rn 2,.reg (rd 5 (.ans (.len (d.cons.length:Int))::.d::.pure (bV b)::.d::.b 63 false::rd 14 []))] [hl Con.av d.cons,hA (aK PP 122 [(nI c),(nI 0),(nI (IntKind.i64.wrap ((d.cons.length:Int) -1)))] (bV b)),hA (b=false)]<|gE 1 2 (bV false))<|gE 8 2 (bV false)
def aWy:=fun a b c d e f=>aAX a b c d e|>.t f tv
def aWz:=fun a b c d e f g i j=>aAX a b c d e|>.f g f i|>.t j tv
def aWA:=fun a b c d e f g i j k l=>aAX a b c d e|>.f g f i|>.f j|>.t k|>.t l tv
def aWB:=fun a b c d e f g i j k l=>aAX a b c d e|>.f g f i|>.f j|>.t k|>.f l tv
def aWC:=fun a b c d e f g i j k l m=>aAX a b c d e|>.f g f i|>.f j|>.f k|>.t l|>.t m tv
def aWD:=fun a b c d e f g i j k l m=>aAX a b c d e|>.f g f i|>.f j|>.f k|>.t l|>.f m tv
def aWE:=fun a b c d e f g i j k l m n=>aAX a b c d e|>.f g f i|>.f j|>.f k|>.f l|>.t m|>.t n tv
def aWF:=fun a b c d e f g i j k l m n=>aAX a b c d e|>.f g f i|>.f j|>.f k|>.f l|>.t m|>.f n tv
def aWG:=fun a b c d e f g i j k l m n o p q=>aAX a b c d e|>.f i f j|>.f k|>.f l|>.f m|>.f n|>.t o g p|>.t q tv
def aWH:=fun a b c d e f g i j k l m n o p q=>aAX a b c d e|>.f i f j|>.f k|>.f l|>.f m|>.f n|>.t o g p|>.f q tv
def aT1:=fun a b c d e f g i j k l m n o p q r=>aAX a b c d e|>.f i f j|>.f k|>.f l|>.f m|>.f n|>.f o|>.t p g q|>.t r tv
def aT2:=fun a b c d e f g i j k l m n o p q r=>aAX a b c d e|>.f i f j|>.f k|>.f l|>.f m|>.f n|>.f o|>.t p g q|>.f r tv
def aT3:=fun a b c d e f g i j k l m n o p q r s t u v=>aAX a b c d e|>.f j f k|>.f l|>.f m|>.f n|>.f o|>.f p|>.f q|>.t r|>.1 g i s t u v tv
def aT4:=fun a b c d e f g i j k l m n o p q r s=>aAX a b c d e|>.f i f j|>.f k|>.f l|>.f m|>.f n|>.f o|>.f p|>.t q|>.2 g r s tv
def aT5:=fun a b c d e f g i j k l m n o p=>aAX a b c d e|>.f g f i|>.f j|>.f k|>.f l|>.f m|>.f n|>.f o|>.f p tv
def mD(a:Int):=tT 0 (start PP 169 [(nI a)])<|.b 16 4 (a==1) (gE 9 0 (.iface 242 (nI 0)))<|.b 6 4 (a==2) (gE 9 0 (.iface 242 (nI 0)))<|.b 6 4 (a==3) (gE 9 0 (.iface 242 (nI 0)))<|.b 6 4 (a==4) (gE 9 0 (.iface 242 (nI 0)))<|.b 6 4 (a==21) (gE 9 0 (.iface 242 (nI 0)))<|.b 6 4 (a==25) (gE 9 0 (.iface 242 (nI 0)))<|.b 5 4 (a==28) (gE 7 0 (.iface 242 (nI 0)))<|.b 7 13 (a==5) (gE 9 0 (.iface 242 (nI 1)))<|.b 6 13 (a==27) (gE 9 0 (.iface 242 (nI 1)))<|.b 6 13 (a==16) (gE 9 0 (.iface 242 (nI 1)))<|.b 6 13 (a==17) (gE 9 0 (.iface 242 (nI 1)))<|.b 6 13 (a==19) (gE 9 0 (.iface 242 (nI 1)))<|.b 6 13 (a==20) (gE 9 0 (.iface 242 (nI 1)))<|.b 6 13 (a==23) (gE 9 0 (.iface 242 (nI 1)))<|.b 6 13 (a==24) (gE 9 0 (.iface 242 (nI 1)))<|.b 5 13 (a==26) (gE 7 0 (.iface 242 (nI 1)))<|.b 7 24 (a==6) (gE 9 0 (.iface 242 (nI 2)))<|.b 6 24 (a==7) (gE 9 0 (.iface 242 (nI 2)))<|.b 6 24 (a==9) (gE 9 0 (.iface 242 (nI 2)))<|.b 6 24 (a==10) (gE 9 0 (.iface 242 (nI 2)))<|.b 6 24 (a==11) (gE 9 0 (.iface 242 (nI 2)))<|.b 6 24 (a==12) (gE 9 0 (.iface 242 (nI 2)))<|.b 6 24 (a==13) (gE 9 0 (.iface 242 (nI 2)))<|.b 6 24 (a==18) (gE 9 0 (.iface 242 (nI 2)))<|.b 5 24 (a==22) (gE 7 0 (.iface 242 (nI 2)))<|.b 6 35 (a==8) (gE 7 0 (.iface 242 (nI 3)))<|.b 6 38 (a==14) (gE 8 0 (.iface 243 (.agg [])))<|.b 6 42 (a==15) (gE 8 0 (.iface 225 (.agg [])))<|gE 8 0 .nili
def aMw:=fun a b=>mD a|>.t b tv
def aMx:=fun a b c=>mD a|>.f b|>.t c tv
def aMy:=fun a b c d=>mD a|>.f b|>.f c|>.t d tv
def aMz:=fun a b c d e=>mD a|>.f b|>.f c|>.f d|>.t e tv
def aMA:=fun a b c d e f=>mD a|>.f b|>.f c|>.f d|>.f e|>.t f tv
def aMB:=fun a b c d e f g=>mD a|>.f b|>.f c|>.f d|>.f e|>.f f|>.t g tv
def aMC:=fun a b c d e f g i=>mD a|>.f b|>.f c|>.f d|>.f e|>.f f|>.f g|>.t i tv
def aMD:=fun a b c d e f g i j=>mD a|>.f b|>.f c|>.f d|>.f e|>.f f|>.f g|>.f i|>.t j tv
def aME:=fun a b c d e f g i j k=>mD a|>.f b|>.f c|>.f d|>.f e|>.f f|>.f g|>.f i|>.f j|>.t k tv
def aMF:=fun a b c d e f g i j k l=>mD a|>.f b|>.f c|>.f d|>.f e|>.f f|>.f g|>.f i|>.f j|>.f k|>.t l tv
def aJA:=fun a b c d e f g i j k l m=>mD a|>.f b|>.f c|>.f d|>.f e|>.f f|>.f g|>.f i|>.f j|>.f k|>.f l|>.t m tv
def aJB:=fun a b c d e f g i j k l m n=>mD a|>.f b|>.f c|>.f d|>.f e|>.f f|>.f g|>.f i|>.f j|>.f k|>.f l|>.f m|>.t n tv
def aJC:=fun a b c d e f g i j k l m n o=>mD a|>.f b|>.f c|>.f d|>.f e|>.f f|>.f g|>.f i|>.f j|>.f k|>.f l|>.f m|>.f n|>.t o tv
def aJD:=fun a b c d e f g i j k l m n o p=>mD a|>.f b|>.f c|>.f d|>.f e|>.f f|>.f g|>.f i|>.f j|>.f k|>.f l|>.f m|>.f n|>.f o|>.t p tv
def aJE:=fun a b c d e f g i j k l m n o p q=>mD a|>.f b|>.f c|>.f d|>.f e|>.f f|>.f g|>.f i|>.f j|>.f k|>.f l|>.f m|>.f n|>.f o|>.f p|>.t q tv
def aJF:=fun a b c d e f g i j k l m n o p q r=>mD a|>.f b|>.f c|>.f d|>.f e|>.f f|>.f g|>.f i|>.f j|>.f k|>.f l|>.f m|>.f n|>.f o|>.f p|>.f q|>.t r tv
def aJG:=fun a b c d e f g i j k l m n o p q r s=>mD a|>.f b|>.f c|>.f d|>.f e|>.f f|>.f g|>.f i|>.f j|>.f k|>.f l|>.f m|>.f n|>.f o|>.f p|>.f q|>.f r|>.t s tv
def aJH:=fun a b c d e f g i j k l m n o p q r s t=>mD a|>.f b|>.f c|>.f d|>.f e|>.f f|>.f g|>.f i|>.f j|>.f k|>.f l|>.f m|>.f n|>.f o|>.f p|>.f q|>.f r|>.f s|>.t t tv
def aJI:=fun a b c d e f g i j k l m n o p q r s t u=>mD a|>.f b|>.f c|>.f d|>.f e|>.f f|>.f g|>.f i|>.f j|>.f k|>.f l|>.f m|>.f n|>.f o|>.f p|>.f q|>.f r|>.f s|>.f t|>.t u tv
def aJJ:=fun a b c d e f g i j k l m n o p q r s t u v=>mD a|>.f b|>.f c|>.f d|>.f e|>.f f|>.f g|>.f i|>.f j|>.f k|>.f l|>.f m|>.f n|>.f o|>.f p|>.f q|>.f r|>.f s|>.f t|>.f u|>.t v tv
def aJK:=fun a b c d e f g i j k l m n o p q r s t u v w=>mD a|>.f b|>.f c|>.f d|>.f e|>.f f|>.f g|>.f i|>.f j|>.f k|>.f l|>.f m|>.f n|>.f o|>.f p|>.f q|>.f r|>.f s|>.f t|>.f u|>.f v|>.t w tv
def aJL:=fun a b c d e f g i j k l m n o p q r s t u v w x=>mD a|>.f b|>.f c|>.f d|>.f e|>.f f|>.f g|>.f i|>.f j|>.f k|>.f l|>.f m|>.f n|>.f o|>.f p|>.f q|>.f r|>.f s|>.f t|>.f u|>.f v|>.f w|>.t x tv
def aJM:=fun a b c d e f g i j k l m n o p q r s t u v w x y=>mD a|>.f b|>.f c|>.f d|>.f e|>.f f|>.f g|>.f i|>.f j|>.f k|>.f l|>.f m|>.f n|>.f o|>.f p|>.f q|>.f r|>.f s|>.f t|>.f u|>.f v|>.f w|>.f x|>.t y tv
def aJN:=fun a b c d e f g i j k l m n o p q r s t u v w x y z=>mD a|>.f b|>.f c|>.f d|>.f e|>.f f|>.f g|>.f i|>.f j|>.f k|>.f l|>.f m|>.f n|>.f o|>.f p|>.f q|>.f r|>.f s|>.f t|>.f u|>.f v|>.f w|>.f x|>.f y|>.t z tv
def aJO:=fun a b c d e f g i j k l m n o p q r s t u v w x y z A=>mD a|>.f b|>.f c|>.f d|>.f e|>.f f|>.f g|>.f i|>.f j|>.f k|>.f l|>.f m|>.f n|>.f o|>.f p|>.f q|>.f r|>.f s|>.f t|>.f u|>.f v|>.f w|>.f x|>.f y|>.f z|>.t A tv
def aJP:=fun a b c d e f g i j k l m n o p q r s t u v w x y z A B=>mD a|>.f b|>.f c|>.f d|>.f e|>.f f|>.f g|>.f i|>.f j|>.f k|>.f l|>.f m|>.f n|>.f o|>.f p|>.f q|>.f r|>.f s|>.f t|>.f u|>.f v|>.f w|>.f x|>.f y|>.f z|>.f A|>.t B tv
def aJQ:=fun a b c d e f g i j k l m n o p q r s t u v w x y z A B C=>mD a|>.f b|>.f c|>.f d|>.f e|>.f f|>.f g|>.f i|>.f j|>.f k|>.f l|>.f m|>.f n|>.f o|>.f p|>.f q|>.f r|>.f s|>.f t|>.f u|>.f v|>.f w|>.f x|>.f y|>.f z|>.f A|>.f B|>.t C tv
def aJR:=fun a b c d e f g i j k l m n o p q r s t u v w x y z A B C D=>mD a|>.f b|>.f c|>.f d|>.f e|>.f f|>.f g|>.f i|>.f j|>.f k|>.f l|>.f m|>.f n|>.f o|>.f p|>.f q|>.f r|>.f s|>.f t|>.f u|>.f v|>.f w|>.f x|>.f y|>.f z|>.f A|>.f B|>.f C|>.t D tv
def aJS:=fun a b c d e f g i j k l m n o p q r s t u v w x y z A B C D=>mD a|>.f b|>.f c|>.f d|>.f e|>.f f|>.f g|>.f i|>.f j|>.f k|>.f l|>.f m|>.f n|>.f o|>.f p|>.f q|>.f r|>.f s|>.f t|>.f u|>.f v|>.f w|>.f x|>.f y|>.f z|>.f A|>.f B|>.f C|>.f D tv
def aEi(a:List Pat)(b:Prog)(c:Int):TS:=⟨(tf 211 19 [(0,(iP a)),(1,(.func 199 [] [(.ptr 0 0)])),(4,(nI 0)),(7,(nI (a.length:Int))),(8,(nI c))] [kc f211 52,kl f211 52,.inBlock 0,kc f211 7]),[(tf 198 9 [(4,(bV false)),(5,(iP a)),(6,(.func 199 [] [(.ptr 0 0)]))] [ko f198 6 2,kc f198 7]),(tf 174 9 [(4,(bV false)),(5,(iP a)),(6,(.func 199 [] [(.ptr 0 0)]))] [ko f174 6 2,kc f174 7])],[oC 0 [(.func 172 [(Prog.av b)] [])]],1⟩
def sW(b:Prog)(a:Node)(c:Int):TS:=⟨(tf 211 19 [(0,(iP a.pats)),(1,(.func 199 [] [(.ptr 0 0)])),(4,(nI 0)),(7,(nI (a.pats.length:Int))),(8,(nI c))] [kc f211 52,kl f211 52,.inBlock 0,kc f211 7]),[(tf 198 9 [(4,(bV false)),(5,(iP a.pats)),(6,(.func 199 [] [(.ptr 0 0)]))] [ko f198 6 2,kc f198 7]),(tf 174 9 [(4,(bV false)),(5,(iP a.pats)),(6,(.func 199 [] [(.ptr 0 0)]))] [ko f174 6 2,kc f174 7]),(tf 129 35 [(4,(bV false)),(29,(bV true)),(31,(iP a.pats)),(32,(.func 170 [] [(.ptr 1 0)]))] [ko f129 62 13,kc f129 63])],[oC 0 [(.func 170 [] [(.ptr 1 0)])],oC 1 [(iN b.nodes),(iI b.funs),(nI b.main),(iC b.cons)]],2⟩
def uY(a:List cF)(c:Int)(b:List (cF×Bool)):TS:=⟨(tf 125 21 [(0,(iS a)),(2,(bV false)),(3,(.map 0)),(7,(iS a)),(8,(nI (a.length:Int))),(9,(nI c))] [kc f125 116,kl f125 116,.inBlock 0,kc f125 15]),[],[(0,(.map (fG dP zA 0 b) b.length),true)],1⟩
def aWI (a:List Pat)(b:Prog):=(tT 0 (start PP 174 [(iP a),(.func 172 [(Prog.av b)] [])])<|gm 27 aH a<|.W 4 1 [0] (aEi a b 0)) tv
def bF9(b:List Pat)(c:Prog)(a:Int):=tT 0 (aEi b c a)<|gd 5 9 (a< (b.length:Int)) (uP 14 b a<|fun d e f g=>kJ 11 172 [(Prog.av c),(.agg [(nI d),(nI e),(dP f),(iP g)])]<|fun i=>.b 6 16 (!i) (gE 17 2 (bV (!(decide (a≥0)))))<|gw 5 18 (a+1)<|.W 3 2 [0] (aEi b c (a+1)))<|gE 17 1 (bV true)
def aWJ:=fun a b c d e f g i j k l m n=>bF9 a b c|>.t j d e f g k l i m|>.t n tv
def aWK:=fun a b c d e f g i j k l m n o=>bF9 a b c|>.t j d e f g k l i m|>.f n o tv
def aWL:=fun a b c d=>bF9 a b c|>.f d tv
def aCY(b:Prog)(a:Node):=tT 0 (start PP 129 [(Prog.av b),(Node.av a)])<|.o (gp 10 169 [(nI a.op)] (.iface 225 (.agg []))<|gm 44 aH a.pats<|kJ 0 122 [(nI (a.pats.length:Int)),(nI 1),(nI 5)]<|fun c=>.b 1 11 c (gl 2 cG a.kids<|gm 2 aH a.pats<|gw 1 18 (1+ (a.pats.length:Int))<|.b 7 24 ((a.kids.length:Int) == (1+ (a.pats.length:Int))) (kJ 2 173 [(Prog.av b),(Node.av a)]<|fun d=>.b 2 29 d (gm 31 aH a.pats<|.W 4 6 [5,0] (sW b a 0))<|gE 8 5 (bV false))<|gE 13 5 (bV false))<|gE 27 5 (bV false))<|.o (gp 10 169 [(nI a.op)] (.iface 243 (.agg []))<|gm 24 aH a.pats<|gd 2 14 ((a.pats.length:Int) >0) (gE 6 2 (bV false))<|.o (.y fun c:Bool=>.y fun d:Con=>.i [rn 22,.reg (rd 5 (.ans (.len (b.cons.length:Int))::.d::.pure (bV c)::.d::.b 15 true::.d::.d::.ans (.len (a.kids.length:Int))::rd 5 (.ans (.idx (Con.av d))::rd 5 [])))] [hl Con.av b.cons,hA (aK PP 122 [(nI a.n),(nI 0),(nI (IntKind.i64.wrap ((b.cons.length:Int) -1)))] (bV c)),hA (c=true),hl cG a.kids,hA (0≤a.n),.a (((b.cons)[a.n.toNat]?) =some d) (bL (f:=Con.av))]<|.b 3 24 ((a.kids.length:Int) ==d.args) (kJ 2 173 [(Prog.av b),(Node.av a)]<|fun f=>.b 2 29 f (gm 31 aH a.pats<|.W 4 6 [5,0] (sW b a 0)) .x)<|gE 13 5 (bV false))<|.y fun c:Bool=>.i [rn 22,.reg (rd 5 (.ans (.len (b.cons.length:Int))::.d::.pure (bV c)::.d::.b 15 false::rd 14 []))] [hl Con.av b.cons,hA (aK PP 122 [(nI a.n),(nI 0),(nI (IntKind.i64.wrap ((b.cons.length:Int) -1)))] (bV c)),hA (c=false)]<|gE 16 5 (bV false))<|.o (.y fun e:Int=>gp 10 169 [(nI a.op)] (.iface 242 (nI e))<|gm 24 aH a.pats<|gd 2 14 ((a.pats.length:Int) >0) (gE 6 2 (bV false))<|gl 24 cG a.kids<|.b 7 24 ((a.kids.length:Int) ==e) (kJ 2 173 [(Prog.av b),(Node.av a)]<|fun d=>.b 2 29 d (gm 31 aH a.pats<|.W 4 5 [4,0] (sW b a 0))<|gE 8 4 (bV false))<|gE 13 4 (bV false))<|gp 10 169 [(nI a.op)] (.nili)<|gE 18 2 (bV false)
def aT6:=fun a b c d e f g i j k l=>aCY a b|>.1 e c f|>.t g i|>.t j d k|>.t l tv
def aT7:=fun a b c d e f g i j k l=>aCY a b|>.1 e c f|>.t g i|>.t j d k|>.f l tv
def aT8:=fun a b c d e f g i=>aCY a b|>.1 d c e|>.t f g|>.f i tv
def aT9:=fun a b c d e f=>aCY a b|>.1 d c e|>.f f tv
def aUa:=fun a b c d=>aCY a b|>.2|>.1 c|>.t d tv
def aUb:=fun a b c d e f g i j k l m n o=>aCY a b|>.2|>.1 f|>.f g|>.1 c d i j k l|>.t m e n|>.t o tv
def aUc:=fun a b c d e f g i j k l=>aCY a b|>.2|>.1 e|>.f f|>.1 c d g i j k|>.f l tv
def aUd:=fun a b c d e f g=>aCY a b|>.2|>.1 d|>.f e|>.2 c f g tv
def aUe:=fun a b c d e=>aCY a b|>.2|>.2|>.1 c d|>.t e tv
def aPR:=fun a b c d e f g i j=>aCY a b|>.2|>.2|>.1 c e|>.f f|>.t g d i|>.t j tv
def aPS:=fun a b c d e f g i j=>aCY a b|>.2|>.2|>.1 c e|>.f f|>.t g d i|>.f j tv
def aPT:=fun a b c d e f=>aCY a b|>.2|>.2|>.1 c d|>.f e|>.f f tv
def aPU:=fun a b c=>aCY a b|>.2|>.2|>.2 c tv
def bBF(c:Prog)(b:Node)(a:Int):=tT 0 (sW c b a)<|gd 5 9 (a< (b.pats.length:Int)) (uP 14 b.pats a<|fun d e f g=>gpI 20 171 [(.agg [(nI d),(nI e),(dP f),(iP g)]),(nI 12)]<|fun i=>gd 2 7 (i≤12) (kJ 2 172 [(Prog.av c),(.agg [(nI d),(nI e),(dP f),(iP g)])]<|fun j=>.b 11 16 (!j) (gE 22 4 (bV (!(decide (a≥0)))))<|gw 5 18 (a+1)<|.W 3 4 [0,1] (sW c b (a+1)))<|gE 36 4 (bV (!(decide (a≥0)))))<|gE 22 2 (bV true)
def aUf:=fun a b c d e f g i j k l m n o p q=>bBF a b c|>.t k d e f g l m i n|>.t o j p|>.t q tv
def aUg:=fun a b c d e f g i j k l m n o p q r=>bBF a b c|>.t k d e f g l m i n|>.t o j p|>.f q r tv
def aUh:=fun a b c d e f g i j k l m n=>bBF a b c|>.t j d e f g k l i m|>.f n tv
def aUi:=fun a b c d=>bBF a b c|>.f d tv
def aMG (a:List cF):=(tT 0 (start PP 125 [(iS a)])<|.i [rn 7,.mset 0 (fG dP zA 0 ([] :List (cF×Bool))) ([] :List (cF×Bool)).length] [hr (fG dP zA 0 ([] :List (cF×Bool))),hr (length ([] :List (cF×Bool)))]<|gl 6 dP a<|.W 4 1 [0] (uY a 0 ([] :List (cF×Bool)))) ⟨kZ0,trivial⟩
def bHK(b:List cF)(d:Int)(a:List (cF×Bool)):=tT 0 (uY b d a)<|gd 5 10 (d< (b.length:Int)) (gX dP 6 b d<|fun c=>.i [rn 6,.mput (fG dP zA 0 (nC c true a)) (nC c true a).length] [.q (p:=aAS (fG dP zA 0 a) a.length (dP c) (zA true) =some ((fG dP zA 0 (nC c true a)),length (nC c true a))) (bBl bBk _ _ _)]<|gw 4 15 (d+1)<|.W 3 1 [0] (uY b (d+1) (nC c true a)))<|.i [rn 6,sI 17 (a.length:Int)] [.q (p:=(nI ((fG dP zA 0 a).length:Int)) = (nI (a.length:Int))) (aVZ _ _ _)]<|gl 1 dP b<|gE 4 1 (bV ((a.length:Int) == (b.length:Int)))
def aMH:=fun a b c d e f g i=>bHK a b c|>.t e d f g i ⟨kZ0,trivial⟩
def aMI:=fun a b c d=>bHK a b c|>.f d tv
def aEj(a:List Node)(b:Prog)(c:Int):TS:=⟨(tf 196 19 [(0,(iN a)),(1,(.func 168 [] [(.ptr 0 0)])),(4,(nI 0)),(7,(nI (a.length:Int))),(8,(nI c))] [kc f196 52,kl f196 52,.inBlock 0,kc f196 7]),[(tf 167 9 [(4,(bV false)),(5,(iN a)),(6,(.func 168 [] [(.ptr 0 0)]))] [ko f167 6 2,kc f167 7]),(tf 128 9 [(4,(bV false)),(5,(iN a)),(6,(.func 168 [] [(.ptr 0 0)]))] [ko f128 6 2,kc f128 7])],[oC 0 [(.func 129 [(Prog.av b)] [])]],1⟩
def aEk(a:List Con)(b:Int):TS:=⟨(tf 194 19 [(0,(iC a)),(1,(.func 165 [] [(.ptr 0 0)])),(4,(nI 0)),(7,(nI (a.length:Int))),(8,(nI b))] [kc f194 52,kl f194 52,.inBlock 0,kc f194 7]),[(tf 164 9 [(4,(bV false)),(5,(iC a)),(6,(.func 165 [] [(.ptr 0 0)]))] [ko f164 6 2,kc f164 7]),(tf 123 9 [(4,(bV false)),(5,(iC a)),(6,(.func 165 [] [(.ptr 0 0)]))] [ko f123 6 2,kc f123 7])],[oC 0 [(.func 124 [] [])]],1⟩
def aEl(a:List Int)(b:Int):TS:=⟨(tf 200 19 [(0,(.ilst 1 (jI a) true)),(1,(.func 176 [] [(.ptr 0 0)])),(4,(nI 0)),(7,(nI (a.length:Int))),(8,(nI b))] [kc f200 52,kl f200 52,.inBlock 0,kc f200 7]),[(tf 175 9 [(4,(bV false)),(5,(.ilst 1 (jI a) true)),(6,(.func 176 [] [(.ptr 0 0)]))] [ko f175 6 2,kc f175 7]),(tf 130 9 [(4,(bV false)),(5,(.ilst 1 (jI a) true)),(6,(.func 176 [] [(.ptr 0 0)]))] [ko f130 6 2,kc f130 7])],[oC 0 [(.func 131 [] [])]],1⟩
def aEm(a:List Con)(c:Int)(b:List cF):TS:=⟨(tf 126 22 [(1,(.func 127 [] [])),(4,.nils),(5,(.gl 0 1 0 b.length false)),(8,(iC a)),(9,(nI (a.length:Int))),(10,(nI c))] [kc f126 116,kl f126 116,.inBlock 0,kc f126 15]),[],[oL 0 1 (map dP b)],1⟩
def uZ(a:Prog)(c:Int)(b:List Int):TS:=⟨(tf 88 128 [kp 1 0,(2,(bV false)),(3,(nI (a.nodes.length:Int))),(4,(.gl 1 1 0 b.length true)),(77,(iI a.funs)),(78,(nI (a.funs.length:Int))),(79,(nI c))] [kc f88 1012,kl f88 1012,.inBlock 0,kc f88 127]),[],[oC 0 [(iN a.nodes),(iI a.funs),(nI a.main),(iC a.cons)],oL 1 1 (jI b)],2⟩
def qC(a:Prog)(b:List Int)(c:Int):TS:=⟨(tf 88 128 [(2,(bV false)),(3,(nI (a.nodes.length:Int))),(4,(.gl 0 1 0 b.length true)),(97,(iN a.nodes)),(98,(nI (a.nodes.length:Int))),(99,(nI c))] [kc f88 2036,kl f88 2036,.inBlock 2,kc f88 255]),[],[oL 0 1 (jI b)],1⟩
def vA(a:Prog)(c:List Int)(d:Int)(b:List Int)(e f g:Int):TS:=⟨(tf 88 128 [(2,(bV false)),(3,(nI (a.nodes.length:Int))),(4,(.gl 0 1 0 b.length true)),(7,(nI f)),(97,(iN a.nodes)),(98,(nI (a.nodes.length:Int))),(99,(nI g)),(105,(iI c)),(106,(nI d)),(107,(nI e))] [kc f88 521420,kl f88 521420,.inBlock 4,.inBlock 3,kc f88 16295,kl f88 2036,.inBlock 2,kc f88 255]),[],[oL 0 1 (jI b)],1⟩
def aWM (a:List Node)(b:Prog):=(tT 0 (start PP 128 [(iN a),(.func 129 [(Prog.av b)] [])])<|gl 27 Node.av a<|.W 4 1 [0] (aEj a b 0)) tv
def bGa(b:List Node)(c:Prog)(a:Int):=tT 0 (aEj b c a)<|gd 5 9 (a< (b.length:Int)) (gX Node.av 14 b a<|fun d=>kJ 11 129 [(Prog.av c),(Node.av d)]<|fun e=>.b 6 16 (!e) (gE 17 2 (bV (!(decide (a≥0)))))<|gw 5 18 (a+1)<|.W 3 2 [0] (aEj b c (a+1)))<|gE 17 1 (bV true)
def aWN:=fun a b c d e f g i j k=>bGa a b c|>.t f d g i e j|>.t k tv
def aWO:=fun a b c d e f g i j k l=>bGa a b c|>.t f d g i e j|>.f k l tv
def aWP:=fun a b c d=>bGa a b c|>.f d tv
def aWQ (a:List Con):=(tT 0 (start PP 123 [(iC a),(.func 124 [] [])])<|gl 27 Con.av a<|.W 4 1 [0] (aEk a 0)) tv
def bGb(b:List Con)(a:Int):=tT 0 (aEk b a)<|gd 5 9 (a< (b.length:Int)) (gX Con.av 14 b a<|fun c=>kJ 11 124 [(.agg [(dP c.name),(nI c.args)])]<|fun d=>.b 6 16 (!d) (gE 17 2 (bV (!(decide (a≥0)))))<|gw 5 18 (a+1)<|.W 3 2 [0] (aEk b (a+1)))<|gE 17 1 (bV true)
def aWR:=fun a b c d e f g i j=>bGb a b|>.t e c f g d i|>.t j tv
def aWS:=fun a b c d e f g i j k=>bGb a b|>.t e c f g d i|>.f j k tv
def aWT:=fun a b c=>bGb a b|>.f c tv
def aWU (a:List Int):=(tT 0 (start PP 130 [(.ilst 1 (jI a) true),(.func 131 [] [])])<|gl 27 cG a<|.W 4 1 [0] (aEl a 0)) tv
def bGc(b:List Int)(a:Int):=tT 0 (aEl b a)<|gd 5 9 (a< (b.length:Int)) (gX cG 14 b a<|fun c=>.b 29 16 (!(c==1)) (gE 17 1 (bV (!(decide (a≥0)))))<|gw 5 18 (a+1)<|.W 3 1 [0] (aEl b (a+1)))<|gE 17 1 (bV true)
def aWV:=fun a b c d e f g=>bGc a b|>.t d c e f|>.t g tv
def aWW:=fun a b c d e f g i=>bGc a b|>.t d c e f|>.f g i tv
def aWX:=fun a b c=>bGc a b|>.f c tv
def aWY (a:List Con):=(tT 0 (start PP 126 [(iC a),(.func 127 [] [])])<|gl 12 Con.av a<|.i [rn 4,.nilL 5 1] []<|gu 0 0 (map dP ([] :List cF))<|gs 0 5 (.gl 0 1 0 ([] :List cF).length false)<|.W 0 1 [0] (aEm a 0 ([] :List cF))) ⟨kk,trivial⟩
def bHL(c:List Con)(a:Int)(b:List cF):=tT 0 (aEm c a b)<|gd 5 11 (a< (c.length:Int)) (gX Con.av 6 c a<|fun d=>ga 23 dP b [d.name]<|gw 5 20 (a+1)<|.W 3 5 [4] (aEm c (a+1) (b++ [d.name])))<|gz 8 4 0 1 dP b false<|gE 0 1 (iS b)
def aWZ:=fun a b c d e f g i j=>bHL a b c|>.t e d f g i j ⟨kk,trivial⟩
def aW0:=fun a b c d=>bHL a b c|>.f d tv
def aJT(a:Prog):=tT 0 (start PP 88 [(Prog.av a)])<|gl 10 Node.av a.nodes<|gd 8 17 ((a.nodes.length:Int) >300) (gE 40 1 (bV false))<|gl 3 cG a.funs<|gd 3 24 ((a.funs.length:Int) <1) (gE 33 1 (bV false))<|gl 3 cG a.funs<|gd 4 32 ((a.funs.length:Int) > (a.nodes.length:Int)) (gE 25 1 (bV false))<|gl 3 Con.av a.cons<|gd 3 39 ((a.cons.length:Int) >20) (gE 18 1 (bV false))<|gl 6 cG a.funs<|gw 1 47 ((a.funs.length:Int) - (1:Int))<|kJ 0 122 [(nI a.main),(nI 0),(nI ((a.funs.length:Int) - (1:Int)))]<|fun c=>.b 3 50 (!c) (gE 6 1 (bV false))<|kJ 8 123 [(iC a.cons),(.func 124 [] [])]<|fun d=>.b 2 56 (!d) (gE 23 1 (bV false))<|.y fun b:List cF=>gp 3 126 [(iC a.cons),(.func 127 [] [])] (iS b)<|kJ 0 125 [(iS b)]<|fun e=>.b 3 64 (!e) (gE 15 1 (bV false))<|kJ 5 128 [(iN a.nodes),(.func 129 [(Prog.av a)] [])]<|fun f=>.b 3 72 (!f) (gE 6 1 (bV false))<|.i [rn 5,.mk a.nodes.length] [hr ((a.nodes.length:Nat) :Int),hr ((a.nodes.length:Nat) :Int),hA (a.nodes.length<100000)]<|.i [.lset 1 (jI (replicate a.nodes.length (0:Int)))] [.q (p:=replicate a.nodes.length (cG (0:Int)) = (jI (replicate a.nodes.length (0:Int)))) (aEf _ _ _)]<|.i [.set 74 (.gl 1 1 0 (replicate a.nodes.length (0:Int)).length true)] [.q (p:=(AV.gl 1 1 0 a.nodes.length true) = (.gl 1 1 0 (replicate a.nodes.length (0:Int)).length true)) (bK (aLh ..).symm)]<|gl 8 cG a.funs<|.W 4 2 [0,1] (uZ a 0 (replicate a.nodes.length (0:Int)))
def aMJ:=fun a b=>aJT a|>.t b tv
def aMK:=fun a b c=>aJT a|>.f b|>.t c tv
def aML:=fun a b c d=>aJT a|>.f b|>.f c|>.t d tv
def aMM:=fun a b c d e=>aJT a|>.f b|>.f c|>.f d|>.t e tv
def aMN:=fun a b c d e f g i j=>aJT a|>.f c|>.f d|>.f e|>.f f g b i|>.t j tv
def aMO:=fun a b c d e f g i j k l m=>aJT a|>.f d|>.f e|>.f f|>.f g i b j|>.f k c l|>.t m tv
def aMP:=fun a b c d e f g i j k l m n o p q r=>aJT a|>.f f|>.f g|>.f i|>.f j k b l|>.f m c n|>.f o d p e q|>.t r tv
def aMQ:=fun a b c d e f g i j k l m n o p q r s t u=>aJT a|>.f g|>.f i|>.f j|>.f k l b m|>.f n c o|>.f p d q e r|>.f s f t|>.t u tv
def aMR:=fun a b c d e f g i j k l m n o p q r s t u v=>aJT a|>.f g|>.f i|>.f j|>.f k l b m|>.f n c o|>.f p d q e r|>.f s f t|>.f u v ⟨kk,trivial⟩
def bGd(d:Prog)(e:Int)(a:List Int):=tT 0 (uZ d e a)<|gd 5 80 (e< (d.funs.length:Int)) (gX cG 6 d.funs e<|fun b=>gw 9 85 ((d.nodes.length:Int) -1)<|kJ 0 122 [(nI b),(nI 0),(nI ((d.nodes.length:Int) -1))]<|fun f=>.b 2 87 (!f) (gE 6 2 (bV false))<|.i [rn 5,.ans (.ix)] [hA (0≤b),hA (b< (a.length:Int))]<|.y fun c:Int=>gj cG 0 a b.toNat c<|gw 1 92 (c+1)<|.i [.ans (.ix)] [hA (0≤b),hA (b< (a.length:Int))]<|.i [.st (cG c) (cG (c+1))] [.a (((a)[b.toNat]?) =some c) (cI (f:=cG)),hr (some (cG (c+1)))]<|.i [.lset 1 (jI (set a b.toNat (c+1)))] [.q (p:=(jI a).set (0+b.toNat) (cG (c+1)) = (jI (set a b.toNat (c+1)))) (oH _ _ _ _)]<|.i [.set 4 (.gl 1 1 0 (set a b.toNat (c+1)).length true)] [.q (p:=(AV.gl 1 1 0 a.length true) = (.gl 1 1 0 (set a b.toNat (c+1)).length true)) (bK (dZ ..).symm)]<|.i [.set 88 (.gl 1 1 0 (set a b.toNat (c+1)).length true)] [.q (p:=(AV.gl 1 1 0 a.length true) = (.gl 1 1 0 (set a b.toNat (c+1)).length true)) (bK (dZ ..).symm)]<|gw 4 94 (e+1)<|.W 3 2 [0,1] (uZ d (e+1) (set a b.toNat (c+1))))<|gl 8 Node.av d.nodes<|.W 4 2 [1] (qC d a 0)
def aMS:=fun a b c d e f g i j k l=>bGd a b c|>.t f d g i j e k|>.t l tv
def aMT:=fun d e f g i j k l m n o p a b c q r=>bGd d e f|>.t k g l m n i o|>.f p a b j c q a b c r ⟨kk,trivial⟩
def aMU:=fun a b c d=>bGd a b c|>.f d ⟨kk,trivial⟩
def bHM(c:Prog)(d:List Int)(a:Int):=tT 0 (qC c d a)<|gd 5 100 (a< (c.nodes.length:Int)) (gX Node.av 7 c.nodes a<|fun b=>gl 9 cG b.kids<|.W 4 2 [0] (vA c b.kids (b.kids.length:Int) d 0 a a))<|gz 5 126 0 1 cG d true<|kJ 0 130 [(.ilst 1 (jI d) true),(.func 131 [] [])]<|fun b=>gE 3 1 (bV b)
def aMV:=fun a b c d e f g=>bHM a b c|>.t e d f g ⟨kk,trivial⟩
def aMW:=fun a b c d e f=>bHM a b c|>.f e d f tv
def bGe(d:Prog)(i:List Int)(j:Int)(a:List Int)(e f g:Int):=tT 0 (vA d i j a e f g)<|gd 5 108 (e<j) (gX cG 6 i e<|fun b=>gw 9 113 (f+1)<|gw 2 115 ((d.nodes.length:Int) -1)<|kJ 0 122 [(nI b),(nI (f+1)),(nI ((d.nodes.length:Int) -1))]<|fun k=>.b 2 117 (!k) (gE 6 1 (bV false))<|.i [rn 5,.ans (.ix)] [hA (0≤b),hA (b< (a.length:Int))]<|.y fun c:Int=>gj cG 0 a b.toNat c<|gw 1 122 (c+1)<|.i [.ans (.ix)] [hA (0≤b),hA (b< (a.length:Int))]<|.i [.st (cG c) (cG (c+1))] [.a (((a)[b.toNat]?) =some c) (cI (f:=cG)),hr (some (cG (c+1)))]<|.i [.lset 0 (jI (set a b.toNat (c+1)))] [.q (p:=(jI a).set (0+b.toNat) (cG (c+1)) = (jI (set a b.toNat (c+1)))) (oH _ _ _ _)]<|.i [.set 4 (.gl 0 1 0 (set a b.toNat (c+1)).length true)] [.q (p:=(AV.gl 0 1 0 a.length true) = (.gl 0 1 0 (set a b.toNat (c+1)).length true)) (bK (dZ ..).symm)]<|.i [.set 118 (.gl 0 1 0 (set a b.toNat (c+1)).length true)] [.q (p:=(AV.gl 0 1 0 a.length true) = (.gl 0 1 0 (set a b.toNat (c+1)).length true)) (bK (dZ ..).symm)]<|gw 4 124 (e+1)<|.W 3 1 [0] (vA d i j (set a b.toNat (c+1)) (e+1) f g))<|gw 5 125 (g+1)<|.W 3 1 [0] (qC d a (g+1))
def aMX:=fun a b c d e f g i j k l m n o p q=>bGe a b c d e f g|>.t k i l m n o j p|>.t q tv
def aMY:=fun d e f g i j k l m n o p q r s t u a b c v w=>bGe d e f g i j k|>.t o l p q r s m t|>.f u a b n c v a b c w ⟨kk,trivial⟩
def aMZ:=fun a b c d e f g i j=>bGe a b c d e f g|>.f i j ⟨kk,trivial⟩
def bHN(a:Prog):=tT 0 (start PP 45 [(Prog.av a)])<|kJ 10 88 [(Prog.av a)]<|fun b=>.b 2 6 (!b) (gE 6 1 (nI 2))<|gE 7 1 (nI 0)
def aPV:=fun a b c d=>bHN a b c|>.t d tv
def aPW:=fun a b c d=>bHN a b c|>.f d tv
theorem fW (n lo a:Int) :aK PP 122 [.int .i64 n,.int .i64 lo,.int .i64 a] (.bool (dY n lo a)) :=by
 refine aG aC rfl rfl ?_;by_cases h:n≥lo
 · have e:dY n lo a=decide (n≤a) :=by unfold dY;rw [decide_eq_true (show lo≤n from h),mL]
   rw [e];exact bBC n lo a (decide_eq_true h)
 · have e:dY n lo a=false:=by unfold dY;rw [decide_eq_false (show ¬lo≤n from h),Bool.false_and]
   rw [e];exact bBD n lo a (decide_eq_false h)
theorem aCZ (n:Int) :aK PP 197 [.int .i64 n] (.bool (dY n (-1000000000) 1000000000)) :=
 aG aC rfl rfl (aWu n _ (fW n _ _))
theorem aUj (b:ByteArray)(i:Nat)(h:128≤ (b.get! i).toNat) :128≤ (Utf8.decode b i).1:=by
 unfold Utf8.decode Utf8.runeError;simp only [add_zero];rw [if_neg (show ¬ (b.get! i).toNat<0x80 by omega)]
 repeat' split
 all_goals first
  |assumption
  | (simp_all;done)
  | (rename_i q;simp only [dS,decide_eq_true_eq,ge_iff_le]at q;simp only;omega)
theorem bBG {s:cF}{i:Nat}{c:UInt8}(h:s[i]?=some c) :∃r d,aOl (length s) (aF s) i=some (r,d) ∧ (c.toNat<128→r=c.toNat∧d=1) ∧ (128≤c.toNat→128≤r) :=by
 have e:= (zq0.1 h).1;have hb:=byte_at h;unfold aOl;have f:blt i (length s) =true:=by rw [dD];exact decide_eq_true e
 have l:mod (div (aF s) (pow 256 i)) 256=c.toNat:=hb;rw [f,l];simp only [cond];by_cases k:c.toNat<128
 · have a:blt c.toNat 128=true:=by rw [dD];exact decide_eq_true k
   rw [a];exact⟨_,_,rfl,fun _=> ⟨rfl,rfl⟩,fun g=>by omega⟩
 · have a:blt c.toNat 128=false:=by rw [dD];exact decide_eq_false k
   rw [a];refine⟨_,_,rfl,fun g=>by omega,fun _=>?_⟩;have j:aQ (length s) (aF s) =s:=fQ s;rw [j];have b: ((⟨⟨s⟩⟩ :ByteArray).get! (i+0)).toNat=c.toNat:=by
    simp only [add_zero,ByteArray.get!];have: (⟨s⟩ :Array UInt8)[i]! =c:=by
     rw [Array.getElem!_eq_getD,aAH,show(⟨s⟩ :Array UInt8) =s.toArray from rfl,List.getElem?_toArray,h];rfl
    rw [this]
   exact aUj _ _ (by rw [add_zero]at b;rw [b];omega)
theorem aDH (s:cF) :∀ (t:cF) (i:Nat),s.drop i=t→Ends PP 0 (zH s i).as (.ret (.bool (kD t))) (aA [] 0)
 | [],i,h=>aPL s i (bH h)
 | c :: t,i,h=>by
  obtain⟨g,l,b⟩ :=bE h;obtain⟨r,d,f,a,j⟩ :=bBG g;by_cases n:c.toNat<97
  · have:= (a (by omega)).1;exact Ends.eqv (aPI s i r d b f sd) (by simp [kD,uS];omega)
  · by_cases m:122<c.toNat
    · have hr:122<r:=by
       by_cases k:c.toNat<128
       ·have:= (a k).1;omega
       ·have:=j (by omega);omega
      exact Ends.eqv (aPJ s i r d b f sd sd) (by simp [kD,uS];omega)
    · obtain⟨rfl,rfl⟩ :=a (by omega);refine(aPK s i _ _ b f sd sd).ends ?_;have e:uS c=true:=by simp [uS];omega
      exact Ends.eqv (aDH s t (i+1) l) (by simp [kD,e])
theorem aM0 (s:cF) :aK PP 195 [dP s] (.bool (kD s)) :=
 aG aC rfl rfl ((aPH s).ends (aDH s s 0 rfl))
theorem aM1 (s:cF) :aK PP 166 [dP s] (.bool (jL s)) :=by
 refine aG aC rfl rfl ?_
 match s with
 | [] =>exact aPQ [] rfl
 | c ::t=>
  have b: (!(kB (length (c::t)) (aF (c::t)) 0 0)) =true:=by rw [dM];rfl
  by_cases d: (c::t).length≤8
  · have a: (decide (((length (c::t) :Nat) :Int) ≤ (8:Int))) =true:=sd;by_cases f:65≤c.toNat
    · by_cases e:c.toNat≤90
      ·exact Ends.eqv (aPM (c::t) c _ b a rfl sd sd (by simp) (aM0 t)) (by simp only [jL,decide_eq_true d,decide_eq_true f,decide_eq_true e,mL])
      ·exact Ends.eqv (aPN (c::t) c b a rfl sd sd) (by simp only [jL,decide_eq_false e,Bool.and_false,Bool.false_and])
    ·exact Ends.eqv (aPO (c::t) c b a rfl sd) (by simp only [jL,decide_eq_false f,Bool.and_false,Bool.false_and])
  ·exact Ends.eqv (aPP (c::t) b sd) (by simp only [jL,decide_eq_false d,Bool.false_and])
theorem aUk (c:Con) :aK PP 124 [Con.av c] (.bool (jB c)) :=by
 refine aG aC rfl rfl ?_;have a:=aM1 c.name;cases k:jL c.name
 case false=>rw [k]at a;exact Ends.eqv (aWx c false a rfl) (by simp [jB,k])
 rw [k]at a;exact Ends.eqv (aWw c true _ a rfl (fW _ _ _)) (by simp [jB,k])
def oW (p:Prog)(x:Node) :Bool:=if x.op=14 then true else eG p x.op x.n
theorem aUl (p:Prog)(x:Node)(f:p.funs.length≤1000) :Ends PP 0 (start PP 173 [Prog.av p,Node.av x]).as (.ret (.bool (oW p x))) (aA [] 0) :=by
 cases a: (x.op== (1:Int))
 case true=>exact Ends.eqv (aMq p x  (dY (x.n) (-1000000000) 1000000000) a (aCZ (x.n))) (by simp_all [oW,eG] <;>rfl)
 cases b: (x.op== (2:Int))
 case true=>exact Ends.eqv (aMr p x  (dY (x.n) 0 1) a b (fW (x.n) 0 1)) (by simp_all [oW,eG] <;>rfl)
 cases c: (x.op== (24:Int))
 case true=>exact Ends.eqv (aMs p x  (dY (x.n) 0 3) a b c (fW (x.n) 0 3)) (by simp_all [oW,eG] <;>rfl)
 cases d: (x.op== (4:Int))
 case true=>exact Ends.eqv (aMt p x  (dY (x.n) (0- ((length p.funs:Nat) :Int)) 29) a b c d sdI (fW (x.n) (0- ((length p.funs:Nat) :Int)) 29)) (by simp_all [oW,eG] <;>rfl)
 cases e: (x.op== (14:Int))
 case true=>exact Ends.eqv (aMu p x   a b c d e) (by simp_all [oW,eG] <;>rfl)
 exact Ends.eqv (aMv p x   a b c d e) (by simp_all [oW,eG] <;>rfl)
theorem aJU (p:Prog)(x:Node)(a:p.funs.length≤1000) :aK PP 173 [Prog.av p,Node.av x] (.bool (oW p x)) :=
 aG aC rfl rfl (aUl p x a)
mutual
def qD :Pat→Int→Int
 | .mk _ _ _ ps,most=>nE ps most 1
def nE :List Pat→Int→Int→Int
 | [],_,n=>n
 |p::ps,most,n=>if n>most then n else nE ps most (n+qD p (most-n))
end
mutual
theorem aF0 :∀ (p:Pat) (m:Int),0≤m→1≤qD p m∧qD p m≤m+1
 | .mk _ _ _ a,m,h=>by rw [qD];exact aHQ a m 1 (by omega) (by omega)
theorem aHQ :∀ (b:List Pat) (m n:Int),1≤n→n≤m+1→1≤nE b m n∧nE b m n≤m+1
 | [],m,n,d,c=>by rw [nE];omega
 | p ::b,m,n,d,c=>by
  rw [nE];split
  ·omega
  · have a:=aF0 p (m-n) (by omega);exact aHQ b m _ (by omega) (by omega)
end
mutual
theorem aM2 :∀ (p:Pat) (m:Int),0≤m→ ((cB p:Int) ≤m→qD p m=cB p) ∧ (m<cB p→m<qD p m)
 | .mk _ _ _ a,m,h=>by
  have:=aHR a m 1 (by omega);simp only [qD,cB];constructor
  ·intro g;have:=this.1 (by omega);omega
  ·intro g;exact this.2 (by omega)
theorem aHR :∀ (c:List Pat) (m n:Int),n≤m+1→ (n+bI c≤m→nE c m n=n+bI c) ∧ (m<n+bI c→m<nE c m n)
 | [],m,n,h=>by simp only [nE,bI];omega
 | p ::c,m,n,h=>by
  simp only [nE,bI];split
  ·omega
  · rename_i k;have a:=aM2 p (m-n) (by omega);have l:=aF0 p (m-n) (by omega);have b:=aHR c m (n+qD p (m-n)) (by omega);constructor
    · intro g;have:=a.1 (by omega);have:=b.1 (by omega);omega
    · intro g;refine b.2 ?_;by_cases q: (cB p:Int) ≤m-n
      ·have:=a.1 q;omega
      ·have:=a.2 (by omega);omega
end
theorem aHS (p:Pat)(m:Int)(h:0≤m) :qD p m≤m↔ (cB p:Int) ≤m:=by
 have:=aM2 p m h;constructor
 · intro g;by_cases k: (cB p:Int) ≤m
   ·exact k
   ·have:=this.2 (by omega);omega
 ·intro g;have:=this.1 g;omega
theorem aF1 (f n:Int)(s:cF)(ps:List Pat)(m:Int)(hm:m≤1000)(e:∀p∈ps,∀m:Int,0≤m→m≤1000→aK PP 171 [Pat.av p,.int .i64 m] (.int .i64 (qD p m))) :
  ∀ (t:List Pat) (i:Nat) (k:Int),ps.drop i=t→ (i:Int) +1≤k→k≤m+1→Ends PP 0 (aBW f n s ps m k (i:Int)).as (.ret (.int .i64 (nE t m k))) (aA [] 0)
 | [],i,k,h,o,q=>by
  have:=bH h;rw [nE];exact aT0 f n s ps m k i sd
 | .mk b c d a::t,i,k,h,o,q=>by
  obtain⟨j,g,r⟩ :=bE h;rw [nE];split
  ·exact aTY f n s ps m k i b c d a sd sd sd sd
  · rename_i hk;have l:=aF0 (.mk b c d a) (m-k) (by omega);refine(aTZ f n s ps m k i b c d a _ sd sd sd sd sd (e (.mk b c d a) (jQ j) (m-k) (by omega) (by omega)) sd sd).ends ?_;exact aF1 f n s ps m hm e t (i+1) _ g (by omega) (by omega)
mutual
theorem aF2 :∀ (p:Pat) (m:Int),0≤m→m≤1000→aK PP 171 [Pat.av p,.int .i64 m] (.int .i64 (qD p m))
 | .mk f n s a,m,c,b=>by
  refine aG aC (by simp [keylessL,nB,keyless]) rfl ?_;rw [qD];refine(aTX f n s a m).ends ?_;exact aF1 f n s a m b (aHT a) a 0 1 rfl (by omega) (by omega)
theorem aHT :∀ (b:List Pat),∀p∈b,∀m:Int,0≤m→m≤1000→aK PP 171 [Pat.av p,.int .i64 m] (.int .i64 (qD p m))
 | [],p,a,_,_,_=>by cases a
 | q::b,p,a,m,c,d=>by
  rcases zq7.1 a with e|a
  ·rw [e];exact aF2 q m c d
  ·exact aHT b p a m c d
end
theorem sdW {p:Prop}(h:p:=by simp_all only [inB_iff,inB_not,beq_iff_eq,decide_eq_true_eq,decide_eq_false_iff_not] <;>omega) :p:=h
theorem idW {p:Prop}(h:p:=by exact⟨_,kX (by simp_all only [inB_iff,inB_not,beq_iff_eq,decide_eq_true_eq,decide_eq_false_iff_not] <;>omega)⟩) :p:=h
theorem aHU (l:List Pat)(p:Prog)(hl:l.length<1000000)(c:∀q∈l,aK PP 172 [Prog.av p,Pat.av q] (.bool (eT p.cons q))) :
  ∀ (t:List Pat) (i:Nat),l.drop i=t→Ends PP 0 (aEi l p (i:Int)).as (.ret (.bool (dT p.cons t))) (aA [] 0)
 | [],i,h=>by
  have:=bH h;exact Ends.eqv (aWL l p i sd) (by simp [dT])
 | .mk f n s a::t,i,h=>by
  obtain⟨e,d,g⟩ :=bE h;have b:=c (.mk f n s a) (jQ e);cases k:eT p.cons (.mk f n s a)
  case false=>
   rw [k]at b;exact Ends.eqv (aWJ l p i f n s a false sd sd sd b rfl) (by simp [dT,k])
  rw [k]at b;refine(aWK l p i f n s a true sd sd sd b rfl sd).ends ?_;exact Ends.eqv (aHU l p hl c t (i+1) d) (by simp [dT,k])
theorem aUm (l:List Pat)(p:Prog)(hl:l.length<1000000)(a:∀q∈l,aK PP 172 [Prog.av p,Pat.av q] (.bool (eT p.cons q))) :
  aK PP 174 [.ilst 4 (Pats.av l) false,.func 172 [Prog.av p] []] (.bool (dT p.cons l)) :=
 aG aC (by simp [keylessL,keyless,Prog.av]) rfl ((aWI l p).ends (aHU l p hl a l 0 rfl))
theorem bGf (p:Prog)(b d:Int)(c:cF)(a:List Pat)(hc:p.cons.length≤1000)(e:aK PP 174 [.ilst 4 (Pats.av a) false,.func 172 [Prog.av p] []] (.bool (dT p.cons a))) :
  Ends PP 0 (start PP 172 [Prog.av p,Pat.av (.mk b d c a)]).as (.ret (.bool (eT p.cons (.mk b d c a)))) (aA [] 0) :=by
 have w:IntKind.i64.wrap ((p.cons.length:Int) -1) = (p.cons.length:Int) -1:=by apply wrap64<;>omega
 cases f: (!(kB (length c) (aF c) 0 0))
 case true=>exact Ends.eqv (aWy p b d c a   f) (by clear e;simp_all [eT,eP,gV,dM,gJ] <;>rfl)
 cases g: (!(dT p.cons a))
 case true=>exact Ends.eqv (aWz p b d c a  (dT p.cons a) f e g) (by clear e;simp_all [eT,eP,gV,dM,gJ] <;>rfl)
 cases h: (b== (1:Int))
 case true=>
  cases s: (d== (0:Int))
  case true=>exact Ends.eqv (aWA p b d c a  (dT p.cons a) f e g h s) (by clear e;simp_all [eT,eP,gV,dM,gJ] <;>rfl)
  exact Ends.eqv (aWB p b d c a  (dT p.cons a) f e g h s) (by clear e;simp_all [eT,eP,gV,dM,gJ] <;>rfl)
 cases i: (b== (2:Int))
 case true=>
  cases u: (d== (0:Int))
  case true=>exact Ends.eqv (aWC p b d c a  (dT p.cons a) f e g h i u) (by clear e;simp_all [eT,eP,gV,dM,gJ] <;>rfl)
  exact Ends.eqv (aWD p b d c a  (dT p.cons a) f e g h i u) (by clear e;simp_all [eT,eP,gV,dM,gJ] <;>rfl)
 cases j: (b== (5:Int))
 case true=>
  cases r: (d== (0:Int))
  case true=>exact Ends.eqv (aWE p b d c a  (dT p.cons a) f e g h i j r) (by clear e;simp_all [eT,eP,gV,dM,gJ] <;>rfl)
  exact Ends.eqv (aWF p b d c a  (dT p.cons a) f e g h i j r) (by clear e;simp_all [eT,eP,gV,dM,gJ] <;>rfl)
 cases l: (b== (3:Int))
 case true=>
  cases q: (dY d (-1000000000) 1000000000)
  case true=>exact Ends.eqv (aWG p b d c a  (dT p.cons a) (dY d (-1000000000) 1000000000) f e g h i j l (aCZ d) q) (by clear e;simp_all [eT,eP,gV,dM,gJ] <;>rfl)
  exact Ends.eqv (aWH p b d c a  (dT p.cons a) (dY d (-1000000000) 1000000000) f e g h i j l (aCZ d) q) (by clear e;simp_all [eT,eP,gV,dM,gJ] <;>rfl)
 cases k: (b== (4:Int))
 case true=>
  cases o: (dY d 0 1)
  case true=>exact Ends.eqv (aT1 p b d c a  (dT p.cons a) (dY d 0 1) f e g h i j l k (fW d 0 1) o) (by clear e;simp_all [eT,eP,gV,dM,gJ] <;>rfl)
  exact Ends.eqv (aT2 p b d c a  (dT p.cons a) (dY d 0 1) f e g h i j l k (fW d 0 1) o) (by clear e;simp_all [eT,eP,gV,dM,gJ] <;>rfl)
 cases m: (b== (6:Int))
 case true=>
  cases n: (dY d 0 (IntKind.i64.wrap (((length p.cons:Nat) :Int) - (1:Int))))
  case true=>
   obtain⟨v,t⟩ :∃y,((p.cons)[d.toNat]?) =some y:=idW;exact Ends.eqv (aT3 p b d c a  (dT p.cons a) (dY d 0 (IntKind.i64.wrap (((length p.cons:Nat) :Int) - (1:Int)))) v f e g h i j l k m (fW d 0 (IntKind.i64.wrap (((length p.cons:Nat) :Int) - (1:Int)))) n sdW t) (by clear e;simp_all [eT,eP,gV,dM,gJ] <;>rfl)
  exact Ends.eqv (aT4 p b d c a  (dT p.cons a) (dY d 0 (IntKind.i64.wrap (((length p.cons:Nat) :Int) - (1:Int)))) f e g h i j l k m (fW d 0 (IntKind.i64.wrap (((length p.cons:Nat) :Int) - (1:Int)))) n) (by clear e;simp_all [eT,eP,gV,dM,gJ] <;>rfl)
 exact Ends.eqv (aT5 p b d c a  (dT p.cons a) f e g h i j l k m) (by clear e;simp_all [eT,eP,gV,dM,gJ] <;>rfl)
mutual
theorem aHV (p:Prog)(hc:p.cons.length≤1000) :∀ (q:Pat),cB q<1000000→aK PP 172 [Prog.av p,Pat.av q] (.bool (eT p.cons q))
 | .mk f n s a,h=>by
  refine aG aC (by simp [keylessL,nB,keyless,Prog.av]) rfl ?_;simp only [cB]at h;have:=fA a;exact bGf p f n s a hc (aUm a p (by omega) (aM3 p hc a (by omega)))
theorem aM3 (p:Prog)(hc:p.cons.length≤1000) :∀ (b:List Pat),bI b<1000000→∀q∈b,aK PP 172 [Prog.av p,Pat.av q] (.bool (eT p.cons q))
 | [],_,q,a=>by cases a
 | r::b,h,q,a=>by
  simp only [bI]at h;rcases zq7.1 a with e|a
  ·rw [e];exact aHV p hc r (by omega)
  ·exact aM3 p hc b (by omega) q a
end
def cO (op:Int) :Option Int:=
 if op=1∨op=2∨op=3∨op=4∨op=21∨op=25∨op=28 then some 0
 else if op=5∨op=27∨op=16∨op=17∨op=19∨op=20∨op=23∨op=26∨op=24 then some 1
 else if op=6∨op=7∨op=9∨op=10∨op=11∨op=12∨op=13∨op=18∨op=22 then some 2
 else if op=8 then some 3 else none
def bF (op:Int) :AV:=
 match cO op with
 |some k=>.iface 242 (.int .i64 k)
 |none=>if op=15 then .iface 225 (.agg [])else if op=14 then .iface 243 (.agg [])else .nili
theorem aM4 {op k:Int}(h:cO op=some k)(pats a:Int) :cK op pats a=k∧op≠15∧op≠14:=by
 unfold cO at h;unfold cK;split at h
 ·rename_i g;rw [if_pos g];simp only [Option.some.injEq]at h;refine⟨h,?_,?_⟩ <;>omega
 · rename_i b;rw [if_neg b];split at h
   ·rename_i g;rw [if_pos g];simp only [Option.some.injEq]at h;refine⟨h,?_,?_⟩ <;>omega
   · rename_i d;rw [if_neg d];split at h
     ·rename_i g;rw [if_pos g];simp only [Option.some.injEq]at h;refine⟨h,?_,?_⟩ <;>omega
     · rename_i c;rw [if_neg c];split at h
       ·rename_i g;rw [if_pos g];simp only [Option.some.injEq]at h;refine⟨h,?_,?_⟩ <;>omega
       ·cases h
theorem aPX {op:Int}(h:cO op=none)(pats a:Int) :cK op pats a=if op=15 then 1+pats else if op=14 then a else -1:=by
 unfold cO at h;unfold cK;split at h
 ·cases h
 · rename_i c;rw [if_neg c];split at h
   ·cases h
   · rename_i b;rw [if_neg b];split at h
     ·cases h
     · rename_i d;rw [if_neg d];split at h
       ·cases h
       ·rename_i g;rw [if_neg g]
theorem aUn (op:Int) :Ends PP 0 (start PP 169 [.int .i64 op]).as (.ret (bF op)) (aA [] 0) :=by
 cases b: (op== (1:Int))
 case true=>exact Ends.eqv (aMw op   b) (by simp_all [bF,cO])
 cases d: (op== (2:Int))
 case true=>exact Ends.eqv (aMx op   b d) (by simp_all [bF,cO])
 cases f: (op== (3:Int))
 case true=>exact Ends.eqv (aMy op   b d f) (by simp_all [bF,cO])
 cases h: (op== (4:Int))
 case true=>exact Ends.eqv (aMz op   b d f h) (by simp_all [bF,cO])
 cases i: (op== (21:Int))
 case true=>exact Ends.eqv (aMA op   b d f h i) (by simp_all [bF,cO])
 cases k: (op== (25:Int))
 case true=>exact Ends.eqv (aMB op   b d f h i k) (by simp_all [bF,cO])
 cases m: (op== (28:Int))
 case true=>exact Ends.eqv (aMC op   b d f h i k m) (by simp_all [bF,cO])
 cases n: (op== (5:Int))
 case true=>exact Ends.eqv (aMD op   b d f h i k m n) (by simp_all [bF,cO])
 cases p: (op== (27:Int))
 case true=>exact Ends.eqv (aME op   b d f h i k m n p) (by simp_all [bF,cO])
 cases a: (op== (16:Int))
 case true=>exact Ends.eqv (aMF op   b d f h i k m n p a) (by simp_all [bF,cO])
 cases c: (op== (17:Int))
 case true=>exact Ends.eqv (aJA op   b d f h i k m n p a c) (by simp_all [bF,cO])
 cases e: (op== (19:Int))
 case true=>exact Ends.eqv (aJB op   b d f h i k m n p a c e) (by simp_all [bF,cO])
 cases g: (op== (20:Int))
 case true=>exact Ends.eqv (aJC op   b d f h i k m n p a c e g) (by simp_all [bF,cO])
 cases j: (op== (23:Int))
 case true=>exact Ends.eqv (aJD op   b d f h i k m n p a c e g j) (by simp_all [bF,cO])
 cases l: (op== (24:Int))
 case true=>exact Ends.eqv (aJE op   b d f h i k m n p a c e g j l) (by simp_all [bF,cO])
 cases o: (op== (26:Int))
 case true=>exact Ends.eqv (aJF op   b d f h i k m n p a c e g j l o) (by simp_all [bF,cO])
 cases q: (op== (6:Int))
 case true=>exact Ends.eqv (aJG op   b d f h i k m n p a c e g j l o q) (by simp_all [bF,cO])
 cases r: (op== (7:Int))
 case true=>exact Ends.eqv (aJH op   b d f h i k m n p a c e g j l o q r) (by simp_all [bF,cO])
 cases s: (op== (9:Int))
 case true=>exact Ends.eqv (aJI op   b d f h i k m n p a c e g j l o q r s) (by simp_all [bF,cO])
 cases t: (op== (10:Int))
 case true=>exact Ends.eqv (aJJ op   b d f h i k m n p a c e g j l o q r s t) (by simp_all [bF,cO])
 cases u: (op== (11:Int))
 case true=>exact Ends.eqv (aJK op   b d f h i k m n p a c e g j l o q r s t u) (by simp_all [bF,cO])
 cases v: (op== (12:Int))
 case true=>exact Ends.eqv (aJL op   b d f h i k m n p a c e g j l o q r s t u v) (by simp_all [bF,cO])
 cases w: (op== (13:Int))
 case true=>exact Ends.eqv (aJM op   b d f h i k m n p a c e g j l o q r s t u v w) (by simp_all [bF,cO])
 cases x: (op== (18:Int))
 case true=>exact Ends.eqv (aJN op   b d f h i k m n p a c e g j l o q r s t u v w x) (by simp_all [bF,cO])
 cases y: (op== (22:Int))
 case true=>exact Ends.eqv (aJO op   b d f h i k m n p a c e g j l o q r s t u v w x y) (by simp_all [bF,cO])
 cases z: (op== (8:Int))
 case true=>exact Ends.eqv (aJP op   b d f h i k m n p a c e g j l o q r s t u v w x y z) (by simp_all [bF,cO])
 cases A: (op== (14:Int))
 case true=>exact Ends.eqv (aJQ op   b d f h i k m n p a c e g j l o q r s t u v w x y z A) (by simp_all [bF,cO])
 cases B: (op== (15:Int))
 case true=>exact Ends.eqv (aJR op   b d f h i k m n p a c e g j l o q r s t u v w x y z A B) (by simp_all [bF,cO])
 exact Ends.eqv (aJS op   b d f h i k m n p a c e g j l o q r s t u v w x y z A B) (by simp_all [bF,cO])
theorem aPY (op:Int) :keyless (bF op) =true:=by
 unfold bF;split
 ·rfl
 · split
   ·rfl
   ·split<;>rfl
theorem aJV (op:Int) :aK PP 169 [.int .i64 op] (bF op) :=
 aG aC rfl (aPY op) (aUn op)
theorem aF3 (p:Prog)(x:Node)(hc:p.cons.length≤1000)(l:x.pats.length≤10) :
  ∀ (t:List Pat) (i:Nat),x.pats.drop i=t→Ends PP 0 (sW p x (i:Int)).as (.ret (.bool (t.all (jZ p.cons)))) (aA [] 0)
 | [],i,h=>by
  have:=bH h;exact Ends.eqv (aUi p x i sd) (by simp)
 | .mk f n s a::t,i,h=>by
  obtain⟨m,j,o⟩ :=bE h;have e:=aF2 (.mk f n s a) 12 (by omega) (by omega);by_cases k:cB (.mk f n s a) ≤12
  · have d:qD (.mk f n s a) 12≤12:= (aHS (.mk f n s a) 12 (by omega)).2 (by omega);have b:=aHV p hc (.mk f n s a) (by omega);cases c:eT p.cons (.mk f n s a)
    case false=>
     rw [c]at b;exact Ends.eqv (aUf p x i f n s a _ false sd sd sd e (decide_eq_true d) b rfl) (by simp [jZ,c])
    rw [c]at b;refine(aUg p x i f n s a _ true sd sd sd e (decide_eq_true d) b rfl sd).ends ?_;exact Ends.eqv (aF3 p x hc l t (i+1) j) (by simp [jZ,k,c])
  · have d:¬qD (.mk f n s a) 12≤12:=fun g=>k (by have:= (aHS (.mk f n s a) 12 (by omega)).1 g;omega);exact Ends.eqv (aUh p x i f n s a _ sd sd sd e (decide_eq_false d)) (by simp [jZ,k])
theorem aPZ (p:Prog)(x:Node)(hc:p.cons.length≤1000)(t:p.funs.length≤1000)(u:x.pats.length≤10)(hk:x.kids.length≤10) :aK PP 129 [Prog.av p,Node.av x] (.bool (bG p x)) :=by
 refine aG aC rfl rfl ?_;have q:IntKind.i64.wrap ((p.cons.length:Int) -1) = (p.cons.length:Int) -1:=by apply wrap64<;>omega
 have a:=aJV x.op;have i:=aJU p x t;have hl:=aF3 p x hc u x.pats 0 rfl;cases n:cO x.op
 case some k=>
  obtain⟨o,y,v⟩ :=aM4 n (x.pats.length:Int) (iM p x);have ev:bF x.op= .iface 242 (.int .i64 k) :=by unfold bF;rw [n]
  rw [ev]at a;have m:bG p x= (oW p x&&decide (x.pats.length=0) &&x.pats.all (jZ p.cons) &&decide ((x.kids.length:Int) =k)) :=by
   simp only [bG,iL,oW,o,if_neg y,if_neg v]
  rw [m];by_cases j:x.pats.length=0
  · by_cases b: (x.kids.length:Int) =k
    · have f: (((length x.kids:Nat) :Int) ==k) =true:=by simp [b]
      cases h:oW p x
      case false=>
       rw [h]at i;exact Ends.eqv (aPS p x k false a sd f i rfl) (by simp)
      rw [h]at i;refine(aPR p x k true a sd f i rfl).ends ?_;exact Ends.eqv hl (by simp [j,b])
    · have f: (((length x.kids:Nat) :Int) ==k) =false:=by simp [b]
      exact Ends.eqv (aPT p x k a sd f) (by simp [b])
  ·exact Ends.eqv (aUe p x k a sd) (by simp [j])
 have o:=aPX n (x.pats.length:Int) (iM p x);by_cases g:x.op=15
 · have ev:bF x.op= .iface 225 (.agg []) :=by unfold bF;rw [n];simp only [g,if_true]
   rw [ev]at a;have m:bG p x= (oW p x&&dY (x.pats.length:Int) 1 5&&x.pats.all (jZ p.cons) &&decide ((x.kids.length:Int) =1+ (x.pats.length:Int))) :=by
    simp only [bG,iL,oW,o,if_pos g,if_neg (show ¬x.op=14 by omega)]
   rw [m];have d:=fW (x.pats.length:Int) 1 5;cases j:dY (x.pats.length:Int) 1 5
   case false=>
    rw [j]at d;exact Ends.eqv (aT9 p x false a d rfl) (by simp)
   rw [j]at d;by_cases b: (x.kids.length:Int) =1+ (x.pats.length:Int)
   · have f: (((length x.kids:Nat) :Int) == ((1:Int) + ((length x.pats:Nat) :Int))) =true:=by simp [b]
     cases h:oW p x
     case false=>
      rw [h]at i;exact Ends.eqv (aT7 p x true false a d rfl sd f i rfl) (by simp)
     rw [h]at i;refine(aT6 p x true true a d rfl sd f i rfl).ends ?_;exact Ends.eqv hl (by simp [b])
   · have f: (((length x.kids:Nat) :Int) == ((1:Int) + ((length x.pats:Nat) :Int))) =false:=by simp [b]
     exact Ends.eqv (aT8 p x true a d rfl sd f) (by simp [b])
 · by_cases e:x.op=14
   · have ev:bF x.op= .iface 243 (.agg []) :=by unfold bF;rw [n];simp [e]
     rw [ev]at a;have m:bG p x= (dY x.n 0 ((p.cons.length:Int) -1) &&decide (x.pats.length=0) &&x.pats.all (jZ p.cons) &&decide ((x.kids.length:Int) =iM p x)) :=by
      simp only [bG,iL,eG,o,if_neg g,if_pos e,if_neg (show ¬x.op=1 by omega),if_neg (show ¬x.op=2 by omega),if_neg (show ¬x.op=4 by omega),if_neg (show ¬x.op=24 by omega)]
     rw [m];by_cases j:x.pats.length=0
     · have d:=fW x.n 0 ((p.cons.length:Int) -1);rw [←q]at d;cases b:dY x.n 0 ((p.cons.length:Int) -1)
       case false=>
        rw [q,b,←q]at d;exact Ends.eqv (aUd p x false a sd d rfl) (by simp)
       rw [q,b,←q]at d;have hb:=inB_iff.1 b;obtain⟨c,l⟩ :∃c,p.cons[x.n.toNat]?=some c:= ⟨_,kX (by omega)⟩;have s:iM p x=c.args:=by simp [iM,e,b,gV,l]
       rw [s];by_cases h: (x.kids.length:Int) =c.args
       · have f: (((length x.kids:Nat) :Int) ==c.args) =true:=by simp [h]
         have r:oW p x=true:=by simp [oW,e]
         rw [r]at i;refine(aUb p x true c true a sd d rfl (by omega) l f i rfl).ends ?_;exact Ends.eqv hl (by simp [j,h])
       · have f: (((length x.kids:Nat) :Int) ==c.args) =false:=by simp [h]
         exact Ends.eqv (aUc p x true c a sd d rfl (by omega) l f) (by simp [h])
     ·exact Ends.eqv (aUa p x a sd) (by simp [j])
   · have ev:bF x.op= .nili:=by unfold bF;rw [n];simp [g,e]
     rw [ev]at a;have m:bG p x=false:=by
      have:cK x.op x.pats.length (iM p x) = -1:=by rw [o,if_neg g,if_neg e]
      have w:¬ (x.kids.length:Int) = -1:=by omega
      simp [bG,this,w]
     rw [m];exact aPU p x a
def xU :List cF→List (cF×Bool) →List (cF×Bool)
 | [],m=>m
 |x::t,m=>xU t (nC x true m)
theorem aBX (l:List cF)(hl:l.length<1000000) :∀ (t:List cF) (i:Nat) (m:List (cF×Bool)),l.drop i=t→Ends PP 0 (uY l (i:Int) m).as (.ret (.bool (decide ((xU t m).length=l.length)))) (aA [] 0)
 | [],i,m,h=>by
  have:=bH h;refine Ends.eqv (aMI l i m sd) ?_;have: (((length m:Nat) :Int) == ((length l:Nat) :Int)) =decide (m.length=l.length) :=by
   by_cases k:m.length=l.length<;>simp [k] <;>omega
  rw [this];rfl
 | x::t,i,m,h=>by
  obtain⟨b,a,c⟩ :=bE h;refine(aMH l i m x sd sd sd sd).ends ?_;exact aBX l hl t (i+1) _ a
theorem aF4 {k:cF}{v w:Bool}:∀ {m:List (cF×Bool)},aAh k m=some w→ (nC k v m).map Prod.fst=m.map Prod.fst
 | [],h=>by cases h
 | e::m,h=>by
  unfold aAh at h;unfold nC;split at h
  ·rename_i hk;rw [if_pos hk];simp [hk]
  ·rename_i hk;rw [if_neg hk];simp [aF4 h]
theorem aF5 {k:cF}{v:Bool}:∀ {m:List (cF×Bool)},aAh k m=none→ (nC k v m).map Prod.fst=m.map Prod.fst++ [k]
 | [],_=>rfl
 | e::m,h=>by
  unfold aAh at h;unfold nC;split at h
  ·cases h
  ·rename_i hk;rw [if_neg hk];simp [aF5 h]
theorem aF6 {k:cF}:∀ {m:List (cF×Bool)},(aAh k m).isSome=aAi (m.map Prod.fst) k
 | [] =>rfl
 | e ::m=>by
  unfold aAh;split
  ·rename_i hk;simp [aAi,hk]
  · rename_i hk;have:¬e.1=k:=fun h=>hk h.symm;rw [aF6];simp [aAi,this]
theorem aHW :∀ (t:List cF) (m:List (cF×Bool)),(xU t m).length≤m.length+t.length
 | [],m=>by simp [xU]
 | x::t,m=>by
  have a:=aHW t (nC x true m);have b: (nC x true m).length≤m.length+1:=by
   cases h:aAh x m with
   |none=>have:=congrArg length (aF5 (v:=true) h);simp at this;omega
   |some w=>have:=congrArg length (aF4 (v:=true) h);simp at this;omega
  simp only [xU,qN];omega
theorem aF7 :∀ (t:List cF) (m:List (cF×Bool)),(xU t m).length=m.length+t.length↔eZ (m.map Prod.fst) t=true
 | [],m=>by simp [xU,eZ]
 | x::t,m=>by
  simp only [xU,eZ];cases h:aAh x m
  case some w=>
   have e:=aF4 (v:=true) h;have c:aAi (m.map Prod.fst) x=true:=by rw [←aF6,h];rfl
   have a:=aHW t (nC x true m);have b:=congrArg length e;simp only [mR]at b;rw [c];constructor
   ·intro g;simp only [qN]at g;omega
   ·intro g;simp at g
  have e:=aF5 (v:=true) h;have c:aAi (m.map Prod.fst) x=false:=by rw [←aF6,h];rfl
  have d:=aF7 t (nC x true m);have b:=congrArg length e;simp only [mR,qT,List.length_singleton]at b;rw [c,←e];simp only [Bool.not_false,mL,qN];rw [←d,b];omega
theorem aJW (l:List cF)(hl:l.length<1000000) :aK PP 125 [.ilst 1 (map dP l) false] (.bool (pD l)) :=by
 refine aG aC rfl rfl ((aMG l).ends (Ends.eqv (aBX l hl l 0 [] rfl) ?_));have:=aF7 l [];simp only [List.length_nil,fE,map_nil]at this;congr 1;cases k:pD l
 case true=>exact decide_eq_true (this.2 k)
 exact decide_eq_false fun g=>by have:=this.1 g;unfold pD at k;rw [k]at this;cases this
theorem aHX (l:List Con)(hl:l.length<1000000) :∀ (t:List Con) (i:Nat),l.drop i=t→Ends PP 0 (aEk l (i:Int)).as (.ret (.bool (t.all jB))) (aA [] 0)
 | [],i,h=>by
  have:=bH h;exact Ends.eqv (aWT l i sd) (by simp)
 | c::t,i,h=>by
  obtain⟨d,b,e⟩ :=bE h;have a:=aUk c;cases k:jB c
  case false=>rw [k]at a;exact Ends.eqv (aWR l i c false sd sd sd a rfl) (by simp [k])
  rw [k]at a;refine(aWS l i c true sd sd sd a rfl sd).ends ?_;exact Ends.eqv (aHX l hl t (i+1) b) (by simp [k])
theorem aUo (l:List Con)(hl:l.length<1000000) :aK PP 123 [.ilst 2 (map Con.av l) false,.func 124 [] []] (.bool (l.all jB)) :=
 aG aC rfl rfl ((aWQ l).ends (aHX l hl l 0 rfl))
theorem aHY (l:List Node)(p:Prog)(hl:l.length<1000000)(b:∀x∈l,aK PP 129 [Prog.av p,Node.av x] (.bool (bG p x))) :∀ (t:List Node) (i:Nat),l.drop i=t→Ends PP 0 (aEj l p (i:Int)).as (.ret (.bool (t.all (bG p)))) (aA [] 0)
 | [],i,h=>by
  have:=bH h;exact Ends.eqv (aWP l p i sd) (by simp)
 | c::t,i,h=>by
  obtain⟨e,d,f⟩ :=bE h;have a:=b c (jQ e);cases k:bG p c
  case false=>rw [k]at a;exact Ends.eqv (aWN l p i c false sd sd sd a rfl) (by simp [k])
  rw [k]at a;refine(aWO l p i c true sd sd sd a rfl sd).ends ?_;exact Ends.eqv (aHY l p hl b t (i+1) d) (by simp [k])
theorem aUp (l:List Node)(p:Prog)(hl:l.length<1000000)(a:∀x∈l,aK PP 129 [Prog.av p,Node.av x] (.bool (bG p x))) :aK PP 128 [.ilst 4 (map Node.av l) false,.func 129 [Prog.av p] []] (.bool (l.all (bG p))) :=
 aG aC rfl rfl ((aWM l p).ends (aHY l p hl a l 0 rfl))
def one (k:Int) :Bool:=decide (k=1)
theorem aHZ (l:List Int)(hl:l.length<1000000) :∀ (t:List Int) (i:Nat),l.drop i=t→Ends PP 0 (aEl l (i:Int)).as (.ret (.bool (t.all one))) (aA [] 0)
 | [],i,h=>by
  have:=bH h;exact Ends.eqv (aWX l i sd) (by simp)
 | c ::t,i,h=>by
  obtain⟨b,a,d⟩ :=bE h;by_cases k:c=1
  · refine(aWW l i c sd sd sd (by simp [k]) sd).ends ?_;exact Ends.eqv (aHZ l hl t (i+1) a) (by simp [k,one])
  ·exact Ends.eqv (aWV l i c sd sd sd (by simp [k])) (by simp [k,one])
theorem aUq (l:List Int)(hl:l.length<1000000) :aK PP 130 [.ilst 1 (map cG l) true,.func 131 [] []] (.bool (l.all one)) :=
 aG aC rfl rfl ((aWU l).ends (aHZ l hl l 0 rfl))
theorem aH0 (l:List Con)(hl:l.length<100000) :∀ (t:List Con) (i:Nat),l.drop i=t→Ends PP 0 (aEm l (i:Int) (bD (l.take i))).as (.ret (.ilst 1 (map dP (bD l)) false)) (aA [] 0)
 | [],i,h=>by
  have d:=bH h;have e:bD (l.take i) =bD l:=by rw [aAG d]
  rw [e];exact aW0 l i _ sd
 | c::t,i,h=>by
  obtain⟨b,a,f⟩ :=bE h;have e:bD (l.take i) ++ [c.name] =bD (l.take (i+1)) :=by
   rw [List.take_add_one,b];simp [bD]
  refine(aWZ l i (bD (l.take i)) c sd sd sd (by simp [bD];omega) sd).ends ?_;rw [e];exact aH0 l hl t (i+1) a
theorem aUr (l:List Con)(hl:l.length<100000) :aK PP 126 [.ilst 2 (map Con.av l) false,.func 127 [] []] (.ilst 1 (map dP (bD l)) false) :=
 aG aC rfl rfl ((aWY l).ends (aH0 l hl l 0 rfl))
def oP (lo n:Int) :List Int→List Int→Option (List Int)
 | [],c=>some c
 |k::ks,c=>if dY k lo (n-1) =true then oP lo n ks (c.set k.toNat (c.getD k.toNat 0+1))else none
def nF (p:Prog) :Nat→List Node→List Int→Option (List Int)
 |_,[],c=>some c
 | i,x::t,c=>match oP ((i:Int) +1) (p.nodes.length:Int) x.kids c with
   |some d=>nF p (i+1) t d
   |none=>none
def rE :Option (List Int) →Bool
 |some c=>c.all one
 |none=>false
def below (b:Int)(c:List Int) :Prop:=∀k∈c,0≤k∧k≤b
theorem aC0 {b:Int}{c:List Int}(h:below b c){i:Nat}{z:Int}(hz:c[i]?=some z) :0≤z∧z≤b:=h z (jQ hz)
theorem aH1 {b:Int}{c:List Int}(h:below b c){i:Nat}{z:Int}(hz:c[i]?=some z) :below (b+1) (c.set i (z+1)) :=fun k hk=>by
 rcases List.mem_or_eq_of_mem_set hk with g|g
 ·have:=h k g;omega
 ·have:=aC0 h hz;omega
theorem bF2 (p:Prog)(i:Nat)(o:i<p.nodes.length)(n:p.nodes.length≤1000)(ks:List Int)(hk:ks.length≤1000)(K:List Int→Bool)(B:Int)(hB:0≤B)(g:B≤1000000)
  (hb:∀v:List Int,v.length=p.nodes.length→below (B+ks.length) v→Ends PP 0 (qC p v ((i:Int) +1)).as (.ret (.bool (K v))) (aA [] 0)) :
  ∀ (t:List Int) (k:Nat) (c:List Int),c.length=p.nodes.length→k≤ks.length→below (B+k) c→ks.drop k=t→Ends PP 0 (vA p ks (ks.length:Int) c (k:Int) (i:Int) (i:Int)).as (.ret (.bool (match oP ((i:Int) +1) p.nodes.length t c with|some v=>K v|none=>false))) (aA [] 0)
 | [],k,c,hc,f,b,h=>by
  have:=bH h;have e:k=ks.length:=by omega
  subst e;refine(aMZ p ks ks.length c ks.length i i sd sd).ends ?_;exact hb c hc b
 | y::t,k,c,hc,f,b,h=>by
  obtain⟨s,j,u⟩ :=bE h;have a:=fW y ((i:Int) +1) ((p.nodes.length:Int) -1);cases d:dY y ((i:Int) +1) ((p.nodes.length:Int) -1)
  case false=>
   rw [d]at a;exact Ends.eqv (aMX p ks ks.length c k i i y false sd sd sd sd sd a rfl) (by simp [oP,d])
  rw [d]at a;have w:=inB_iff.1 d;obtain⟨z,hz⟩ :∃z,c[y.toNat]?=some z:= ⟨_,kX (by omega)⟩;have l:=aC0 b hz;refine(aMY p ks ks.length c k i i y true z sd sd sd sd sd a rfl (by omega) (by omega) hz sd sd).ends ?_;have e:c.getD y.toNat 0=z:=by rw [nY,hz];rfl
  have r:oP ((i:Int) +1) p.nodes.length (y::t) c=oP ((i:Int) +1) p.nodes.length t (c.set y.toNat (z+1)) :=by
   rw [oP,if_pos d,e]
  rw [r];refine bF2 p i o n ks hk K B hB g hb t (k+1) (c.set y.toNat (z+1)) (by simpa using hc) (by omega) ?_ j;have:=aH1 b hz;intro q m;have:=this q m
  push_cast
  omega
def vB :List Node→Nat
 | [] =>0
 |x::t=>x.kids.length+vB t
theorem aF8 :∀ (t:List Node),(∀x∈t,x.kids.length≤10) →vB t≤10*t.length
 | [],_=>by simp [vB]
 | x::t,h=>by
  have a:=aF8 t (fun y c=>h y (cL _ c));have b:=h x (cQ ..);simp only [vB,qN];omega
theorem bF1 (p:Prog)(hp:aJ p=true)(d:p.nodes.length≤1000) :∀ (t:List Node) (i:Nat) (c:List Int) (B:Int),0≤B→B+vB t≤100000→c.length=p.nodes.length→below B c→p.nodes.drop i=t →
  Ends PP 0 (qC p c (i:Int)).as (.ret (.bool (rE (nF p i t c)))) (aA [] 0)
 | [],i,c,B,e,b,hc,hb,h=>by
  have:=bH h;exact Ends.eqv (aMW p c i _ sd (aUq c (by omega))) rfl
 | x::t,i,c,B,e,b,hc,hb,h=>by
  obtain⟨j,g,k⟩ :=bE h;have l:bO x=true:=by
   simp only [aJ,dS]at hp;exact zq27.1 hp.2 x (jQ j)
  simp only [bO,dS,decide_eq_true_eq]at l;simp only [vB]at b;refine(aMV p c i x sd sd sd).ends ?_;refine Ends.eqv (bF2 p i k d x.kids (by omega) (fun v=>rE (nF p (i+1) t v)) B e (by omega) (fun v f a=>bF1 p hp d t (i+1) v (B+x.kids.length) (by omega) (by omega) f a g) x.kids 0 c hc (by omega) (by simpa using hb) rfl) ?_;rw [nF];cases oP ((i:Int) +1) (p.nodes.length:Int) x.kids c<;>rfl
theorem bF0 (p:Prog)(hp:aJ p=true)(f:p.nodes.length≤1000)(d:vB p.nodes≤10000)(m:p.funs.length≤1000) :∀ (t:List Int) (i:Nat) (c:List Int),i≤p.funs.length→c.length=p.nodes.length→below (i:Int) c→p.funs.drop i=t →
  Ends PP 0 (uZ p (i:Int) c).as (.ret (.bool (match oP 0 p.nodes.length t c with|some v=>rE (nF p 0 p.nodes v) |none=>false))) (aA [] 0)
 | [],i,c,k,hc,hb,h=>by
  have:=bH h;refine(aMU p i c sd).ends ?_;exact bF1 p hp f p.nodes 0 c i (by omega) (by omega) hc hb rfl
 | y::t,i,c,k,hc,hb,h=>by
  obtain⟨r,g,s⟩ :=bE h;have a:=fW y 0 ((p.nodes.length:Int) -1);cases b:dY y 0 ((p.nodes.length:Int) -1)
  case false=>
   rw [b]at a;exact Ends.eqv (aMS p i c y false sd sd sd sd a rfl) (by simp [oP,b])
  rw [b]at a;have o:=inB_iff.1 b;obtain⟨z,hz⟩ :∃z,c[y.toNat]?=some z:= ⟨_,kX (by omega)⟩;have j:=aC0 hb hz;refine(aMT p i c y true z sd sd sd sd a rfl (by omega) (by omega) hz sd sd).ends ?_;have e:c.getD y.toNat 0=z:=by rw [nY,hz];rfl
  have l:oP 0 p.nodes.length (y::t) c=oP 0 p.nodes.length t (c.set y.toNat (z+1)) :=by
   rw [oP,if_pos b,e]
  rw [l];refine bF0 p hp f d m t (i+1) (c.set y.toNat (z+1)) (by omega) (by simpa using hc) ?_ g;have:=aH1 hb hz;intro q n;have:=this q n
  push_cast
  omega
def dJ (p:Prog) :Bool:=
 eB p&&decide (p.cons.length≤20) &&p.cons.all jB&&pD (bD p.cons) &&p.nodes.all (bG p) &&
  (match oP 0 (p.nodes.length:Int) p.funs (replicate p.nodes.length 0)with
  |some v=>rE (nF p 0 p.nodes v)
  |none=>false)
theorem aM5 {p:Prog}(hp:aJ p=true) :∀x∈p.nodes,x.kids.length≤10∧x.pats.length≤10:=fun x a=>by
 simp only [aJ,dS]at hp;have:=zq27.1 hp.2 x a;simp only [bO,dS,decide_eq_true_eq]at this;exact this.1
theorem aJX (p:Prog)(hp:aJ p=true) :aK PP 88 [Prog.av p] (.bool (dJ p)) :=by
 refine aG aC rfl rfl ?_;have j:=hp;simp only [aJ,dS,decide_eq_true_eq]at j;obtain⟨⟨⟨⟨s,u⟩,v⟩,_⟩,_⟩ :=j;have b:=aM5 hp;by_cases l:p.nodes.length≤300
 · by_cases t:1≤p.funs.length
   · by_cases r:p.funs.length≤p.nodes.length
     · have kk:dY (p.funs.length:Int) 1 (p.nodes.length:Int) =true:=inB_iff.2 ⟨by omega,by omega⟩;by_cases k:p.cons.length≤20
       · have a:=fW p.main 0 ((p.funs.length:Int) -1);cases g:dY p.main 0 ((p.funs.length:Int) -1)
         case false=>
          rw [g]at a;exact Ends.eqv (aMN p false sd sd sd sd sd a rfl) (by simp [dJ,eB,g])
         rw [g]at a;have n:eB p=true:=by simp [eB,l,kk,g]
         have hc:=aUo p.cons (by omega);cases d:p.cons.all jB
         case false=>
          rw [d]at hc;exact Ends.eqv (aMO p true false sd sd sd sd sd a rfl hc rfl) (by simp only [dJ,d,Bool.and_false,Bool.false_and])
         rw [d]at hc;have hm:=aUr p.cons (by omega);have c:=aJW (bD p.cons) (by simp [bD];omega);cases h:pD (bD p.cons)
         case false=>
          rw [h]at c;exact Ends.eqv (aMP p true true (bD p.cons) false sd sd sd sd sd a rfl hc rfl hm c rfl) (by simp only [dJ,h,Bool.and_false,Bool.false_and])
         rw [h]at c;have f:=aUp p.nodes p (by omega) (fun x i=>aPZ p x (by omega) (by omega) (b x i).2 (b x i).1);cases e:p.nodes.all (bG p)
         case false=>
          rw [e]at f;exact Ends.eqv (aMQ p true true (bD p.cons) true false sd sd sd sd sd a rfl hc rfl hm c rfl f rfl) (by simp only [dJ,e,Bool.and_false,Bool.false_and])
         rw [e]at f;refine(aMR p true true (bD p.cons) true true sd sd sd sd sd a rfl hc rfl hm c rfl f rfl (by omega)).ends ?_;have m:=aF8 p.nodes (fun x i=> (b x i).1);refine Ends.eqv (bF0 p hp (by omega) (by omega) (by omega) p.funs 0 _ (by omega) (by simp) ?_ rfl) ?_
         · intro q o;have:= (List.mem_replicate.1 o).2;omega
         ·simp only [dJ,n,decide_eq_true k,d,h,e,mL] <;>rfl
       ·exact Ends.eqv (aMM p sd sd sd sd) (by simp [dJ,k])
     · have kk:dY (p.funs.length:Int) 1 (p.nodes.length:Int) =false:=inB_not.2 (by omega);exact Ends.eqv (aML p sd sd sd) (by simp [dJ,eB,kk])
   · have kk:dY (p.funs.length:Int) 1 (p.nodes.length:Int) =false:=inB_not.2 (by omega);exact Ends.eqv (aMK p sd sd) (by simp [dJ,eB,kk])
 ·exact Ends.eqv (aMJ p sd) (by simp [dJ,eB,l])
theorem aM6 (p:Prog)(hp:aJ p=true) :aK PP 45 [Prog.av p] (.int .i64 (checkN (dJ p))) :=by
 refine aG aC rfl rfl ?_;have h:=aJX p hp;cases k:dJ p
 case false=>rw [k]at h;exact aPV p false h rfl
 rw [k]at h;exact aPW p true h rfl
def cnt (b:Bool) :Int:=if b=true then 1 else 0
def vC (u:List Bool) :List Int:=u.map cnt
def aAY (c:List Int) :Prop:= (∃ (i:Nat) (z:Int),c[i]?=some z∧2≤z) ∧∀z∈c,0≤z
theorem aM7 {c:List Int}(h:aAY c) :c.all one=false:=by
 obtain⟨⟨i,z,a,b⟩,_⟩ :=h;cases k:c.all one
 case false=>rfl
 have:=zq27.1 k z (jQ a);simp only [one,decide_eq_true_eq]at this;omega
theorem aP0 {c:List Int}{j:Nat}(h:aAY c) :aAY (c.set j (c.getD j 0+1)) :=by
 obtain⟨⟨i,z,a,l⟩,b⟩ :=h;have d:= (zq0.1 a).1;refine⟨⟨i,if j=i then z+1 else z,?_,by split<;>omega⟩,fun q f=>?_⟩
 · rw [List.getElem?_set];by_cases e:j=i
   · subst e;rw [if_pos rfl,if_pos d,if_pos rfl,nY,a];rfl
   ·rw [if_neg e,if_neg e];exact a
 · rcases List.mem_or_eq_of_mem_set f with g|g
   ·exact b q g
   · rw [g,nY];cases k:c[j]? with
     |none=>simp
     |some w=>have:=b w (jQ k);simp;omega
theorem xW {lo n:Int}:∀ {a c:List Int} {d:List Int},aAY c→oP lo n a c=some d→aAY d
 | [],c,d,h,e=>by simp only [oP,Option.some.injEq]at e;rw [←e];exact h
 | k::a,c,d,h,e=>by
  simp only [oP]at e;split at e
  ·exact xW (aP0 h) e
  ·cases e
theorem aM8 (u:List Bool) :∀z∈vC u,0≤z:=fun z hz=>by
 obtain⟨b,_,rfl⟩ :=zq24.1 hz;cases b<;>simp [cnt]
theorem aAZ {lo n:Int}(h:0≤lo) :∀ (b:List Int) (u:List Bool),n≤u.length →
  (∀v,marks lo n b u=some v→oP lo n b (vC u) =some (vC v)) ∧ (marks lo n b u=none→∀d,oP lo n b (vC u) =some d→aAY d)
 | [],u,i=>by
  simp only [marks,oP,Option.some.injEq];exact⟨fun v e=>by rw [e],fun e=>by cases e⟩
 | k ::b,u,i=>by
  simp only [marks,oP];by_cases c:dY k lo (n-1) =true
  · have hk:=inB_iff.1 c;have f:k.toNat<u.length:=by omega
    have a:u[k.toNat]?=some u[k.toNat] :=kX f;have hc: (vC u).getD k.toNat 0=cnt u[k.toNat] :=by
     rw [nY,vC,tJ,a];rfl
    rw [if_pos c];cases hb:u[k.toNat]
    case false=>
     rw [hb]at a hc;rw [if_pos ⟨c,a⟩];have e: (vC u).set k.toNat ((vC u).getD k.toNat 0+1) =vC (u.set k.toNat true) :=by
      rw [hc,vC,vC,map_set];rfl
     rw [e];exact aAZ h b (u.set k.toNat true) (by simpa using i)
    rw [hb]at a hc;rw [if_neg (by rw [a];simp)];refine And.intro (fun v e=>nomatch e) (fun _ d e=>xW (And.intro ⟨k.toNat,2,?_,by omega⟩ ?_) e)
    ·rw [hc,List.getElem?_set_self (by simp [vC];exact f)];rfl
    · intro z hz;rcases List.mem_or_eq_of_mem_set hz with g|g
      ·exact aM8 u z g
      ·rw [g,hc];simp [cnt]
  · rw [if_neg c,if_neg (fun g=>c g.1)];exact And.intro (fun v e=>nomatch e) (fun _ d e=>nomatch e)
theorem sB (p:Prog) :∀ (t:List Node) (i:Nat) (c:List Int),aAY c→rE (nF p i t c) =false
 | [],i,c,h=>by rw [nF];exact aM7 h
 | x::t,i,c,h=>by
  rw [nF];cases e:oP ((i:Int) +1) (p.nodes.length:Int) x.kids c with
  |none=>rfl
  |some d=>exact sB p t (i+1) d (xW h e)
theorem aH2 :∀ (u:List Bool),(vC u).all one=u.all fun b=>b
 | [] =>rfl
 | b::u=>by
  have:=aH2 u;simp only [vC,eU,all_cons]at this ⊢;rw [this];cases b<;>simp [cnt,one]
theorem aM9 (p:Prog) :∀ (t:List Node) (i:Nat) (u:List Bool),u.length=p.nodes.length→t.all (bG p) =true→allT (cC p i t u) =rE (nF p i t (vC u))
 | [],i,u,b,_=>by simp only [cC,nF,allT,rE,aH2]
 | x::t,i,u,b,a=>by
  simp only [all_cons,dS]at a;obtain⟨f,e⟩ :=aAZ (lo:= (i:Int) +1) (n:= (p.nodes.length:Int)) (by omega) x.kids u (by omega);simp only [cC,nF,if_pos a.1];cases hm:marks ((i:Int) +1) (p.nodes.length:Int) x.kids u
  case some v=>
   rw [f v hm];exact aM9 p t (i+1) v (by rw [nD hm,b]) a.2
  cases c:oP ((i:Int) +1) (p.nodes.length:Int) x.kids (vC u)with
  |none=>rfl
  |some d=>exact(sB p t (i+1) d (e hm d c)).symm
theorem aBY (p:Prog) :∀ (t:List Node) (i:Nat) (u:List Bool),t.all (bG p) =false→allT (cC p i t u) =false
 | [],i,u,h=>by simp at h
 | x ::t,i,u,h=>by
  simp only [cC];by_cases a:bG p x=true
  · rw [if_pos a];have b:t.all (bG p) =false:=by simpa [a]using h
    cases marks ((i:Int) +1) (p.nodes.length:Int) x.kids u with
    |none=>rfl
    |some v=>exact aBY p t (i+1) v b
  ·rw [if_neg a];rfl
theorem aUs (p:Prog) :dJ p=aM p:=by
 have b:dJ p= (eB p&&aCX p.cons&& (p.nodes.all (bG p) && (match oP 0 (p.nodes.length:Int) p.funs (replicate p.nodes.length 0)with
  |some v=>rE (nF p 0 p.nodes v)
  |none=>false))) :=by
  unfold dJ aCX;cases eB p<;>cases p.cons.all jB<;>cases pD (bD p.cons) <;>cases p.nodes.all (bG p) <;>cases decide (p.cons.length≤20) <;>simp
 rw [b,aM];congr 1;have g:replicate p.nodes.length (0:Int) =vC (replicate p.nodes.length false) :=by rw [vC,List.map_replicate];rfl
 rw [g];obtain⟨f,e⟩ :=aAZ (lo:=0) (n:= (p.nodes.length:Int)) (by omega) p.funs (replicate p.nodes.length false) (by simp);cases hm:marks 0 (p.nodes.length:Int) p.funs (replicate p.nodes.length false)
 case some v=>
  rw [f v hm];cases a:p.nodes.all (bG p)
  case true=>simp only [mL];exact(aM9 p p.nodes 0 v (by rw [nD hm];simp) a).symm
  simp only [Bool.false_and];exact(aBY p p.nodes 0 v a).symm
 simp only;cases c:oP 0 (p.nodes.length:Int) p.funs (vC (replicate p.nodes.length false))with
 |none=>simp
 |some d=>simp only [sB p p.nodes 0 d (e hm d c),Bool.and_false]
def zI(d e:Int)(f:cF)(a:List Pat)(b c:Int):TS:=⟨(tf 177 22 [(2,(nI 0)),(3,(nI b)),(10,(iP a)),(11,(nI (a.length:Int))),(12,(nI c))] [kc f177 244,kl f177 244,.inBlock 0,kc f177 31]),[],[],0⟩
def aP1(a:Node)(b:Int):=tT 0 (start PP 134 [(Node.av a),(nI b)])<|.b 13 9 (a.op==5) (gE 21 1 (nI 1))<|.b 5 14 (a.op==27) (gE 16 1 (nI 1))<|.b 4 18 (a.op==7) (.b 6 5 (b==1) (gE 6 1 (nI 1))<|.b 7 27 (a.op==15) (gd 5 23 (b>0) (gw 7 34 (b-1)<|uP 0 a.pats (b-1)<|fun c d e f=>gpI 1 177 [(.agg [(nI c),(nI d),(dP e),(iP f)])]<|fun g=>gE 3 1 (nI g))<|gE 8 1 (nI 0))<|gE 13 1 (nI 0))<|.b 13 27 (a.op==15) (gd 5 23 (b>0) (gw 7 34 (b-1)<|uP 0 a.pats (b-1)<|fun c d e f=>gpI 1 177 [(.agg [(nI c),(nI d),(dP e),(iP f)])]<|fun g=>gE 3 1 (nI g))<|gE 8 1 (nI 0))<|gE 13 1 (nI 0)
def aUt:=fun a b c=>aP1 a b|>.t c tv
def aUu:=fun a b c d=>aP1 a b|>.f c|>.t d tv
def aUv:=fun a b c d e f=>aP1 a b|>.f c|>.f d|>.t e|>.t f tv
def aUw:=fun a b c d e f g=>aP1 a b|>.f c|>.f d|>.t e|>.f f|>.f g tv
def aUx:=fun a b c d e f g i j k l m n o p q=>aP1 a b|>.f i|>.f j|>.f k|>.t l|>.t m n c d e f o p g q tv
def aUy:=fun a b c d e f g=>aP1 a b|>.f c|>.f d|>.f e|>.t f|>.f g tv
def aUz:=fun a b c d e f=>aP1 a b|>.f c|>.f d|>.f e|>.f f tv
def bHO(a c:Int)(d:cF)(b:List Pat):=tT 0 (start PP 177 [(.agg [(nI a),(nI c),(dP d),(iP b)])])<|.b 12 8 (a==2) (gE 6 1 (nI 1))<|gm 11 aH b<|.W 4 1 [] (zI a c d b 0 0)
def aP2:=fun a b c d e=>bHO a b c d|>.t e tv
def aP3:=fun a b c d e=>bHO a b c d|>.f e tv
def bHP(d e:Int)(f:cF)(b:List Pat)(c a:Int):=tT 0 (zI d e f b c a)<|gd 5 13 (a< (b.length:Int)) (uP 6 b a<|fun i j k l=>gpI 7 177 [(.agg [(nI i),(nI j),(dP k),(iP l)])]<|fun g=>gw 1 19 (c+g)<|gw 5 20 (a+1)<|.W 3 1 [] (zI d e f b (c+g) (a+1)))<|gE 8 0 (nI c)
def aP4:=fun a b c d e f g i j k l m n o p q r=>bHP a b c d e f|>.t m g i j k n o l p q r tv
def aP5:=fun a b c d e f g=>bHP a b c d e f|>.f g tv
def sX(a b:Int)(c:cF)(d:List Pat)(e f:Int):TS:=⟨(tf 163 24 [kp 1 0,(2,(nI 0)),(3,(nI e)),(4,(nI f))] [kc f163 244,kl f163 244,.inBlock 0,kc f163 31]),[],[oC 0 [(nI a),(nI b),(dP c),(iP d)]],1⟩
def aUA(a:Node)(b:Int):=tT 0 (start PP 121 [(Node.av a),(nI b)])<|.b 18 7 (a.op==5) (gE 8 1 (nI 1))<|.b 5 7 (a.op==27) (gE 6 1 (nI 1))<|.b 6 10 (a.op==7) (gE 7 1 (nI b))<|.b 6 13 (a.op==15) (gd 6 16 (b>0) (gw 7 20 (b-1)<|uP 0 a.pats (b-1)<|fun c d e f=>gpI 1 163 [(.agg [(nI c),(nI d),(dP e),(iP f)])]<|fun g=>gE 3 1 (nI g))<|gE 8 1 (nI 0))<|gE 8 1 (nI 0)
def aH3:=fun a b c=>aUA a b|>.t c tv
def aH4:=fun a b c d=>aUA a b|>.f c|>.t d tv
def aC1:=fun a b c d e=>aUA a b|>.f c|>.f d|>.t e tv
def aH5:=fun a b c d e f g i j k l m n o p q=>aUA a b|>.f i|>.f j|>.f k|>.t l|>.t m n c d e f o p g q tv
def aH6:=fun a b c d e f g=>aUA a b|>.f c|>.f d|>.f e|>.t f|>.f g tv
def aH7:=fun a b c d e f=>aUA a b|>.f c|>.f d|>.f e|>.f f tv
def bHQ(a b:Int)(c:cF)(d:List Pat):=tT 0 (start PP 163 [(.agg [(nI a),(nI b),(dP c),(iP d)])])<|.b 16 7 (a==2) (.W 11 1 [0] (sX a b c d 1 0))<|.W 9 1 [0] (sX a b c d 0 0)
def aP6:=fun a b c d e=>bHQ a b c d|>.t e tv
def aP7:=fun a b c d e=>bHQ a b c d|>.f e tv
def bHR(d e:Int)(f:cF)(a:List Pat)(c b:Int):=tT 0 (sX d e f a c b)<|gm 6 aH a<|gd 2 12 (b< (a.length:Int)) (uP 9 a b<|fun i j k l=>gpI 1 163 [(.agg [(nI i),(nI j),(dP k),(iP l)])]<|fun g=>gw 1 22 (c+g)<|gw 6 14 (b+1)<|.W 3 1 [0] (sX d e f a (c+g) (b+1)))<|gE 8 1 (nI c)
def aP8:=fun a b c d e f g i j k l m n o p q r=>bHR a b c d e f|>.t m g i j k n o l p q r tv
def aP9:=fun a b c d e f g=>bHR a b c d e f|>.f g tv
theorem Ends.val {P:Program}{m:Nat}{s:AS}{v v':AV}{h':Hp}(h:Ends P m s (.ret v) h')(i:∀E b,VR E v b→VR E v' b) :Ends P m s (.ret v') h':=fun hm E fr d w f fs r p a=>by
 obtain⟨c,j,k,l,⟨b,e,g⟩,o,n⟩ :=h hm E fr d w f fs r p a;exact⟨c,j,k,l,⟨b,e,i _ _ g⟩,o,n⟩
theorem hY {E:Emb}{e:Nat}{xs:List AV}{cv:Value}(h:VR E (.ilst e xs true) cv) :VR E (.ilst e xs false) cv:=by
 simp only [VR]at h ⊢;obtain⟨i,n,m,g⟩ :=h;refine⟨i,n,m,?_⟩;rcases g with⟨f,a,b,c,d,j⟩ | ⟨k,a,b,C,f,c,d,j,l⟩
 ·exact .inl ⟨f,a,b,c,d,fun e=> (by cases e)⟩
 ·exact .inr ⟨k,a,b,C,f,c,d,fun e=> (by cases e),l⟩
mutual
def bnm :Pat→Int
 | .mk f _ _ ps=>if f=2 then 1 else aAj ps
def aAj :List Pat→Int
 | [] =>0
 |p::ps=>bnm p+aAj ps
end
mutual
def rnm :Pat→Int
 | .mk f _ _ ps=> (if f=2 then 1 else 0) +aC2 ps
def aC2 :List Pat→Int
 | [] =>0
 |p::ps=>rnm p+aC2 ps
end
mutual
theorem aF9 :∀p,0≤bnm p∧bnm p≤cB p
 | .mk f _ _ a=>by
  have:=zJ a;simp only [bnm,cB];split<;>omega
theorem zJ :∀a,0≤aAj a∧aAj a≤bI a
 | [] =>by simp [aAj,bI]
 | p::a=>by
  have:=aF9 p;have:=zJ a;simp only [aAj,bI];omega
end
mutual
theorem aW1 :∀p,0≤rnm p∧rnm p≤cB p
 | .mk f _ _ a=>by
  have:=aEn a;simp only [rnm,cB];split<;>omega
theorem aEn :∀a,0≤aC2 a∧aC2 a≤bI a
 | [] =>by simp [aC2,bI]
 | p::a=>by
  have:=aW1 p;have:=aEn a;simp only [aC2,bI];omega
end
mutual
theorem aW2 (cons:List Con) :∀p,eT cons p=true→bnm p=rnm p
 | .mk f n s a,h=>by
  simp only [eT,dS]at h;have:=aW3 cons a h.2;simp only [bnm,rnm];by_cases g:f=2
  · have hk:=h.1;subst g;simp only [eP]at hk;simp at hk;obtain⟨⟨hk,_⟩,_⟩ :=hk;subst hk;simp [aC2]
  ·rw [if_neg g,if_neg g,this];omega
theorem aW3 (cons:List Con) :∀a,dT cons a=true→aAj a=aC2 a
 | [],_=>rfl
 | p::a,h=>by
  simp only [dT,dS]at h;simp only [aAj,aC2,aW2 cons p h.1,aW3 cons a h.2]
end
theorem aDJ (f n:Int)(s:cF)(ps:List Pat)(hl:ps.length<1000000)(j:∀p∈ps,aK PP 177 [Pat.av p] (.int .i64 (bnm p))) :
  ∀ (t:List Pat) (i:Nat) (a:Int),0≤a→a+aAj t≤1000000→ps.drop i=t→Ends PP 0 (zI f n s ps a (i:Int)).as (.ret (.int .i64 (a+aAj t))) (aA [] 0)
 | [],i,a,_,_,h=>by
  have:=bH h;exact Ends.eqv (aP5 f n s ps a i sd) (by simp [aAj])
 | .mk c e g b::t,i,a,r,hb,h=>by
  obtain⟨l,k,o⟩ :=bE h;have d:=j _ (jQ l);have q:=aF9 (.mk c e g b);have m:=zJ t;rw [aAj]at hb ⊢;refine(aP4 f n s ps a i c e g b _ sd sd sd d sd sd).ends ?_;exact Ends.eqv (aDJ f n s ps hl j t (i+1) (a+bnm (.mk c e g b)) (by omega) (by omega) k) (by rw [Int.add_assoc])
mutual
theorem aDK :∀ (p:Pat),cB p<100000→aK PP 177 [Pat.av p] (.int .i64 (bnm p))
 | .mk f n s a,h=>by
  refine aG aC (by simp [keylessL,nB]) rfl ?_;simp only [cB]at h;have:=fA a;have b:=zJ a;by_cases g:f=2
  · subst g;exact Ends.eqv (aP2 2 n s a rfl) (by simp [bnm])
  · refine(aP3 f n s a (by simpa using g)).ends ?_;exact Ends.eqv (aDJ f n s a (by omega) (aGa a (by omega)) a 0 0 (by omega) (by omega) rfl) (by simp [bnm,g])
theorem aGa :∀ (b:List Pat),bI b<100000→∀p∈b,aK PP 177 [Pat.av p] (.int .i64 (bnm p))
 | [],_,p,a=>by cases a
 | q::b,h,p,a=>by
  simp only [bI]at h;rcases zq7.1 a with e|a
  ·rw [e];exact aDK q (by omega)
  ·exact aGa b (by omega) p a
end
theorem xX (f n:Int)(s:cF)(ps:List Pat)(hl:ps.length<1000000)(j:∀p∈ps,aK PP 163 [Pat.av p] (.int .i64 (rnm p))) :
  ∀ (t:List Pat) (i:Nat) (a:Int),0≤a→a+aC2 t≤1000000→ps.drop i=t→Ends PP 0 (sX f n s ps a (i:Int)).as (.ret (.int .i64 (a+aC2 t))) (aA [] 0)
 | [],i,a,_,_,h=>by
  have:=bH h;exact Ends.eqv (aP9 f n s ps a i sd) (by simp [aC2])
 | .mk c e g b::t,i,a,r,hb,h=>by
  obtain⟨l,k,o⟩ :=bE h;have d:=j _ (jQ l);have q:=aW1 (.mk c e g b);have m:=aEn t;rw [aC2]at hb ⊢;refine(aP8 f n s ps a i c e g b _ sd sd sd d sd sd).ends ?_;exact Ends.eqv (xX f n s ps hl j t (i+1) (a+rnm (.mk c e g b)) (by omega) (by omega) k) (by rw [Int.add_assoc])
mutual
theorem xY :∀ (p:Pat),cB p<100000→aK PP 163 [Pat.av p] (.int .i64 (rnm p))
 | .mk f n s a,h=>by
  refine aG aC (by simp [keylessL,nB]) rfl ?_;simp only [cB]at h;have:=fA a;have b:=aEn a;by_cases g:f=2
  · subst g;refine(aP6 2 n s a rfl).ends ?_;exact Ends.eqv (xX 2 n s a (by omega) (aA0 a (by omega)) a 0 1 (by omega) (by omega) rfl) (by simp [rnm])
  · refine(aP7 f n s a (by simpa using g)).ends ?_;exact Ends.eqv (xX f n s a (by omega) (aA0 a (by omega)) a 0 0 (by omega) (by omega) rfl) (by simp [rnm,g])
theorem aA0 :∀ (b:List Pat),bI b<100000→∀p∈b,aK PP 163 [Pat.av p] (.int .i64 (rnm p))
 | [],_,p,a=>by cases a
 | q::b,h,p,a=>by
  simp only [bI]at h;rcases zq7.1 a with e|a
  ·rw [e];exact xY q (by omega)
  ·exact aA0 b (by omega) p a
end
def dF (x:Node)(k:Int) :Int:=
 if x.op=5∨x.op=27∨ (x.op=7∧k=1)then 1
 else if x.op=15∧k>0 then(match x.pats[(k-1).toNat]? with|some q=>bnm q|none=>0)else 0
structure FineN (cons:List Con) (x:Node) :Prop where
 pats:∀q∈x.pats,cB q≤12∧eT cons q=true
 mat:x.op=15→x.kids.length=1+x.pats.length
 let2:x.op=7→x.kids.length=2
theorem aRS {p:Prog}{x:Node}(h:bG p x=true) :FineN p.cons x:=by
 simp only [bG,dS,decide_eq_true_eq]at h;obtain⟨⟨_,c⟩,a⟩ :=h;refine⟨fun q b=>?_,fun e=>?_,fun e=>?_⟩
 · have:=zq27.1 c q b;simpa [jZ]using this
 ·rw [e]at a;simp [cK]at a;omega
 ·rw [e]at a;simp [cK]at a;omega
theorem aNa {cons:List Con}{x:Node}(b:FineN cons x)(k:Int) :0≤dF x k∧dF x k≤12:=by
 unfold dF;split
 ·omega
 · split
   · split
     · rename_i q a;have:= (b.pats q (jQ a)).1;have:=aF9 q;omega
     ·omega
   ·omega
theorem aH8 {x:Node}{k:Int}(a:x.op=15)(hk:k>0){q:Pat}(b:x.pats[(k-1).toNat]?=some q) :dF x k=bnm q:=by
 unfold dF;rw [if_neg (by rw [a];omega),if_pos ⟨a,hk⟩,b]
theorem aQa {cons:List Con}{x:Node}(j:FineN cons x){k:Int}(o:0≤k)(h1:k<x.kids.length)(hk:x.kids.length≤10) :aK PP 134 [Node.av x,.int .i64 k] (.int .i64 (dF x k)) :=by
 refine aG aC rfl rfl ?_
 have m:x.op=15→k>0→∃f n s h,x.pats[(k-1).toNat]?=some (.mk f n s h) ∧aK PP 177 [Pat.av (.mk f n s h)] (.int .i64 (bnm (.mk f n s h))) :=fun e g=>by
  have hl:=j.mat e;obtain⟨q,i⟩ :∃q,x.pats[(k-1).toNat]?=some q:= ⟨_,kX (by omega)⟩;obtain⟨f,n,s,h⟩ :=q;have:= (j.pats _ (jQ i)).1;exact⟨f,n,s,h,i,aDK _ (by omega)⟩
 by_cases d:x.op=5
 ·exact Ends.eqv (aUt x k (by simp [d])) (by simp [dF,d])
 · by_cases a:x.op=27
   ·exact Ends.eqv (aUu x k (by simp [d]) (by simp [a])) (by simp [dF,a])
   · by_cases c:x.op=7
     · by_cases gk:k=1
       ·exact Ends.eqv (aUv x k (by simp [d]) (by simp [a]) (by simp [c]) (by simp [gk])) (by simp [dF,c,gk])
       ·exact Ends.eqv (aUw x k (by simp [d]) (by simp [a]) (by simp [c]) (by simp [gk]) (by simp [c])) (by simp [dF,c,gk])
     · by_cases b:x.op=15
       · by_cases gk:k>0
         · obtain⟨f,n,s,h,i,l⟩ :=m b gk;exact Ends.eqv (aUx x k f n s h _ (by simp [d]) (by simp [a]) (by simp [c]) (by simp [b]) (by simpa using gk) sd (by omega) i l) (by rw [aH8 b gk i])
         ·exact Ends.eqv (aUy x k (by simp [d]) (by simp [a]) (by simp [c]) (by simp [b]) (by simpa using gk)) (by simp [dF,b,gk])
       ·exact Ends.eqv (aUz x k (by simp [d]) (by simp [a]) (by simp [c]) (by simp [b])) (by simp [dF,d,a,c,b])
theorem aQb {cons:List Con}{x:Node}(e:FineN cons x){k:Int}(l:0≤k)(h1:k<x.kids.length)(hk:x.kids.length≤10) :aK PP 121 [Node.av x,.int .i64 k] (.int .i64 (dF x k)) :=by
 refine aG aC rfl rfl ?_;by_cases d:x.op=5
 ·exact Ends.eqv (aH3 x k (by simp [d])) (by simp [dF,d])
 · by_cases b:x.op=27
   ·exact Ends.eqv (aH4 x k (by simp [d]) (by simp [b])) (by simp [dF,b])
   · by_cases c:x.op=7
     · have:=e.let2 c;refine Ends.eqv (aC1 x k (by simp [d]) (by simp [b]) (by simp [c])) ?_;by_cases gk:k=1
       ·simp [dF,c,gk]
       · have:k=0:=by omega
         simp [dF,c,this]
     · by_cases a:x.op=15
       · by_cases gk:k>0
         · have hl:=e.mat a;obtain⟨q,h⟩ :∃q,x.pats[(k-1).toNat]?=some q:= ⟨_,kX (by omega)⟩;obtain⟨f,n,s,i⟩ :=q;have g:=e.pats _ (jQ h);have j:=xY (.mk f n s i) (by omega);rw [←aW2 cons _ g.2]at j;exact Ends.eqv (aH5 x k f n s i _ (by simp [d]) (by simp [b]) (by simp [c]) (by simp [a]) (by simpa using gk) sd (by omega) h j) (by rw [aH8 a gk h])
         ·exact Ends.eqv (aH6 x k (by simp [d]) (by simp [b]) (by simp [c]) (by simp [a]) (by simpa using gk)) (by simp [dF,a,gk])
       ·exact Ends.eqv (aH7 x k (by simp [d]) (by simp [b]) (by simp [c]) (by simp [a])) (by simp [dF,d,b,c,a])
abbrev bHS:=[oC 1 [(bV false)],oC 2 [(nI 0)],(3,(.loop .ready none 46 (dK [kp 1 7,kp 2 1,kp 3 2]) 32 [15] (kd f46 116) (kd f46 117) 4),false),(4,(.defd false),false),oC 5 [(.yield 3)]]
abbrev bBH (a:Nat)(b:Prog):=oC a [(iN b.nodes),(iI b.funs),(nI b.main),(iC b.cons)]
abbrev bHT (a:Prog)(b c d:Int):=aA [oC 0 [(.func 133 [] [(.ptr 5 0),(.ptr 6 0),(.ptr 0 0)])],oC 1 [(bV false)],oC 2 [(nI 0)],(3,(.loop .done (some .ret) 46 (dK [kp 1 7,kp 2 1,kp 3 2]) 32 [15] (kd f46 116) (kd f46 117) 4),false),(4,(.defd false),false),oC 5 [(.yield 3)],bBH 6 a,bBH 7 a,oC 8 [(nI b),(nI c),(nI d)]] 9
abbrev bBI (a:Prog)(b c d:Int):=aA ([oC 0 [(.func 133 [] [(.ptr 5 0),(.ptr 6 0),(.ptr 0 0)])]]++bHS++[bBH 6 a,bBH 7 a,oC 8 [(nI b),(nI c),(nI d)]]) 9
abbrev aGb (a:Nat):=oC a [(.func 133 [] [(.ptr 5 0),(.ptr 6 0),(.ptr 0 0)])]
abbrev qQ (a:Nat)(b:Prog):=oC a [(iN b.nodes),(iI b.funs),(nI b.main),(iC b.cons)]
def bER(a:Prog):TS:=aX PP 46 [(Prog.av a)] [] 0
def aJY(a:Prog)(b:Int):TS:=⟨(tf 132 23 [kp 3 0,(9,(iI a.funs)),(10,(nI (a.funs.length:Int))),(11,(nI b))] [kc f132 124,kl f132 124,.inBlock 0]),[(tf 46 32 [kp 2 1,kp 3 2] [.inRF 3,.inBlock 0,kc f46 15] (defers:=[.col 4]))],[aGb 0,oC 1 [(bV false)],oC 2 [(nI 0)],(3,(.loop .ready none 46 (dK [kp 1 7,kp 2 1,kp 3 2]) 32 [15] (kd f46 116) (kd f46 117) 4),false),(4,(.defd false),false),oC 5 [(.yield 3)],qQ 6 a,qQ 7 a],8⟩
def bJd(a:Prog):List (Nat×AObj×Bool):=[aGb 0,oC 1 [(bV false)],oC 2 [(nI 0)],(3,(.loop .done (some .ret) 46 (dK [kp 1 7,kp 2 1,kp 3 2]) 32 [15] (kd f46 116) (kd f46 117) 4),false),(4,(.defd false),false),oC 5 [(.yield 3)],qQ 6 a,qQ 7 a]
def aGc(a:Prog)(b c d:Int):TS:=aX PP 133 [(.agg [(nI b),(nI c),(nI d)]),(.ptr 5 0),(.ptr 6 0),(.ptr 0 0)] [aGb 0,oC 1 [(bV false)],oC 2 [(nI 0)],(3,(.loop .ready none 46 (dK [kp 1 7,kp 2 1,kp 3 2]) 32 [15] (kd f46 116) (kd f46 117) 4),false),(4,(.defd false),false),oC 5 [(.yield 3)],qQ 6 a,qQ 7 a] 8
def aBZ(a:Prog)(b c d:Int)(e:List Int)(f g:Int):TS:=⟨(tf 133 46 [kp 2 6,kp 3 0,kp 4 8,(5,(bV false)),(19,(iI e)),(20,(nI f)),(21,(nI g))] [kc f133 116,kl f133 116,.inBlock 0,kc f133 15]),[],([aGb 0]++bHS++[qQ 6 a,qQ 7 a,oC 8 [(nI b),(nI c),(nI d)]]),9⟩
def bHU(a:Prog):=tT 0 (bER a)<|gpI 10 45 [(Prog.av a)]<|fun b=>.b 7 10 (b != 0) (gE 8 3 (.tup [(bV false),(nI b)]))<|.i [rn 23,.lkeep 5 [1,2,3]] []<|gl 18 cG a.funs<|.W 4 8 [7,1,2,5,4,6,3,0] (aJY a 0)
def bBJ:=fun a b c d=>bHU a b c|>.t d tv
def bBK:=fun a b c d=>bHU a b c|>.f d tv
def bGg(a:Prog)(b:Int):=tT 0 (aJY a b)<|gd 5 12 (b< (a.funs.length:Int)) (gX cG 7 a.funs b<|fun c=>.o (gk 10 (.enter 133 [(.agg [(nI c),(nI b),(nI 1)]),(.ptr 5 0),(.ptr 6 0),(.ptr 0 0)]) [aGb 0,oC 1 [(bV false)],oC 2 [(nI 0)],(3,(.loop .ready none 46 (dK [kp 1 7,kp 2 1,kp 3 2]) 32 [15] (kd f46 116) (kd f46 117) 4),false),(4,(.defd false),false),oC 5 [(.yield 3)],qQ 6 a,qQ 7 a] 8 (bV false) [aGb 0,oC 1 [(bV false)],oC 2 [(nI 0)],(3,(.loop .done (some .ret) 46 (dK [kp 1 7,kp 2 1,kp 3 2]) 32 [15] (kd f46 116) (kd f46 117) 4),false),(4,(.defd false),false),oC 5 [(.yield 3)],qQ 6 a,qQ 7 a] 8<|gE 8 8 (.tup [(bV false),(nI 0)]))<|gk 10 (.enter 133 [(.agg [(nI c),(nI b),(nI 1)]),(.ptr 5 0),(.ptr 6 0),(.ptr 0 0)]) [aGb 0,oC 1 [(bV false)],oC 2 [(nI 0)],(3,(.loop .ready none 46 (dK [kp 1 7,kp 2 1,kp 3 2]) 32 [15] (kd f46 116) (kd f46 117) 4),false),(4,(.defd false),false),oC 5 [(.yield 3)],qQ 6 a,qQ 7 a] 8 (bV true) [aGb 0,oC 1 [(bV false)],oC 2 [(nI 0)],(3,(.loop .ready none 46 (dK [kp 1 7,kp 2 1,kp 3 2]) 32 [15] (kd f46 116) (kd f46 117) 4),false),(4,(.defd false),false),oC 5 [(.yield 3)],qQ 6 a,qQ 7 a] 8<|gw 7 22 (b+1)<|.W 3 8 [0,1,2,3,4,5,6,7] (aJY a (b+1)))<|gE 13 8 (.tup [(bV true),(nI 0)])
def bBL:=fun a b c d e f g=>bGg a b|>.t d c e f|>.1 g tv
def bBM:=fun a b c d e f g i=>bGg a b|>.t d c e f|>.2 g i tv
def bBN:=fun a b c=>bGg a b|>.f c tv
def bGh(a:Prog)(c e d:Int):=tT 8 (aGc a c e d)<|gX Node.av 23 a.nodes c<|fun b=>.b 10 25 (b.op==4) (gd 7 31 (b.n≥d) (.E 15 11 [] (bV false) [aGb 0,oC 1 [(bV false)],oC 2 [(nI 0)],(3,(.loop .done (some .ret) 46 (dK [kp 1 7,kp 2 1,kp 3 2]) 32 [15] (kd f46 116) (kd f46 117) 4),false),(4,(.defd false),false),oC 5 [(.yield 3)],qQ 6 a,qQ 7 a] 8)<|gi Node.av 16 a.nodes c b<|gl 2 cG b.kids<|.W 4 11 [8] (aBZ a c e d b.kids (b.kids.length:Int) 0))<|gi Node.av 23 a.nodes c b<|gl 2 cG b.kids<|.W 4 11 [8] (aBZ a c e d b.kids (b.kids.length:Int) 0)
def aW4:=fun a b c d e f g i j=>bGh a b c d e f g|>.t i|>.t j tv
def aW5:=fun c d e f g a b i j=>bGh c d e f g a b|>.t i|>.f j a b tv
def aW6:=fun c d e f g a b i=>bGh c d e f g a b|>.f i a b tv
def bGi(a:Prog)(d b c:Int)(i:List Int)(j e:Int):=tT 8 (aBZ a d b c i j e)<|gd 5 22 (e<j) (gX cG 7 i e<|fun k=>.o (.y fun f:Node=>.y fun g:Int=>.i [rn 5,.reg (rd 11 [.ans (.idx (Node.av f)),.d,.d,.pure (nI g),.d,.d,.call (bV false) (bHT a d b c),.d])] [hA (0≤d),.a (((a.nodes)[d.toNat]?) =some f) (bL (f:=Node.av)),hA (aK PP 134 [(Node.av f),(nI e)] (nI g)),hA (Spec PP (.enter 133 [(.agg [(nI k),(nI b),(nI (IntKind.i64.wrap (c+g)))]),(.ptr 5 0),(.ptr 6 0),(.ptr 0 0)]) (bBI a d b c) (.ret (bV false)) (bHT a d b c)),hr (nI c),hr (nI c),hr (nI b),hr (nI b),hr (func 133 [] [(.ptr 5 0),(.ptr 6 0),(.ptr 0 0)]),hr (func 133 [] [(.ptr 5 0),(.ptr 6 0),(.ptr 0 0)])]<|.E 6 9 [] (bV false) [aGb 0,oC 1 [(bV false)],oC 2 [(nI 0)],(3,(.loop .done (some .ret) 46 (dK [kp 1 7,kp 2 1,kp 3 2]) 32 [15] (kd f46 116) (kd f46 117) 4),false),(4,(.defd false),false),oC 5 [(.yield 3)],qQ 6 a,qQ 7 a] 8)<|.y fun f:Node=>.y fun g:Int=>.i [rn 5,.reg (rd 11 [.ans (.idx (Node.av f)),.d,.d,.pure (nI g),.d,.d,.call (bV true) (bBI a d b c),.d])] [hA (0≤d),.a (((a.nodes)[d.toNat]?) =some f) (bL (f:=Node.av)),hA (aK PP 134 [(Node.av f),(nI e)] (nI g)),hA (Spec PP (.enter 133 [(.agg [(nI k),(nI b),(nI (IntKind.i64.wrap (c+g)))]),(.ptr 5 0),(.ptr 6 0),(.ptr 0 0)]) (bBI a d b c) (.ret (bV true)) (bBI a d b c)),hr (nI c),hr (nI c),hr (nI b),hr (nI b),hr (func 133 [] [(.ptr 5 0),(.ptr 6 0),(.ptr 0 0)]),hr (func 133 [] [(.ptr 5 0),(.ptr 6 0),(.ptr 0 0)])]<|gw 5 45 (e+1)<|.W 3 9 [8] (aBZ a d b c i j (e+1)))<|.E 7 9 [] (bV true) [aGb 0,oC 1 [(bV false)],oC 2 [(nI 0)],(3,(.loop .ready none 46 (dK [kp 1 7,kp 2 1,kp 3 2]) 32 [15] (kd f46 116) (kd f46 117) 4),false),(4,(.defd false),false),oC 5 [(.yield 3)],qQ 6 a,qQ 7 a] 8
def aW7:=fun a b c d e f g i j k l m n o p q r=>bGi a b c d e f g|>.t l i m n|>.1 j k o p q r tv
def aW8:=fun a b c d e f g i j k l m n o p q r s=>bGi a b c d e f g|>.t l i m n|>.2 j k o p q r s tv
def aW9:=fun a b c d e f g i=>bGi a b c d e f g|>.f i tv
structure FineP (p:Prog) :Prop where
 small:p.nodes.length≤320
 fsmall:p.funs.length≤320
 node:∀ (i:Nat) (x:Node),p.nodes[i]?=some x→FineN p.cons x∧x.kids.length≤10∧∀k∈x.kids,(i:Int) <k∧k<p.nodes.length
 funs:∀f∈p.funs,0≤f∧f<p.nodes.length
def bGj (a fn sz:Int) :AV:=.agg [.int .i64 a,.int .i64 fn,.int .i64 sz]
section
variable (p :Prog) (mf mc:List (Int×Int))
variable {p mf mc}
end
theorem aH9 {P:Program}{f:Nat}{b args':List AV}{v v':AV}{l l' lc lc':List (Nat×AObj×Bool)}{m nb a n2 n3:Nat}{ks:List Nat}
  (t:eS P m (.enter f b) (aA l nb) (.ret v) (aA l' a)) (w:a-m+n2=n3) (ev:ren (kC m n2 ks) v=v') (c:AV.renL (fK 0 nb n2 ks) b=args') (hm:ble m nb=true) (g:ble m a=true)
  (r:dH 0 ⟨⟨0,0,[],[],[],.run,.normal,none⟩,[],l,nb⟩ ks=true) (hl:uL (aA lc n2) (fK 0 nb n2 ks) l=iK (fK 0 nb n2 ks) l) (j:eY l)
  (o:uL (aA lc' n3) (kC m n2 ks) l'=iK (kC m n2 ks) l') (e:eY l') (i:xK l'=true:=by kernel_rfl) (h:fZ a l'=true:=by kernel_rfl)
  (u:fZ n2 lc=true:=by kernel_rfl) (s:fZ n3 lc'=true:=by kernel_rfl) (n:ks.all (fun k=>blt k n2) =true:=by kernel_rfl) (d:aDy (namesT (kC m n2 ks) l') (l.map fun p=>ks.getD p.1 0) (aA lc n2) lc'=vX lc':=by kernel_rfl) (q:vX l'= (l'.map fun p=> (aA l' a).look p.1) :=by kernel_rfl) :
  Spec P (.enter f args') (aA lc n2) (.ret v') (aA lc' n3) :=by
 subst w ev;exact aVW t c hm g r hl j o e i h u s n d q
section
variable (p :Prog) (mf mc:List (Int×Int)) (to:List Int)
variable {p mf mc to}
end
section
variable {P :Program}
def bHV (Q:Nat→AObj→Prop) :List (Nat×AObj×Bool) →Prop
 | [] =>True
 | (b,o,_) ::l=>Q b o∧bHV Q l
theorem bC {Q:Nat→AObj→Prop}:∀ {l:List (Nat×AObj×Bool)} {nb:Nat},bHV Q l→∀x o,(aA l nb).look x=some o→Q x o:=fun {l nb} hq x o e=>by
 obtain⟨f,hm⟩ :=kM e;clear e
 induction l with
 |nil=>cases hm
 | cons p l ih=>
  obtain⟨b,q,g⟩ :=p;rcases zq7.1 hm with h|h
  ·cases h;exact hq.1
  ·exact ih hq.2 h
theorem mE {α:Type}{m:Nat}{s:AS}{t:α→AS}{ok:α→Prop}{res:Res}{hf:Hp}(z:aAV s.h ok (fun x=> (t x).h))(hfr:∀x,(t x).fr=s.fr∧ (t x).cs=s.cs)(k:∀x,ok x→Ends P m (t x) res hf) :Ends P m s res hf:=
 aLY (fr:=s.fr) (cs:=s.cs) (h:=s.h) z (fun x hx=>by
  have h2:=k x hx;obtain⟨e1,e2⟩ :=hfr x;rw [←e1,←e2];exact h2)
theorem mF {m:Nat}{s t:AS}(z:kN s.h t.h)(hfr:t.fr=s.fr)(hcs:t.cs=s.cs) :LeadsM P m s t:=by
 have:=aLX (P:=P) (m:=m) (fr:=s.fr) (cs:=s.cs) z;have e:t= ⟨s.fr,s.cs,t.h⟩ :=by rw [←hfr,←hcs]
 rw [e];exact this
theorem xZ {m:Nat}{s t:AS}{j:Nat}{v v':AV}(hj:s.fr.tm.at j=some v)(ht:m≤s.h.nb→lW m s.h t.h v v')(hfr:t.fr= {s.fr with tm:=s.fr.tm.put j v'})(hcs:t.cs=s.cs) :LeadsM P m s t:=by
 have:=jJ (P:=P) (fr:=s.fr) (cs:=s.cs) hj ht;have e:t= ⟨{s.fr with tm:=s.fr.tm.put j v'},s.cs,t.h⟩ :=by rw [←hfr,←hcs]
 rw [e];exact this
theorem rF {m:Nat}{s:AS}{v:AV}{h h':Hp}(e:Ends P m s (.ret v) h)(z:kN h h')(hm:m≤h.nb) :Ends P m s (.ret v) h':=fun hm0 E fr ccs w f fs r cl base=>by
 obtain⟨cl',w',E2,s1,⟨cv,rfl,g2⟩,r2,x2⟩ :=e hm0 E fr ccs w f fs r cl base;obtain⟨E3,h1,h2,h3⟩ :=z E2 w' r2;exact⟨_,w',E3,s1,⟨cv,rfl,g2.mono h1⟩,h2,x2.trans (h3 m hm)⟩
theorem dW {m:Nat}{s:AS}{v v0:AV}{lc l:List (Nat×AObj×Bool)}{nb n2:Nat}{ks:List Nat}(e:Ends P m s (.ret v0) (aA lc n2))(hv:ren (fK m nb n2 ks) v=v0)
  (hok:dH m ⟨⟨0,0,[],[],[],.run,.normal,none⟩,[],l,nb⟩ ks=true) (hh:uL (aA lc n2) (fK m nb n2 ks) l=iK (fK m nb n2 ks) l) (hkl:eY l) :Ends P m s (.ret v) (aA l nb) :=fun hm E fr ccs w f fs r cl base=>by
 obtain⟨cl',w',E2,s1,⟨cv,rfl,g2⟩,r2,x2⟩ :=e hm E fr ccs w f fs r cl base;obtain⟨q1,q2⟩ :=lX hok hh hkl r2;subst hv;exact⟨_,w',_,s1,⟨cv,rfl,(eO _ _ _ _).1 g2⟩,q1,x2.trans q2⟩
mutual
def IsTree (p:Prog) :XT→Int→Prop
 | .mk o n ks ps,at0=>0≤at0∧∃nd,p.nodes[at0.toNat]?=some nd∧nd.op=o∧nd.n=n∧nd.pats=ps∧aO p ks nd.kids
def aO (p:Prog) :List XT→List Int→Prop
 | [],l=>l= []
 |t::ts,l=>∃k l',l=k::l'∧IsTree p t k∧aO p ts l'
end
end
inductive KV where
 |row (l:List Int)
 |nil
 |val (u:Value)
def KV.av :KV→AV
 | .row l=>.ilst 1 (map cG l) false
 | .nil=>.nils
 | .val u=>.val u
structure ONode where
 op:Int
 n:Int
 kv:KV
 pats:List Pat
def ONode.av (x:ONode) :AV:=.agg [.int .i64 x.op,.int .i64 x.n,x.kv.av,.ilst 4 (Pats.av x.pats) false]
def Node.o (x:Node) :ONode:= ⟨x.op,x.n,.row x.kids,x.pats⟩
theorem bBO (l:List Node) :map ONode.av (map Node.o l) =map Node.av l:=by
 rw [List.map_map];rfl
theorem bHW :∀k:KV,keyless k.av=true
 | .row l=>by simp only [KV.av,keyless]
 | .nil=>rfl
 | .val u=>rfl
theorem dU (x:ONode) :keyless x.av=true:=by
 simp only [ONode.av,keyless,keylessL,bHW,aBO,Bool.and_true]
theorem aJZ {E:Emb}{x y:AV}(j:∀v,VR E x v→VR E y v) :∀ {d:List AV} {i:Nat},d[i]?=some x→∀c,VRs E d c→VRs E (d.set i y) c
 | [],i,h,c,b=>by simp at h
 | a::d,0,h,c,b=>by
  simp only [VRs]at b;obtain⟨u,e,rfl,g,f⟩ :=b;simp at h;subst h;simp only [List.set_cons_zero,VRs];exact⟨u,e,rfl,j u g,f⟩
 | a::d,i+1,h,c,b=>by
  simp only [VRs]at b;obtain⟨u,e,rfl,g,f⟩ :=b;simp only [rR]at h;simp only [List.set_cons_succ,VRs];exact⟨u,e,rfl,g,aJZ j h e f⟩
theorem aNb {E:Emb}{x:ONode}{k:KV}(hk:∀v,VR E x.kv.av v→VR E k.av v) :∀v,VR E x.av v→VR E (ONode.av ⟨x.op,x.n,k,x.pats⟩) v:=fun v h=>by
 simp only [ONode.av,VR,VRs]at h ⊢;obtain⟨m,rfl,f,e,rfl,a,l,g,rfl,b,j,i,rfl,d,c⟩ :=h;exact⟨_,rfl,_,_,rfl,a,_,_,rfl,b,_,_,rfl,hk _ d,c⟩
theorem aQc {E:Emb}:∀v,VR E KV.nil.av v→VR E (KV.row []).av v:=fun v h=>by
 simp only [KV.av,VR]at h;simp only [KV.av,VR,map_nil];exact⟨[],VRs.nil _,fun _ a=>by(cases a),.inl ⟨rfl,none,0,h,fun _=>rfl,fun _=>rfl⟩⟩
theorem aXa {l:List ONode}{i:Nat}{y:ONode}(h:l[i]?=some y)(hk:y.kv= .nil) :VW (map ONode.av l) (map ONode.av (l.set i ⟨y.op,y.n,.row [],y.pats⟩)) :=fun E b a=>by
 have c: (map ONode.av l)[i]?=some y.av:=by rw [tJ,h];rfl
 rw [map_set];exact aJZ (aNb (by rw [hk];exact aQc)) c b a
theorem aXb {l:List ONode}{i:Nat}{y:ONode}{u:Value}{ks:List Int}(h:l[i]?=some y)(hk:y.kv= .val u) :VQ u 1 (map cG ks) (map ONode.av l) (map ONode.av (l.set i ⟨y.op,y.n,.row ks,y.pats⟩)) :=fun E d c b=>by
 have e: (map ONode.av l)[i]?=some y.av:=by rw [tJ,h];rfl
 rw [map_set];refine aJZ (aNb (fun v a=>?_)) e d b;rw [hk]at a;simp only [KV.av,VR]at a;subst a;exact c
theorem aJ0 {a:Type}{f:a→AV}{l:List a}{i:Nat}{y:a}(h:l[i]?=some y) :map f l≠ [] :=fun e=>by
 cases l with
 |nil=>simp at h
 |cons _ _=>cases e
abbrev sC (a b:Int)(c:cF)(d:List Pat):AV:=.agg [(nI a),(nI b),(dP c),(iP d)]
abbrev aA1 (a:List XT):AV:=.ilst 1 (XTs.av a) false
def bHX(a b:Int)(c:cF)(d:List Pat):TS:=aX PP 201 [(sC a b c d)] [] 0
def aJ1(d e:Int)(f:cF)(a:List Pat)(b c:Int):TS:=⟨(tf 201 22 [(2,(nI 0)),(3,(nI b)),(10,(iP a)),(11,(nI (a.length:Int))),(12,(nI c))] [kc f201 244,kl f201 244,.inBlock 0,kc f201 31]),[],[],0⟩
def bHY(a b:Int)(c:List XT)(d:List Pat)(e:Int):TS:=aX PP 178 [(.iptr [(nI a),(nI b),(aA1 c),(iP d)]),(nI e)] [] 0
def bHZ(a b:Int)(c:List XT)(d:List Pat):TS:=aX PP 138 [(.iptr [(nI a),(nI b),(aA1 c),(iP d)])] [] 0
def bH0(a b:Int)(c:List XT)(d:List Pat):TS:=aX PP 137 [(.iptr [(nI a),(nI b),(aA1 c),(iP d)])] [] 0
def bH1(a b:Int)(c:List XT)(d:List Pat):TS:=aX PP 95 [(.iptr [(nI a),(nI b),(aA1 c),(iP d)])] [] 0
def aJ2(a b:Int)(c:List XT)(d:List Pat)(e f:Int):TS:=⟨(tf 95 38 [(0,(.iptr [(nI a),(nI b),(aA1 c),(iP d)])),(2,.nili),(22,(nI e)),(23,(nI f))] [kc f95 116,kl f95 116,.inBlock 0,kc f95 15]),[],[],0⟩
def bH2(a b:Int)(c:cF)(d:List Pat):TS:=aX PP 162 [(sC a b c d)] [] 0
def aJ3(c d:Int)(e:cF)(a:List Pat)(f:Int)(b:List Pat):TS:=⟨(tf 162 22 [kp 1 0,kp 2 1,(3,(.gl 2 4 0 b.length false)),(7,(iP a)),(8,(nI (a.length:Int))),(9,(nI f))] [kc f162 116,kl f162 116,.inBlock 0,kc f162 15]),[],[oC 0 [(nI c),(nI d),(dP e),(iP a)],oC 1 [(nI 0),(nI 0),(.str 0 0),.nils],oL 2 4 (Pats.av b)],3⟩
def bH3(a:List Pat):TS:=aX PP 120 [(iP a)] [] 0
def aJ4(a:List Pat)(c:Int)(b:List Pat):TS:=⟨(tf 120 19 [(2,.nils),(3,(.gl 0 4 0 b.length false)),(6,(iP a)),(7,(nI (a.length:Int))),(8,(nI c))] [kc f120 116,kl f120 116,.inBlock 0,kc f120 15]),[],[oL 0 4 (Pats.av b)],1⟩
def aXc(a c:Int)(d:cF)(b:List Pat):=tT 0 (bHX a c d b)<|.b 12 8 (a==2) (gE 6 1 (nI 1))<|gm 11 aH b<|.W 4 1 [] (aJ1 a c d b 0 0)
def bBP:=fun a b c d e=>aXc a b c d|>.t e tv
def bBQ:=fun a b c d e=>aXc a b c d|>.f e tv
def aXd(d e:Int)(f:cF)(b:List Pat)(c a:Int):=tT 0 (aJ1 d e f b c a)<|gd 5 13 (a< (b.length:Int)) (uP 6 b a<|fun i j k l=>gpI 7 201 [(sC i j k l)]<|fun g=>gw 1 19 (c+g)<|gw 5 20 (a+1)<|.W 3 1 [] (aJ1 d e f b (c+g) (a+1)))<|gE 8 0 (nI c)
def bBR:=fun a b c d e f g i j k l m n o p q r=>aXd a b c d e f|>.t m g i j k n o l p q r tv
def bBS:=fun a b c d e f g=>aXd a b c d e f|>.f g tv
def aA2(b j:Int)(k:List XT)(c:List Pat)(a:Int):=tT 0 (bHY b j k c a)<|.b 14 11 (b==5) (gE 25 0 (nI 1))<|.b 7 18 (b==27) (gE 18 0 (nI 1))<|.b 6 24 (b==7) (.b 6 5 (a==1) (gE 6 0 (nI 1))<|.b 9 35 (b==15) (gd 5 29 (a>0) (gw 9 44 (a-1)<|uP 0 c (a-1)<|fun d e f g=>gpI 1 201 [(sC d e f g)]<|fun i=>gE 3 0 (nI i))<|gE 8 0 (nI 0))<|gE 13 0 (nI 0))<|.b 15 35 (b==15) (gd 5 29 (a>0) (gw 9 44 (a-1)<|uP 0 c (a-1)<|fun d e f g=>gpI 1 201 [(sC d e f g)]<|fun i=>gE 3 0 (nI i))<|gE 8 0 (nI 0))<|gE 13 0 (nI 0)
def bBT:=fun a b c d e f=>aA2 a b c d e|>.t f tv
def bBU:=fun a b c d e f g=>aA2 a b c d e|>.f f|>.t g tv
def bBV:=fun a b c d e f g i j=>aA2 a b c d e|>.f f|>.f g|>.t i|>.t j tv
def bBW:=fun a b c d e f g i j k=>aA2 a b c d e|>.f f|>.f g|>.t i|>.f j|>.f k tv
def bBX:=fun a b c d e f g i j k l m n o p q r s t=>aA2 a b c d e|>.f l|>.f m|>.f n|>.t o|>.t p q f g i j r s k t tv
def bBY:=fun a b c d e f g i j k=>aA2 a b c d e|>.f f|>.f g|>.f i|>.t j|>.f k tv
def bBZ:=fun a b c d e f g i j=>aA2 a b c d e|>.f f|>.f g|>.f i|>.f j tv
def aGd(a b:Int)(c:List XT)(d:List Pat):=tT 0 (bHZ a b c d)<|.b 19 7 (a==1) (gE 8 0 (bV true))<|.b 6 7 (a==2) (gE 8 0 (bV true))<|.b 6 7 (a==3) (gE 8 0 (bV true))<|.b 5 7 (a==4) (gE 6 0 (bV true))<|gE 8 0 (bV false)
def bB0:=fun a b c d e=>aGd a b c d|>.t e tv
def bB1:=fun a b c d e f=>aGd a b c d|>.f e|>.t f tv
def bB2:=fun a b c d e f g=>aGd a b c d|>.f e|>.f f|>.t g tv
def bB3:=fun a b c d e f g i=>aGd a b c d|>.f e|>.f f|>.f g|>.t i tv
def bB4:=fun a b c d e f g i=>aGd a b c d|>.f e|>.f f|>.f g|>.f i tv
def iW(b c:Int)(a:List XT)(d:List Pat):=tT 0 (bH0 b c a d)<|.b 19 7 (b==8) (gE 8 0 (nI 1))<|.b 6 7 (b==15) (gE 8 0 (nI 1))<|.b 6 7 (b==16) (gE 8 0 (nI 1))<|.b 6 7 (b==17) (gE 8 0 (nI 1))<|.b 6 7 (b==19) (gE 8 0 (nI 1))<|.b 6 7 (b==20) (gE 8 0 (nI 1))<|.b 6 7 (b==23) (gE 8 0 (nI 1))<|.b 5 7 (b==24) (gE 6 0 (nI 1))<|.b 7 16 (b==6) (.i [rn 9,aL a] [.q (p:=((XTs.av a).length:Int) = (a.length:Int)) (eM cR _)]<|gE 3 0 (nI (a.length:Int)))<|.b 6 16 (b==9) (.i [rn 9,aL a] [.q (p:=((XTs.av a).length:Int) = (a.length:Int)) (eM cR _)]<|gE 3 0 (nI (a.length:Int)))<|.b 6 16 (b==10) (.i [rn 9,aL a] [.q (p:=((XTs.av a).length:Int) = (a.length:Int)) (eM cR _)]<|gE 3 0 (nI (a.length:Int)))<|.b 6 16 (b==11) (.i [rn 9,aL a] [.q (p:=((XTs.av a).length:Int) = (a.length:Int)) (eM cR _)]<|gE 3 0 (nI (a.length:Int)))<|.b 6 16 (b==12) (.i [rn 9,aL a] [.q (p:=((XTs.av a).length:Int) = (a.length:Int)) (eM cR _)]<|gE 3 0 (nI (a.length:Int)))<|.b 6 16 (b==13) (.i [rn 9,aL a] [.q (p:=((XTs.av a).length:Int) = (a.length:Int)) (eM cR _)]<|gE 3 0 (nI (a.length:Int)))<|.b 6 16 (b==18) (.i [rn 9,aL a] [.q (p:=((XTs.av a).length:Int) = (a.length:Int)) (eM cR _)]<|gE 3 0 (nI (a.length:Int)))<|.b 6 16 (b==22) (.i [rn 9,aL a] [.q (p:=((XTs.av a).length:Int) = (a.length:Int)) (eM cR _)]<|gE 3 0 (nI (a.length:Int)))<|.b 5 16 (b==14) (.i [rn 7,aL a] [.q (p:=((XTs.av a).length:Int) = (a.length:Int)) (eM cR _)]<|gE 3 0 (nI (a.length:Int)))<|gE 8 0 (nI 0)
def bB5:=fun a b c d e=>iW a b c d|>.t e tv
def bB6:=fun a b c d e f=>iW a b c d|>.f e|>.t f tv
def bB7:=fun a b c d e f g=>iW a b c d|>.f e|>.f f|>.t g tv
def bB8:=fun a b c d e f g i=>iW a b c d|>.f e|>.f f|>.f g|>.t i tv
def bB9:=fun a b c d e f g i j=>iW a b c d|>.f e|>.f f|>.f g|>.f i|>.t j tv
def bCa:=fun a b c d e f g i j k=>iW a b c d|>.f e|>.f f|>.f g|>.f i|>.f j|>.t k tv
def bCb:=fun a b c d e f g i j k l=>iW a b c d|>.f e|>.f f|>.f g|>.f i|>.f j|>.f k|>.t l tv
def bCc:=fun a b c d e f g i j k l m=>iW a b c d|>.f e|>.f f|>.f g|>.f i|>.f j|>.f k|>.f l|>.t m tv
def bCd:=fun a b c d e f g i j k l m n=>iW a b c d|>.f e|>.f f|>.f g|>.f i|>.f j|>.f k|>.f l|>.f m|>.t n tv
def bCe:=fun a b c d e f g i j k l m n o=>iW a b c d|>.f e|>.f f|>.f g|>.f i|>.f j|>.f k|>.f l|>.f m|>.f n|>.t o tv
def aXe:=fun a b c d e f g i j k l m n o p=>iW a b c d|>.f e|>.f f|>.f g|>.f i|>.f j|>.f k|>.f l|>.f m|>.f n|>.f o|>.t p tv
def aXf:=fun a b c d e f g i j k l m n o p q=>iW a b c d|>.f e|>.f f|>.f g|>.f i|>.f j|>.f k|>.f l|>.f m|>.f n|>.f o|>.f p|>.t q tv
def aXg:=fun a b c d e f g i j k l m n o p q r=>iW a b c d|>.f e|>.f f|>.f g|>.f i|>.f j|>.f k|>.f l|>.f m|>.f n|>.f o|>.f p|>.f q|>.t r tv
def aXh:=fun a b c d e f g i j k l m n o p q r s=>iW a b c d|>.f e|>.f f|>.f g|>.f i|>.f j|>.f k|>.f l|>.f m|>.f n|>.f o|>.f p|>.f q|>.f r|>.t s tv
def aXi:=fun a b c d e f g i j k l m n o p q r s t=>iW a b c d|>.f e|>.f f|>.f g|>.f i|>.f j|>.f k|>.f l|>.f m|>.f n|>.f o|>.f p|>.f q|>.f r|>.f s|>.t t tv
def aXj:=fun a b c d e f g i j k l m n o p q r s t u=>iW a b c d|>.f e|>.f f|>.f g|>.f i|>.f j|>.f k|>.f l|>.f m|>.f n|>.f o|>.f p|>.f q|>.f r|>.f s|>.f t|>.t u tv
def aXk:=fun a b c d e f g i j k l m n o p q r s t u v=>iW a b c d|>.f e|>.f f|>.f g|>.f i|>.f j|>.f k|>.f l|>.f m|>.f n|>.f o|>.f p|>.f q|>.f r|>.f s|>.f t|>.f u|>.t v tv
def aXl:=fun a b c d e f g i j k l m n o p q r s t u v=>iW a b c d|>.f e|>.f f|>.f g|>.f i|>.f j|>.f k|>.f l|>.f m|>.f n|>.f o|>.f p|>.f q|>.f r|>.f s|>.f t|>.f u|>.f v tv
def aQd(a c:Int)(b:List XT)(d:List Pat):=tT 0 (bH1 a c b d)<|.b 13 8 (a==7) (.y fun e:Int=>.y fun f:Int=>.y fun g:List XT=>.y fun i:List Pat=>giF cR 8 b 0 (XT.mk e f g i)<|.b 6 18 (e==7) (gE 8 0 (.iface 191 (.agg [])))<|gE 7 0 .nili)<|gpI 6 137 [(.iptr [(nI a),(nI c),(aA1 b),(iP d)])]<|fun j=>.W 4 0 [] (aJ2 a c b d j 0)
def bCf:=fun a b c d e f g i j k l m=>aQd a b c d|>.t j e f g i k l|>.t m tv
def bCg:=fun a b c d e f g i j k l m=>aQd a b c d|>.t j e f g i k l|>.f m tv
def bCh:=fun a b c d e f g=>aQd a b c d|>.f f e g tv
def aQe(d e:Int)(b:List XT)(f:List Pat)(c a:Int):=tT 0 (aJ2 d e b f c a)<|gd 5 24 (a<c) (.y fun g:Int=>.y fun i:Int=>.y fun j:List XT=>.y fun k:List Pat=>giF cR 16 b a (XT.mk g i j k)<|kJ 1 138 [(.iptr [(nI g),(nI i),(aA1 j),(iP k)])]<|fun l=>.b 2 34 (!l) (gE 8 0 (.iface 193 (nI a)))<|gw 5 37 (a+1)<|.W 3 0 [] (aJ2 d e b f c (a+1)))<|gE 7 0 .nili
def bCi:=fun a b c d e f g i j k l m n o p q=>aQe a b c d e f|>.t m g i j k n o l p|>.t q tv
def bCj:=fun a b c d e f g i j k l m n o p q r=>aQe a b c d e f|>.t m g i j k n o l p|>.f q r tv
def bCk:=fun a b c d e f g=>aQe a b c d e f|>.f g tv
def bCl (b c:Int)(d:cF)(a:List Pat):=(tT 0 (bH2 b c d a)<|gm 14 aH a<|.i [rn 4,.nilL 3 4] []<|gu 0 2 (Pats.av ([] :List Pat))<|gs 0 3 (.gl 2 4 0 ([] :List Pat).length false)<|.W 0 3 [0,1,2] (aJ3 b c d a 0 ([] :List Pat))) ⟨lY,trivial⟩
def aXm(d e:Int)(f:cF)(c:List Pat)(a:Int)(b:List Pat):=tT 0 (aJ3 d e f c a b)<|gd 5 10 (a< (c.length:Int)) (uP 6 c a<|fun l m n o=>.y fun g:Int=>.y fun i:Int=>.y fun j:cF=>.y fun k:List Pat=>gp 7 162 [(sC l m n o)] (sC g i j k)<|gA 1 aH b [(Pat.mk g i j k)]<|gw 5 18 (a+1)<|.W 3 6 [0,1,5] (aJ3 d e f c (a+1) (b++ [(Pat.mk g i j k)])))<|gY 14 1 3 2 4 aH lY b false<|gE 0 3 (sC d e f b)
def bCm:=fun a b c d e f g i j k l m n o p q r s t u=>aXm a b c d e f|>.t p g i j k q r l m n o s t u ⟨lY,trivial⟩
def bCn:=fun a b c d e f g=>aXm a b c d e f|>.f g tv
def bCo (a:List Pat):=(tT 0 (bH3 a)<|gm 12 aH a<|.i [rn 4,.nilL 3 4] []<|gu 0 0 (Pats.av ([] :List Pat))<|gs 0 3 (.gl 0 4 0 ([] :List Pat).length false)<|.W 0 1 [0] (aJ4 a 0 ([] :List Pat))) ⟨lY,trivial⟩
def aXn(c:List Pat)(a:Int)(b:List Pat):=tT 0 (aJ4 c a b)<|gd 5 9 (a< (c.length:Int)) (uP 6 c a<|fun i j k l=>.y fun d:Int=>.y fun e:Int=>.y fun f:cF=>.y fun g:List Pat=>gp 7 162 [(sC i j k l)] (sC d e f g)<|gA 1 aH b [(Pat.mk d e f g)]<|gw 5 17 (a+1)<|.W 3 4 [3] (aJ4 c (a+1) (b++ [(Pat.mk d e f g)])))<|gZ 8 2 0 4 aH lY b false<|gE 0 1 (iP b)
def bCp:=fun a b c d e f g i j k l m n o p q r=>aXn a b c|>.t m d e f g n o i j k l p q r ⟨lY,trivial⟩
def bCq:=fun a b c d=>aXn a b c|>.f d tv
theorem take_succ' {a:Type}{l:List a}{i:Nat}{x:a}(h:l[i]?=some x) :l.take i++ [x] =l.take (i+1) :=by
 rw [List.take_add_one,h];rfl
theorem aNc (f n:Int)(s:cF)(ps:List Pat)(hl:ps.length<1000000)(hp:∀q∈ps,aK PP 162 [Pat.av q] (Pat.av q)) :∀ (t:List Pat) (i:Nat),ps.drop i=t→Ends PP 0 (aJ3 f n s ps (i:Int) (ps.take i)).as (.ret (Pat.av (.mk f n s ps))) (aA [] 0)
 | [],i,h=>by
  have k:=bH h;have:=bCn f n s ps (i:Int) (ps.take i) sd;rw [aAG k]at this ⊢;exact this
 | .mk a b c d::t,i,h=>by
  obtain⟨g,j,l⟩ :=bE h;have e:=take_succ' g;refine(bCm f n s ps (i:Int) (ps.take i) a b c d a b c d sd sd sd (hp _ (jQ g)) (by rw [e,List.length_take];omega) sd).ends ?_;rw [e];exact aNc f n s ps hl hp t (i+1) j
mutual
theorem aXo :∀q:Pat,cB q≤1000000→aK PP 162 [Pat.av q] (Pat.av q)
 | .mk f n s a,h=>by
  have hl:=fA a;simp only [cB]at h;refine aG aC (by simp [keylessL,nB]) (nB _) ((bCl f n s a).ends ?_);exact aNc f n s a (by omega) (aJ5 a (by omega)) a 0 rfl
theorem aJ5 :∀b:List Pat,bI b≤1000000→∀q∈b,aK PP 162 [Pat.av q] (Pat.av q)
 | [],_,q,a=>by cases a
 | p::b,h,q,a=>by
  simp only [bI]at h;rcases zq7.1 a with e|a
  ·rw [e];exact aXo p (by omega)
  ·exact aJ5 b (by omega) q a
end
theorem aNd (ps:List Pat)(hl:ps.length<1000000)(hp:∀q∈ps,aK PP 162 [Pat.av q] (Pat.av q)) :∀ (t:List Pat) (i:Nat),ps.drop i=t→Ends PP 0 (aJ4 ps (i:Int) (ps.take i)).as (.ret (.ilst 4 (Pats.av ps) false)) (aA [] 0)
 | [],i,h=>by
  have j:=bH h;have:=bCq ps (i:Int) (ps.take i) sd;rw [aAG j]at this ⊢;exact this
 | .mk a b c d::t,i,h=>by
  obtain⟨f,g,k⟩ :=bE h;have e:=take_succ' f;refine(bCp ps (i:Int) (ps.take i) a b c d a b c d sd sd sd (hp _ (jQ f)) (by rw [e,List.length_take];omega) sd).ends ?_;rw [e];exact aNd ps hl hp t (i+1) g
theorem aNe (ps:List Pat)(h:bI ps<1000000) :aK PP 120 [.ilst 4 (Pats.av ps) false] (.ilst 4 (Pats.av ps) false) :=by
 have hl:=fA ps;exact aG aC (by simp [keylessL,keyless,lY]) (by simp [keyless,lY]) ((bCo ps).ends (aNd ps (by omega) (aJ5 ps (by omega)) ps 0 rfl))
end
end Go.Hb
