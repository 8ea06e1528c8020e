/- A machine on abstract values, its soundness, ways, plain laws. -/
import Derived.Test.YtnljmgihoioocaaGreatHF
import Derived.Test.YtnljmgihoioocaaGreatHG
set_option linter.defProp false
set_option linter.unusedVariables false
set_option linter.unusedSimpArgs false
set_option linter.unusedSectionVars false
set_option maxRecDepth 100000
set_option maxHeartbeats 2000000
namespace Go.Hb
open AV (func int keyless keylessL ren)
open List (all_cons drop length map map_nil map_set replicate set)
open Nat (add_zero ble blt div mod pow)
open Go.Proofs Tryz
noncomputable section
def zD(a:bX)(b:Nat):TS:=⟨(tf 195 16 [(2,(bV false)),kp 6 0] [kc f195 52,kl f195 52,.inBlock 0,kc f195 7]),[],[(0,(.siter a.length (aG a) b),false)],1⟩
def aBT(e f:Int)(g:bX)(a:List Pat)(b c d:Int):TS:=⟨(tf 171 27 [(1,(nI b)),(4,(nI 0)),(5,(nI c)),(9,(iP a)),(10,(nI (a.length:Int))),(11,(nI d))] [kc f171 116,kl f171 116,.inBlock 0,kc f171 15]),[],[],0⟩
def bGe(a b c:Int):=tT 0 (start PP 122 [(nI a),(nI b),(nI c)])<|gd 10 10 (a≥b) (gE 7 0 (bV (decide (a≤c))))<|gE 7 0 (bV false)
def bAd:=fun a b c d=>bGe a b c|>.t d tv
def bAe:=fun a b c d=>bGe a b c|>.f d tv
def aV6 (b:Int):=fun a c=>(tT 0 (start PP 197 [(nI b)])<|lO 7 122 [(nI b),(nI (-1000000000)),(nI 1000000000)]<|fun a=>gE 3 0 (bV a)) a c tv
def aPk (a:bX):=(tT 0 (start PP 195 [(dR a)])<|.W 12 1 [0] (zD a 0)) tv
def bAf(a:bX)(b:Nat):=tT 0 (zD a b)<|.o (.y fun c:Nat=>.y fun d:Nat=>.i [rn 2,.nxt c d] [hA (b<a.length),hA (aNX a.length (aG a) b=some (c,d))]<|gd 16 12 (((c:Nat) :Int) <97) (gE 10 1 (bV false))<|gd 4 15 (((c:Nat) :Int) >122) (gE 6 1 (bV false))<|.W 4 1 [0] (zD a (Nat.add b d)))<|.i [rn 2,.nxtE] [hA (a.length≤b)]<|gE 10 1 (bV true)
def aPl:=fun a b c d e f g=>bAf a b|>.1 c d e f|>.t g tv
def aPm:=fun a b c d e f g i=>bAf a b|>.1 c d e f|>.f g|>.t i tv
def aPn:=fun a b c d e f g i=>bAf a b|>.1 c d e f|>.f g|>.f i tv
def aPo:=fun a b c=>bAf a b|>.2 c tv
def aV7(a:bX):=tT 0 (start PP 166 [(dR a)])<|.b 9 5 (!(kD a.length (aG a) 0 0)) (gd 5 10 ((a.length:Int) ≤8) (.y fun b:UInt8=>.i [rn 1,.ans (.ev (.int .u8 ((b.toNat:Nat) :Int)))] [.q (p:=0≤ (0:Int)) (by decide),.a ((a)[0]?=some b) (p':=(0:Int) < (a.length:Int)) (fun h=>(aCM (k:= (0:Int)) (by decide) h)),.a ((a)[0]?=some b) (p':=int .u8 ((mod (div (aG a) (pow 256 (0:Int).toNat)) 256:Nat) :Int) = (.int .u8 ((b.toNat:Nat) :Int))) (fun h=>(aCN (k:= (0:Int)) h))]<|gd 3 15 (((b.toNat:Nat) :Int) ≥65) (.i [rn 1,.ans (.ev (.int .u8 ((b.toNat:Nat) :Int)))] [.q (p:=0≤ (0:Int)) (by decide),.a ((a)[0]?=some b) (p':=(0:Int) < (a.length:Int)) (fun h=>(aCM (k:= (0:Int)) (by decide) h)),.a ((a)[0]?=some b) (p':=int .u8 ((mod (div (aG a) (pow 256 (0:Int).toNat)) 256:Nat) :Int) = (.int .u8 ((b.toNat:Nat) :Int))) (fun h=>(aCN (k:= (0:Int)) h))]<|gd 3 20 (((b.toNat:Nat) :Int) ≤90) (.i [rn 1,.ans (.ev (dR (drop 1 a)))] [.a (1≤length a) (p':=aSC PP 9 (dR a) (some (nI 1)) none (dR (drop 1 a))) (fun h=>(aDv (k:= (1:Int)) aC (by decide) h))]<|lO 0 195 [(dR (drop 1 a))]<|fun c=>gE 4 0 (bV c))<|gE 7 0 (bV false))<|gE 12 0 (bV false))<|gE 17 0 (bV false))<|gE 22 0 (bV false)
def aPp:=fun b c d e f a g i j k=>aV7 b|>.t e|>.t f c a a|>.t g a a|>.t i j d k tv
def aPq:=fun b c d e a f g=>aV7 b|>.t d|>.t e c a a|>.t f a a|>.f g tv
def aPr:=fun b c d e a f=>aV7 b|>.t d|>.t e c a a|>.f f tv
def aPs:=fun a b c=>aV7 a|>.t b|>.f c tv
def aPt:=fun a b=>aV7 a|>.f b tv
def bGf(a:Con):=tT 0 (start PP 124 [(.agg [(dR a.name),(nI a.args)])])<|lO 9 166 [(dR a.name)]<|fun b=>.b 1 6 b (lO 2 122 [(nI a.args),(nI 0),(nI 3)]<|fun c=>gE 4 1 (bV c))<|gE 7 1 (bV false)
def aV8:=fun a b c d e f=>bGf a b d|>.t e c f tv
def aV9:=fun a b c d=>bGf a b c|>.f d tv
def aTp(c:Prog)(a:Node):=tT 0 (start PP 173 [(Prog.av c),(Node.av a)])<|.b 18 7 (a.op==1) (lO 5 197 [(nI a.n)]<|fun b=>gE 3 2 (bV b))<|.b 6 12 (a.op==2) (lO 5 122 [(nI a.n),(nI 0),(nI 1)]<|fun b=>gE 3 2 (bV b))<|.b 6 17 (a.op==24) (lO 5 122 [(nI a.n),(nI 0),(nI 3)]<|fun b=>gE 3 2 (bV b))<|.b 6 22 (a.op==4) (gl 8 cC c.funs<|gw 1 30 (0- (c.funs.length:Int))<|lO 0 122 [(nI a.n),(nI (0- (c.funs.length:Int))),(nI 29)]<|fun b=>gE 3 2 (bV b))<|.b 6 32 (a.op==14) (gE 6 2 (bV true))<|gE 11 2 (bV (a.n==0))
def aMg:=fun a b c d e=>aTp a b|>.t d c e tv
def aMh:=fun a b c d e f=>aTp a b|>.f d|>.t e c f tv
def aMi:=fun a b c d e f g=>aTp a b|>.f d|>.f e|>.t f c g tv
def aMj:=fun a b c d e f g i j=>aTp a b|>.f d|>.f e|>.f f|>.t g i c j tv
def aMk:=fun a b c d e f g=>aTp a b|>.f c|>.f d|>.f e|>.f f|>.t g tv
def aMl:=fun a b c d e f g=>aTp a b|>.f c|>.f d|>.f e|>.f f|>.f g tv
def aTq (b c:Int)(d:bX)(a:List Pat)(e:Int):=(tT 0 (start PP 171 [(.agg [(nI b),(nI c),(dR d),(iP a)]),(nI e)])<|gm 14 aE a<|.W 4 1 [] (aBT b c d a e 1 0)) tv
def bEQ(e f:Int)(g:bX)(d:List Pat)(b a c:Int):=tT 0 (aBT e f g d b a c)<|gd 5 12 (c< (d.length:Int)) (rX 6 d c<|fun j k l m=>gd 11 17 (a>b) (gE 8 1 (nI a))<|gw 8 22 (b-a)<|gpI 0 171 [(.agg [(nI j),(nI k),(dR l),(iP m)]),(nI (b-a))]<|fun i=>gw 1 24 (a+i)<|gw 5 25 (c+1)<|.W 3 1 [] (aBT e f g d b (a+i) (c+1)))<|gE 8 0 (nI a)
def aTr:=fun a b c d e f g i j k l m n o p=>bEQ a b c d e f g|>.t m i j k l n o|>.t p tv
def aTs:=fun a b c d e f g i j k l m n o p q r s t u=>bEQ a b c d e f g|>.t n i j k l o p|>.f q r m s t u tv
def aTt:=fun a b c d e f g i=>bEQ a b c d e f g|>.f i tv
def aAP(d:Prog)(e c:Int)(f:bX)(a:List Pat):=tT 0 (start PP 172 [(Prog.av d),(.agg [(nI e),(nI c),(dR f),(iP a)])])<|.b 13 8 (!(kD f.length (aG f) 0 0)) (gE 14 2 (bV false))<|lO 4 174 [(iP a),(.func 172 [(Prog.av d)] [])]<|fun i=>.b 3 15 (!i) (gE 6 2 (bV false))<|.b 15 18 (e==1) (.b 9 25 (c==0) (gm 2 aE a<|gE 5 2 (bV ((a.length:Int) ==0)))<|gE 8 2 (bV false))<|.b 6 18 (e==2) (.b 9 25 (c==0) (gm 2 aE a<|gE 5 2 (bV ((a.length:Int) ==0)))<|gE 8 2 (bV false))<|.b 5 18 (e==5) (.b 7 25 (c==0) (gm 2 aE a<|gE 5 2 (bV ((a.length:Int) ==0)))<|gE 8 2 (bV false))<|.b 6 31 (e==3) (lO 5 197 [(nI c)]<|fun b=>.b 1 36 b (gm 2 aE a<|gE 5 2 (bV ((a.length:Int) ==0)))<|gE 8 2 (bV false))<|.b 6 42 (e==4) (lO 5 122 [(nI c),(nI 0),(nI 1)]<|fun b=>.b 1 47 b (gm 2 aE a<|gE 5 2 (bV ((a.length:Int) ==0)))<|gE 8 2 (bV false))<|.b 6 53 (e==6) (.o (.y fun b:Bool=>.y fun g:Con=>.i [rn 2,.reg (rd 5 (.ans (.len (d.cons.length:Int))::.d::.pure (bV b)::.d::.b 63 true::.d::.d::.ans (.len (a.length:Int))::rd 5 (.ans (.idx (Con.av g))::rd 5 [])))] [hl Con.av d.cons,hA (aM PP 122 [(nI c),(nI 0),(nI (IntKind.i64.wrap ((d.cons.length:Int) -1)))] (bV b)),hA (b=true),hm aE a,hA (0≤c),.a (((d.cons)[c.toNat]?) =some g) (bC (f:=Con.av))]<|gE 1 2 (bV ((a.length:Int) ==g.args)))<|.y fun b:Bool=>.i [rn 2,.reg (rd 5 (.ans (.len (d.cons.length:Int))::.d::.pure (bV b)::.d::.b 63 false::rd 14 []))] [hl Con.av d.cons,hA (aM PP 122 [(nI c),(nI 0),(nI (IntKind.i64.wrap ((d.cons.length:Int) -1)))] (bV b)),hA (b=false)]<|gE 1 2 (bV false))<|gE 8 2 (bV false)
def aWa:=fun a b c d e f=>aAP a b c d e|>.t f tv
def aWb:=fun a b c d e f g i j=>aAP a b c d e|>.f g f i|>.t j tv
def aWc:=fun a b c d e f g i j k l=>aAP a b c d e|>.f g f i|>.f j|>.t k|>.t l tv
def aWd:=fun a b c d e f g i j k l=>aAP a b c d e|>.f g f i|>.f j|>.t k|>.f l tv
def aWe:=fun a b c d e f g i j k l m=>aAP a b c d e|>.f g f i|>.f j|>.f k|>.t l|>.t m tv
def aWf:=fun a b c d e f g i j k l m=>aAP a b c d e|>.f g f i|>.f j|>.f k|>.t l|>.f m tv
def aWg:=fun a b c d e f g i j k l m n=>aAP a b c d e|>.f g f i|>.f j|>.f k|>.f l|>.t m|>.t n tv
def aWh:=fun a b c d e f g i j k l m n=>aAP a b c d e|>.f g f i|>.f j|>.f k|>.f l|>.t m|>.f n tv
def aWi:=fun a b c d e f g i j k l m n o p q=>aAP a b c d e|>.f i f j|>.f k|>.f l|>.f m|>.f n|>.t o g p|>.t q tv
def aWj:=fun a b c d e f g i j k l m n o p q=>aAP a b c d e|>.f i f j|>.f k|>.f l|>.f m|>.f n|>.t o g p|>.f q tv
def aTu:=fun a b c d e f g i j k l m n o p q r=>aAP a b c d e|>.f i f j|>.f k|>.f l|>.f m|>.f n|>.f o|>.t p g q|>.t r tv
def aTv:=fun a b c d e f g i j k l m n o p q r=>aAP a b c d e|>.f i f j|>.f k|>.f l|>.f m|>.f n|>.f o|>.t p g q|>.f r tv
def aTw:=fun a b c d e f g i j k l m n o p q r s t u v=>aAP a b c d e|>.f j f k|>.f l|>.f m|>.f n|>.f o|>.f p|>.f q|>.t r|>.1 g i s t u v tv
def aTx:=fun a b c d e f g i j k l m n o p q r s=>aAP a b c d e|>.f i f j|>.f k|>.f l|>.f m|>.f n|>.f o|>.f p|>.t q|>.2 g r s tv
def aTy:=fun a b c d e f g i j k l m n o p=>aAP a b c d e|>.f g f i|>.f j|>.f k|>.f l|>.f m|>.f n|>.f o|>.f p tv
def mE(a:Int):=tT 0 (start PP 169 [(nI a)])<|.b 16 4 (a==1) (gE 9 0 (.iface 242 (nI 0)))<|.b 6 4 (a==2) (gE 9 0 (.iface 242 (nI 0)))<|.b 6 4 (a==3) (gE 9 0 (.iface 242 (nI 0)))<|.b 6 4 (a==4) (gE 9 0 (.iface 242 (nI 0)))<|.b 6 4 (a==21) (gE 9 0 (.iface 242 (nI 0)))<|.b 6 4 (a==25) (gE 9 0 (.iface 242 (nI 0)))<|.b 5 4 (a==28) (gE 7 0 (.iface 242 (nI 0)))<|.b 7 13 (a==5) (gE 9 0 (.iface 242 (nI 1)))<|.b 6 13 (a==27) (gE 9 0 (.iface 242 (nI 1)))<|.b 6 13 (a==16) (gE 9 0 (.iface 242 (nI 1)))<|.b 6 13 (a==17) (gE 9 0 (.iface 242 (nI 1)))<|.b 6 13 (a==19) (gE 9 0 (.iface 242 (nI 1)))<|.b 6 13 (a==20) (gE 9 0 (.iface 242 (nI 1)))<|.b 6 13 (a==23) (gE 9 0 (.iface 242 (nI 1)))<|.b 6 13 (a==24) (gE 9 0 (.iface 242 (nI 1)))<|.b 5 13 (a==26) (gE 7 0 (.iface 242 (nI 1)))<|.b 7 24 (a==6) (gE 9 0 (.iface 242 (nI 2)))<|.b 6 24 (a==7) (gE 9 0 (.iface 242 (nI 2)))<|.b 6 24 (a==9) (gE 9 0 (.iface 242 (nI 2)))<|.b 6 24 (a==10) (gE 9 0 (.iface 242 (nI 2)))<|.b 6 24 (a==11) (gE 9 0 (.iface 242 (nI 2)))<|.b 6 24 (a==12) (gE 9 0 (.iface 242 (nI 2)))<|.b 6 24 (a==13) (gE 9 0 (.iface 242 (nI 2)))<|.b 6 24 (a==18) (gE 9 0 (.iface 242 (nI 2)))<|.b 5 24 (a==22) (gE 7 0 (.iface 242 (nI 2)))<|.b 6 35 (a==8) (gE 7 0 (.iface 242 (nI 3)))<|.b 6 38 (a==14) (gE 8 0 (.iface 243 (.agg [])))<|.b 6 42 (a==15) (gE 8 0 (.iface 225 (.agg [])))<|gE 8 0 .nili
def aMm:=fun a b=>mE a|>.t b tv
def aMn:=fun a b c=>mE a|>.f b|>.t c tv
def aMo:=fun a b c d=>mE a|>.f b|>.f c|>.t d tv
def aMp:=fun a b c d e=>mE a|>.f b|>.f c|>.f d|>.t e tv
def aMq:=fun a b c d e f=>mE a|>.f b|>.f c|>.f d|>.f e|>.t f tv
def aMr:=fun a b c d e f g=>mE a|>.f b|>.f c|>.f d|>.f e|>.f f|>.t g tv
def aMs:=fun a b c d e f g i=>mE a|>.f b|>.f c|>.f d|>.f e|>.f f|>.f g|>.t i tv
def aMt:=fun a b c d e f g i j=>mE a|>.f b|>.f c|>.f d|>.f e|>.f f|>.f g|>.f i|>.t j tv
def aMu:=fun a b c d e f g i j k=>mE a|>.f b|>.f c|>.f d|>.f e|>.f f|>.f g|>.f i|>.f j|>.t k tv
def aMv:=fun a b c d e f g i j k l=>mE a|>.f b|>.f c|>.f d|>.f e|>.f f|>.f g|>.f i|>.f j|>.f k|>.t l tv
def aJB:=fun a b c d e f g i j k l m=>mE a|>.f b|>.f c|>.f d|>.f e|>.f f|>.f g|>.f i|>.f j|>.f k|>.f l|>.t m tv
def aJC:=fun a b c d e f g i j k l m n=>mE a|>.f b|>.f c|>.f d|>.f e|>.f f|>.f g|>.f i|>.f j|>.f k|>.f l|>.f m|>.t n tv
def aJD:=fun a b c d e f g i j k l m n o=>mE a|>.f b|>.f c|>.f d|>.f e|>.f f|>.f g|>.f i|>.f j|>.f k|>.f l|>.f m|>.f n|>.t o tv
def aJE:=fun a b c d e f g i j k l m n o p=>mE a|>.f b|>.f c|>.f d|>.f e|>.f f|>.f g|>.f i|>.f j|>.f k|>.f l|>.f m|>.f n|>.f o|>.t p tv
def aJF:=fun a b c d e f g i j k l m n o p q=>mE a|>.f b|>.f c|>.f d|>.f e|>.f f|>.f g|>.f i|>.f j|>.f k|>.f l|>.f m|>.f n|>.f o|>.f p|>.t q tv
def aJG:=fun a b c d e f g i j k l m n o p q r=>mE a|>.f b|>.f c|>.f d|>.f e|>.f f|>.f g|>.f i|>.f j|>.f k|>.f l|>.f m|>.f n|>.f o|>.f p|>.f q|>.t r tv
def aJH:=fun a b c d e f g i j k l m n o p q r s=>mE a|>.f b|>.f c|>.f d|>.f e|>.f f|>.f g|>.f i|>.f j|>.f k|>.f l|>.f m|>.f n|>.f o|>.f p|>.f q|>.f r|>.t s tv
def aJI:=fun a b c d e f g i j k l m n o p q r s t=>mE a|>.f b|>.f c|>.f d|>.f e|>.f f|>.f g|>.f i|>.f j|>.f k|>.f l|>.f m|>.f n|>.f o|>.f p|>.f q|>.f r|>.f s|>.t t tv
def aJJ:=fun a b c d e f g i j k l m n o p q r s t u=>mE a|>.f b|>.f c|>.f d|>.f e|>.f f|>.f g|>.f i|>.f j|>.f k|>.f l|>.f m|>.f n|>.f o|>.f p|>.f q|>.f r|>.f s|>.f t|>.t u tv
def aJK:=fun a b c d e f g i j k l m n o p q r s t u v=>mE a|>.f b|>.f c|>.f d|>.f e|>.f f|>.f g|>.f i|>.f j|>.f k|>.f l|>.f m|>.f n|>.f o|>.f p|>.f q|>.f r|>.f s|>.f t|>.f u|>.t v tv
def aJL:=fun a b c d e f g i j k l m n o p q r s t u v w=>mE a|>.f b|>.f c|>.f d|>.f e|>.f f|>.f g|>.f i|>.f j|>.f k|>.f l|>.f m|>.f n|>.f o|>.f p|>.f q|>.f r|>.f s|>.f t|>.f u|>.f v|>.t w tv
def aJM:=fun a b c d e f g i j k l m n o p q r s t u v w x=>mE a|>.f b|>.f c|>.f d|>.f e|>.f f|>.f g|>.f i|>.f j|>.f k|>.f l|>.f m|>.f n|>.f o|>.f p|>.f q|>.f r|>.f s|>.f t|>.f u|>.f v|>.f w|>.t x tv
def aJN:=fun a b c d e f g i j k l m n o p q r s t u v w x y=>mE a|>.f b|>.f c|>.f d|>.f e|>.f f|>.f g|>.f i|>.f j|>.f k|>.f l|>.f m|>.f n|>.f o|>.f p|>.f q|>.f r|>.f s|>.f t|>.f u|>.f v|>.f w|>.f x|>.t y tv
def aJO:=fun a b c d e f g i j k l m n o p q r s t u v w x y z=>mE a|>.f b|>.f c|>.f d|>.f e|>.f f|>.f g|>.f i|>.f j|>.f k|>.f l|>.f m|>.f n|>.f o|>.f p|>.f q|>.f r|>.f s|>.f t|>.f u|>.f v|>.f w|>.f x|>.f y|>.t z tv
def aJP:=fun a b c d e f g i j k l m n o p q r s t u v w x y z A=>mE a|>.f b|>.f c|>.f d|>.f e|>.f f|>.f g|>.f i|>.f j|>.f k|>.f l|>.f m|>.f n|>.f o|>.f p|>.f q|>.f r|>.f s|>.f t|>.f u|>.f v|>.f w|>.f x|>.f y|>.f z|>.t A tv
def aJQ:=fun a b c d e f g i j k l m n o p q r s t u v w x y z A B=>mE a|>.f b|>.f c|>.f d|>.f e|>.f f|>.f g|>.f i|>.f j|>.f k|>.f l|>.f m|>.f n|>.f o|>.f p|>.f q|>.f r|>.f s|>.f t|>.f u|>.f v|>.f w|>.f x|>.f y|>.f z|>.f A|>.t B tv
def aJR:=fun a b c d e f g i j k l m n o p q r s t u v w x y z A B C=>mE a|>.f b|>.f c|>.f d|>.f e|>.f f|>.f g|>.f i|>.f j|>.f k|>.f l|>.f m|>.f n|>.f o|>.f p|>.f q|>.f r|>.f s|>.f t|>.f u|>.f v|>.f w|>.f x|>.f y|>.f z|>.f A|>.f B|>.t C tv
def aJS:=fun a b c d e f g i j k l m n o p q r s t u v w x y z A B C D=>mE a|>.f b|>.f c|>.f d|>.f e|>.f f|>.f g|>.f i|>.f j|>.f k|>.f l|>.f m|>.f n|>.f o|>.f p|>.f q|>.f r|>.f s|>.f t|>.f u|>.f v|>.f w|>.f x|>.f y|>.f z|>.f A|>.f B|>.f C|>.t D tv
def aJT:=fun a b c d e f g i j k l m n o p q r s t u v w x y z A B C D=>mE a|>.f b|>.f c|>.f d|>.f e|>.f f|>.f g|>.f i|>.f j|>.f k|>.f l|>.f m|>.f n|>.f o|>.f p|>.f q|>.f r|>.f s|>.f t|>.f u|>.f v|>.f w|>.f x|>.f y|>.f z|>.f A|>.f B|>.f C|>.f D tv
def aEf(a:List Pat)(b:Prog)(c:Int):TS:=⟨(tf 211 19 [(0,(iP a)),(1,(.func 199 [] [(.ptr 0 0)])),(4,(nI 0)),(7,(nI (a.length:Int))),(8,(nI c))] [kc f211 52,kl f211 52,.inBlock 0,kc f211 7]),[(tf 198 9 [(4,(bV false)),(5,(iP a)),(6,(.func 199 [] [(.ptr 0 0)]))] [ko f198 6 2,kc f198 7]),(tf 174 9 [(4,(bV false)),(5,(iP a)),(6,(.func 199 [] [(.ptr 0 0)]))] [ko f174 6 2,kc f174 7])],[oC 0 [(.func 172 [(Prog.av b)] [])]],1⟩
def sV(b:Prog)(a:Node)(c:Int):TS:=⟨(tf 211 19 [(0,(iP a.pats)),(1,(.func 199 [] [(.ptr 0 0)])),(4,(nI 0)),(7,(nI (a.pats.length:Int))),(8,(nI c))] [kc f211 52,kl f211 52,.inBlock 0,kc f211 7]),[(tf 198 9 [(4,(bV false)),(5,(iP a.pats)),(6,(.func 199 [] [(.ptr 0 0)]))] [ko f198 6 2,kc f198 7]),(tf 174 9 [(4,(bV false)),(5,(iP a.pats)),(6,(.func 199 [] [(.ptr 0 0)]))] [ko f174 6 2,kc f174 7]),(tf 129 35 [(4,(bV false)),(29,(bV true)),(31,(iP a.pats)),(32,(.func 170 [] [(.ptr 1 0)]))] [ko f129 62 13,kc f129 63])],[oC 0 [(.func 170 [] [(.ptr 1 0)])],oC 1 [(iN b.nodes),(iI b.funs),(nI b.main),(iC b.cons)]],2⟩
def uY(a:List bX)(c:Int)(b:List (bX×Bool)):TS:=⟨(tf 125 21 [(0,(iS a)),(2,(bV false)),(3,(.map 0)),(7,(iS a)),(8,(nI (a.length:Int))),(9,(nI c))] [kc f125 116,kl f125 116,.inBlock 0,kc f125 15]),[],[(0,(.map (fP dR yX 0 b) b.length),true)],1⟩
def aWk (a:List Pat)(b:Prog):=(tT 0 (start PP 174 [(iP a),(.func 172 [(Prog.av b)] [])])<|gm 27 aE a<|.W 4 1 [0] (aEf a b 0)) tv
def bER(b:List Pat)(c:Prog)(a:Int):=tT 0 (aEf b c a)<|gd 5 9 (a< (b.length:Int)) (rX 14 b a<|fun d e f g=>lO 11 172 [(Prog.av c),(.agg [(nI d),(nI e),(dR f),(iP g)])]<|fun i=>.b 6 16 (!i) (gE 17 2 (bV (!(decide (a≥0)))))<|gw 5 18 (a+1)<|.W 3 2 [0] (aEf b c (a+1)))<|gE 17 1 (bV true)
def aWl:=fun a b c d e f g i j k l m n=>bER a b c|>.t j d e f g k l i m|>.t n tv
def aWm:=fun a b c d e f g i j k l m n o=>bER a b c|>.t j d e f g k l i m|>.f n o tv
def aWn:=fun a b c d=>bER a b c|>.f d tv
def aCT(b:Prog)(a:Node):=tT 0 (start PP 129 [(Prog.av b),(Node.av a)])<|.o (gp 10 169 [(nI a.op)] (.iface 225 (.agg []))<|gm 44 aE a.pats<|lO 0 122 [(nI (a.pats.length:Int)),(nI 1),(nI 5)]<|fun c=>.b 1 11 c (gl 2 cC a.kids<|gm 2 aE a.pats<|gw 1 18 (1+ (a.pats.length:Int))<|.b 7 24 ((a.kids.length:Int) == (1+ (a.pats.length:Int))) (lO 2 173 [(Prog.av b),(Node.av a)]<|fun d=>.b 2 29 d (gm 31 aE a.pats<|.W 4 6 [5,0] (sV b a 0))<|gE 8 5 (bV false))<|gE 13 5 (bV false))<|gE 27 5 (bV false))<|.o (gp 10 169 [(nI a.op)] (.iface 243 (.agg []))<|gm 24 aE a.pats<|gd 2 14 ((a.pats.length:Int) >0) (gE 6 2 (bV false))<|.o (.y fun c:Bool=>.y fun d:Con=>.i [rn 22,.reg (rd 5 (.ans (.len (b.cons.length:Int))::.d::.pure (bV c)::.d::.b 15 true::.d::.d::.ans (.len (a.kids.length:Int))::rd 5 (.ans (.idx (Con.av d))::rd 5 [])))] [hl Con.av b.cons,hA (aM PP 122 [(nI a.n),(nI 0),(nI (IntKind.i64.wrap ((b.cons.length:Int) -1)))] (bV c)),hA (c=true),hl cC a.kids,hA (0≤a.n),.a (((b.cons)[a.n.toNat]?) =some d) (bC (f:=Con.av))]<|.b 3 24 ((a.kids.length:Int) ==d.args) (lO 2 173 [(Prog.av b),(Node.av a)]<|fun f=>.b 2 29 f (gm 31 aE a.pats<|.W 4 6 [5,0] (sV b a 0)) .x)<|gE 13 5 (bV false))<|.y fun c:Bool=>.i [rn 22,.reg (rd 5 (.ans (.len (b.cons.length:Int))::.d::.pure (bV c)::.d::.b 15 false::rd 14 []))] [hl Con.av b.cons,hA (aM PP 122 [(nI a.n),(nI 0),(nI (IntKind.i64.wrap ((b.cons.length:Int) -1)))] (bV c)),hA (c=false)]<|gE 16 5 (bV false))<|.o (.y fun e:Int=>gp 10 169 [(nI a.op)] (.iface 242 (nI e))<|gm 24 aE a.pats<|gd 2 14 ((a.pats.length:Int) >0) (gE 6 2 (bV false))<|gl 24 cC a.kids<|.b 7 24 ((a.kids.length:Int) ==e) (lO 2 173 [(Prog.av b),(Node.av a)]<|fun d=>.b 2 29 d (gm 31 aE a.pats<|.W 4 5 [4,0] (sV b a 0))<|gE 8 4 (bV false))<|gE 13 4 (bV false))<|gp 10 169 [(nI a.op)] (.nili)<|gE 18 2 (bV false)
def aTz:=fun a b c d e f g i j k l=>aCT a b|>.1 e c f|>.t g i|>.t j d k|>.t l tv
def aTA:=fun a b c d e f g i j k l=>aCT a b|>.1 e c f|>.t g i|>.t j d k|>.f l tv
def aTB:=fun a b c d e f g i=>aCT a b|>.1 d c e|>.t f g|>.f i tv
def aTC:=fun a b c d e f=>aCT a b|>.1 d c e|>.f f tv
def aTD:=fun a b c d=>aCT a b|>.2|>.1 c|>.t d tv
def aTE:=fun a b c d e f g i j k l m n o=>aCT a b|>.2|>.1 f|>.f g|>.1 c d i j k l|>.t m e n|>.t o tv
def aTF:=fun a b c d e f g i j k l=>aCT a b|>.2|>.1 e|>.f f|>.1 c d g i j k|>.f l tv
def aTG:=fun a b c d e f g=>aCT a b|>.2|>.1 d|>.f e|>.2 c f g tv
def aTH:=fun a b c d e=>aCT a b|>.2|>.2|>.1 c d|>.t e tv
def aPu:=fun a b c d e f g i j=>aCT a b|>.2|>.2|>.1 c e|>.f f|>.t g d i|>.t j tv
def aPv:=fun a b c d e f g i j=>aCT a b|>.2|>.2|>.1 c e|>.f f|>.t g d i|>.f j tv
def aPw:=fun a b c d e f=>aCT a b|>.2|>.2|>.1 c d|>.f e|>.f f tv
def aPx:=fun a b c=>aCT a b|>.2|>.2|>.2 c tv
def bAg(c:Prog)(b:Node)(a:Int):=tT 0 (sV c b a)<|gd 5 9 (a< (b.pats.length:Int)) (rX 14 b.pats a<|fun d e f g=>gpI 20 171 [(.agg [(nI d),(nI e),(dR f),(iP g)]),(nI 12)]<|fun i=>gd 2 7 (i≤12) (lO 2 172 [(Prog.av c),(.agg [(nI d),(nI e),(dR f),(iP g)])]<|fun j=>.b 11 16 (!j) (gE 22 4 (bV (!(decide (a≥0)))))<|gw 5 18 (a+1)<|.W 3 4 [0,1] (sV c b (a+1)))<|gE 36 4 (bV (!(decide (a≥0)))))<|gE 22 2 (bV true)
def aTI:=fun a b c d e f g i j k l m n o p q=>bAg a b c|>.t k d e f g l m i n|>.t o j p|>.t q tv
def aTJ:=fun a b c d e f g i j k l m n o p q r=>bAg a b c|>.t k d e f g l m i n|>.t o j p|>.f q r tv
def aTK:=fun a b c d e f g i j k l m n=>bAg a b c|>.t j d e f g k l i m|>.f n tv
def aTL:=fun a b c d=>bAg a b c|>.f d tv
def aMw (a:List bX):=(tT 0 (start PP 125 [(iS a)])<|.i [rn 7,.mset 0 (fP dR yX 0 ([] :List (bX×Bool))) ([] :List (bX×Bool)).length] [hr (fP dR yX 0 ([] :List (bX×Bool))),hr (length ([] :List (bX×Bool)))]<|gl 6 dR a<|.W 4 1 [0] (uY a 0 ([] :List (bX×Bool)))) ⟨kZ0,trivial⟩
def bGg(b:List bX)(d:Int)(a:List (bX×Bool)):=tT 0 (uY b d a)<|gd 5 10 (d< (b.length:Int)) (gX dR 6 b d<|fun c=>.i [rn 6,.mput (fP dR yX 0 (nB c true a)) (nB c true a).length] [.q (p:=aAJ (fP dR yX 0 a) a.length (dR c) (yX true) =some ((fP dR yX 0 (nB c true a)),length (nB c true a))) (aZW aZV _ _ _)]<|gw 4 15 (d+1)<|.W 3 1 [0] (uY b (d+1) (nB c true a)))<|.i [rn 6,sI 17 (a.length:Int)] [.q (p:=(nI ((fP dR yX 0 a).length:Int)) = (nI (a.length:Int))) (aVy _ _ _)]<|gl 1 dR b<|gE 4 1 (bV ((a.length:Int) == (b.length:Int)))
def aMx:=fun a b c d e f g i=>bGg a b c|>.t e d f g i ⟨kZ0,trivial⟩
def aMy:=fun a b c d=>bGg a b c|>.f d tv
def aEg(a:List Node)(b:Prog)(c:Int):TS:=⟨(tf 196 19 [(0,(iN a)),(1,(.func 168 [] [(.ptr 0 0)])),(4,(nI 0)),(7,(nI (a.length:Int))),(8,(nI c))] [kc f196 52,kl f196 52,.inBlock 0,kc f196 7]),[(tf 167 9 [(4,(bV false)),(5,(iN a)),(6,(.func 168 [] [(.ptr 0 0)]))] [ko f167 6 2,kc f167 7]),(tf 128 9 [(4,(bV false)),(5,(iN a)),(6,(.func 168 [] [(.ptr 0 0)]))] [ko f128 6 2,kc f128 7])],[oC 0 [(.func 129 [(Prog.av b)] [])]],1⟩
def aEh(a:List Con)(b:Int):TS:=⟨(tf 194 19 [(0,(iC a)),(1,(.func 165 [] [(.ptr 0 0)])),(4,(nI 0)),(7,(nI (a.length:Int))),(8,(nI b))] [kc f194 52,kl f194 52,.inBlock 0,kc f194 7]),[(tf 164 9 [(4,(bV false)),(5,(iC a)),(6,(.func 165 [] [(.ptr 0 0)]))] [ko f164 6 2,kc f164 7]),(tf 123 9 [(4,(bV false)),(5,(iC a)),(6,(.func 165 [] [(.ptr 0 0)]))] [ko f123 6 2,kc f123 7])],[oC 0 [(.func 124 [] [])]],1⟩
def aEi(a:List Int)(b:Int):TS:=⟨(tf 200 19 [(0,(.ilst 1 (jI a) true)),(1,(.func 176 [] [(.ptr 0 0)])),(4,(nI 0)),(7,(nI (a.length:Int))),(8,(nI b))] [kc f200 52,kl f200 52,.inBlock 0,kc f200 7]),[(tf 175 9 [(4,(bV false)),(5,(.ilst 1 (jI a) true)),(6,(.func 176 [] [(.ptr 0 0)]))] [ko f175 6 2,kc f175 7]),(tf 130 9 [(4,(bV false)),(5,(.ilst 1 (jI a) true)),(6,(.func 176 [] [(.ptr 0 0)]))] [ko f130 6 2,kc f130 7])],[oC 0 [(.func 131 [] [])]],1⟩
def aEj(a:List Con)(c:Int)(b:List bX):TS:=⟨(tf 126 22 [(1,(.func 127 [] [])),(4,.nils),(5,(.gl 0 1 0 b.length false)),(8,(iC a)),(9,(nI (a.length:Int))),(10,(nI c))] [kc f126 116,kl f126 116,.inBlock 0,kc f126 15]),[],[oL 0 1 (map dR b)],1⟩
def uZ(a:Prog)(c:Int)(b:List Int):TS:=⟨(tf 88 128 [kp 1 0,(2,(bV false)),(3,(nI (a.nodes.length:Int))),(4,(.gl 1 1 0 b.length true)),(77,(iI a.funs)),(78,(nI (a.funs.length:Int))),(79,(nI c))] [kc f88 1012,kl f88 1012,.inBlock 0,kc f88 127]),[],[oC 0 [(iN a.nodes),(iI a.funs),(nI a.main),(iC a.cons)],oL 1 1 (jI b)],2⟩
def qB(a:Prog)(b:List Int)(c:Int):TS:=⟨(tf 88 128 [(2,(bV false)),(3,(nI (a.nodes.length:Int))),(4,(.gl 0 1 0 b.length true)),(97,(iN a.nodes)),(98,(nI (a.nodes.length:Int))),(99,(nI c))] [kc f88 2036,kl f88 2036,.inBlock 2,kc f88 255]),[],[oL 0 1 (jI b)],1⟩
def vA(a:Prog)(c:List Int)(d:Int)(b:List Int)(e f g:Int):TS:=⟨(tf 88 128 [(2,(bV false)),(3,(nI (a.nodes.length:Int))),(4,(.gl 0 1 0 b.length true)),(7,(nI f)),(97,(iN a.nodes)),(98,(nI (a.nodes.length:Int))),(99,(nI g)),(105,(iI c)),(106,(nI d)),(107,(nI e))] [kc f88 521420,kl f88 521420,.inBlock 4,.inBlock 3,kc f88 16295,kl f88 2036,.inBlock 2,kc f88 255]),[],[oL 0 1 (jI b)],1⟩
def aWo (a:List Node)(b:Prog):=(tT 0 (start PP 128 [(iN a),(.func 129 [(Prog.av b)] [])])<|gl 27 Node.av a<|.W 4 1 [0] (aEg a b 0)) tv
def bES(b:List Node)(c:Prog)(a:Int):=tT 0 (aEg b c a)<|gd 5 9 (a< (b.length:Int)) (gX Node.av 14 b a<|fun d=>lO 11 129 [(Prog.av c),(Node.av d)]<|fun e=>.b 6 16 (!e) (gE 17 2 (bV (!(decide (a≥0)))))<|gw 5 18 (a+1)<|.W 3 2 [0] (aEg b c (a+1)))<|gE 17 1 (bV true)
def aWp:=fun a b c d e f g i j k=>bES a b c|>.t f d g i e j|>.t k tv
def aWq:=fun a b c d e f g i j k l=>bES a b c|>.t f d g i e j|>.f k l tv
def aWr:=fun a b c d=>bES a b c|>.f d tv
def aWs (a:List Con):=(tT 0 (start PP 123 [(iC a),(.func 124 [] [])])<|gl 27 Con.av a<|.W 4 1 [0] (aEh a 0)) tv
def bET(b:List Con)(a:Int):=tT 0 (aEh b a)<|gd 5 9 (a< (b.length:Int)) (gX Con.av 14 b a<|fun c=>lO 11 124 [(.agg [(dR c.name),(nI c.args)])]<|fun d=>.b 6 16 (!d) (gE 17 2 (bV (!(decide (a≥0)))))<|gw 5 18 (a+1)<|.W 3 2 [0] (aEh b (a+1)))<|gE 17 1 (bV true)
def aWt:=fun a b c d e f g i j=>bET a b|>.t e c f g d i|>.t j tv
def aWu:=fun a b c d e f g i j k=>bET a b|>.t e c f g d i|>.f j k tv
def aWv:=fun a b c=>bET a b|>.f c tv
def aWw (a:List Int):=(tT 0 (start PP 130 [(.ilst 1 (jI a) true),(.func 131 [] [])])<|gl 27 cC a<|.W 4 1 [0] (aEi a 0)) tv
def bEU(b:List Int)(a:Int):=tT 0 (aEi b a)<|gd 5 9 (a< (b.length:Int)) (gX cC 14 b a<|fun c=>.b 29 16 (!(c==1)) (gE 17 1 (bV (!(decide (a≥0)))))<|gw 5 18 (a+1)<|.W 3 1 [0] (aEi b (a+1)))<|gE 17 1 (bV true)
def aWx:=fun a b c d e f g=>bEU a b|>.t d c e f|>.t g tv
def aWy:=fun a b c d e f g i=>bEU a b|>.t d c e f|>.f g i tv
def aWz:=fun a b c=>bEU a b|>.f c tv
def aWA (a:List Con):=(tT 0 (start PP 126 [(iC a),(.func 127 [] [])])<|gl 12 Con.av a<|.i [rn 4,.nilL 5 1] []<|gu 0 0 (map dR ([] :List bX))<|gs 0 5 (.gl 0 1 0 ([] :List bX).length false)<|.W 0 1 [0] (aEj a 0 ([] :List bX))) ⟨kk,trivial⟩
def bGh(c:List Con)(a:Int)(b:List bX):=tT 0 (aEj c a b)<|gd 5 11 (a< (c.length:Int)) (gX Con.av 6 c a<|fun d=>ga 23 dR b [d.name]<|gw 5 20 (a+1)<|.W 3 5 [4] (aEj c (a+1) (b++ [d.name])))<|gz 8 4 0 1 dR b false<|gE 0 1 (iS b)
def aWB:=fun a b c d e f g i j=>bGh a b c|>.t e d f g i j ⟨kk,trivial⟩
def aWC:=fun a b c d=>bGh a b c|>.f d tv
def aJU(a:Prog):=tT 0 (start PP 88 [(Prog.av a)])<|gl 10 Node.av a.nodes<|gd 8 17 ((a.nodes.length:Int) >300) (gE 40 1 (bV false))<|gl 3 cC a.funs<|gd 3 24 ((a.funs.length:Int) <1) (gE 33 1 (bV false))<|gl 3 cC a.funs<|gd 4 32 ((a.funs.length:Int) > (a.nodes.length:Int)) (gE 25 1 (bV false))<|gl 3 Con.av a.cons<|gd 3 39 ((a.cons.length:Int) >20) (gE 18 1 (bV false))<|gl 6 cC a.funs<|gw 1 47 ((a.funs.length:Int) - (1:Int))<|lO 0 122 [(nI a.main),(nI 0),(nI ((a.funs.length:Int) - (1:Int)))]<|fun c=>.b 3 50 (!c) (gE 6 1 (bV false))<|lO 8 123 [(iC a.cons),(.func 124 [] [])]<|fun d=>.b 2 56 (!d) (gE 23 1 (bV false))<|.y fun b:List bX=>gp 3 126 [(iC a.cons),(.func 127 [] [])] (iS b)<|lO 0 125 [(iS b)]<|fun e=>.b 3 64 (!e) (gE 15 1 (bV false))<|lO 5 128 [(iN a.nodes),(.func 129 [(Prog.av a)] [])]<|fun f=>.b 3 72 (!f) (gE 6 1 (bV false))<|.i [rn 5,.mk a.nodes.length] [hr ((a.nodes.length:Nat) :Int),hr ((a.nodes.length:Nat) :Int),hA (a.nodes.length<100000)]<|.i [.lset 1 (jI (replicate a.nodes.length (0:Int)))] [.q (p:=replicate a.nodes.length (cC (0:Int)) = (jI (replicate a.nodes.length (0:Int)))) (aJo _ _ _)]<|.i [.set 74 (.gl 1 1 0 (replicate a.nodes.length (0:Int)).length true)] [.q (p:=(AV.gl 1 1 0 a.nodes.length true) = (.gl 1 1 0 (replicate a.nodes.length (0:Int)).length true)) (cF (aIz ..).symm)]<|gl 8 cC a.funs<|.W 4 2 [0,1] (uZ a 0 (replicate a.nodes.length (0:Int)))
def aMz:=fun a b=>aJU a|>.t b tv
def aMA:=fun a b c=>aJU a|>.f b|>.t c tv
def aMB:=fun a b c d=>aJU a|>.f b|>.f c|>.t d tv
def aMC:=fun a b c d e=>aJU a|>.f b|>.f c|>.f d|>.t e tv
def aMD:=fun a b c d e f g i j=>aJU a|>.f c|>.f d|>.f e|>.f f g b i|>.t j tv
def aME:=fun a b c d e f g i j k l m=>aJU a|>.f d|>.f e|>.f f|>.f g i b j|>.f k c l|>.t m tv
def aMF:=fun a b c d e f g i j k l m n o p q r=>aJU a|>.f f|>.f g|>.f i|>.f j k b l|>.f m c n|>.f o d p e q|>.t r tv
def aMG:=fun a b c d e f g i j k l m n o p q r s t u=>aJU a|>.f g|>.f i|>.f j|>.f k l b m|>.f n c o|>.f p d q e r|>.f s f t|>.t u tv
def aMH:=fun a b c d e f g i j k l m n o p q r s t u v=>aJU a|>.f g|>.f i|>.f j|>.f k l b m|>.f n c o|>.f p d q e r|>.f s f t|>.f u v ⟨kk,trivial⟩
def bEV(d:Prog)(e:Int)(a:List Int):=tT 0 (uZ d e a)<|gd 5 80 (e< (d.funs.length:Int)) (gX cC 6 d.funs e<|fun b=>gw 9 85 ((d.nodes.length:Int) -1)<|lO 0 122 [(nI b),(nI 0),(nI ((d.nodes.length:Int) -1))]<|fun f=>.b 2 87 (!f) (gE 6 2 (bV false))<|.i [rn 5,.ans (.ix)] [hA (0≤b),hA (b< (a.length:Int))]<|.y fun c:Int=>gj cC 0 a b.toNat c<|gw 1 92 (c+1)<|.i [.ans (.ix)] [hA (0≤b),hA (b< (a.length:Int))]<|.i [.st (cC c) (cC (c+1))] [.a (((a)[b.toNat]?) =some c) (cU (f:=cC)),hr (some (cC (c+1)))]<|.i [.lset 1 (jI (set a b.toNat (c+1)))] [.q (p:=(jI a).set (0+b.toNat) (cC (c+1)) = (jI (set a b.toNat (c+1)))) (pX _ _ _ _)]<|.i [.set 4 (.gl 1 1 0 (set a b.toNat (c+1)).length true)] [.q (p:=(AV.gl 1 1 0 a.length true) = (.gl 1 1 0 (set a b.toNat (c+1)).length true)) (cF (fN ..).symm)]<|.i [.set 88 (.gl 1 1 0 (set a b.toNat (c+1)).length true)] [.q (p:=(AV.gl 1 1 0 a.length true) = (.gl 1 1 0 (set a b.toNat (c+1)).length true)) (cF (fN ..).symm)]<|gw 4 94 (e+1)<|.W 3 2 [0,1] (uZ d (e+1) (set a b.toNat (c+1))))<|gl 8 Node.av d.nodes<|.W 4 2 [1] (qB d a 0)
def aMI:=fun a b c d e f g i j k l=>bEV a b c|>.t f d g i j e k|>.t l tv
def aMJ:=fun d e f g i j k l m n o p a b c q r=>bEV d e f|>.t k g l m n i o|>.f p a b j c q a b c r ⟨kk,trivial⟩
def aMK:=fun a b c d=>bEV a b c|>.f d ⟨kk,trivial⟩
def bGi(c:Prog)(d:List Int)(a:Int):=tT 0 (qB c d a)<|gd 5 100 (a< (c.nodes.length:Int)) (gX Node.av 7 c.nodes a<|fun b=>gl 9 cC b.kids<|.W 4 2 [0] (vA c b.kids (b.kids.length:Int) d 0 a a))<|gz 5 126 0 1 cC d true<|lO 0 130 [(.ilst 1 (jI d) true),(.func 131 [] [])]<|fun b=>gE 3 1 (bV b)
def aML:=fun a b c d e f g=>bGi a b c|>.t e d f g ⟨kk,trivial⟩
def aMM:=fun a b c d e f=>bGi a b c|>.f e d f tv
def bEW(d:Prog)(i:List Int)(j:Int)(a:List Int)(e f g:Int):=tT 0 (vA d i j a e f g)<|gd 5 108 (e<j) (gX cC 6 i e<|fun b=>gw 9 113 (f+1)<|gw 2 115 ((d.nodes.length:Int) -1)<|lO 0 122 [(nI b),(nI (f+1)),(nI ((d.nodes.length:Int) -1))]<|fun k=>.b 2 117 (!k) (gE 6 1 (bV false))<|.i [rn 5,.ans (.ix)] [hA (0≤b),hA (b< (a.length:Int))]<|.y fun c:Int=>gj cC 0 a b.toNat c<|gw 1 122 (c+1)<|.i [.ans (.ix)] [hA (0≤b),hA (b< (a.length:Int))]<|.i [.st (cC c) (cC (c+1))] [.a (((a)[b.toNat]?) =some c) (cU (f:=cC)),hr (some (cC (c+1)))]<|.i [.lset 0 (jI (set a b.toNat (c+1)))] [.q (p:=(jI a).set (0+b.toNat) (cC (c+1)) = (jI (set a b.toNat (c+1)))) (pX _ _ _ _)]<|.i [.set 4 (.gl 0 1 0 (set a b.toNat (c+1)).length true)] [.q (p:=(AV.gl 0 1 0 a.length true) = (.gl 0 1 0 (set a b.toNat (c+1)).length true)) (cF (fN ..).symm)]<|.i [.set 118 (.gl 0 1 0 (set a b.toNat (c+1)).length true)] [.q (p:=(AV.gl 0 1 0 a.length true) = (.gl 0 1 0 (set a b.toNat (c+1)).length true)) (cF (fN ..).symm)]<|gw 4 124 (e+1)<|.W 3 1 [0] (vA d i j (set a b.toNat (c+1)) (e+1) f g))<|gw 5 125 (g+1)<|.W 3 1 [0] (qB d a (g+1))
def aMN:=fun a b c d e f g i j k l m n o p q=>bEW a b c d e f g|>.t k i l m n o j p|>.t q tv
def aMO:=fun d e f g i j k l m n o p q r s t u a b c v w=>bEW d e f g i j k|>.t o l p q r s m t|>.f u a b n c v a b c w ⟨kk,trivial⟩
def aMP:=fun a b c d e f g i j=>bEW a b c d e f g|>.f i j ⟨kk,trivial⟩
def bGj(a:Prog):=tT 0 (start PP 45 [(Prog.av a)])<|lO 10 88 [(Prog.av a)]<|fun b=>.b 2 6 (!b) (gE 6 1 (nI 2))<|gE 7 1 (nI 0)
def aPy:=fun a b c d=>bGj a b c|>.t d tv
def aPz:=fun a b c d=>bGj a b c|>.f d tv
theorem gK (n lo a:Int) :aM PP 122 [.int .i64 n,.int .i64 lo,.int .i64 a] (.bool (eB n lo a)) :=by
 refine aJ aC rfl rfl ?_;by_cases h:n≥lo
 · have e:eB n lo a=decide (n≤a) :=by unfold eB;rw [decide_eq_true (show lo≤n from h),nX]
   rw [e];exact bAd n lo a (decide_eq_true h)
 · have e:eB n lo a=false:=by unfold eB;rw [decide_eq_false (show ¬lo≤n from h),Bool.false_and]
   rw [e];exact bAe n lo a (decide_eq_false h)
theorem aCU (n:Int) :aM PP 197 [.int .i64 n] (.bool (eB n (-1000000000) 1000000000)) :=
 aJ aC rfl rfl (aV6 n _ (gK n _ _))
theorem aTM (b:ByteArray)(i:Nat)(h:128≤ (b.get! i).toNat) :128≤ (Utf8.decode b i).1:=by
 unfold Utf8.decode Utf8.runeError;simp only [add_zero];rw [if_neg (show ¬ (b.get! i).toNat<0x80 by omega)]
 repeat' split
 all_goals first
  |assumption
  | (simp_all;done)
  | (rename_i q;simp only [cP,decide_eq_true_eq,ge_iff_le]at q;simp only;omega)
theorem bAh {s:bX}{i:Nat}{c:UInt8}(h:s[i]?=some c) :∃r d,aNX (length s) (aG s) i=some (r,d) ∧ (c.toNat<128→r=c.toNat∧d=1) ∧ (128≤c.toNat→128≤r) :=by
 have j:= (zq0.1 h).1;have hb:=byte_at h;unfold aNX;have l:blt i (length s) =true:=by rw [cY];exact decide_eq_true j
 have e:mod (div (aG s) (pow 256 i)) 256=c.toNat:=hb;rw [l,e];simp only [cond];by_cases k:c.toNat<128
 · have a:blt c.toNat 128=true:=by rw [cY];exact decide_eq_true k
   rw [a];exact⟨_,_,rfl,fun _=> ⟨rfl,rfl⟩,fun g=>by omega⟩
 · have a:blt c.toNat 128=false:=by rw [cY];exact decide_eq_false k
   rw [a];refine⟨_,_,rfl,fun g=>by omega,fun _=>?_⟩;have f:aQ (length s) (aG s) =s:=fY s;rw [f];have b: ((⟨⟨s⟩⟩ :ByteArray).get! (i+0)).toNat=c.toNat:=by
    simp only [add_zero,ByteArray.get!];have: (⟨s⟩ :Array UInt8)[i]! =c:=by
     rw [Array.getElem!_eq_getD,aAx,show(⟨s⟩ :Array UInt8) =s.toArray from rfl,List.getElem?_toArray,h];rfl
    rw [this]
   exact aTM _ _ (by rw [add_zero]at b;rw [b];omega)
theorem aDD (s:bX) :∀ (t:bX) (i:Nat),s.drop i=t→Ends PP 0 (zD s i).as (.ret (.bool (kG t))) (aA [] 0)
 | [],i,h=>aPo s i (bL h)
 | c :: t,i,h=>by
  obtain⟨j,l,a⟩ :=bI h;obtain⟨r,d,b,f,g⟩ :=bAh j;by_cases m:c.toNat<97
  · have:= (f (by omega)).1;exact Ends.eqv (aPl s i r d a b sd) (by simp [kG,uP];omega)
  · by_cases n:122<c.toNat
    · have hr:122<r:=by
       by_cases k:c.toNat<128
       ·have:= (f k).1;omega
       ·have:=g (by omega);omega
      exact Ends.eqv (aPm s i r d a b sd sd) (by simp [kG,uP];omega)
    · obtain⟨rfl,rfl⟩ :=f (by omega);refine(aPn s i _ _ a b sd sd).ends ?_;have e:uP c=true:=by simp [uP];omega
      exact Ends.eqv (aDD s t (i+1) l) (by simp [kG,e])
theorem aMQ (s:bX) :aM PP 195 [dR s] (.bool (kG s)) :=
 aJ aC rfl rfl ((aPk s).ends (aDD s s 0 rfl))
theorem aMR (s:bX) :aM PP 166 [dR s] (.bool (jR s)) :=by
 refine aJ aC rfl rfl ?_
 match s with
 | [] =>exact aPt [] rfl
 | c ::t=>
  have b: (!(kD (length (c::t)) (aG (c::t)) 0 0)) =true:=by rw [dS];rfl
  by_cases e: (c::t).length≤8
  · have a: (decide (((length (c::t) :Nat) :Int) ≤ (8:Int))) =true:=sd;by_cases d:65≤c.toNat
    · by_cases f:c.toNat≤90
      ·exact Ends.eqv (aPp (c::t) c _ b a rfl sd sd (by simp) (aMQ t)) (by simp only [jR,decide_eq_true e,decide_eq_true d,decide_eq_true f,nX])
      ·exact Ends.eqv (aPq (c::t) c b a rfl sd sd) (by simp only [jR,decide_eq_false f,Bool.and_false,Bool.false_and])
    ·exact Ends.eqv (aPr (c::t) c b a rfl sd) (by simp only [jR,decide_eq_false d,Bool.and_false,Bool.false_and])
  ·exact Ends.eqv (aPs (c::t) b sd) (by simp only [jR,decide_eq_false e,Bool.false_and])
theorem aTN (c:Con) :aM PP 124 [Con.av c] (.bool (fM c)) :=by
 refine aJ aC rfl rfl ?_;have a:=aMR c.name;cases k:jR c.name
 case false=>rw [k]at a;exact Ends.eqv (aV9 c false a rfl) (by simp [fM,k])
 rw [k]at a;exact Ends.eqv (aV8 c true _ a rfl (gK _ _ _)) (by simp [fM,k])
def oU (p:Prog)(x:Node) :Bool:=if x.op=14 then true else dT p x.op x.n
theorem aTO (p:Prog)(x:Node)(f:p.funs.length≤1000) :Ends PP 0 (start PP 173 [Prog.av p,Node.av x]).as (.ret (.bool (oU p x))) (aA [] 0) :=by
 cases a: (x.op== (1:Int))
 case true=>exact Ends.eqv (aMg p x  (eB (x.n) (-1000000000) 1000000000) a (aCU (x.n))) (by simp_all [oU,dT] <;>rfl)
 cases b: (x.op== (2:Int))
 case true=>exact Ends.eqv (aMh p x  (eB (x.n) 0 1) a b (gK (x.n) 0 1)) (by simp_all [oU,dT] <;>rfl)
 cases c: (x.op== (24:Int))
 case true=>exact Ends.eqv (aMi p x  (eB (x.n) 0 3) a b c (gK (x.n) 0 3)) (by simp_all [oU,dT] <;>rfl)
 cases d: (x.op== (4:Int))
 case true=>exact Ends.eqv (aMj p x  (eB (x.n) (0- ((length p.funs:Nat) :Int)) 29) a b c d sdI (gK (x.n) (0- ((length p.funs:Nat) :Int)) 29)) (by simp_all [oU,dT] <;>rfl)
 cases e: (x.op== (14:Int))
 case true=>exact Ends.eqv (aMk p x   a b c d e) (by simp_all [oU,dT] <;>rfl)
 exact Ends.eqv (aMl p x   a b c d e) (by simp_all [oU,dT] <;>rfl)
theorem aJV (p:Prog)(x:Node)(a:p.funs.length≤1000) :aM PP 173 [Prog.av p,Node.av x] (.bool (oU p x)) :=
 aJ aC rfl rfl (aTO p x a)
mutual
def qC :Pat→Int→Int
 | .mk _ _ _ ps,most=>nC ps most 1
def nC :List Pat→Int→Int→Int
 | [],_,n=>n
 |p::ps,most,n=>if n>most then n else nC ps most (n+qC p (most-n))
end
mutual
theorem aFZ :∀ (p:Pat) (m:Int),0≤m→1≤qC p m∧qC p m≤m+1
 | .mk _ _ _ a,m,h=>by rw [qC];exact aHX a m 1 (by omega) (by omega)
theorem aHX :∀ (b:List Pat) (m n:Int),1≤n→n≤m+1→1≤nC b m n∧nC b m n≤m+1
 | [],m,n,c,d=>by rw [nC];omega
 | p ::b,m,n,c,d=>by
  rw [nC];split
  ·omega
  · have a:=aFZ p (m-n) (by omega);exact aHX b m _ (by omega) (by omega)
end
mutual
theorem aMS :∀ (p:Pat) (m:Int),0≤m→ ((bZ p:Int) ≤m→qC p m=bZ p) ∧ (m<bZ p→m<qC p m)
 | .mk _ _ _ a,m,h=>by
  have:=aHY a m 1 (by omega);simp only [qC,bZ];constructor
  ·intro g;have:=this.1 (by omega);omega
  ·intro g;exact this.2 (by omega)
theorem aHY :∀ (c:List Pat) (m n:Int),n≤m+1→ (n+bG c≤m→nC c m n=n+bG c) ∧ (m<n+bG c→m<nC c m n)
 | [],m,n,h=>by simp only [nC,bG];omega
 | p ::c,m,n,h=>by
  simp only [nC,bG];split
  ·omega
  · rename_i k;have a:=aMS p (m-n) (by omega);have l:=aFZ p (m-n) (by omega);have b:=aHY c m (n+qC p (m-n)) (by omega);constructor
    · intro g;have:=a.1 (by omega);have:=b.1 (by omega);omega
    · intro g;refine b.2 ?_;by_cases q: (bZ p:Int) ≤m-n
      ·have:=a.1 q;omega
      ·have:=a.2 (by omega);omega
end
theorem aHZ (p:Pat)(m:Int)(h:0≤m) :qC p m≤m↔ (bZ p:Int) ≤m:=by
 have:=aMS p m h;constructor
 · intro g;by_cases k: (bZ p:Int) ≤m
   ·exact k
   ·have:=this.2 (by omega);omega
 ·intro g;have:=this.1 g;omega
theorem aF0 (f n:Int)(s:bX)(ps:List Pat)(m:Int)(hm:m≤1000)(e:∀p∈ps,∀m:Int,0≤m→m≤1000→aM PP 171 [Pat.av p,.int .i64 m] (.int .i64 (qC p m))) :
  ∀ (t:List Pat) (i:Nat) (k:Int),ps.drop i=t→ (i:Int) +1≤k→k≤m+1→Ends PP 0 (aBT f n s ps m k (i:Int)).as (.ret (.int .i64 (nC t m k))) (aA [] 0)
 | [],i,k,h,j,q=>by
  have:=bL h;rw [nC];exact aTt f n s ps m k i sd
 | .mk c d b a::t,i,k,h,j,q=>by
  obtain⟨g,o,r⟩ :=bI h;rw [nC];split
  ·exact aTr f n s ps m k i c d b a sd sd sd sd
  · rename_i hk;have l:=aFZ (.mk c d b a) (m-k) (by omega);refine(aTs f n s ps m k i c d b a _ sd sd sd sd sd (e (.mk c d b a) (kS g) (m-k) (by omega) (by omega)) sd sd).ends ?_;exact aF0 f n s ps m hm e t (i+1) _ o (by omega) (by omega)
mutual
theorem aF1 :∀ (p:Pat) (m:Int),0≤m→m≤1000→aM PP 171 [Pat.av p,.int .i64 m] (.int .i64 (qC p m))
 | .mk f n s a,m,c,b=>by
  refine aJ aC (by simp [keylessL,lD,keyless]) rfl ?_;rw [qC];refine(aTq f n s a m).ends ?_;exact aF0 f n s a m b (aH0 a) a 0 1 rfl (by omega) (by omega)
theorem aH0 :∀ (b:List Pat),∀p∈b,∀m:Int,0≤m→m≤1000→aM PP 171 [Pat.av p,.int .i64 m] (.int .i64 (qC p m))
 | [],p,a,_,_,_=>by cases a
 | q::b,p,a,m,d,c=>by
  rcases zq7.1 a with e|a
  ·rw [e];exact aF1 q m d c
  ·exact aH0 b p a m d c
end
theorem sdW {p:Prop}(h:p:=by simp_all only [inB_iff,inB_not,beq_iff_eq,decide_eq_true_eq,decide_eq_false_iff_not] <;>omega) :p:=h
theorem idW {p:Prop}(h:p:=by exact⟨_,kR (by simp_all only [inB_iff,inB_not,beq_iff_eq,decide_eq_true_eq,decide_eq_false_iff_not] <;>omega)⟩) :p:=h
theorem aH1 (l:List Pat)(p:Prog)(hl:l.length<1000000)(c:∀q∈l,aM PP 172 [Prog.av p,Pat.av q] (.bool (eC p.cons q))) :
  ∀ (t:List Pat) (i:Nat),l.drop i=t→Ends PP 0 (aEf l p (i:Int)).as (.ret (.bool (dA p.cons t))) (aA [] 0)
 | [],i,h=>by
  have:=bL h;exact Ends.eqv (aWn l p i sd) (by simp [dA])
 | .mk f n s a::t,i,h=>by
  obtain⟨d,e,g⟩ :=bI h;have b:=c (.mk f n s a) (kS d);cases k:eC p.cons (.mk f n s a)
  case false=>
   rw [k]at b;exact Ends.eqv (aWl l p i f n s a false sd sd sd b rfl) (by simp [dA,k])
  rw [k]at b;refine(aWm l p i f n s a true sd sd sd b rfl sd).ends ?_;exact Ends.eqv (aH1 l p hl c t (i+1) e) (by simp [dA,k])
theorem aTP (l:List Pat)(p:Prog)(hl:l.length<1000000)(a:∀q∈l,aM PP 172 [Prog.av p,Pat.av q] (.bool (eC p.cons q))) :
  aM PP 174 [.ilst 4 (Pats.av l) false,.func 172 [Prog.av p] []] (.bool (dA p.cons l)) :=
 aJ aC (by simp [keylessL,keyless,Prog.av]) rfl ((aWk l p).ends (aH1 l p hl a l 0 rfl))
theorem bEX (p:Prog)(b d:Int)(c:bX)(a:List Pat)(hc:p.cons.length≤1000)(e:aM PP 174 [.ilst 4 (Pats.av a) false,.func 172 [Prog.av p] []] (.bool (dA p.cons a))) :
  Ends PP 0 (start PP 172 [Prog.av p,Pat.av (.mk b d c a)]).as (.ret (.bool (eC p.cons (.mk b d c a)))) (aA [] 0) :=by
 have w:IntKind.i64.wrap ((p.cons.length:Int) -1) = (p.cons.length:Int) -1:=by apply wrap64<;>omega
 cases f: (!(kD (length c) (aG c) 0 0))
 case true=>exact Ends.eqv (aWa p b d c a   f) (by clear e;simp_all [eC,eK,eX,dS,hM] <;>rfl)
 cases g: (!(dA p.cons a))
 case true=>exact Ends.eqv (aWb p b d c a  (dA p.cons a) f e g) (by clear e;simp_all [eC,eK,eX,dS,hM] <;>rfl)
 cases h: (b== (1:Int))
 case true=>
  cases s: (d== (0:Int))
  case true=>exact Ends.eqv (aWc p b d c a  (dA p.cons a) f e g h s) (by clear e;simp_all [eC,eK,eX,dS,hM] <;>rfl)
  exact Ends.eqv (aWd p b d c a  (dA p.cons a) f e g h s) (by clear e;simp_all [eC,eK,eX,dS,hM] <;>rfl)
 cases i: (b== (2:Int))
 case true=>
  cases u: (d== (0:Int))
  case true=>exact Ends.eqv (aWe p b d c a  (dA p.cons a) f e g h i u) (by clear e;simp_all [eC,eK,eX,dS,hM] <;>rfl)
  exact Ends.eqv (aWf p b d c a  (dA p.cons a) f e g h i u) (by clear e;simp_all [eC,eK,eX,dS,hM] <;>rfl)
 cases j: (b== (5:Int))
 case true=>
  cases r: (d== (0:Int))
  case true=>exact Ends.eqv (aWg p b d c a  (dA p.cons a) f e g h i j r) (by clear e;simp_all [eC,eK,eX,dS,hM] <;>rfl)
  exact Ends.eqv (aWh p b d c a  (dA p.cons a) f e g h i j r) (by clear e;simp_all [eC,eK,eX,dS,hM] <;>rfl)
 cases l: (b== (3:Int))
 case true=>
  cases q: (eB d (-1000000000) 1000000000)
  case true=>exact Ends.eqv (aWi p b d c a  (dA p.cons a) (eB d (-1000000000) 1000000000) f e g h i j l (aCU d) q) (by clear e;simp_all [eC,eK,eX,dS,hM] <;>rfl)
  exact Ends.eqv (aWj p b d c a  (dA p.cons a) (eB d (-1000000000) 1000000000) f e g h i j l (aCU d) q) (by clear e;simp_all [eC,eK,eX,dS,hM] <;>rfl)
 cases k: (b== (4:Int))
 case true=>
  cases n: (eB d 0 1)
  case true=>exact Ends.eqv (aTu p b d c a  (dA p.cons a) (eB d 0 1) f e g h i j l k (gK d 0 1) n) (by clear e;simp_all [eC,eK,eX,dS,hM] <;>rfl)
  exact Ends.eqv (aTv p b d c a  (dA p.cons a) (eB d 0 1) f e g h i j l k (gK d 0 1) n) (by clear e;simp_all [eC,eK,eX,dS,hM] <;>rfl)
 cases m: (b== (6:Int))
 case true=>
  cases o: (eB d 0 (IntKind.i64.wrap (((length p.cons:Nat) :Int) - (1:Int))))
  case true=>
   obtain⟨v,t⟩ :∃y,((p.cons)[d.toNat]?) =some y:=idW;exact Ends.eqv (aTw p b d c a  (dA p.cons a) (eB d 0 (IntKind.i64.wrap (((length p.cons:Nat) :Int) - (1:Int)))) v f e g h i j l k m (gK d 0 (IntKind.i64.wrap (((length p.cons:Nat) :Int) - (1:Int)))) o sdW t) (by clear e;simp_all [eC,eK,eX,dS,hM] <;>rfl)
  exact Ends.eqv (aTx p b d c a  (dA p.cons a) (eB d 0 (IntKind.i64.wrap (((length p.cons:Nat) :Int) - (1:Int)))) f e g h i j l k m (gK d 0 (IntKind.i64.wrap (((length p.cons:Nat) :Int) - (1:Int)))) o) (by clear e;simp_all [eC,eK,eX,dS,hM] <;>rfl)
 exact Ends.eqv (aTy p b d c a  (dA p.cons a) f e g h i j l k m) (by clear e;simp_all [eC,eK,eX,dS,hM] <;>rfl)
mutual
theorem aH2 (p:Prog)(hc:p.cons.length≤1000) :∀ (q:Pat),bZ q<1000000→aM PP 172 [Prog.av p,Pat.av q] (.bool (eC p.cons q))
 | .mk f n s a,h=>by
  refine aJ aC (by simp [keylessL,lD,keyless,Prog.av]) rfl ?_;simp only [bZ]at h;have:=eH a;exact bEX p f n s a hc (aTP a p (by omega) (aMT p hc a (by omega)))
theorem aMT (p:Prog)(hc:p.cons.length≤1000) :∀ (b:List Pat),bG b<1000000→∀q∈b,aM PP 172 [Prog.av p,Pat.av q] (.bool (eC p.cons q))
 | [],_,q,a=>by cases a
 | r::b,h,q,a=>by
  simp only [bG]at h;rcases zq7.1 a with e|a
  ·rw [e];exact aH2 p hc r (by omega)
  ·exact aMT p hc b (by omega) q a
end
def cV (op:Int) :Option Int:=
 if op=1∨op=2∨op=3∨op=4∨op=21∨op=25∨op=28 then some 0
 else if op=5∨op=27∨op=16∨op=17∨op=19∨op=20∨op=23∨op=26∨op=24 then some 1
 else if op=6∨op=7∨op=9∨op=10∨op=11∨op=12∨op=13∨op=18∨op=22 then some 2
 else if op=8 then some 3 else none
def bH (op:Int) :AV:=
 match cV op with
 |some k=>.iface 242 (.int .i64 k)
 |none=>if op=15 then .iface 225 (.agg [])else if op=14 then .iface 243 (.agg [])else .nili
theorem aMU {op k:Int}(h:cV op=some k)(pats a:Int) :cM op pats a=k∧op≠15∧op≠14:=by
 unfold cV at h;unfold cM;split at h
 ·rename_i g;rw [if_pos g];simp only [Option.some.injEq]at h;refine⟨h,?_,?_⟩ <;>omega
 · rename_i c;rw [if_neg c];split at h
   ·rename_i g;rw [if_pos g];simp only [Option.some.injEq]at h;refine⟨h,?_,?_⟩ <;>omega
   · rename_i b;rw [if_neg b];split at h
     ·rename_i g;rw [if_pos g];simp only [Option.some.injEq]at h;refine⟨h,?_,?_⟩ <;>omega
     · rename_i d;rw [if_neg d];split at h
       ·rename_i g;rw [if_pos g];simp only [Option.some.injEq]at h;refine⟨h,?_,?_⟩ <;>omega
       ·cases h
theorem aPA {op:Int}(h:cV op=none)(pats a:Int) :cM op pats a=if op=15 then 1+pats else if op=14 then a else -1:=by
 unfold cV at h;unfold cM;split at h
 ·cases h
 · rename_i c;rw [if_neg c];split at h
   ·cases h
   · rename_i b;rw [if_neg b];split at h
     ·cases h
     · rename_i d;rw [if_neg d];split at h
       ·cases h
       ·rename_i g;rw [if_neg g]
theorem aTQ (op:Int) :Ends PP 0 (start PP 169 [.int .i64 op]).as (.ret (bH op)) (aA [] 0) :=by
 cases c: (op== (1:Int))
 case true=>exact Ends.eqv (aMm op   c) (by simp_all [bH,cV])
 cases d: (op== (2:Int))
 case true=>exact Ends.eqv (aMn op   c d) (by simp_all [bH,cV])
 cases f: (op== (3:Int))
 case true=>exact Ends.eqv (aMo op   c d f) (by simp_all [bH,cV])
 cases g: (op== (4:Int))
 case true=>exact Ends.eqv (aMp op   c d f g) (by simp_all [bH,cV])
 cases i: (op== (21:Int))
 case true=>exact Ends.eqv (aMq op   c d f g i) (by simp_all [bH,cV])
 cases k: (op== (25:Int))
 case true=>exact Ends.eqv (aMr op   c d f g i k) (by simp_all [bH,cV])
 cases m: (op== (28:Int))
 case true=>exact Ends.eqv (aMs op   c d f g i k m) (by simp_all [bH,cV])
 cases n: (op== (5:Int))
 case true=>exact Ends.eqv (aMt op   c d f g i k m n) (by simp_all [bH,cV])
 cases p: (op== (27:Int))
 case true=>exact Ends.eqv (aMu op   c d f g i k m n p) (by simp_all [bH,cV])
 cases a: (op== (16:Int))
 case true=>exact Ends.eqv (aMv op   c d f g i k m n p a) (by simp_all [bH,cV])
 cases b: (op== (17:Int))
 case true=>exact Ends.eqv (aJB op   c d f g i k m n p a b) (by simp_all [bH,cV])
 cases e: (op== (19:Int))
 case true=>exact Ends.eqv (aJC op   c d f g i k m n p a b e) (by simp_all [bH,cV])
 cases h: (op== (20:Int))
 case true=>exact Ends.eqv (aJD op   c d f g i k m n p a b e h) (by simp_all [bH,cV])
 cases j: (op== (23:Int))
 case true=>exact Ends.eqv (aJE op   c d f g i k m n p a b e h j) (by simp_all [bH,cV])
 cases l: (op== (24:Int))
 case true=>exact Ends.eqv (aJF op   c d f g i k m n p a b e h j l) (by simp_all [bH,cV])
 cases o: (op== (26:Int))
 case true=>exact Ends.eqv (aJG op   c d f g i k m n p a b e h j l o) (by simp_all [bH,cV])
 cases q: (op== (6:Int))
 case true=>exact Ends.eqv (aJH op   c d f g i k m n p a b e h j l o q) (by simp_all [bH,cV])
 cases r: (op== (7:Int))
 case true=>exact Ends.eqv (aJI op   c d f g i k m n p a b e h j l o q r) (by simp_all [bH,cV])
 cases s: (op== (9:Int))
 case true=>exact Ends.eqv (aJJ op   c d f g i k m n p a b e h j l o q r s) (by simp_all [bH,cV])
 cases t: (op== (10:Int))
 case true=>exact Ends.eqv (aJK op   c d f g i k m n p a b e h j l o q r s t) (by simp_all [bH,cV])
 cases u: (op== (11:Int))
 case true=>exact Ends.eqv (aJL op   c d f g i k m n p a b e h j l o q r s t u) (by simp_all [bH,cV])
 cases v: (op== (12:Int))
 case true=>exact Ends.eqv (aJM op   c d f g i k m n p a b e h j l o q r s t u v) (by simp_all [bH,cV])
 cases w: (op== (13:Int))
 case true=>exact Ends.eqv (aJN op   c d f g i k m n p a b e h j l o q r s t u v w) (by simp_all [bH,cV])
 cases x: (op== (18:Int))
 case true=>exact Ends.eqv (aJO op   c d f g i k m n p a b e h j l o q r s t u v w x) (by simp_all [bH,cV])
 cases y: (op== (22:Int))
 case true=>exact Ends.eqv (aJP op   c d f g i k m n p a b e h j l o q r s t u v w x y) (by simp_all [bH,cV])
 cases z: (op== (8:Int))
 case true=>exact Ends.eqv (aJQ op   c d f g i k m n p a b e h j l o q r s t u v w x y z) (by simp_all [bH,cV])
 cases A: (op== (14:Int))
 case true=>exact Ends.eqv (aJR op   c d f g i k m n p a b e h j l o q r s t u v w x y z A) (by simp_all [bH,cV])
 cases B: (op== (15:Int))
 case true=>exact Ends.eqv (aJS op   c d f g i k m n p a b e h j l o q r s t u v w x y z A B) (by simp_all [bH,cV])
 exact Ends.eqv (aJT op   c d f g i k m n p a b e h j l o q r s t u v w x y z A B) (by simp_all [bH,cV])
theorem aPB (op:Int) :keyless (bH op) =true:=by
 unfold bH;split
 ·rfl
 · split
   ·rfl
   ·split<;>rfl
theorem aJW (op:Int) :aM PP 169 [.int .i64 op] (bH op) :=
 aJ aC rfl (aPB op) (aTQ op)
theorem aF2 (p:Prog)(x:Node)(hc:p.cons.length≤1000)(j:x.pats.length≤10) :
  ∀ (t:List Pat) (i:Nat),x.pats.drop i=t→Ends PP 0 (sV p x (i:Int)).as (.ret (.bool (t.all (iL p.cons)))) (aA [] 0)
 | [],i,h=>by
  have:=bL h;exact Ends.eqv (aTL p x i sd) (by simp)
 | .mk f n s a::t,i,h=>by
  obtain⟨m,l,o⟩ :=bI h;have e:=aF1 (.mk f n s a) 12 (by omega) (by omega);by_cases k:bZ (.mk f n s a) ≤12
  · have c:qC (.mk f n s a) 12≤12:= (aHZ (.mk f n s a) 12 (by omega)).2 (by omega);have d:=aH2 p hc (.mk f n s a) (by omega);cases b:eC p.cons (.mk f n s a)
    case false=>
     rw [b]at d;exact Ends.eqv (aTI p x i f n s a _ false sd sd sd e (decide_eq_true c) d rfl) (by simp [iL,b])
    rw [b]at d;refine(aTJ p x i f n s a _ true sd sd sd e (decide_eq_true c) d rfl sd).ends ?_;exact Ends.eqv (aF2 p x hc j t (i+1) l) (by simp [iL,k,b])
  · have c:¬qC (.mk f n s a) 12≤12:=fun g=>k (by have:= (aHZ (.mk f n s a) 12 (by omega)).1 g;omega);exact Ends.eqv (aTK p x i f n s a _ sd sd sd e (decide_eq_false c)) (by simp [iL,k])
theorem aPC (p:Prog)(x:Node)(hc:p.cons.length≤1000)(v:p.funs.length≤1000)(s:x.pats.length≤10)(hk:x.kids.length≤10) :aM PP 129 [Prog.av p,Node.av x] (.bool (aP p x)) :=by
 refine aJ aC rfl rfl ?_;have o:IntKind.i64.wrap ((p.cons.length:Int) -1) = (p.cons.length:Int) -1:=by apply wrap64<;>omega
 have a:=aJW x.op;have h:=aJV p x v;have hl:=aF2 p x hc s x.pats 0 rfl;cases n:cV x.op
 case some k=>
  obtain⟨q,y,t⟩ :=aMU n (x.pats.length:Int) (fH p x);have ev:bH x.op= .iface 242 (.int .i64 k) :=by unfold bH;rw [n]
  rw [ev]at a;have m:aP p x= (oU p x&&decide (x.pats.length=0) &&x.pats.all (iL p.cons) &&decide ((x.kids.length:Int) =k)) :=by
   simp only [aP,eW,oU,q,if_neg y,if_neg t]
  rw [m];by_cases j:x.pats.length=0
  · by_cases b: (x.kids.length:Int) =k
    · have d: (((length x.kids:Nat) :Int) ==k) =true:=by simp [b]
      cases i:oU p x
      case false=>
       rw [i]at h;exact Ends.eqv (aPv p x k false a sd d h rfl) (by simp)
      rw [i]at h;refine(aPu p x k true a sd d h rfl).ends ?_;exact Ends.eqv hl (by simp [j,b])
    · have d: (((length x.kids:Nat) :Int) ==k) =false:=by simp [b]
      exact Ends.eqv (aPw p x k a sd d) (by simp [b])
  ·exact Ends.eqv (aTH p x k a sd) (by simp [j])
 have q:=aPA n (x.pats.length:Int) (fH p x);by_cases g:x.op=15
 · have ev:bH x.op= .iface 225 (.agg []) :=by unfold bH;rw [n];simp only [g,if_true]
   rw [ev]at a;have m:aP p x= (oU p x&&eB (x.pats.length:Int) 1 5&&x.pats.all (iL p.cons) &&decide ((x.kids.length:Int) =1+ (x.pats.length:Int))) :=by
    simp only [aP,eW,oU,q,if_pos g,if_neg (show ¬x.op=14 by omega)]
   rw [m];have f:=gK (x.pats.length:Int) 1 5;cases j:eB (x.pats.length:Int) 1 5
   case false=>
    rw [j]at f;exact Ends.eqv (aTC p x false a f rfl) (by simp)
   rw [j]at f;by_cases b: (x.kids.length:Int) =1+ (x.pats.length:Int)
   · have d: (((length x.kids:Nat) :Int) == ((1:Int) + ((length x.pats:Nat) :Int))) =true:=by simp [b]
     cases i:oU p x
     case false=>
      rw [i]at h;exact Ends.eqv (aTA p x true false a f rfl sd d h rfl) (by simp)
     rw [i]at h;refine(aTz p x true true a f rfl sd d h rfl).ends ?_;exact Ends.eqv hl (by simp [b])
   · have d: (((length x.kids:Nat) :Int) == ((1:Int) + ((length x.pats:Nat) :Int))) =false:=by simp [b]
     exact Ends.eqv (aTB p x true a f rfl sd d) (by simp [b])
 · by_cases e:x.op=14
   · have ev:bH x.op= .iface 243 (.agg []) :=by unfold bH;rw [n];simp [e]
     rw [ev]at a;have m:aP p x= (eB x.n 0 ((p.cons.length:Int) -1) &&decide (x.pats.length=0) &&x.pats.all (iL p.cons) &&decide ((x.kids.length:Int) =fH p x)) :=by
      simp only [aP,eW,dT,q,if_neg g,if_pos e,if_neg (show ¬x.op=1 by omega),if_neg (show ¬x.op=2 by omega),if_neg (show ¬x.op=4 by omega),if_neg (show ¬x.op=24 by omega)]
     rw [m];by_cases j:x.pats.length=0
     · have f:=gK x.n 0 ((p.cons.length:Int) -1);rw [←o]at f;cases b:eB x.n 0 ((p.cons.length:Int) -1)
       case false=>
        rw [o,b,←o]at f;exact Ends.eqv (aTG p x false a sd f rfl) (by simp)
       rw [o,b,←o]at f;have hb:=inB_iff.1 b;obtain⟨c,l⟩ :∃c,p.cons[x.n.toNat]?=some c:= ⟨_,kR (by omega)⟩;have u:fH p x=c.args:=by simp [fH,e,b,eX,l]
       rw [u];by_cases i: (x.kids.length:Int) =c.args
       · have d: (((length x.kids:Nat) :Int) ==c.args) =true:=by simp [i]
         have r:oU p x=true:=by simp [oU,e]
         rw [r]at h;refine(aTE p x true c true a sd f rfl (by omega) l d h rfl).ends ?_;exact Ends.eqv hl (by simp [j,i])
       · have d: (((length x.kids:Nat) :Int) ==c.args) =false:=by simp [i]
         exact Ends.eqv (aTF p x true c a sd f rfl (by omega) l d) (by simp [i])
     ·exact Ends.eqv (aTD p x a sd) (by simp [j])
   · have ev:bH x.op= .nili:=by unfold bH;rw [n];simp [g,e]
     rw [ev]at a;have m:aP p x=false:=by
      have:cM x.op x.pats.length (fH p x) = -1:=by rw [q,if_neg g,if_neg e]
      have w:¬ (x.kids.length:Int) = -1:=by omega
      simp [aP,this,w]
     rw [m];exact aPx p x a
def xW :List bX→List (bX×Bool) →List (bX×Bool)
 | [],m=>m
 |x::t,m=>xW t (nB x true m)
theorem aBU (l:List bX)(hl:l.length<1000000) :∀ (t:List bX) (i:Nat) (m:List (bX×Bool)),l.drop i=t→Ends PP 0 (uY l (i:Int) m).as (.ret (.bool (decide ((xW t m).length=l.length)))) (aA [] 0)
 | [],i,m,h=>by
  have:=bL h;refine Ends.eqv (aMy l i m sd) ?_;have: (((length m:Nat) :Int) == ((length l:Nat) :Int)) =decide (m.length=l.length) :=by
   by_cases k:m.length=l.length<;>simp [k] <;>omega
  rw [this];rfl
 | x::t,i,m,h=>by
  obtain⟨b,a,c⟩ :=bI h;refine(aMx l i m x sd sd sd sd).ends ?_;exact aBU l hl t (i+1) _ a
theorem aF3 {k:bX}{v w:Bool}:∀ {m:List (bX×Bool)},xO k m=some w→ (nB k v m).map Prod.fst=m.map Prod.fst
 | [],h=>by cases h
 | e::m,h=>by
  unfold xO at h;unfold nB;split at h
  ·rename_i hk;rw [if_pos hk];simp [hk]
  ·rename_i hk;rw [if_neg hk];simp [aF3 h]
theorem aF4 {k:bX}{v:Bool}:∀ {m:List (bX×Bool)},xO k m=none→ (nB k v m).map Prod.fst=m.map Prod.fst++ [k]
 | [],_=>rfl
 | e::m,h=>by
  unfold xO at h;unfold nB;split at h
  ·cases h
  ·rename_i hk;rw [if_neg hk];simp [aF4 h]
theorem aF5 {k:bX}:∀ {m:List (bX×Bool)},(xO k m).isSome=uQ (m.map Prod.fst) k
 | [] =>rfl
 | e ::m=>by
  unfold xO;split
  ·rename_i hk;simp [uQ,hk]
  · rename_i hk;have:¬e.1=k:=fun h=>hk h.symm;rw [aF5];simp [uQ,this]
theorem aH3 :∀ (t:List bX) (m:List (bX×Bool)),(xW t m).length≤m.length+t.length
 | [],m=>by simp [xW]
 | x::t,m=>by
  have a:=aH3 t (nB x true m);have b: (nB x true m).length≤m.length+1:=by
   cases h:xO x m with
   |none=>have:=congrArg length (aF4 (v:=true) h);simp at this;omega
   |some w=>have:=congrArg length (aF3 (v:=true) h);simp at this;omega
  simp only [xW,mO];omega
theorem aF6 :∀ (t:List bX) (m:List (bX×Bool)),(xW t m).length=m.length+t.length↔dO (m.map Prod.fst) t=true
 | [],m=>by simp [xW,dO]
 | x::t,m=>by
  simp only [xW,dO];cases h:xO x m
  case some w=>
   have e:=aF3 (v:=true) h;have c:uQ (m.map Prod.fst) x=true:=by rw [←aF5,h];rfl
   have a:=aH3 t (nB x true m);have b:=congrArg length e;simp only [lB]at b;rw [c];constructor
   ·intro g;simp only [mO]at g;omega
   ·intro g;simp at g
  have e:=aF4 (v:=true) h;have c:uQ (m.map Prod.fst) x=false:=by rw [←aF5,h];rfl
  have d:=aF6 t (nB x true m);have b:=congrArg length e;simp only [lB,vP,List.length_singleton]at b;rw [c,←e];simp only [Bool.not_false,nX,mO];rw [←d,b];omega
theorem aJX (l:List bX)(hl:l.length<1000000) :aM PP 125 [.ilst 1 (map dR l) false] (.bool (pC l)) :=by
 refine aJ aC rfl rfl ((aMw l).ends (Ends.eqv (aBU l hl l 0 [] rfl) ?_));have:=aF6 l [];simp only [List.length_nil,eM,map_nil]at this;congr 1;cases k:pC l
 case true=>exact decide_eq_true (this.2 k)
 exact decide_eq_false fun g=>by have:=this.1 g;unfold pC at k;rw [k]at this;cases this
theorem aH4 (l:List Con)(hl:l.length<1000000) :∀ (t:List Con) (i:Nat),l.drop i=t→Ends PP 0 (aEh l (i:Int)).as (.ret (.bool (t.all fM))) (aA [] 0)
 | [],i,h=>by
  have:=bL h;exact Ends.eqv (aWv l i sd) (by simp)
 | c::t,i,h=>by
  obtain⟨d,b,e⟩ :=bI h;have a:=aTN c;cases k:fM c
  case false=>rw [k]at a;exact Ends.eqv (aWt l i c false sd sd sd a rfl) (by simp [k])
  rw [k]at a;refine(aWu l i c true sd sd sd a rfl sd).ends ?_;exact Ends.eqv (aH4 l hl t (i+1) b) (by simp [k])
theorem aTR (l:List Con)(hl:l.length<1000000) :aM PP 123 [.ilst 2 (map Con.av l) false,.func 124 [] []] (.bool (l.all fM)) :=
 aJ aC rfl rfl ((aWs l).ends (aH4 l hl l 0 rfl))
theorem aH5 (l:List Node)(p:Prog)(hl:l.length<1000000)(b:∀x∈l,aM PP 129 [Prog.av p,Node.av x] (.bool (aP p x))) :∀ (t:List Node) (i:Nat),l.drop i=t→Ends PP 0 (aEg l p (i:Int)).as (.ret (.bool (t.all (aP p)))) (aA [] 0)
 | [],i,h=>by
  have:=bL h;exact Ends.eqv (aWr l p i sd) (by simp)
 | c::t,i,h=>by
  obtain⟨d,e,f⟩ :=bI h;have a:=b c (kS d);cases k:aP p c
  case false=>rw [k]at a;exact Ends.eqv (aWp l p i c false sd sd sd a rfl) (by simp [k])
  rw [k]at a;refine(aWq l p i c true sd sd sd a rfl sd).ends ?_;exact Ends.eqv (aH5 l p hl b t (i+1) e) (by simp [k])
theorem aTS (l:List Node)(p:Prog)(hl:l.length<1000000)(a:∀x∈l,aM PP 129 [Prog.av p,Node.av x] (.bool (aP p x))) :aM PP 128 [.ilst 4 (map Node.av l) false,.func 129 [Prog.av p] []] (.bool (l.all (aP p))) :=
 aJ aC rfl rfl ((aWo l p).ends (aH5 l p hl a l 0 rfl))
def one (k:Int) :Bool:=decide (k=1)
theorem aH6 (l:List Int)(hl:l.length<1000000) :∀ (t:List Int) (i:Nat),l.drop i=t→Ends PP 0 (aEi l (i:Int)).as (.ret (.bool (t.all one))) (aA [] 0)
 | [],i,h=>by
  have:=bL h;exact Ends.eqv (aWz l i sd) (by simp)
 | c ::t,i,h=>by
  obtain⟨b,a,d⟩ :=bI h;by_cases k:c=1
  · refine(aWy l i c sd sd sd (by simp [k]) sd).ends ?_;exact Ends.eqv (aH6 l hl t (i+1) a) (by simp [k,one])
  ·exact Ends.eqv (aWx l i c sd sd sd (by simp [k])) (by simp [k,one])
theorem aTT (l:List Int)(hl:l.length<1000000) :aM PP 130 [.ilst 1 (map cC l) true,.func 131 [] []] (.bool (l.all one)) :=
 aJ aC rfl rfl ((aWw l).ends (aH6 l hl l 0 rfl))
theorem aH7 (l:List Con)(hl:l.length<100000) :∀ (t:List Con) (i:Nat),l.drop i=t→Ends PP 0 (aEj l (i:Int) (bE (l.take i))).as (.ret (.ilst 1 (map dR (bE l)) false)) (aA [] 0)
 | [],i,h=>by
  have b:=bL h;have e:bE (l.take i) =bE l:=by rw [aG3 b]
  rw [e];exact aWC l i _ sd
 | c::t,i,h=>by
  obtain⟨a,d,f⟩ :=bI h;have e:bE (l.take i) ++ [c.name] =bE (l.take (i+1)) :=by
   rw [List.take_add_one,a];simp [bE]
  refine(aWB l i (bE (l.take i)) c sd sd sd (by simp [bE];omega) sd).ends ?_;rw [e];exact aH7 l hl t (i+1) d
theorem aTU (l:List Con)(hl:l.length<100000) :aM PP 126 [.ilst 2 (map Con.av l) false,.func 127 [] []] (.ilst 1 (map dR (bE l)) false) :=
 aJ aC rfl rfl ((aWA l).ends (aH7 l hl l 0 rfl))
def oP (lo n:Int) :List Int→List Int→Option (List Int)
 | [],c=>some c
 |k::ks,c=>if eB k lo (n-1) =true then oP lo n ks (c.set k.toNat (c.getD k.toNat 0+1))else none
def nD (p:Prog) :Nat→List Node→List Int→Option (List Int)
 |_,[],c=>some c
 | i,x::t,c=>match oP ((i:Int) +1) (p.nodes.length:Int) x.kids c with
   |some d=>nD p (i+1) t d
   |none=>none
def rA :Option (List Int) →Bool
 |some c=>c.all one
 |none=>false
def below (b:Int)(c:List Int) :Prop:=∀k∈c,0≤k∧k≤b
theorem aCV {b:Int}{c:List Int}(h:below b c){i:Nat}{z:Int}(hz:c[i]?=some z) :0≤z∧z≤b:=h z (kS hz)
theorem aH8 {b:Int}{c:List Int}(h:below b c){i:Nat}{z:Int}(hz:c[i]?=some z) :below (b+1) (c.set i (z+1)) :=fun k hk=>by
 rcases List.mem_or_eq_of_mem_set hk with g|g
 ·have:=h k g;omega
 ·have:=aCV h hz;omega
theorem bF2 (p:Prog)(i:Nat)(o:i<p.nodes.length)(m:p.nodes.length≤1000)(ks:List Int)(hk:ks.length≤1000)(K:List Int→Bool)(B:Int)(hB:0≤B)(g:B≤1000000)
  (hb:∀v:List Int,v.length=p.nodes.length→below (B+ks.length) v→Ends PP 0 (qB p v ((i:Int) +1)).as (.ret (.bool (K v))) (aA [] 0)) :
  ∀ (t:List Int) (k:Nat) (c:List Int),c.length=p.nodes.length→k≤ks.length→below (B+k) c→ks.drop k=t→Ends PP 0 (vA p ks (ks.length:Int) c (k:Int) (i:Int) (i:Int)).as (.ret (.bool (match oP ((i:Int) +1) p.nodes.length t c with|some v=>K v|none=>false))) (aA [] 0)
 | [],k,c,hc,f,b,h=>by
  have:=bL h;have e:k=ks.length:=by omega
  subst e;refine(aMP p ks ks.length c ks.length i i sd sd).ends ?_;exact hb c hc b
 | y::t,k,c,hc,f,b,h=>by
  obtain⟨u,r,w⟩ :=bI h;have a:=gK y ((i:Int) +1) ((p.nodes.length:Int) -1);cases d:eB y ((i:Int) +1) ((p.nodes.length:Int) -1)
  case false=>
   rw [d]at a;exact Ends.eqv (aMN p ks ks.length c k i i y false sd sd sd sd sd a rfl) (by simp [oP,d])
  rw [d]at a;have s:=inB_iff.1 d;obtain⟨z,hz⟩ :∃z,c[y.toNat]?=some z:= ⟨_,kR (by omega)⟩;have j:=aCV b hz;refine(aMO p ks ks.length c k i i y true z sd sd sd sd sd a rfl (by omega) (by omega) hz sd sd).ends ?_;have e:c.getD y.toNat 0=z:=by rw [nY,hz];rfl
  have n:oP ((i:Int) +1) p.nodes.length (y::t) c=oP ((i:Int) +1) p.nodes.length t (c.set y.toNat (z+1)) :=by
   rw [oP,if_pos d,e]
  rw [n];refine bF2 p i o m ks hk K B hB g hb t (k+1) (c.set y.toNat (z+1)) (by simpa using hc) (by omega) ?_ r;have:=aH8 b hz;intro q l;have:=this q l
  push_cast
  omega
def vB :List Node→Nat
 | [] =>0
 |x::t=>x.kids.length+vB t
theorem aF7 :∀ (t:List Node),(∀x∈t,x.kids.length≤10) →vB t≤10*t.length
 | [],_=>by simp [vB]
 | x::t,h=>by
  have a:=aF7 t (fun y c=>h y (cH _ c));have b:=h x (cQ ..);simp only [vB,mO];omega
theorem bF1 (p:Prog)(hp:aF p=true)(d:p.nodes.length≤1000) :∀ (t:List Node) (i:Nat) (c:List Int) (B:Int),0≤B→B+vB t≤100000→c.length=p.nodes.length→below B c→p.nodes.drop i=t →
  Ends PP 0 (qB p c (i:Int)).as (.ret (.bool (rA (nD p i t c)))) (aA [] 0)
 | [],i,c,B,b,e,hc,hb,h=>by
  have:=bL h;exact Ends.eqv (aMM p c i _ sd (aTT c (by omega))) rfl
 | x::t,i,c,B,b,e,hc,hb,h=>by
  obtain⟨f,j,l⟩ :=bI h;have g:bD x=true:=by
   simp only [aF,cP]at hp;exact zq27.1 hp.2 x (kS f)
  simp only [bD,cP,decide_eq_true_eq]at g;simp only [vB]at e;refine(aML p c i x sd sd sd).ends ?_;refine Ends.eqv (bF2 p i l d x.kids (by omega) (fun v=>rA (nD p (i+1) t v)) B b (by omega) (fun v k a=>bF1 p hp d t (i+1) v (B+x.kids.length) (by omega) (by omega) k a j) x.kids 0 c hc (by omega) (by simpa using hb) rfl) ?_;rw [nD];cases oP ((i:Int) +1) (p.nodes.length:Int) x.kids c<;>rfl
theorem bF0 (p:Prog)(hp:aF p=true)(f:p.nodes.length≤1000)(d:vB p.nodes≤10000)(n:p.funs.length≤1000) :∀ (t:List Int) (i:Nat) (c:List Int),i≤p.funs.length→c.length=p.nodes.length→below (i:Int) c→p.funs.drop i=t →
  Ends PP 0 (uZ p (i:Int) c).as (.ret (.bool (match oP 0 p.nodes.length t c with|some v=>rA (nD p 0 p.nodes v) |none=>false))) (aA [] 0)
 | [],i,c,l,hc,hb,h=>by
  have:=bL h;refine(aMK p i c sd).ends ?_;exact bF1 p hp f p.nodes 0 c i (by omega) (by omega) hc hb rfl
 | y::t,i,c,l,hc,hb,h=>by
  obtain⟨r,m,s⟩ :=bI h;have a:=gK y 0 ((p.nodes.length:Int) -1);cases b:eB y 0 ((p.nodes.length:Int) -1)
  case false=>
   rw [b]at a;exact Ends.eqv (aMI p i c y false sd sd sd sd a rfl) (by simp [oP,b])
  rw [b]at a;have o:=inB_iff.1 b;obtain⟨z,hz⟩ :∃z,c[y.toNat]?=some z:= ⟨_,kR (by omega)⟩;have g:=aCV hb hz;refine(aMJ p i c y true z sd sd sd sd a rfl (by omega) (by omega) hz sd sd).ends ?_;have e:c.getD y.toNat 0=z:=by rw [nY,hz];rfl
  have k:oP 0 p.nodes.length (y::t) c=oP 0 p.nodes.length t (c.set y.toNat (z+1)) :=by
   rw [oP,if_pos b,e]
  rw [k];refine bF0 p hp f d n t (i+1) (c.set y.toNat (z+1)) (by omega) (by simpa using hc) ?_ m;have:=aH8 hb hz;intro q j;have:=this q j
  push_cast
  omega
def dP (p:Prog) :Bool:=
 eA p&&decide (p.cons.length≤20) &&p.cons.all fM&&pC (bE p.cons) &&p.nodes.all (aP p) &&
  (match oP 0 (p.nodes.length:Int) p.funs (replicate p.nodes.length 0)with
  |some v=>rA (nD p 0 p.nodes v)
  |none=>false)
theorem aMV {p:Prog}(hp:aF p=true) :∀x∈p.nodes,x.kids.length≤10∧x.pats.length≤10:=fun x a=>by
 simp only [aF,cP]at hp;have:=zq27.1 hp.2 x a;simp only [bD,cP,decide_eq_true_eq]at this;exact this.1
theorem aJY (p:Prog)(hp:aF p=true) :aM PP 88 [Prog.av p] (.bool (dP p)) :=by
 refine aJ aC rfl rfl ?_;have k:=hp;simp only [aF,cP,decide_eq_true_eq]at k;obtain⟨⟨⟨⟨s,r⟩,v⟩,_⟩,_⟩ :=k;have a:=aMV hp;by_cases j:p.nodes.length≤300
 · by_cases u:1≤p.funs.length
   · by_cases t:p.funs.length≤p.nodes.length
     · have kk:eB (p.funs.length:Int) 1 (p.nodes.length:Int) =true:=inB_iff.2 ⟨by omega,by omega⟩;by_cases l:p.cons.length≤20
       · have b:=gK p.main 0 ((p.funs.length:Int) -1);cases i:eB p.main 0 ((p.funs.length:Int) -1)
         case false=>
          rw [i]at b;exact Ends.eqv (aMD p false sd sd sd sd sd b rfl) (by simp [dP,eA,i])
         rw [i]at b;have m:eA p=true:=by simp [eA,j,kk,i]
         have hc:=aTR p.cons (by omega);cases f:p.cons.all fM
         case false=>
          rw [f]at hc;exact Ends.eqv (aME p true false sd sd sd sd sd b rfl hc rfl) (by simp only [dP,f,Bool.and_false,Bool.false_and])
         rw [f]at hc;have hm:=aTU p.cons (by omega);have c:=aJX (bE p.cons) (by simp [bE];omega);cases e:pC (bE p.cons)
         case false=>
          rw [e]at c;exact Ends.eqv (aMF p true true (bE p.cons) false sd sd sd sd sd b rfl hc rfl hm c rfl) (by simp only [dP,e,Bool.and_false,Bool.false_and])
         rw [e]at c;have g:=aTS p.nodes p (by omega) (fun x h=>aPC p x (by omega) (by omega) (a x h).2 (a x h).1);cases d:p.nodes.all (aP p)
         case false=>
          rw [d]at g;exact Ends.eqv (aMG p true true (bE p.cons) true false sd sd sd sd sd b rfl hc rfl hm c rfl g rfl) (by simp only [dP,d,Bool.and_false,Bool.false_and])
         rw [d]at g;refine(aMH p true true (bE p.cons) true true sd sd sd sd sd b rfl hc rfl hm c rfl g rfl (by omega)).ends ?_;have o:=aF7 p.nodes (fun x h=> (a x h).1);refine Ends.eqv (bF0 p hp (by omega) (by omega) (by omega) p.funs 0 _ (by omega) (by simp) ?_ rfl) ?_
         · intro q n;have:= (List.mem_replicate.1 n).2;omega
         ·simp only [dP,m,decide_eq_true l,f,e,d,nX] <;>rfl
       ·exact Ends.eqv (aMC p sd sd sd sd) (by simp [dP,l])
     · have kk:eB (p.funs.length:Int) 1 (p.nodes.length:Int) =false:=inB_not.2 (by omega);exact Ends.eqv (aMB p sd sd sd) (by simp [dP,eA,kk])
   · have kk:eB (p.funs.length:Int) 1 (p.nodes.length:Int) =false:=inB_not.2 (by omega);exact Ends.eqv (aMA p sd sd) (by simp [dP,eA,kk])
 ·exact Ends.eqv (aMz p sd) (by simp [dP,eA,j])
theorem aMW (p:Prog)(hp:aF p=true) :aM PP 45 [Prog.av p] (.int .i64 (checkN (dP p))) :=by
 refine aJ aC rfl rfl ?_;have h:=aJY p hp;cases k:dP p
 case false=>rw [k]at h;exact aPy p false h rfl
 rw [k]at h;exact aPz p true h rfl
def cnt (b:Bool) :Int:=if b=true then 1 else 0
def vC (u:List Bool) :List Int:=u.map cnt
def aAQ (c:List Int) :Prop:= (∃ (i:Nat) (z:Int),c[i]?=some z∧2≤z) ∧∀z∈c,0≤z
theorem aMX {c:List Int}(h:aAQ c) :c.all one=false:=by
 obtain⟨⟨i,z,a,b⟩,_⟩ :=h;cases k:c.all one
 case false=>rfl
 have:=zq27.1 k z (kS a);simp only [one,decide_eq_true_eq]at this;omega
theorem aPD {c:List Int}{j:Nat}(h:aAQ c) :aAQ (c.set j (c.getD j 0+1)) :=by
 obtain⟨⟨i,z,a,l⟩,b⟩ :=h;have d:= (zq0.1 a).1;refine⟨⟨i,if j=i then z+1 else z,?_,by split<;>omega⟩,fun q f=>?_⟩
 · rw [List.getElem?_set];by_cases e:j=i
   · subst e;rw [if_pos rfl,if_pos d,if_pos rfl,nY,a];rfl
   ·rw [if_neg e,if_neg e];exact a
 · rcases List.mem_or_eq_of_mem_set f with g|g
   ·exact b q g
   · rw [g,nY];cases k:c[j]? with
     |none=>simp
     |some w=>have:=b w (kS k);simp;omega
theorem xX {lo n:Int}:∀ {a c:List Int} {d:List Int},aAQ c→oP lo n a c=some d→aAQ d
 | [],c,d,h,e=>by simp only [oP,Option.some.injEq]at e;rw [←e];exact h
 | k::a,c,d,h,e=>by
  simp only [oP]at e;split at e
  ·exact xX (aPD h) e
  ·cases e
theorem aMY (u:List Bool) :∀z∈vC u,0≤z:=fun z hz=>by
 obtain⟨b,_,rfl⟩ :=zq24.1 hz;cases b<;>simp [cnt]
theorem aAR {lo n:Int}(h:0≤lo) :∀ (b:List Int) (u:List Bool),n≤u.length →
  (∀v,marks lo n b u=some v→oP lo n b (vC u) =some (vC v)) ∧ (marks lo n b u=none→∀d,oP lo n b (vC u) =some d→aAQ d)
 | [],u,i=>by
  simp only [marks,oP,Option.some.injEq];exact⟨fun v e=>by rw [e],fun e=>by cases e⟩
 | k ::b,u,i=>by
  simp only [marks,oP];by_cases c:eB k lo (n-1) =true
  · have hk:=inB_iff.1 c;have f:k.toNat<u.length:=by omega
    have a:u[k.toNat]?=some u[k.toNat] :=kR f;have hc: (vC u).getD k.toNat 0=cnt u[k.toNat] :=by
     rw [nY,vC,rM,a];rfl
    rw [if_pos c];cases hb:u[k.toNat]
    case false=>
     rw [hb]at a hc;rw [if_pos ⟨c,a⟩];have e: (vC u).set k.toNat ((vC u).getD k.toNat 0+1) =vC (u.set k.toNat true) :=by
      rw [hc,vC,vC,map_set];rfl
     rw [e];exact aAR h b (u.set k.toNat true) (by simpa using i)
    rw [hb]at a hc;rw [if_neg (by rw [a];simp)];refine And.intro (fun v e=>nomatch e) (fun _ d e=>xX (And.intro ⟨k.toNat,2,?_,by omega⟩ ?_) e)
    ·rw [hc,List.getElem?_set_self (by simp [vC];exact f)];rfl
    · intro z hz;rcases List.mem_or_eq_of_mem_set hz with g|g
      ·exact aMY u z g
      ·rw [g,hc];simp [cnt]
  · rw [if_neg c,if_neg (fun g=>c g.1)];exact And.intro (fun v e=>nomatch e) (fun _ d e=>nomatch e)
theorem rZ (p:Prog) :∀ (t:List Node) (i:Nat) (c:List Int),aAQ c→rA (nD p i t c) =false
 | [],i,c,h=>by rw [nD];exact aMX h
 | x::t,i,c,h=>by
  rw [nD];cases e:oP ((i:Int) +1) (p.nodes.length:Int) x.kids c with
  |none=>rfl
  |some d=>exact rZ p t (i+1) d (xX h e)
theorem aH9 :∀ (u:List Bool),(vC u).all one=u.all fun b=>b
 | [] =>rfl
 | b::u=>by
  have:=aH9 u;simp only [vC,eI,all_cons]at this ⊢;rw [this];cases b<;>simp [cnt,one]
theorem aMZ (p:Prog) :∀ (t:List Node) (i:Nat) (u:List Bool),u.length=p.nodes.length→t.all (aP p) =true→allT (bT p i t u) =rA (nD p i t (vC u))
 | [],i,u,b,_=>by simp only [bT,nD,allT,rA,aH9]
 | x::t,i,u,b,a=>by
  simp only [all_cons,cP]at a;obtain⟨e,f⟩ :=aAR (lo:= (i:Int) +1) (n:= (p.nodes.length:Int)) (by omega) x.kids u (by omega);simp only [bT,nD,if_pos a.1];cases hm:marks ((i:Int) +1) (p.nodes.length:Int) x.kids u
  case some v=>
   rw [e v hm];exact aMZ p t (i+1) v (by rw [kB hm,b]) a.2
  cases c:oP ((i:Int) +1) (p.nodes.length:Int) x.kids (vC u)with
  |none=>rfl
  |some d=>exact(rZ p t (i+1) d (f hm d c)).symm
theorem aBV (p:Prog) :∀ (t:List Node) (i:Nat) (u:List Bool),t.all (aP p) =false→allT (bT p i t u) =false
 | [],i,u,h=>by simp at h
 | x ::t,i,u,h=>by
  simp only [bT];by_cases a:aP p x=true
  · rw [if_pos a];have b:t.all (aP p) =false:=by simpa [a]using h
    cases marks ((i:Int) +1) (p.nodes.length:Int) x.kids u with
    |none=>rfl
    |some v=>exact aBV p t (i+1) v b
  ·rw [if_neg a];rfl
theorem aTV (p:Prog) :dP p=aK p:=by
 have g:dP p= (eA p&&xU p.cons&& (p.nodes.all (aP p) && (match oP 0 (p.nodes.length:Int) p.funs (replicate p.nodes.length 0)with
  |some v=>rA (nD p 0 p.nodes v)
  |none=>false))) :=by
  unfold dP xU;cases eA p<;>cases p.cons.all fM<;>cases pC (bE p.cons) <;>cases p.nodes.all (aP p) <;>cases decide (p.cons.length≤20) <;>simp
 rw [g,aK];congr 1;have b:replicate p.nodes.length (0:Int) =vC (replicate p.nodes.length false) :=by rw [vC,List.map_replicate];rfl
 rw [b];obtain⟨e,f⟩ :=aAR (lo:=0) (n:= (p.nodes.length:Int)) (by omega) p.funs (replicate p.nodes.length false) (by simp);cases hm:marks 0 (p.nodes.length:Int) p.funs (replicate p.nodes.length false)
 case some v=>
  rw [e v hm];cases a:p.nodes.all (aP p)
  case true=>simp only [nX];exact(aMZ p p.nodes 0 v (by rw [kB hm];simp) a).symm
  simp only [Bool.false_and];exact(aBV p p.nodes 0 v a).symm
 simp only;cases c:oP 0 (p.nodes.length:Int) p.funs (vC (replicate p.nodes.length false))with
 |none=>simp
 |some d=>simp only [rZ p p.nodes 0 d (f hm d c),Bool.and_false]
def zE(d e:Int)(f:bX)(a:List Pat)(b c:Int):TS:=⟨(tf 177 22 [(2,(nI 0)),(3,(nI b)),(10,(iP a)),(11,(nI (a.length:Int))),(12,(nI c))] [kc f177 244,kl f177 244,.inBlock 0,kc f177 31]),[],[],0⟩
def aPE(a:Node)(b:Int):=tT 0 (start PP 134 [(Node.av a),(nI b)])<|.b 13 9 (a.op==5) (gE 21 1 (nI 1))<|.b 5 14 (a.op==27) (gE 16 1 (nI 1))<|.b 4 18 (a.op==7) (.b 6 5 (b==1) (gE 6 1 (nI 1))<|.b 7 27 (a.op==15) (gd 5 23 (b>0) (gw 7 34 (b-1)<|rX 0 a.pats (b-1)<|fun c d e f=>gpI 1 177 [(.agg [(nI c),(nI d),(dR e),(iP f)])]<|fun g=>gE 3 1 (nI g))<|gE 8 1 (nI 0))<|gE 13 1 (nI 0))<|.b 13 27 (a.op==15) (gd 5 23 (b>0) (gw 7 34 (b-1)<|rX 0 a.pats (b-1)<|fun c d e f=>gpI 1 177 [(.agg [(nI c),(nI d),(dR e),(iP f)])]<|fun g=>gE 3 1 (nI g))<|gE 8 1 (nI 0))<|gE 13 1 (nI 0)
def aTW:=fun a b c=>aPE a b|>.t c tv
def aTX:=fun a b c d=>aPE a b|>.f c|>.t d tv
def aTY:=fun a b c d e f=>aPE a b|>.f c|>.f d|>.t e|>.t f tv
def aTZ:=fun a b c d e f g=>aPE a b|>.f c|>.f d|>.t e|>.f f|>.f g tv
def aT0:=fun a b c d e f g i j k l m n o p q=>aPE a b|>.f i|>.f j|>.f k|>.t l|>.t m n c d e f o p g q tv
def aT1:=fun a b c d e f g=>aPE a b|>.f c|>.f d|>.f e|>.t f|>.f g tv
def aT2:=fun a b c d e f=>aPE a b|>.f c|>.f d|>.f e|>.f f tv
def bGk(a c:Int)(d:bX)(b:List Pat):=tT 0 (start PP 177 [(.agg [(nI a),(nI c),(dR d),(iP b)])])<|.b 12 8 (a==2) (gE 6 1 (nI 1))<|gm 11 aE b<|.W 4 1 [] (zE a c d b 0 0)
def aPF:=fun a b c d e=>bGk a b c d|>.t e tv
def aPG:=fun a b c d e=>bGk a b c d|>.f e tv
def bGl(d e:Int)(f:bX)(b:List Pat)(c a:Int):=tT 0 (zE d e f b c a)<|gd 5 13 (a< (b.length:Int)) (rX 6 b a<|fun i j k l=>gpI 7 177 [(.agg [(nI i),(nI j),(dR k),(iP l)])]<|fun g=>gw 1 19 (c+g)<|gw 5 20 (a+1)<|.W 3 1 [] (zE d e f b (c+g) (a+1)))<|gE 8 0 (nI c)
def aPH:=fun a b c d e f g i j k l m n o p q r=>bGl a b c d e f|>.t m g i j k n o l p q r tv
def aPI:=fun a b c d e f g=>bGl a b c d e f|>.f g tv
def sW(a b:Int)(c:bX)(d:List Pat)(e f:Int):TS:=⟨(tf 163 24 [kp 1 0,(2,(nI 0)),(3,(nI e)),(4,(nI f))] [kc f163 244,kl f163 244,.inBlock 0,kc f163 31]),[],[oC 0 [(nI a),(nI b),(dR c),(iP d)]],1⟩
def aT3(a:Node)(b:Int):=tT 0 (start PP 121 [(Node.av a),(nI b)])<|.b 18 7 (a.op==5) (gE 8 1 (nI 1))<|.b 5 7 (a.op==27) (gE 6 1 (nI 1))<|.b 6 10 (a.op==7) (gE 7 1 (nI b))<|.b 6 13 (a.op==15) (gd 6 16 (b>0) (gw 7 20 (b-1)<|rX 0 a.pats (b-1)<|fun c d e f=>gpI 1 163 [(.agg [(nI c),(nI d),(dR e),(iP f)])]<|fun g=>gE 3 1 (nI g))<|gE 8 1 (nI 0))<|gE 8 1 (nI 0)
def aT4:=fun a b c=>aT3 a b|>.t c tv
def aT5:=fun a b c d=>aT3 a b|>.f c|>.t d tv
def aT6:=fun a b c d e=>aT3 a b|>.f c|>.f d|>.t e tv
def aT7:=fun a b c d e f g i j k l m n o p q=>aT3 a b|>.f i|>.f j|>.f k|>.t l|>.t m n c d e f o p g q tv
def aT8:=fun a b c d e f g=>aT3 a b|>.f c|>.f d|>.f e|>.t f|>.f g tv
def aT9:=fun a b c d e f=>aT3 a b|>.f c|>.f d|>.f e|>.f f tv
def bGm(a b:Int)(c:bX)(d:List Pat):=tT 0 (start PP 163 [(.agg [(nI a),(nI b),(dR c),(iP d)])])<|.b 16 7 (a==2) (.W 11 1 [0] (sW a b c d 1 0))<|.W 9 1 [0] (sW a b c d 0 0)
def aPJ:=fun a b c d e=>bGm a b c d|>.t e tv
def aPK:=fun a b c d e=>bGm a b c d|>.f e tv
def bGn(d e:Int)(f:bX)(a:List Pat)(c b:Int):=tT 0 (sW d e f a c b)<|gm 6 aE a<|gd 2 12 (b< (a.length:Int)) (rX 9 a b<|fun i j k l=>gpI 1 163 [(.agg [(nI i),(nI j),(dR k),(iP l)])]<|fun g=>gw 1 22 (c+g)<|gw 6 14 (b+1)<|.W 3 1 [0] (sW d e f a (c+g) (b+1)))<|gE 8 1 (nI c)
def aPL:=fun a b c d e f g i j k l m n o p q r=>bGn a b c d e f|>.t m g i j k n o l p q r tv
def aPM:=fun a b c d e f g=>bGn a b c d e f|>.f g tv
theorem Ends.val {P:Program}{m:Nat}{s:AS}{v v':AV}{h':Hp}(h:Ends P m s (.ret v) h')(p:∀E b,VR E v b→VR E v' b) :Ends P m s (.ret v') h':=fun hm E fr d w f fs r i a=>by
 obtain⟨c,k,n,j,⟨b,e,g⟩,o,l⟩ :=h hm E fr d w f fs r i a;exact⟨c,k,n,j,⟨b,e,p _ _ g⟩,o,l⟩
theorem qD {E:Emb}{e:Nat}{xs:List AV}{cv:Value}(h:VR E (.ilst e xs true) cv) :VR E (.ilst e xs false) cv:=by
 simp only [VR]at h ⊢;obtain⟨n,g,l,i⟩ :=h;refine⟨n,g,l,?_⟩;rcases i with⟨d,a,b,f,c,j⟩ | ⟨k,a,b,C,d,f,c,j,m⟩
 ·exact .inl ⟨d,a,b,f,c,fun e=> (by cases e)⟩
 ·exact .inr ⟨k,a,b,C,d,f,c,fun e=> (by cases e),m⟩
mutual
def bnm :Pat→Int
 | .mk f _ _ ps=>if f=2 then 1 else aAb ps
def aAb :List Pat→Int
 | [] =>0
 |p::ps=>bnm p+aAb ps
end
mutual
def rnm :Pat→Int
 | .mk f _ _ ps=> (if f=2 then 1 else 0) +aCW ps
def aCW :List Pat→Int
 | [] =>0
 |p::ps=>rnm p+aCW ps
end
mutual
theorem aF9 :∀p,0≤bnm p∧bnm p≤bZ p
 | .mk f _ _ a=>by
  have:=zG a;simp only [bnm,bZ];split<;>omega
theorem zG :∀a,0≤aAb a∧aAb a≤bG a
 | [] =>by simp [aAb,bG]
 | p::a=>by
  have:=aF9 p;have:=zG a;simp only [aAb,bG];omega
end
mutual
theorem aWD :∀p,0≤rnm p∧rnm p≤bZ p
 | .mk f _ _ a=>by
  have:=aEk a;simp only [rnm,bZ];split<;>omega
theorem aEk :∀a,0≤aCW a∧aCW a≤bG a
 | [] =>by simp [aCW,bG]
 | p::a=>by
  have:=aWD p;have:=aEk a;simp only [aCW,bG];omega
end
mutual
theorem aWE (cons:List Con) :∀p,eC cons p=true→bnm p=rnm p
 | .mk f n s a,h=>by
  simp only [eC,cP]at h;have:=aWF cons a h.2;simp only [bnm,rnm];by_cases g:f=2
  · have hk:=h.1;subst g;simp only [eK]at hk;simp at hk;obtain⟨⟨hk,_⟩,_⟩ :=hk;subst hk;simp [aCW]
  ·rw [if_neg g,if_neg g,this];omega
theorem aWF (cons:List Con) :∀a,dA cons a=true→aAb a=aCW a
 | [],_=>rfl
 | p::a,h=>by
  simp only [dA,cP]at h;simp only [aAb,aCW,aWE cons p h.1,aWF cons a h.2]
end
theorem aDE (f n:Int)(s:bX)(ps:List Pat)(hl:ps.length<1000000)(j:∀p∈ps,aM PP 177 [Pat.av p] (.int .i64 (bnm p))) :
  ∀ (t:List Pat) (i:Nat) (a:Int),0≤a→a+aAb t≤1000000→ps.drop i=t→Ends PP 0 (zE f n s ps a (i:Int)).as (.ret (.int .i64 (a+aAb t))) (aA [] 0)
 | [],i,a,_,_,h=>by
  have:=bL h;exact Ends.eqv (aPI f n s ps a i sd) (by simp [aAb])
 | .mk d e c b::t,i,a,o,hb,h=>by
  obtain⟨k,l,r⟩ :=bI h;have g:=j _ (kS k);have q:=aF9 (.mk d e c b);have m:=zG t;rw [aAb]at hb ⊢;refine(aPH f n s ps a i d e c b _ sd sd sd g sd sd).ends ?_;exact Ends.eqv (aDE f n s ps hl j t (i+1) (a+bnm (.mk d e c b)) (by omega) (by omega) l) (by rw [Int.add_assoc])
mutual
theorem aDF :∀ (p:Pat),bZ p<100000→aM PP 177 [Pat.av p] (.int .i64 (bnm p))
 | .mk f n s a,h=>by
  refine aJ aC (by simp [keylessL,lD]) rfl ?_;simp only [bZ]at h;have:=eH a;have b:=zG a;by_cases g:f=2
  · subst g;exact Ends.eqv (aPF 2 n s a rfl) (by simp [bnm])
  · refine(aPG f n s a (by simpa using g)).ends ?_;exact Ends.eqv (aDE f n s a (by omega) (aGa a (by omega)) a 0 0 (by omega) (by omega) rfl) (by simp [bnm,g])
theorem aGa :∀ (b:List Pat),bG b<100000→∀p∈b,aM PP 177 [Pat.av p] (.int .i64 (bnm p))
 | [],_,p,a=>by cases a
 | q::b,h,p,a=>by
  simp only [bG]at h;rcases zq7.1 a with e|a
  ·rw [e];exact aDF q (by omega)
  ·exact aGa b (by omega) p a
end
theorem xY (f n:Int)(s:bX)(ps:List Pat)(hl:ps.length<1000000)(j:∀p∈ps,aM PP 163 [Pat.av p] (.int .i64 (rnm p))) :
  ∀ (t:List Pat) (i:Nat) (a:Int),0≤a→a+aCW t≤1000000→ps.drop i=t→Ends PP 0 (sW f n s ps a (i:Int)).as (.ret (.int .i64 (a+aCW t))) (aA [] 0)
 | [],i,a,_,_,h=>by
  have:=bL h;exact Ends.eqv (aPM f n s ps a i sd) (by simp [aCW])
 | .mk d e c b::t,i,a,o,hb,h=>by
  obtain⟨k,l,r⟩ :=bI h;have g:=j _ (kS k);have q:=aWD (.mk d e c b);have m:=aEk t;rw [aCW]at hb ⊢;refine(aPL f n s ps a i d e c b _ sd sd sd g sd sd).ends ?_;exact Ends.eqv (xY f n s ps hl j t (i+1) (a+rnm (.mk d e c b)) (by omega) (by omega) l) (by rw [Int.add_assoc])
mutual
theorem aDG :∀ (p:Pat),bZ p<100000→aM PP 163 [Pat.av p] (.int .i64 (rnm p))
 | .mk f n s a,h=>by
  refine aJ aC (by simp [keylessL,lD]) rfl ?_;simp only [bZ]at h;have:=eH a;have b:=aEk a;by_cases g:f=2
  · subst g;refine(aPJ 2 n s a rfl).ends ?_;exact Ends.eqv (xY 2 n s a (by omega) (aAS a (by omega)) a 0 1 (by omega) (by omega) rfl) (by simp [rnm])
  · refine(aPK f n s a (by simpa using g)).ends ?_;exact Ends.eqv (xY f n s a (by omega) (aAS a (by omega)) a 0 0 (by omega) (by omega) rfl) (by simp [rnm,g])
theorem aAS :∀ (b:List Pat),bG b<100000→∀p∈b,aM PP 163 [Pat.av p] (.int .i64 (rnm p))
 | [],_,p,a=>by cases a
 | q::b,h,p,a=>by
  simp only [bG]at h;rcases zq7.1 a with e|a
  ·rw [e];exact aDG q (by omega)
  ·exact aAS b (by omega) p a
end
def dJ (x:Node)(k:Int) :Int:=
 if x.op=5∨x.op=27∨ (x.op=7∧k=1)then 1
 else if x.op=15∧k>0 then(match x.pats[(k-1).toNat]? with|some q=>bnm q|none=>0)else 0
structure FineN (cons:List Con) (x:Node) :Prop where
 pats:∀q∈x.pats,bZ q≤12∧eC cons q=true
 mat:x.op=15→x.kids.length=1+x.pats.length
 let2:x.op=7→x.kids.length=2
theorem aJZ {p:Prog}{x:Node}(h:aP p x=true) :FineN p.cons x:=by
 simp only [aP,cP,decide_eq_true_eq]at h;obtain⟨⟨_,b⟩,a⟩ :=h;refine⟨fun q c=>?_,fun e=>?_,fun e=>?_⟩
 · have:=zq27.1 b q c;simpa [iL]using this
 ·rw [e]at a;simp [cM]at a;omega
 ·rw [e]at a;simp [cM]at a;omega
theorem aM0 {cons:List Con}{x:Node}(a:FineN cons x)(k:Int) :0≤dJ x k∧dJ x k≤12:=by
 unfold dJ;split
 ·omega
 · split
   · split
     · rename_i q b;have:= (a.pats q (kS b)).1;have:=aF9 q;omega
     ·omega
   ·omega
theorem aIa {x:Node}{k:Int}(a:x.op=15)(hk:k>0){q:Pat}(b:x.pats[(k-1).toNat]?=some q) :dJ x k=bnm q:=by
 unfold dJ;rw [if_neg (by rw [a];omega),if_pos ⟨a,hk⟩,b]
theorem aPN {cons:List Con}{x:Node}(j:FineN cons x){k:Int}(o:0≤k)(h1:k<x.kids.length)(hk:x.kids.length≤10) :aM PP 134 [Node.av x,.int .i64 k] (.int .i64 (dJ x k)) :=by
 refine aJ aC rfl rfl ?_
 have m:x.op=15→k>0→∃f n s h,x.pats[(k-1).toNat]?=some (.mk f n s h) ∧aM PP 177 [Pat.av (.mk f n s h)] (.int .i64 (bnm (.mk f n s h))) :=fun e g=>by
  have hl:=j.mat e;obtain⟨q,i⟩ :∃q,x.pats[(k-1).toNat]?=some q:= ⟨_,kR (by omega)⟩;obtain⟨f,n,s,h⟩ :=q;have:= (j.pats _ (kS i)).1;exact⟨f,n,s,h,i,aDF _ (by omega)⟩
 by_cases c:x.op=5
 ·exact Ends.eqv (aTW x k (by simp [c])) (by simp [dJ,c])
 · by_cases a:x.op=27
   ·exact Ends.eqv (aTX x k (by simp [c]) (by simp [a])) (by simp [dJ,a])
   · by_cases d:x.op=7
     · by_cases gk:k=1
       ·exact Ends.eqv (aTY x k (by simp [c]) (by simp [a]) (by simp [d]) (by simp [gk])) (by simp [dJ,d,gk])
       ·exact Ends.eqv (aTZ x k (by simp [c]) (by simp [a]) (by simp [d]) (by simp [gk]) (by simp [d])) (by simp [dJ,d,gk])
     · by_cases b:x.op=15
       · by_cases gk:k>0
         · obtain⟨f,n,s,h,i,l⟩ :=m b gk;exact Ends.eqv (aT0 x k f n s h _ (by simp [c]) (by simp [a]) (by simp [d]) (by simp [b]) (by simpa using gk) sd (by omega) i l) (by rw [aIa b gk i])
         ·exact Ends.eqv (aT1 x k (by simp [c]) (by simp [a]) (by simp [d]) (by simp [b]) (by simpa using gk)) (by simp [dJ,b,gk])
       ·exact Ends.eqv (aT2 x k (by simp [c]) (by simp [a]) (by simp [d]) (by simp [b])) (by simp [dJ,c,a,d,b])
theorem aPO {cons:List Con}{x:Node}(h:FineN cons x){k:Int}(l:0≤k)(h1:k<x.kids.length)(hk:x.kids.length≤10) :aM PP 121 [Node.av x,.int .i64 k] (.int .i64 (dJ x k)) :=by
 refine aJ aC rfl rfl ?_;by_cases d:x.op=5
 ·exact Ends.eqv (aT4 x k (by simp [d])) (by simp [dJ,d])
 · by_cases a:x.op=27
   ·exact Ends.eqv (aT5 x k (by simp [d]) (by simp [a])) (by simp [dJ,a])
   · by_cases c:x.op=7
     · have:=h.let2 c;refine Ends.eqv (aT6 x k (by simp [d]) (by simp [a]) (by simp [c])) ?_;by_cases gk:k=1
       ·simp [dJ,c,gk]
       · have:k=0:=by omega
         simp [dJ,c,this]
     · by_cases b:x.op=15
       · by_cases gk:k>0
         · have hl:=h.mat b;obtain⟨q,g⟩ :∃q,x.pats[(k-1).toNat]?=some q:= ⟨_,kR (by omega)⟩;obtain⟨f,n,s,i⟩ :=q;have e:=h.pats _ (kS g);have j:=aDG (.mk f n s i) (by omega);rw [←aWE cons _ e.2]at j;exact Ends.eqv (aT7 x k f n s i _ (by simp [d]) (by simp [a]) (by simp [c]) (by simp [b]) (by simpa using gk) sd (by omega) g j) (by rw [aIa b gk g])
         ·exact Ends.eqv (aT8 x k (by simp [d]) (by simp [a]) (by simp [c]) (by simp [b]) (by simpa using gk)) (by simp [dJ,b,gk])
       ·exact Ends.eqv (aT9 x k (by simp [d]) (by simp [a]) (by simp [c]) (by simp [b])) (by simp [dJ,d,a,c,b])
abbrev bGo:=[oC 1 [(bV false)],oC 2 [(nI 0)],(3,(.loop .ready none 46 (dN [kp 1 7,kp 2 1,kp 3 2]) 32 [15] (kd f46 116) (kd f46 117) 4),false),(4,(.defd false),false),oC 5 [(.yield 3)]]
abbrev bAi (a:Nat)(b:Prog):=oC a [(iN b.nodes),(iI b.funs),(nI b.main),(iC b.cons)]
abbrev bGp (a:Prog)(b c d:Int):=aA [oC 0 [(.func 133 [] [(.ptr 5 0),(.ptr 6 0),(.ptr 0 0)])],oC 1 [(bV false)],oC 2 [(nI 0)],(3,(.loop .done (some .ret) 46 (dN [kp 1 7,kp 2 1,kp 3 2]) 32 [15] (kd f46 116) (kd f46 117) 4),false),(4,(.defd false),false),oC 5 [(.yield 3)],bAi 6 a,bAi 7 a,oC 8 [(nI b),(nI c),(nI d)]] 9
abbrev bAj (a:Prog)(b c d:Int):=aA ([oC 0 [(.func 133 [] [(.ptr 5 0),(.ptr 6 0),(.ptr 0 0)])]]++bGo++[bAi 6 a,bAi 7 a,oC 8 [(nI b),(nI c),(nI d)]]) 9
abbrev aGb (a:Nat):=oC a [(.func 133 [] [(.ptr 5 0),(.ptr 6 0),(.ptr 0 0)])]
abbrev qM (a:Nat)(b:Prog):=oC a [(iN b.nodes),(iI b.funs),(nI b.main),(iC b.cons)]
def bDD(a:Prog):TS:=cA PP 46 [(Prog.av a)] [] 0
def aJ0(a:Prog)(b:Int):TS:=⟨(tf 132 23 [kp 3 0,(9,(iI a.funs)),(10,(nI (a.funs.length:Int))),(11,(nI b))] [kc f132 124,kl f132 124,.inBlock 0]),[(tf 46 32 [kp 2 1,kp 3 2] [.inRF 3,.inBlock 0,kc f46 15] (defers:=[.col 4]))],[aGb 0,oC 1 [(bV false)],oC 2 [(nI 0)],(3,(.loop .ready none 46 (dN [kp 1 7,kp 2 1,kp 3 2]) 32 [15] (kd f46 116) (kd f46 117) 4),false),(4,(.defd false),false),oC 5 [(.yield 3)],qM 6 a,qM 7 a],8⟩
def bHS(a:Prog):List (Nat×AObj×Bool):=[aGb 0,oC 1 [(bV false)],oC 2 [(nI 0)],(3,(.loop .done (some .ret) 46 (dN [kp 1 7,kp 2 1,kp 3 2]) 32 [15] (kd f46 116) (kd f46 117) 4),false),(4,(.defd false),false),oC 5 [(.yield 3)],qM 6 a,qM 7 a]
def aGc(a:Prog)(b c d:Int):TS:=cA PP 133 [(.agg [(nI b),(nI c),(nI d)]),(.ptr 5 0),(.ptr 6 0),(.ptr 0 0)] [aGb 0,oC 1 [(bV false)],oC 2 [(nI 0)],(3,(.loop .ready none 46 (dN [kp 1 7,kp 2 1,kp 3 2]) 32 [15] (kd f46 116) (kd f46 117) 4),false),(4,(.defd false),false),oC 5 [(.yield 3)],qM 6 a,qM 7 a] 8
def aBW(a:Prog)(b c d:Int)(e:List Int)(f g:Int):TS:=⟨(tf 133 46 [kp 2 6,kp 3 0,kp 4 8,(5,(bV false)),(19,(iI e)),(20,(nI f)),(21,(nI g))] [kc f133 116,kl f133 116,.inBlock 0,kc f133 15]),[],([aGb 0]++bGo++[qM 6 a,qM 7 a,oC 8 [(nI b),(nI c),(nI d)]]),9⟩
def bGq(a:Prog):=tT 0 (bDD a)<|gpI 10 45 [(Prog.av a)]<|fun b=>.b 7 10 (b != 0) (gE 8 3 (.tup [(bV false),(nI b)]))<|.i [rn 23,.lkeep 5 [1,2,3]] []<|gl 18 cC a.funs<|.W 4 8 [7,1,2,5,4,6,3,0] (aJ0 a 0)
def bAk:=fun a b c d=>bGq a b c|>.t d tv
def bAl:=fun a b c d=>bGq a b c|>.f d tv
def bEY(a:Prog)(b:Int):=tT 0 (aJ0 a b)<|gd 5 12 (b< (a.funs.length:Int)) (gX cC 7 a.funs b<|fun c=>.o (gk 10 (.enter 133 [(.agg [(nI c),(nI b),(nI 1)]),(.ptr 5 0),(.ptr 6 0),(.ptr 0 0)]) [aGb 0,oC 1 [(bV false)],oC 2 [(nI 0)],(3,(.loop .ready none 46 (dN [kp 1 7,kp 2 1,kp 3 2]) 32 [15] (kd f46 116) (kd f46 117) 4),false),(4,(.defd false),false),oC 5 [(.yield 3)],qM 6 a,qM 7 a] 8 (bV false) [aGb 0,oC 1 [(bV false)],oC 2 [(nI 0)],(3,(.loop .done (some .ret) 46 (dN [kp 1 7,kp 2 1,kp 3 2]) 32 [15] (kd f46 116) (kd f46 117) 4),false),(4,(.defd false),false),oC 5 [(.yield 3)],qM 6 a,qM 7 a] 8<|gE 8 8 (.tup [(bV false),(nI 0)]))<|gk 10 (.enter 133 [(.agg [(nI c),(nI b),(nI 1)]),(.ptr 5 0),(.ptr 6 0),(.ptr 0 0)]) [aGb 0,oC 1 [(bV false)],oC 2 [(nI 0)],(3,(.loop .ready none 46 (dN [kp 1 7,kp 2 1,kp 3 2]) 32 [15] (kd f46 116) (kd f46 117) 4),false),(4,(.defd false),false),oC 5 [(.yield 3)],qM 6 a,qM 7 a] 8 (bV true) [aGb 0,oC 1 [(bV false)],oC 2 [(nI 0)],(3,(.loop .ready none 46 (dN [kp 1 7,kp 2 1,kp 3 2]) 32 [15] (kd f46 116) (kd f46 117) 4),false),(4,(.defd false),false),oC 5 [(.yield 3)],qM 6 a,qM 7 a] 8<|gw 7 22 (b+1)<|.W 3 8 [0,1,2,3,4,5,6,7] (aJ0 a (b+1)))<|gE 13 8 (.tup [(bV true),(nI 0)])
def bAm:=fun a b c d e f g=>bEY a b|>.t d c e f|>.1 g tv
def bAn:=fun a b c d e f g i=>bEY a b|>.t d c e f|>.2 g i tv
def bAo:=fun a b c=>bEY a b|>.f c tv
def bEZ(a:Prog)(c e d:Int):=tT 8 (aGc a c e d)<|gX Node.av 23 a.nodes c<|fun b=>.b 10 25 (b.op==4) (gd 7 31 (b.n≥d) (.E 15 11 [] (bV false) [aGb 0,oC 1 [(bV false)],oC 2 [(nI 0)],(3,(.loop .done (some .ret) 46 (dN [kp 1 7,kp 2 1,kp 3 2]) 32 [15] (kd f46 116) (kd f46 117) 4),false),(4,(.defd false),false),oC 5 [(.yield 3)],qM 6 a,qM 7 a] 8)<|gi Node.av 16 a.nodes c b<|gl 2 cC b.kids<|.W 4 11 [8] (aBW a c e d b.kids (b.kids.length:Int) 0))<|gi Node.av 23 a.nodes c b<|gl 2 cC b.kids<|.W 4 11 [8] (aBW a c e d b.kids (b.kids.length:Int) 0)
def aWG:=fun a b c d e f g i j=>bEZ a b c d e f g|>.t i|>.t j tv
def aWH:=fun c d e f g a b i j=>bEZ c d e f g a b|>.t i|>.f j a b tv
def aWI:=fun c d e f g a b i=>bEZ c d e f g a b|>.f i a b tv
def bE0(a:Prog)(d b c:Int)(i:List Int)(j e:Int):=tT 8 (aBW a d b c i j e)<|gd 5 22 (e<j) (gX cC 7 i e<|fun k=>.o (.y fun f:Node=>.y fun g:Int=>.i [rn 5,.reg (rd 11 [.ans (.idx (Node.av f)),.d,.d,.pure (nI g),.d,.d,.call (bV false) (bGp a d b c),.d])] [hA (0≤d),.a (((a.nodes)[d.toNat]?) =some f) (bC (f:=Node.av)),hA (aM PP 134 [(Node.av f),(nI e)] (nI g)),hA (Spec PP (.enter 133 [(.agg [(nI k),(nI b),(nI (IntKind.i64.wrap (c+g)))]),(.ptr 5 0),(.ptr 6 0),(.ptr 0 0)]) (bAj a d b c) (.ret (bV false)) (bGp a d b c)),hr (nI c),hr (nI c),hr (nI b),hr (nI b),hr (func 133 [] [(.ptr 5 0),(.ptr 6 0),(.ptr 0 0)]),hr (func 133 [] [(.ptr 5 0),(.ptr 6 0),(.ptr 0 0)])]<|.E 6 9 [] (bV false) [aGb 0,oC 1 [(bV false)],oC 2 [(nI 0)],(3,(.loop .done (some .ret) 46 (dN [kp 1 7,kp 2 1,kp 3 2]) 32 [15] (kd f46 116) (kd f46 117) 4),false),(4,(.defd false),false),oC 5 [(.yield 3)],qM 6 a,qM 7 a] 8)<|.y fun f:Node=>.y fun g:Int=>.i [rn 5,.reg (rd 11 [.ans (.idx (Node.av f)),.d,.d,.pure (nI g),.d,.d,.call (bV true) (bAj a d b c),.d])] [hA (0≤d),.a (((a.nodes)[d.toNat]?) =some f) (bC (f:=Node.av)),hA (aM PP 134 [(Node.av f),(nI e)] (nI g)),hA (Spec PP (.enter 133 [(.agg [(nI k),(nI b),(nI (IntKind.i64.wrap (c+g)))]),(.ptr 5 0),(.ptr 6 0),(.ptr 0 0)]) (bAj a d b c) (.ret (bV true)) (bAj a d b c)),hr (nI c),hr (nI c),hr (nI b),hr (nI b),hr (func 133 [] [(.ptr 5 0),(.ptr 6 0),(.ptr 0 0)]),hr (func 133 [] [(.ptr 5 0),(.ptr 6 0),(.ptr 0 0)])]<|gw 5 45 (e+1)<|.W 3 9 [8] (aBW a d b c i j (e+1)))<|.E 7 9 [] (bV true) [aGb 0,oC 1 [(bV false)],oC 2 [(nI 0)],(3,(.loop .ready none 46 (dN [kp 1 7,kp 2 1,kp 3 2]) 32 [15] (kd f46 116) (kd f46 117) 4),false),(4,(.defd false),false),oC 5 [(.yield 3)],qM 6 a,qM 7 a] 8
def aWJ:=fun a b c d e f g i j k l m n o p q r=>bE0 a b c d e f g|>.t l i m n|>.1 j k o p q r tv
def aWK:=fun a b c d e f g i j k l m n o p q r s=>bE0 a b c d e f g|>.t l i m n|>.2 j k o p q r s tv
def aWL:=fun a b c d e f g i=>bE0 a b c d e f g|>.f i tv
structure FineP (p:Prog) :Prop where
 small:p.nodes.length≤320
 fsmall:p.funs.length≤320
 node:∀ (i:Nat) (x:Node),p.nodes[i]?=some x→FineN p.cons x∧x.kids.length≤10∧∀k∈x.kids,(i:Int) <k∧k<p.nodes.length
 funs:∀f∈p.funs,0≤f∧f<p.nodes.length
def bE1 (a fn sz:Int) :AV:=.agg [.int .i64 a,.int .i64 fn,.int .i64 sz]
section
variable (p :Prog) (mf mc:List (Int×Int))
variable {p mf mc}
end
theorem aIb {P:Program}{f:Nat}{b args':List AV}{v v':AV}{l l' lc lc':List (Nat×AObj×Bool)}{m nb a n2 n3:Nat}{ks:List Nat}
  (t:gI P m (.enter f b) (aA l nb) (.ret v) (aA l' a)) (w:a-m+n2=n3) (ev:ren (kE m n2 ks) v=v') (c:AV.renL (fA 0 nb n2 ks) b=args') (hm:ble m nb=true) (q:ble m a=true)
  (g:cR 0 ⟨⟨0,0,[],[],[],.run,.normal,none⟩,[],l,nb⟩ ks=true) (hl:sQ (aA lc n2) (fA 0 nb n2 ks) l=iF (fA 0 nb n2 ks) l) (h:fG l)
  (r:sQ (aA lc' n3) (kE m n2 ks) l'=iF (kE m n2 ks) l') (d:fG l') (i:xM l'=true:=by kernel_rfl) (n:fU a l'=true:=by kernel_rfl)
  (u:fU n2 lc=true:=by kernel_rfl) (s:fU n3 lc'=true:=by kernel_rfl) (j:ks.all (fun k=>blt k n2) =true:=by kernel_rfl) (e:aDu (namesT (kE m n2 ks) l') (l.map fun p=>ks.getD p.1 0) (aA lc n2) lc'=qL lc':=by kernel_rfl) (o:qL l'= (l'.map fun p=> (aA l' a).look p.1) :=by kernel_rfl) :
  Spec P (.enter f args') (aA lc n2) (.ret v') (aA lc' n3) :=by
 subst w ev;exact aVw t c hm q g hl h r d i n u s j e o
def bN (mf mc:List (Int×Int))(op n:Int) :Int:=if op=4 then(if 0≤n then n else -1-mAt mf (-1-n))else if op=14 then mAt mc n else n
def aWM (mf mc:List (Int×Int))(to:List Int)(x:Node) :Node:= ⟨x.op,bN mf mc x.op x.n,x.kids.map (aS3 to),aV2 mc x.pats⟩
section
variable (p :Prog) (mf mc:List (Int×Int)) (to:List Int)
variable {p mf mc to}
end
section
variable {P :Program}
def bGr (Q:Nat→AObj→Prop) :List (Nat×AObj×Bool) →Prop
 | [] =>True
 | (b,o,_) ::l=>Q b o∧bGr Q l
theorem bA {Q:Nat→AObj→Prop}:∀ {l:List (Nat×AObj×Bool)} {nb:Nat},bGr Q l→∀x o,(aA l nb).look x=some o→Q x o:=fun {l nb} hq x o e=>by
 obtain⟨f,hm⟩ :=hX e;clear e
 induction l with
 |nil=>cases hm
 | cons p l ih=>
  obtain⟨b,q,g⟩ :=p;rcases zq7.1 hm with h|h
  ·cases h;exact hq.1
  ·exact ih hq.2 h
theorem mF {α:Type}{m:Nat}{s:AS}{t:α→AS}{ok:α→Prop}{res:Res}{hf:Hp}(z:aAN s.h ok (fun x=> (t x).h))(hfr:∀x,(t x).fr=s.fr∧ (t x).cs=s.cs)(k:∀x,ok x→Ends P m (t x) res hf) :Ends P m s res hf:=
 aLO (fr:=s.fr) (cs:=s.cs) (h:=s.h) z (fun x hx=>by
  have h2:=k x hx;obtain⟨e1,e2⟩ :=hfr x;rw [←e1,←e2];exact h2)
theorem mG {m:Nat}{s t:AS}(z:kP s.h t.h)(hfr:t.fr=s.fr)(hcs:t.cs=s.cs) :LeadsM P m s t:=by
 have:=aLN (P:=P) (m:=m) (fr:=s.fr) (cs:=s.cs) z;have e:t= ⟨s.fr,s.cs,t.h⟩ :=by rw [←hfr,←hcs]
 rw [e];exact this
theorem xZ {m:Nat}{s t:AS}{j:Nat}{v v':AV}(hj:s.fr.tm.at j=some v)(ht:m≤s.h.nb→oS m s.h t.h v v')(hfr:t.fr= {s.fr with tm:=s.fr.tm.put j v'})(hcs:t.cs=s.cs) :LeadsM P m s t:=by
 have:=jP (P:=P) (fr:=s.fr) (cs:=s.cs) hj ht;have e:t= ⟨{s.fr with tm:=s.fr.tm.put j v'},s.cs,t.h⟩ :=by rw [←hfr,←hcs]
 rw [e];exact this
theorem rB {m:Nat}{s:AS}{v:AV}{h h':Hp}(e:Ends P m s (.ret v) h)(z:kP h h')(hm:m≤h.nb) :Ends P m s (.ret v) h':=fun hm0 E fr ccs w f fs r cl base=>by
 obtain⟨cl',w',E2,s1,⟨cv,rfl,g2⟩,r2,x2⟩ :=e hm0 E fr ccs w f fs r cl base;obtain⟨E3,h1,h2,h3⟩ :=z E2 w' r2;exact⟨_,w',E3,s1,⟨cv,rfl,g2.mono h1⟩,h2,x2.trans (h3 m hm)⟩
theorem gR {m:Nat}{s:AS}{v v0:AV}{lc l:List (Nat×AObj×Bool)}{nb n2:Nat}{ks:List Nat}(e:Ends P m s (.ret v0) (aA lc n2))(hv:ren (fA m nb n2 ks) v=v0)
  (hok:cR m ⟨⟨0,0,[],[],[],.run,.normal,none⟩,[],l,nb⟩ ks=true) (hh:sQ (aA lc n2) (fA m nb n2 ks) l=iF (fA m nb n2 ks) l) (hkl:fG l) :Ends P m s (.ret v) (aA l nb) :=fun hm E fr ccs w f fs r cl base=>by
 obtain⟨cl',w',E2,s1,⟨cv,rfl,g2⟩,r2,x2⟩ :=e hm E fr ccs w f fs r cl base;obtain⟨q1,q2⟩ :=kO hok hh hkl r2;subst hv;exact⟨_,w',_,s1,⟨cv,rfl,(eT _ _ _ _).1 g2⟩,q1,x2.trans q2⟩
mutual
def IsTree (p:Prog) :XT→Int→Prop
 | .mk o n ks ps,at0=>0≤at0∧∃nd,p.nodes[at0.toNat]?=some nd∧nd.op=o∧nd.n=n∧nd.pats=ps∧aN p ks nd.kids
def aN (p:Prog) :List XT→List Int→Prop
 | [],l=>l= []
 |t::ts,l=>∃k l',l=k::l'∧IsTree p t k∧aN p ts l'
end
end
inductive KV where
 |row (l:List Int)
 |nil
 |val (u:Value)
def KV.av :KV→AV
 | .row l=>.ilst 1 (map cC l) false
 | .nil=>.nils
 | .val u=>.val u
structure ONode where
 op:Int
 n:Int
 kv:KV
 pats:List Pat
def ONode.av (x:ONode) :AV:=.agg [.int .i64 x.op,.int .i64 x.n,x.kv.av,.ilst 4 (Pats.av x.pats) false]
def Node.o (x:Node) :ONode:= ⟨x.op,x.n,.row x.kids,x.pats⟩
theorem aJ1 (l:List Node) :map ONode.av (map Node.o l) =map Node.av l:=by
 rw [List.map_map];rfl
theorem bGs :∀k:KV,keyless k.av=true
 | .row l=>by simp only [KV.av,keyless]
 | .nil=>rfl
 | .val u=>rfl
theorem dK (x:ONode) :keyless x.av=true:=by
 simp only [ONode.av,keyless,keylessL,bGs,aBL,Bool.and_true]
theorem aJ2 {E:Emb}{x y:AV}(j:∀v,VR E x v→VR E y v) :∀ {c:List AV} {i:Nat},c[i]?=some x→∀d,VRs E c d→VRs E (c.set i y) d
 | [],i,h,d,b=>by simp at h
 | a::c,0,h,d,b=>by
  simp only [VRs]at b;obtain⟨u,e,rfl,f,g⟩ :=b;simp at h;subst h;simp only [List.set_cons_zero,VRs];exact⟨u,e,rfl,j u f,g⟩
 | a::c,i+1,h,d,b=>by
  simp only [VRs]at b;obtain⟨u,e,rfl,f,g⟩ :=b;simp only [lS]at h;simp only [List.set_cons_succ,VRs];exact⟨u,e,rfl,f,aJ2 j h e g⟩
theorem aM1 {E:Emb}{x:ONode}{k:KV}(hk:∀v,VR E x.kv.av v→VR E k.av v) :∀v,VR E x.av v→VR E (ONode.av ⟨x.op,x.n,k,x.pats⟩) v:=fun v h=>by
 simp only [ONode.av,VR,VRs]at h ⊢;obtain⟨i,rfl,g,m,rfl,d,f,l,rfl,a,e,j,rfl,c,b⟩ :=h;exact⟨_,rfl,_,_,rfl,d,_,_,rfl,a,_,_,rfl,hk _ c,b⟩
theorem aPP {E:Emb}:∀v,VR E KV.nil.av v→VR E (KV.row []).av v:=fun v h=>by
 simp only [KV.av,VR]at h;simp only [KV.av,VR,map_nil];exact⟨[],VRs.nil _,fun _ a=>by(cases a),.inl ⟨rfl,none,0,h,fun _=>rfl,fun _=>rfl⟩⟩
theorem aWN {l:List ONode}{i:Nat}{y:ONode}(h:l[i]?=some y)(hk:y.kv= .nil) :VW (map ONode.av l) (map ONode.av (l.set i ⟨y.op,y.n,.row [],y.pats⟩)) :=fun E c a=>by
 have b: (map ONode.av l)[i]?=some y.av:=by rw [rM,h];rfl
 rw [map_set];exact aJ2 (aM1 (by rw [hk];exact aPP)) b c a
theorem aWO {l:List ONode}{i:Nat}{y:ONode}{u:Value}{ks:List Int}(h:l[i]?=some y)(hk:y.kv= .val u) :VQ u 1 (map cC ks) (map ONode.av l) (map ONode.av (l.set i ⟨y.op,y.n,.row ks,y.pats⟩)) :=fun E e d a=>by
 have c: (map ONode.av l)[i]?=some y.av:=by rw [rM,h];rfl
 rw [map_set];refine aJ2 (aM1 (fun v b=>?_)) c e a;rw [hk]at b;simp only [KV.av,VR]at b;subst b;exact d
theorem aJ3 {a:Type}{f:a→AV}{l:List a}{i:Nat}{y:a}(h:l[i]?=some y) :map f l≠ [] :=fun e=>by
 cases l with
 |nil=>simp at h
 |cons _ _=>cases e
abbrev sA (a b:Int)(c:bX)(d:List Pat):AV:=.agg [(nI a),(nI b),(dR c),(iP d)]
abbrev aAT (a:List XT):AV:=.ilst 1 (XTs.av a) false
def bGt(a b:Int)(c:bX)(d:List Pat):TS:=cA PP 201 [(sA a b c d)] [] 0
def aJ4(d e:Int)(f:bX)(a:List Pat)(b c:Int):TS:=⟨(tf 201 22 [(2,(nI 0)),(3,(nI b)),(10,(iP a)),(11,(nI (a.length:Int))),(12,(nI c))] [kc f201 244,kl f201 244,.inBlock 0,kc f201 31]),[],[],0⟩
def bGu(a b:Int)(c:List XT)(d:List Pat)(e:Int):TS:=cA PP 178 [(.iptr [(nI a),(nI b),(aAT c),(iP d)]),(nI e)] [] 0
def bGv(a b:Int)(c:List XT)(d:List Pat):TS:=cA PP 138 [(.iptr [(nI a),(nI b),(aAT c),(iP d)])] [] 0
def bGw(a b:Int)(c:List XT)(d:List Pat):TS:=cA PP 137 [(.iptr [(nI a),(nI b),(aAT c),(iP d)])] [] 0
def bGx(a b:Int)(c:List XT)(d:List Pat):TS:=cA PP 95 [(.iptr [(nI a),(nI b),(aAT c),(iP d)])] [] 0
def aJ5(a b:Int)(c:List XT)(d:List Pat)(e f:Int):TS:=⟨(tf 95 38 [(0,(.iptr [(nI a),(nI b),(aAT c),(iP d)])),(2,.nili),(22,(nI e)),(23,(nI f))] [kc f95 116,kl f95 116,.inBlock 0,kc f95 15]),[],[],0⟩
def bGy(a b:Int)(c:bX)(d:List Pat):TS:=cA PP 162 [(sA a b c d)] [] 0
def aJ6(c d:Int)(e:bX)(a:List Pat)(f:Int)(b:List Pat):TS:=⟨(tf 162 22 [kp 1 0,kp 2 1,(3,(.gl 2 4 0 b.length false)),(7,(iP a)),(8,(nI (a.length:Int))),(9,(nI f))] [kc f162 116,kl f162 116,.inBlock 0,kc f162 15]),[],[oC 0 [(nI c),(nI d),(dR e),(iP a)],oC 1 [(nI 0),(nI 0),(.str 0 0),.nils],oL 2 4 (Pats.av b)],3⟩
def bGz(a:List Pat):TS:=cA PP 120 [(iP a)] [] 0
def aJ7(a:List Pat)(c:Int)(b:List Pat):TS:=⟨(tf 120 19 [(2,.nils),(3,(.gl 0 4 0 b.length false)),(6,(iP a)),(7,(nI (a.length:Int))),(8,(nI c))] [kc f120 116,kl f120 116,.inBlock 0,kc f120 15]),[],[oL 0 4 (Pats.av b)],1⟩
def aWP(a c:Int)(d:bX)(b:List Pat):=tT 0 (bGt a c d b)<|.b 12 8 (a==2) (gE 6 1 (nI 1))<|gm 11 aE b<|.W 4 1 [] (aJ4 a c d b 0 0)
def bAp:=fun a b c d e=>aWP a b c d|>.t e tv
def bAq:=fun a b c d e=>aWP a b c d|>.f e tv
def aWQ(d e:Int)(f:bX)(b:List Pat)(c a:Int):=tT 0 (aJ4 d e f b c a)<|gd 5 13 (a< (b.length:Int)) (rX 6 b a<|fun i j k l=>gpI 7 201 [(sA i j k l)]<|fun g=>gw 1 19 (c+g)<|gw 5 20 (a+1)<|.W 3 1 [] (aJ4 d e f b (c+g) (a+1)))<|gE 8 0 (nI c)
def bAr:=fun a b c d e f g i j k l m n o p q r=>aWQ a b c d e f|>.t m g i j k n o l p q r tv
def bAs:=fun a b c d e f g=>aWQ a b c d e f|>.f g tv
def aAU(b j:Int)(k:List XT)(c:List Pat)(a:Int):=tT 0 (bGu b j k c a)<|.b 14 11 (b==5) (gE 25 0 (nI 1))<|.b 7 18 (b==27) (gE 18 0 (nI 1))<|.b 6 24 (b==7) (.b 6 5 (a==1) (gE 6 0 (nI 1))<|.b 9 35 (b==15) (gd 5 29 (a>0) (gw 9 44 (a-1)<|rX 0 c (a-1)<|fun d e f g=>gpI 1 201 [(sA d e f g)]<|fun i=>gE 3 0 (nI i))<|gE 8 0 (nI 0))<|gE 13 0 (nI 0))<|.b 15 35 (b==15) (gd 5 29 (a>0) (gw 9 44 (a-1)<|rX 0 c (a-1)<|fun d e f g=>gpI 1 201 [(sA d e f g)]<|fun i=>gE 3 0 (nI i))<|gE 8 0 (nI 0))<|gE 13 0 (nI 0)
def bAt:=fun a b c d e f=>aAU a b c d e|>.t f tv
def bAu:=fun a b c d e f g=>aAU a b c d e|>.f f|>.t g tv
def bAv:=fun a b c d e f g i j=>aAU a b c d e|>.f f|>.f g|>.t i|>.t j tv
def bAw:=fun a b c d e f g i j k=>aAU a b c d e|>.f f|>.f g|>.t i|>.f j|>.f k tv
def bAx:=fun a b c d e f g i j k l m n o p q r s t=>aAU a b c d e|>.f l|>.f m|>.f n|>.t o|>.t p q f g i j r s k t tv
def bAy:=fun a b c d e f g i j k=>aAU a b c d e|>.f f|>.f g|>.f i|>.t j|>.f k tv
def bAz:=fun a b c d e f g i j=>aAU a b c d e|>.f f|>.f g|>.f i|>.f j tv
def aGd(a b:Int)(c:List XT)(d:List Pat):=tT 0 (bGv a b c d)<|.b 19 7 (a==1) (gE 8 0 (bV true))<|.b 6 7 (a==2) (gE 8 0 (bV true))<|.b 6 7 (a==3) (gE 8 0 (bV true))<|.b 5 7 (a==4) (gE 6 0 (bV true))<|gE 8 0 (bV false)
def bAA:=fun a b c d e=>aGd a b c d|>.t e tv
def bAB:=fun a b c d e f=>aGd a b c d|>.f e|>.t f tv
def bAC:=fun a b c d e f g=>aGd a b c d|>.f e|>.f f|>.t g tv
def bAD:=fun a b c d e f g i=>aGd a b c d|>.f e|>.f f|>.f g|>.t i tv
def bAE:=fun a b c d e f g i=>aGd a b c d|>.f e|>.f f|>.f g|>.f i tv
def jE(b c:Int)(a:List XT)(d:List Pat):=tT 0 (bGw b c a d)<|.b 19 7 (b==8) (gE 8 0 (nI 1))<|.b 6 7 (b==15) (gE 8 0 (nI 1))<|.b 6 7 (b==16) (gE 8 0 (nI 1))<|.b 6 7 (b==17) (gE 8 0 (nI 1))<|.b 6 7 (b==19) (gE 8 0 (nI 1))<|.b 6 7 (b==20) (gE 8 0 (nI 1))<|.b 6 7 (b==23) (gE 8 0 (nI 1))<|.b 5 7 (b==24) (gE 6 0 (nI 1))<|.b 7 16 (b==6) (.i [rn 9,aL a] [.q (p:=((XTs.av a).length:Int) = (a.length:Int)) (kF cZ _)]<|gE 3 0 (nI (a.length:Int)))<|.b 6 16 (b==9) (.i [rn 9,aL a] [.q (p:=((XTs.av a).length:Int) = (a.length:Int)) (kF cZ _)]<|gE 3 0 (nI (a.length:Int)))<|.b 6 16 (b==10) (.i [rn 9,aL a] [.q (p:=((XTs.av a).length:Int) = (a.length:Int)) (kF cZ _)]<|gE 3 0 (nI (a.length:Int)))<|.b 6 16 (b==11) (.i [rn 9,aL a] [.q (p:=((XTs.av a).length:Int) = (a.length:Int)) (kF cZ _)]<|gE 3 0 (nI (a.length:Int)))<|.b 6 16 (b==12) (.i [rn 9,aL a] [.q (p:=((XTs.av a).length:Int) = (a.length:Int)) (kF cZ _)]<|gE 3 0 (nI (a.length:Int)))<|.b 6 16 (b==13) (.i [rn 9,aL a] [.q (p:=((XTs.av a).length:Int) = (a.length:Int)) (kF cZ _)]<|gE 3 0 (nI (a.length:Int)))<|.b 6 16 (b==18) (.i [rn 9,aL a] [.q (p:=((XTs.av a).length:Int) = (a.length:Int)) (kF cZ _)]<|gE 3 0 (nI (a.length:Int)))<|.b 6 16 (b==22) (.i [rn 9,aL a] [.q (p:=((XTs.av a).length:Int) = (a.length:Int)) (kF cZ _)]<|gE 3 0 (nI (a.length:Int)))<|.b 5 16 (b==14) (.i [rn 7,aL a] [.q (p:=((XTs.av a).length:Int) = (a.length:Int)) (kF cZ _)]<|gE 3 0 (nI (a.length:Int)))<|gE 8 0 (nI 0)
def bAF:=fun a b c d e=>jE a b c d|>.t e tv
def bAG:=fun a b c d e f=>jE a b c d|>.f e|>.t f tv
def bAH:=fun a b c d e f g=>jE a b c d|>.f e|>.f f|>.t g tv
def bAI:=fun a b c d e f g i=>jE a b c d|>.f e|>.f f|>.f g|>.t i tv
def bAJ:=fun a b c d e f g i j=>jE a b c d|>.f e|>.f f|>.f g|>.f i|>.t j tv
def bAK:=fun a b c d e f g i j k=>jE a b c d|>.f e|>.f f|>.f g|>.f i|>.f j|>.t k tv
def bAL:=fun a b c d e f g i j k l=>jE a b c d|>.f e|>.f f|>.f g|>.f i|>.f j|>.f k|>.t l tv
def bAM:=fun a b c d e f g i j k l m=>jE a b c d|>.f e|>.f f|>.f g|>.f i|>.f j|>.f k|>.f l|>.t m tv
def bAN:=fun a b c d e f g i j k l m n=>jE a b c d|>.f e|>.f f|>.f g|>.f i|>.f j|>.f k|>.f l|>.f m|>.t n tv
def bAO:=fun a b c d e f g i j k l m n o=>jE a b c d|>.f e|>.f f|>.f g|>.f i|>.f j|>.f k|>.f l|>.f m|>.f n|>.t o tv
def aWR:=fun a b c d e f g i j k l m n o p=>jE a b c d|>.f e|>.f f|>.f g|>.f i|>.f j|>.f k|>.f l|>.f m|>.f n|>.f o|>.t p tv
def aWS:=fun a b c d e f g i j k l m n o p q=>jE a b c d|>.f e|>.f f|>.f g|>.f i|>.f j|>.f k|>.f l|>.f m|>.f n|>.f o|>.f p|>.t q tv
def aWT:=fun a b c d e f g i j k l m n o p q r=>jE a b c d|>.f e|>.f f|>.f g|>.f i|>.f j|>.f k|>.f l|>.f m|>.f n|>.f o|>.f p|>.f q|>.t r tv
def aWU:=fun a b c d e f g i j k l m n o p q r s=>jE a b c d|>.f e|>.f f|>.f g|>.f i|>.f j|>.f k|>.f l|>.f m|>.f n|>.f o|>.f p|>.f q|>.f r|>.t s tv
def aWV:=fun a b c d e f g i j k l m n o p q r s t=>jE a b c d|>.f e|>.f f|>.f g|>.f i|>.f j|>.f k|>.f l|>.f m|>.f n|>.f o|>.f p|>.f q|>.f r|>.f s|>.t t tv
def aWW:=fun a b c d e f g i j k l m n o p q r s t u=>jE a b c d|>.f e|>.f f|>.f g|>.f i|>.f j|>.f k|>.f l|>.f m|>.f n|>.f o|>.f p|>.f q|>.f r|>.f s|>.f t|>.t u tv
def aWX:=fun a b c d e f g i j k l m n o p q r s t u v=>jE a b c d|>.f e|>.f f|>.f g|>.f i|>.f j|>.f k|>.f l|>.f m|>.f n|>.f o|>.f p|>.f q|>.f r|>.f s|>.f t|>.f u|>.t v tv
def aWY:=fun a b c d e f g i j k l m n o p q r s t u v=>jE a b c d|>.f e|>.f f|>.f g|>.f i|>.f j|>.f k|>.f l|>.f m|>.f n|>.f o|>.f p|>.f q|>.f r|>.f s|>.f t|>.f u|>.f v tv
def aPQ(a c:Int)(b:List XT)(d:List Pat):=tT 0 (bGx a c b d)<|.b 13 8 (a==7) (.y fun e:Int=>.y fun f:Int=>.y fun g:List XT=>.y fun i:List Pat=>giF cZ 8 b 0 (XT.mk e f g i)<|.b 6 18 (e==7) (gE 8 0 (.iface 191 (.agg [])))<|gE 7 0 .nili)<|gpI 6 137 [(.iptr [(nI a),(nI c),(aAT b),(iP d)])]<|fun j=>.W 4 0 [] (aJ5 a c b d j 0)
def bAP:=fun a b c d e f g i j k l m=>aPQ a b c d|>.t j e f g i k l|>.t m tv
def bAQ:=fun a b c d e f g i j k l m=>aPQ a b c d|>.t j e f g i k l|>.f m tv
def bAR:=fun a b c d e f g=>aPQ a b c d|>.f f e g tv
def aPR(d e:Int)(b:List XT)(f:List Pat)(c a:Int):=tT 0 (aJ5 d e b f c a)<|gd 5 24 (a<c) (.y fun g:Int=>.y fun i:Int=>.y fun j:List XT=>.y fun k:List Pat=>giF cZ 16 b a (XT.mk g i j k)<|lO 1 138 [(.iptr [(nI g),(nI i),(aAT j),(iP k)])]<|fun l=>.b 2 34 (!l) (gE 8 0 (.iface 193 (nI a)))<|gw 5 37 (a+1)<|.W 3 0 [] (aJ5 d e b f c (a+1)))<|gE 7 0 .nili
def bAS:=fun a b c d e f g i j k l m n o p q=>aPR a b c d e f|>.t m g i j k n o l p|>.t q tv
def bAT:=fun a b c d e f g i j k l m n o p q r=>aPR a b c d e f|>.t m g i j k n o l p|>.f q r tv
def bAU:=fun a b c d e f g=>aPR a b c d e f|>.f g tv
def bAV (b c:Int)(d:bX)(a:List Pat):=(tT 0 (bGy b c d a)<|gm 14 aE a<|.i [rn 4,.nilL 3 4] []<|gu 0 2 (Pats.av ([] :List Pat))<|gs 0 3 (.gl 2 4 0 ([] :List Pat).length false)<|.W 0 3 [0,1,2] (aJ6 b c d a 0 ([] :List Pat))) ⟨fK,trivial⟩
def aWZ(d e:Int)(f:bX)(c:List Pat)(a:Int)(b:List Pat):=tT 0 (aJ6 d e f c a b)<|gd 5 10 (a< (c.length:Int)) (rX 6 c a<|fun l m n o=>.y fun g:Int=>.y fun i:Int=>.y fun j:bX=>.y fun k:List Pat=>gp 7 162 [(sA l m n o)] (sA g i j k)<|gA 1 aE b [(Pat.mk g i j k)]<|gw 5 18 (a+1)<|.W 3 6 [0,1,5] (aJ6 d e f c (a+1) (b++ [(Pat.mk g i j k)])))<|gY 14 1 3 2 4 aE fK b false<|gE 0 3 (sA d e f b)
def bAW:=fun a b c d e f g i j k l m n o p q r s t u=>aWZ a b c d e f|>.t p g i j k q r l m n o s t u ⟨fK,trivial⟩
def bAX:=fun a b c d e f g=>aWZ a b c d e f|>.f g tv
def bAY (a:List Pat):=(tT 0 (bGz a)<|gm 12 aE a<|.i [rn 4,.nilL 3 4] []<|gu 0 0 (Pats.av ([] :List Pat))<|gs 0 3 (.gl 0 4 0 ([] :List Pat).length false)<|.W 0 1 [0] (aJ7 a 0 ([] :List Pat))) ⟨fK,trivial⟩
def aW0(c:List Pat)(a:Int)(b:List Pat):=tT 0 (aJ7 c a b)<|gd 5 9 (a< (c.length:Int)) (rX 6 c a<|fun i j k l=>.y fun d:Int=>.y fun e:Int=>.y fun f:bX=>.y fun g:List Pat=>gp 7 162 [(sA i j k l)] (sA d e f g)<|gA 1 aE b [(Pat.mk d e f g)]<|gw 5 17 (a+1)<|.W 3 4 [3] (aJ7 c (a+1) (b++ [(Pat.mk d e f g)])))<|gZ 8 2 0 4 aE fK b false<|gE 0 1 (iP b)
def bAZ:=fun a b c d e f g i j k l m n o p q r=>aW0 a b c|>.t m d e f g n o i j k l p q r ⟨fK,trivial⟩
def bA0:=fun a b c d=>aW0 a b c|>.f d tv
theorem take_succ' {a:Type}{l:List a}{i:Nat}{x:a}(h:l[i]?=some x) :l.take i++ [x] =l.take (i+1) :=by
 rw [List.take_add_one,h];rfl
theorem aM2 (f n:Int)(s:bX)(ps:List Pat)(hl:ps.length<1000000)(hp:∀q∈ps,aM PP 162 [Pat.av q] (Pat.av q)) :∀ (t:List Pat) (i:Nat),ps.drop i=t→Ends PP 0 (aJ6 f n s ps (i:Int) (ps.take i)).as (.ret (Pat.av (.mk f n s ps))) (aA [] 0)
 | [],i,h=>by
  have j:=bL h;have:=bAX f n s ps (i:Int) (ps.take i) sd;rw [aG3 j]at this ⊢;exact this
 | .mk a b c d::t,i,h=>by
  obtain⟨g,k,l⟩ :=bI h;have e:=take_succ' g;refine(bAW f n s ps (i:Int) (ps.take i) a b c d a b c d sd sd sd (hp _ (kS g)) (by rw [e,List.length_take];omega) sd).ends ?_;rw [e];exact aM2 f n s ps hl hp t (i+1) k
mutual
theorem aW1 :∀q:Pat,bZ q≤1000000→aM PP 162 [Pat.av q] (Pat.av q)
 | .mk f n s a,h=>by
  have hl:=eH a;simp only [bZ]at h;refine aJ aC (by simp [keylessL,lD]) (lD _) ((bAV f n s a).ends ?_);exact aM2 f n s a (by omega) (aJ8 a (by omega)) a 0 rfl
theorem aJ8 :∀b:List Pat,bG b≤1000000→∀q∈b,aM PP 162 [Pat.av q] (Pat.av q)
 | [],_,q,a=>by cases a
 | p::b,h,q,a=>by
  simp only [bG]at h;rcases zq7.1 a with e|a
  ·rw [e];exact aW1 p (by omega)
  ·exact aJ8 b (by omega) q a
end
theorem aM3 (ps:List Pat)(hl:ps.length<1000000)(hp:∀q∈ps,aM PP 162 [Pat.av q] (Pat.av q)) :∀ (t:List Pat) (i:Nat),ps.drop i=t→Ends PP 0 (aJ7 ps (i:Int) (ps.take i)).as (.ret (.ilst 4 (Pats.av ps) false)) (aA [] 0)
 | [],i,h=>by
  have g:=bL h;have:=bA0 ps (i:Int) (ps.take i) sd;rw [aG3 g]at this ⊢;exact this
 | .mk a b c d::t,i,h=>by
  obtain⟨f,j,k⟩ :=bI h;have e:=take_succ' f;refine(bAZ ps (i:Int) (ps.take i) a b c d a b c d sd sd sd (hp _ (kS f)) (by rw [e,List.length_take];omega) sd).ends ?_;rw [e];exact aM3 ps hl hp t (i+1) j
theorem aM4 (ps:List Pat)(h:bG ps<1000000) :aM PP 120 [.ilst 4 (Pats.av ps) false] (.ilst 4 (Pats.av ps) false) :=by
 have hl:=eH ps;exact aJ aC (by simp [keylessL,keyless,fK]) (by simp [keyless,fK]) ((bAY ps).ends (aM3 ps (by omega) (aJ8 ps (by omega)) ps 0 rfl))
end
end Go.Hb
