/- A machine on abstract values, its soundness, ways, plain laws. -/
import Derived.Test.YtnljmgihoioocaaGreatHF
import Derived.Test.YtnljmgihoioocaaGreatHG
set_option linter.defProp false
set_option linter.unusedVariables false
set_option linter.unusedSimpArgs false
set_option linter.unusedSectionVars false
set_option maxRecDepth 100000
set_option maxHeartbeats 2000000
namespace Go.Hb
open AV (func int keyless keylessL ren)
open List (all_cons drop length map map_nil map_set replicate set)
open Nat (add_zero ble blt div mod pow)
open Go.Proofs Tryz
noncomputable section
def zC(a:cC)(b:Nat):TS:=⟨(tf 195 16 [(2,(bV false)),kp 6 0] [kc f195 52,kl f195 52,.inBlock 0,kc f195 7]),[],[(0,(.siter a.length (aG a) b),false)],1⟩
def aBT(e f:Int)(g:cC)(a:List Pat)(b c d:Int):TS:=⟨(tf 171 27 [(1,(nI b)),(4,(nI 0)),(5,(nI c)),(9,(iP a)),(10,(nI (a.length:Int))),(11,(nI d))] [kc f171 116,kl f171 116,.inBlock 0,kc f171 15]),[],[],0⟩
def bGc(a b c:Int):=tT 0 (start PP 122 [(nI a),(nI b),(nI c)])<|gd 10 10 (a≥b) (gE 7 0 (bV (decide (a≤c))))<|gE 7 0 (bV false)
def aZ4:=fun a b c d=>bGc a b c|>.t d tv
def aZ5:=fun a b c d=>bGc a b c|>.f d tv
def aV8 (b:Int):=fun a c=>(tT 0 (start PP 197 [(nI b)])<|kK 7 122 [(nI b),(nI (-1000000000)),(nI 1000000000)]<|fun a=>gE 3 0 (bV a)) a c tv
def aPq (a:cC):=(tT 0 (start PP 195 [(dO a)])<|.W 12 1 [0] (zC a 0)) tv
def aZ6(a:cC)(b:Nat):=tT 0 (zC a b)<|.o (.y fun c:Nat=>.y fun d:Nat=>.i [rn 2,.nxt c d] [hA (b<a.length),hA (aN3 a.length (aG a) b=some (c,d))]<|gd 16 12 (((c:Nat) :Int) <97) (gE 10 1 (bV false))<|gd 4 15 (((c:Nat) :Int) >122) (gE 6 1 (bV false))<|.W 4 1 [0] (zC a (Nat.add b d)))<|.i [rn 2,.nxtE] [hA (a.length≤b)]<|gE 10 1 (bV true)
def aPr:=fun a b c d e f g=>aZ6 a b|>.1 c d e f|>.t g tv
def aPs:=fun a b c d e f g i=>aZ6 a b|>.1 c d e f|>.f g|>.t i tv
def aPt:=fun a b c d e f g i=>aZ6 a b|>.1 c d e f|>.f g|>.f i tv
def aPu:=fun a b c=>aZ6 a b|>.2 c tv
def aV9(a:cC):=tT 0 (start PP 166 [(dO a)])<|.b 9 5 (!(jW a.length (aG a) 0 0)) (gd 5 10 ((a.length:Int) ≤8) (.y fun b:UInt8=>.i [rn 1,.ans (.ev (.int .u8 ((b.toNat:Nat) :Int)))] [.q (p:=0≤ (0:Int)) (by decide),.a ((a)[0]?=some b) (p':=(0:Int) < (a.length:Int)) (fun h=>(aCR (k:= (0:Int)) (by decide) h)),.a ((a)[0]?=some b) (p':=int .u8 ((mod (div (aG a) (pow 256 (0:Int).toNat)) 256:Nat) :Int) = (.int .u8 ((b.toNat:Nat) :Int))) (fun h=>(aCS (k:= (0:Int)) h))]<|gd 3 15 (((b.toNat:Nat) :Int) ≥65) (.i [rn 1,.ans (.ev (.int .u8 ((b.toNat:Nat) :Int)))] [.q (p:=0≤ (0:Int)) (by decide),.a ((a)[0]?=some b) (p':=(0:Int) < (a.length:Int)) (fun h=>(aCR (k:= (0:Int)) (by decide) h)),.a ((a)[0]?=some b) (p':=int .u8 ((mod (div (aG a) (pow 256 (0:Int).toNat)) 256:Nat) :Int) = (.int .u8 ((b.toNat:Nat) :Int))) (fun h=>(aCS (k:= (0:Int)) h))]<|gd 3 20 (((b.toNat:Nat) :Int) ≤90) (.i [rn 1,.ans (.ev (dO (drop 1 a)))] [.a (1≤length a) (p':=aSO PP 9 (dO a) (some (nI 1)) none (dO (drop 1 a))) (fun h=>(aDA (k:= (1:Int)) aC (by decide) h))]<|kK 0 195 [(dO (drop 1 a))]<|fun c=>gE 4 0 (bV c))<|gE 7 0 (bV false))<|gE 12 0 (bV false))<|gE 17 0 (bV false))<|gE 22 0 (bV false)
def aPv:=fun b c d e f a g i j k=>aV9 b|>.t e|>.t f c a a|>.t g a a|>.t i j d k tv
def aPw:=fun b c d e a f g=>aV9 b|>.t d|>.t e c a a|>.t f a a|>.f g tv
def aPx:=fun b c d e a f=>aV9 b|>.t d|>.t e c a a|>.f f tv
def aPy:=fun a b c=>aV9 a|>.t b|>.f c tv
def aPz:=fun a b=>aV9 a|>.f b tv
def bGd(a:Con):=tT 0 (start PP 124 [(.agg [(dO a.name),(nI a.args)])])<|kK 9 166 [(dO a.name)]<|fun b=>.b 1 6 b (kK 2 122 [(nI a.args),(nI 0),(nI 3)]<|fun c=>gE 4 1 (bV c))<|gE 7 1 (bV false)
def aWa:=fun a b c d e f=>bGd a b d|>.t e c f tv
def aWb:=fun a b c d=>bGd a b c|>.f d tv
def aTB(c:Prog)(a:Node):=tT 0 (start PP 173 [(Prog.av c),(Node.av a)])<|.b 18 7 (a.op==1) (kK 5 197 [(nI a.n)]<|fun b=>gE 3 2 (bV b))<|.b 6 12 (a.op==2) (kK 5 122 [(nI a.n),(nI 0),(nI 1)]<|fun b=>gE 3 2 (bV b))<|.b 6 17 (a.op==24) (kK 5 122 [(nI a.n),(nI 0),(nI 3)]<|fun b=>gE 3 2 (bV b))<|.b 6 22 (a.op==4) (gl 8 cA c.funs<|gw 1 30 (0- (c.funs.length:Int))<|kK 0 122 [(nI a.n),(nI (0- (c.funs.length:Int))),(nI 29)]<|fun b=>gE 3 2 (bV b))<|.b 6 32 (a.op==14) (gE 6 2 (bV true))<|gE 11 2 (bV (a.n==0))
def aMk:=fun a b c d e=>aTB a b|>.t d c e tv
def aMl:=fun a b c d e f=>aTB a b|>.f d|>.t e c f tv
def aMm:=fun a b c d e f g=>aTB a b|>.f d|>.f e|>.t f c g tv
def aMn:=fun a b c d e f g i j=>aTB a b|>.f d|>.f e|>.f f|>.t g i c j tv
def aMo:=fun a b c d e f g=>aTB a b|>.f c|>.f d|>.f e|>.f f|>.t g tv
def aMp:=fun a b c d e f g=>aTB a b|>.f c|>.f d|>.f e|>.f f|>.f g tv
def aTC (b c:Int)(d:cC)(a:List Pat)(e:Int):=(tT 0 (start PP 171 [(.agg [(nI b),(nI c),(dO d),(iP a)]),(nI e)])<|gm 14 aE a<|.W 4 1 [] (aBT b c d a e 1 0)) tv
def bET(e f:Int)(g:cC)(d:List Pat)(b a c:Int):=tT 0 (aBT e f g d b a c)<|gd 5 12 (c< (d.length:Int)) (rW 6 d c<|fun j k l m=>gd 11 17 (a>b) (gE 8 1 (nI a))<|gw 8 22 (b-a)<|gpI 0 171 [(.agg [(nI j),(nI k),(dO l),(iP m)]),(nI (b-a))]<|fun i=>gw 1 24 (a+i)<|gw 5 25 (c+1)<|.W 3 1 [] (aBT e f g d b (a+i) (c+1)))<|gE 8 0 (nI a)
def aTD:=fun a b c d e f g i j k l m n o p=>bET a b c d e f g|>.t m i j k l n o|>.t p tv
def aTE:=fun a b c d e f g i j k l m n o p q r s t u=>bET a b c d e f g|>.t n i j k l o p|>.f q r m s t u tv
def aTF:=fun a b c d e f g i=>bET a b c d e f g|>.f i tv
def aAU(d:Prog)(e c:Int)(f:cC)(a:List Pat):=tT 0 (start PP 172 [(Prog.av d),(.agg [(nI e),(nI c),(dO f),(iP a)])])<|.b 13 8 (!(jW f.length (aG f) 0 0)) (gE 14 2 (bV false))<|kK 4 174 [(iP a),(.func 172 [(Prog.av d)] [])]<|fun i=>.b 3 15 (!i) (gE 6 2 (bV false))<|.b 15 18 (e==1) (.b 9 25 (c==0) (gm 2 aE a<|gE 5 2 (bV ((a.length:Int) ==0)))<|gE 8 2 (bV false))<|.b 6 18 (e==2) (.b 9 25 (c==0) (gm 2 aE a<|gE 5 2 (bV ((a.length:Int) ==0)))<|gE 8 2 (bV false))<|.b 5 18 (e==5) (.b 7 25 (c==0) (gm 2 aE a<|gE 5 2 (bV ((a.length:Int) ==0)))<|gE 8 2 (bV false))<|.b 6 31 (e==3) (kK 5 197 [(nI c)]<|fun b=>.b 1 36 b (gm 2 aE a<|gE 5 2 (bV ((a.length:Int) ==0)))<|gE 8 2 (bV false))<|.b 6 42 (e==4) (kK 5 122 [(nI c),(nI 0),(nI 1)]<|fun b=>.b 1 47 b (gm 2 aE a<|gE 5 2 (bV ((a.length:Int) ==0)))<|gE 8 2 (bV false))<|.b 6 53 (e==6) (.o (.y fun b:Bool=>.y fun g:Con=>.i [rn 2,.reg (rd 5 (.ans (.len (d.cons.length:Int))::.d::.pure (bV b)::.d::.b 63 true::.d::.d::.ans (.len (a.length:Int))::rd 5 (.ans (.idx (Con.av g))::rd 5 [])))] [hl Con.av d.cons,hA (aM PP 122 [(nI c),(nI 0),(nI (IntKind.i64.wrap ((d.cons.length:Int) -1)))] (bV b)),hA (b=true),hm aE a,hA (0≤c),.a (((d.cons)[c.toNat]?) =some g) (aZ (f:=Con.av))]<|gE 1 2 (bV ((a.length:Int) ==g.args)))<|.y fun b:Bool=>.i [rn 2,.reg (rd 5 (.ans (.len (d.cons.length:Int))::.d::.pure (bV b)::.d::.b 63 false::rd 14 []))] [hl Con.av d.cons,hA (aM PP 122 [(nI c),(nI 0),(nI (IntKind.i64.wrap ((d.cons.length:Int) -1)))] (bV b)),hA (b=false)]<|gE 1 2 (bV false))<|gE 8 2 (bV false)
def aWc:=fun a b c d e f=>aAU a b c d e|>.t f tv
def aWd:=fun a b c d e f g i j=>aAU a b c d e|>.f g f i|>.t j tv
def aWe:=fun a b c d e f g i j k l=>aAU a b c d e|>.f g f i|>.f j|>.t k|>.t l tv
def aWf:=fun a b c d e f g i j k l=>aAU a b c d e|>.f g f i|>.f j|>.t k|>.f l tv
def aWg:=fun a b c d e f g i j k l m=>aAU a b c d e|>.f g f i|>.f j|>.f k|>.t l|>.t m tv
def aWh:=fun a b c d e f g i j k l m=>aAU a b c d e|>.f g f i|>.f j|>.f k|>.t l|>.f m tv
def aWi:=fun a b c d e f g i j k l m n=>aAU a b c d e|>.f g f i|>.f j|>.f k|>.f l|>.t m|>.t n tv
def aWj:=fun a b c d e f g i j k l m n=>aAU a b c d e|>.f g f i|>.f j|>.f k|>.f l|>.t m|>.f n tv
def aWk:=fun a b c d e f g i j k l m n o p q=>aAU a b c d e|>.f i f j|>.f k|>.f l|>.f m|>.f n|>.t o g p|>.t q tv
def aWl:=fun a b c d e f g i j k l m n o p q=>aAU a b c d e|>.f i f j|>.f k|>.f l|>.f m|>.f n|>.t o g p|>.f q tv
def aTG:=fun a b c d e f g i j k l m n o p q r=>aAU a b c d e|>.f i f j|>.f k|>.f l|>.f m|>.f n|>.f o|>.t p g q|>.t r tv
def aTH:=fun a b c d e f g i j k l m n o p q r=>aAU a b c d e|>.f i f j|>.f k|>.f l|>.f m|>.f n|>.f o|>.t p g q|>.f r tv
def aTI:=fun a b c d e f g i j k l m n o p q r s t u v=>aAU a b c d e|>.f j f k|>.f l|>.f m|>.f n|>.f o|>.f p|>.f q|>.t r|>.1 g i s t u v tv
def aTJ:=fun a b c d e f g i j k l m n o p q r s=>aAU a b c d e|>.f i f j|>.f k|>.f l|>.f m|>.f n|>.f o|>.f p|>.t q|>.2 g r s tv
def aTK:=fun a b c d e f g i j k l m n o p=>aAU a b c d e|>.f g f i|>.f j|>.f k|>.f l|>.f m|>.f n|>.f o|>.f p tv
def lZ(a:Int):=tT 0 (start PP 169 [(nI a)])<|.b 16 4 (a==1) (gE 9 0 (.iface 242 (nI 0)))<|.b 6 4 (a==2) (gE 9 0 (.iface 242 (nI 0)))<|.b 6 4 (a==3) (gE 9 0 (.iface 242 (nI 0)))<|.b 6 4 (a==4) (gE 9 0 (.iface 242 (nI 0)))<|.b 6 4 (a==21) (gE 9 0 (.iface 242 (nI 0)))<|.b 6 4 (a==25) (gE 9 0 (.iface 242 (nI 0)))<|.b 5 4 (a==28) (gE 7 0 (.iface 242 (nI 0)))<|.b 7 13 (a==5) (gE 9 0 (.iface 242 (nI 1)))<|.b 6 13 (a==27) (gE 9 0 (.iface 242 (nI 1)))<|.b 6 13 (a==16) (gE 9 0 (.iface 242 (nI 1)))<|.b 6 13 (a==17) (gE 9 0 (.iface 242 (nI 1)))<|.b 6 13 (a==19) (gE 9 0 (.iface 242 (nI 1)))<|.b 6 13 (a==20) (gE 9 0 (.iface 242 (nI 1)))<|.b 6 13 (a==23) (gE 9 0 (.iface 242 (nI 1)))<|.b 6 13 (a==24) (gE 9 0 (.iface 242 (nI 1)))<|.b 5 13 (a==26) (gE 7 0 (.iface 242 (nI 1)))<|.b 7 24 (a==6) (gE 9 0 (.iface 242 (nI 2)))<|.b 6 24 (a==7) (gE 9 0 (.iface 242 (nI 2)))<|.b 6 24 (a==9) (gE 9 0 (.iface 242 (nI 2)))<|.b 6 24 (a==10) (gE 9 0 (.iface 242 (nI 2)))<|.b 6 24 (a==11) (gE 9 0 (.iface 242 (nI 2)))<|.b 6 24 (a==12) (gE 9 0 (.iface 242 (nI 2)))<|.b 6 24 (a==13) (gE 9 0 (.iface 242 (nI 2)))<|.b 6 24 (a==18) (gE 9 0 (.iface 242 (nI 2)))<|.b 5 24 (a==22) (gE 7 0 (.iface 242 (nI 2)))<|.b 6 35 (a==8) (gE 7 0 (.iface 242 (nI 3)))<|.b 6 38 (a==14) (gE 8 0 (.iface 243 (.agg [])))<|.b 6 42 (a==15) (gE 8 0 (.iface 225 (.agg [])))<|gE 8 0 .nili
def aMq:=fun a b=>lZ a|>.t b tv
def aMr:=fun a b c=>lZ a|>.f b|>.t c tv
def aMs:=fun a b c d=>lZ a|>.f b|>.f c|>.t d tv
def aMt:=fun a b c d e=>lZ a|>.f b|>.f c|>.f d|>.t e tv
def aMu:=fun a b c d e f=>lZ a|>.f b|>.f c|>.f d|>.f e|>.t f tv
def aMv:=fun a b c d e f g=>lZ a|>.f b|>.f c|>.f d|>.f e|>.f f|>.t g tv
def aMw:=fun a b c d e f g i=>lZ a|>.f b|>.f c|>.f d|>.f e|>.f f|>.f g|>.t i tv
def aMx:=fun a b c d e f g i j=>lZ a|>.f b|>.f c|>.f d|>.f e|>.f f|>.f g|>.f i|>.t j tv
def aMy:=fun a b c d e f g i j k=>lZ a|>.f b|>.f c|>.f d|>.f e|>.f f|>.f g|>.f i|>.f j|>.t k tv
def aMz:=fun a b c d e f g i j k l=>lZ a|>.f b|>.f c|>.f d|>.f e|>.f f|>.f g|>.f i|>.f j|>.f k|>.t l tv
def aJC:=fun a b c d e f g i j k l m=>lZ a|>.f b|>.f c|>.f d|>.f e|>.f f|>.f g|>.f i|>.f j|>.f k|>.f l|>.t m tv
def aJD:=fun a b c d e f g i j k l m n=>lZ a|>.f b|>.f c|>.f d|>.f e|>.f f|>.f g|>.f i|>.f j|>.f k|>.f l|>.f m|>.t n tv
def aJE:=fun a b c d e f g i j k l m n o=>lZ a|>.f b|>.f c|>.f d|>.f e|>.f f|>.f g|>.f i|>.f j|>.f k|>.f l|>.f m|>.f n|>.t o tv
def aJF:=fun a b c d e f g i j k l m n o p=>lZ a|>.f b|>.f c|>.f d|>.f e|>.f f|>.f g|>.f i|>.f j|>.f k|>.f l|>.f m|>.f n|>.f o|>.t p tv
def aJG:=fun a b c d e f g i j k l m n o p q=>lZ a|>.f b|>.f c|>.f d|>.f e|>.f f|>.f g|>.f i|>.f j|>.f k|>.f l|>.f m|>.f n|>.f o|>.f p|>.t q tv
def aJH:=fun a b c d e f g i j k l m n o p q r=>lZ a|>.f b|>.f c|>.f d|>.f e|>.f f|>.f g|>.f i|>.f j|>.f k|>.f l|>.f m|>.f n|>.f o|>.f p|>.f q|>.t r tv
def aJI:=fun a b c d e f g i j k l m n o p q r s=>lZ a|>.f b|>.f c|>.f d|>.f e|>.f f|>.f g|>.f i|>.f j|>.f k|>.f l|>.f m|>.f n|>.f o|>.f p|>.f q|>.f r|>.t s tv
def aJJ:=fun a b c d e f g i j k l m n o p q r s t=>lZ a|>.f b|>.f c|>.f d|>.f e|>.f f|>.f g|>.f i|>.f j|>.f k|>.f l|>.f m|>.f n|>.f o|>.f p|>.f q|>.f r|>.f s|>.t t tv
def aJK:=fun a b c d e f g i j k l m n o p q r s t u=>lZ a|>.f b|>.f c|>.f d|>.f e|>.f f|>.f g|>.f i|>.f j|>.f k|>.f l|>.f m|>.f n|>.f o|>.f p|>.f q|>.f r|>.f s|>.f t|>.t u tv
def aJL:=fun a b c d e f g i j k l m n o p q r s t u v=>lZ a|>.f b|>.f c|>.f d|>.f e|>.f f|>.f g|>.f i|>.f j|>.f k|>.f l|>.f m|>.f n|>.f o|>.f p|>.f q|>.f r|>.f s|>.f t|>.f u|>.t v tv
def aJM:=fun a b c d e f g i j k l m n o p q r s t u v w=>lZ a|>.f b|>.f c|>.f d|>.f e|>.f f|>.f g|>.f i|>.f j|>.f k|>.f l|>.f m|>.f n|>.f o|>.f p|>.f q|>.f r|>.f s|>.f t|>.f u|>.f v|>.t w tv
def aJN:=fun a b c d e f g i j k l m n o p q r s t u v w x=>lZ a|>.f b|>.f c|>.f d|>.f e|>.f f|>.f g|>.f i|>.f j|>.f k|>.f l|>.f m|>.f n|>.f o|>.f p|>.f q|>.f r|>.f s|>.f t|>.f u|>.f v|>.f w|>.t x tv
def aJO:=fun a b c d e f g i j k l m n o p q r s t u v w x y=>lZ a|>.f b|>.f c|>.f d|>.f e|>.f f|>.f g|>.f i|>.f j|>.f k|>.f l|>.f m|>.f n|>.f o|>.f p|>.f q|>.f r|>.f s|>.f t|>.f u|>.f v|>.f w|>.f x|>.t y tv
def aJP:=fun a b c d e f g i j k l m n o p q r s t u v w x y z=>lZ a|>.f b|>.f c|>.f d|>.f e|>.f f|>.f g|>.f i|>.f j|>.f k|>.f l|>.f m|>.f n|>.f o|>.f p|>.f q|>.f r|>.f s|>.f t|>.f u|>.f v|>.f w|>.f x|>.f y|>.t z tv
def aJQ:=fun a b c d e f g i j k l m n o p q r s t u v w x y z A=>lZ a|>.f b|>.f c|>.f d|>.f e|>.f f|>.f g|>.f i|>.f j|>.f k|>.f l|>.f m|>.f n|>.f o|>.f p|>.f q|>.f r|>.f s|>.f t|>.f u|>.f v|>.f w|>.f x|>.f y|>.f z|>.t A tv
def aJR:=fun a b c d e f g i j k l m n o p q r s t u v w x y z A B=>lZ a|>.f b|>.f c|>.f d|>.f e|>.f f|>.f g|>.f i|>.f j|>.f k|>.f l|>.f m|>.f n|>.f o|>.f p|>.f q|>.f r|>.f s|>.f t|>.f u|>.f v|>.f w|>.f x|>.f y|>.f z|>.f A|>.t B tv
def aJS:=fun a b c d e f g i j k l m n o p q r s t u v w x y z A B C=>lZ a|>.f b|>.f c|>.f d|>.f e|>.f f|>.f g|>.f i|>.f j|>.f k|>.f l|>.f m|>.f n|>.f o|>.f p|>.f q|>.f r|>.f s|>.f t|>.f u|>.f v|>.f w|>.f x|>.f y|>.f z|>.f A|>.f B|>.t C tv
def aJT:=fun a b c d e f g i j k l m n o p q r s t u v w x y z A B C D=>lZ a|>.f b|>.f c|>.f d|>.f e|>.f f|>.f g|>.f i|>.f j|>.f k|>.f l|>.f m|>.f n|>.f o|>.f p|>.f q|>.f r|>.f s|>.f t|>.f u|>.f v|>.f w|>.f x|>.f y|>.f z|>.f A|>.f B|>.f C|>.t D tv
def aJU:=fun a b c d e f g i j k l m n o p q r s t u v w x y z A B C D=>lZ a|>.f b|>.f c|>.f d|>.f e|>.f f|>.f g|>.f i|>.f j|>.f k|>.f l|>.f m|>.f n|>.f o|>.f p|>.f q|>.f r|>.f s|>.f t|>.f u|>.f v|>.f w|>.f x|>.f y|>.f z|>.f A|>.f B|>.f C|>.f D tv
def aEi(a:List Pat)(b:Prog)(c:Int):TS:=⟨(tf 211 19 [(0,(iP a)),(1,(.func 199 [] [(.ptr 0 0)])),(4,(nI 0)),(7,(nI (a.length:Int))),(8,(nI c))] [kc f211 52,kl f211 52,.inBlock 0,kc f211 7]),[(tf 198 9 [(4,(bV false)),(5,(iP a)),(6,(.func 199 [] [(.ptr 0 0)]))] [ko f198 6 2,kc f198 7]),(tf 174 9 [(4,(bV false)),(5,(iP a)),(6,(.func 199 [] [(.ptr 0 0)]))] [ko f174 6 2,kc f174 7])],[oC 0 [(.func 172 [(Prog.av b)] [])]],1⟩
def sX(b:Prog)(a:Node)(c:Int):TS:=⟨(tf 211 19 [(0,(iP a.pats)),(1,(.func 199 [] [(.ptr 0 0)])),(4,(nI 0)),(7,(nI (a.pats.length:Int))),(8,(nI c))] [kc f211 52,kl f211 52,.inBlock 0,kc f211 7]),[(tf 198 9 [(4,(bV false)),(5,(iP a.pats)),(6,(.func 199 [] [(.ptr 0 0)]))] [ko f198 6 2,kc f198 7]),(tf 174 9 [(4,(bV false)),(5,(iP a.pats)),(6,(.func 199 [] [(.ptr 0 0)]))] [ko f174 6 2,kc f174 7]),(tf 129 35 [(4,(bV false)),(29,(bV true)),(31,(iP a.pats)),(32,(.func 170 [] [(.ptr 1 0)]))] [ko f129 62 13,kc f129 63])],[oC 0 [(.func 170 [] [(.ptr 1 0)])],oC 1 [(iN b.nodes),(iI b.funs),(nI b.main),(iC b.cons)]],2⟩
def vA(a:List cC)(c:Int)(b:List (cC×Bool)):TS:=⟨(tf 125 21 [(0,(iS a)),(2,(bV false)),(3,(.map 0)),(7,(iS a)),(8,(nI (a.length:Int))),(9,(nI c))] [kc f125 116,kl f125 116,.inBlock 0,kc f125 15]),[],[(0,(.map (fM dO yV 0 b) b.length),true)],1⟩
def aWm (a:List Pat)(b:Prog):=(tT 0 (start PP 174 [(iP a),(.func 172 [(Prog.av b)] [])])<|gm 27 aE a<|.W 4 1 [0] (aEi a b 0)) tv
def bEU(b:List Pat)(c:Prog)(a:Int):=tT 0 (aEi b c a)<|gd 5 9 (a< (b.length:Int)) (rW 14 b a<|fun d e f g=>kK 11 172 [(Prog.av c),(.agg [(nI d),(nI e),(dO f),(iP g)])]<|fun i=>.b 6 16 (!i) (gE 17 2 (bV (!(decide (a≥0)))))<|gw 5 18 (a+1)<|.W 3 2 [0] (aEi b c (a+1)))<|gE 17 1 (bV true)
def aWn:=fun a b c d e f g i j k l m n=>bEU a b c|>.t j d e f g k l i m|>.t n tv
def aWo:=fun a b c d e f g i j k l m n o=>bEU a b c|>.t j d e f g k l i m|>.f n o tv
def aWp:=fun a b c d=>bEU a b c|>.f d tv
def aCX(b:Prog)(a:Node):=tT 0 (start PP 129 [(Prog.av b),(Node.av a)])<|.o (gp 10 169 [(nI a.op)] (.iface 225 (.agg []))<|gm 44 aE a.pats<|kK 0 122 [(nI (a.pats.length:Int)),(nI 1),(nI 5)]<|fun c=>.b 1 11 c (gl 2 cA a.kids<|gm 2 aE a.pats<|gw 1 18 (1+ (a.pats.length:Int))<|.b 7 24 ((a.kids.length:Int) == (1+ (a.pats.length:Int))) (kK 2 173 [(Prog.av b),(Node.av a)]<|fun d=>.b 2 29 d (gm 31 aE a.pats<|.W 4 6 [5,0] (sX b a 0))<|gE 8 5 (bV false))<|gE 13 5 (bV false))<|gE 27 5 (bV false))<|.o (gp 10 169 [(nI a.op)] (.iface 243 (.agg []))<|gm 24 aE a.pats<|gd 2 14 ((a.pats.length:Int) >0) (gE 6 2 (bV false))<|.o (.y fun c:Bool=>.y fun d:Con=>.i [rn 22,.reg (rd 5 (.ans (.len (b.cons.length:Int))::.d::.pure (bV c)::.d::.b 15 true::.d::.d::.ans (.len (a.kids.length:Int))::rd 5 (.ans (.idx (Con.av d))::rd 5 [])))] [hl Con.av b.cons,hA (aM PP 122 [(nI a.n),(nI 0),(nI (IntKind.i64.wrap ((b.cons.length:Int) -1)))] (bV c)),hA (c=true),hl cA a.kids,hA (0≤a.n),.a (((b.cons)[a.n.toNat]?) =some d) (aZ (f:=Con.av))]<|.b 3 24 ((a.kids.length:Int) ==d.args) (kK 2 173 [(Prog.av b),(Node.av a)]<|fun f=>.b 2 29 f (gm 31 aE a.pats<|.W 4 6 [5,0] (sX b a 0)) .x)<|gE 13 5 (bV false))<|.y fun c:Bool=>.i [rn 22,.reg (rd 5 (.ans (.len (b.cons.length:Int))::.d::.pure (bV c)::.d::.b 15 false::rd 14 []))] [hl Con.av b.cons,hA (aM PP 122 [(nI a.n),(nI 0),(nI (IntKind.i64.wrap ((b.cons.length:Int) -1)))] (bV c)),hA (c=false)]<|gE 16 5 (bV false))<|.o (.y fun e:Int=>gp 10 169 [(nI a.op)] (.iface 242 (nI e))<|gm 24 aE a.pats<|gd 2 14 ((a.pats.length:Int) >0) (gE 6 2 (bV false))<|gl 24 cA a.kids<|.b 7 24 ((a.kids.length:Int) ==e) (kK 2 173 [(Prog.av b),(Node.av a)]<|fun d=>.b 2 29 d (gm 31 aE a.pats<|.W 4 5 [4,0] (sX b a 0))<|gE 8 4 (bV false))<|gE 13 4 (bV false))<|gp 10 169 [(nI a.op)] (.nili)<|gE 18 2 (bV false)
def aTL:=fun a b c d e f g i j k l=>aCX a b|>.1 e c f|>.t g i|>.t j d k|>.t l tv
def aTM:=fun a b c d e f g i j k l=>aCX a b|>.1 e c f|>.t g i|>.t j d k|>.f l tv
def aTN:=fun a b c d e f g i=>aCX a b|>.1 d c e|>.t f g|>.f i tv
def aTO:=fun a b c d e f=>aCX a b|>.1 d c e|>.f f tv
def aTP:=fun a b c d=>aCX a b|>.2|>.1 c|>.t d tv
def aTQ:=fun a b c d e f g i j k l m n o=>aCX a b|>.2|>.1 f|>.f g|>.1 c d i j k l|>.t m e n|>.t o tv
def aTR:=fun a b c d e f g i j k l=>aCX a b|>.2|>.1 e|>.f f|>.1 c d g i j k|>.f l tv
def aTS:=fun a b c d e f g=>aCX a b|>.2|>.1 d|>.f e|>.2 c f g tv
def aTT:=fun a b c d e=>aCX a b|>.2|>.2|>.1 c d|>.t e tv
def aPA:=fun a b c d e f g i j=>aCX a b|>.2|>.2|>.1 c e|>.f f|>.t g d i|>.t j tv
def aPB:=fun a b c d e f g i j=>aCX a b|>.2|>.2|>.1 c e|>.f f|>.t g d i|>.f j tv
def aPC:=fun a b c d e f=>aCX a b|>.2|>.2|>.1 c d|>.f e|>.f f tv
def aPD:=fun a b c=>aCX a b|>.2|>.2|>.2 c tv
def aZ7(c:Prog)(b:Node)(a:Int):=tT 0 (sX c b a)<|gd 5 9 (a< (b.pats.length:Int)) (rW 14 b.pats a<|fun d e f g=>gpI 20 171 [(.agg [(nI d),(nI e),(dO f),(iP g)]),(nI 12)]<|fun i=>gd 2 7 (i≤12) (kK 2 172 [(Prog.av c),(.agg [(nI d),(nI e),(dO f),(iP g)])]<|fun j=>.b 11 16 (!j) (gE 22 4 (bV (!(decide (a≥0)))))<|gw 5 18 (a+1)<|.W 3 4 [0,1] (sX c b (a+1)))<|gE 36 4 (bV (!(decide (a≥0)))))<|gE 22 2 (bV true)
def aTU:=fun a b c d e f g i j k l m n o p q=>aZ7 a b c|>.t k d e f g l m i n|>.t o j p|>.t q tv
def aTV:=fun a b c d e f g i j k l m n o p q r=>aZ7 a b c|>.t k d e f g l m i n|>.t o j p|>.f q r tv
def aTW:=fun a b c d e f g i j k l m n=>aZ7 a b c|>.t j d e f g k l i m|>.f n tv
def aTX:=fun a b c d=>aZ7 a b c|>.f d tv
def aMA (a:List cC):=(tT 0 (start PP 125 [(iS a)])<|.i [rn 7,.mset 0 (fM dO yV 0 ([] :List (cC×Bool))) ([] :List (cC×Bool)).length] [hr (fM dO yV 0 ([] :List (cC×Bool))),hr (length ([] :List (cC×Bool)))]<|gl 6 dO a<|.W 4 1 [0] (vA a 0 ([] :List (cC×Bool)))) ⟨kZ0,trivial⟩
def bGe(b:List cC)(d:Int)(a:List (cC×Bool)):=tT 0 (vA b d a)<|gd 5 10 (d< (b.length:Int)) (gX dO 6 b d<|fun c=>.i [rn 6,.mput (fM dO yV 0 (mX c true a)) (mX c true a).length] [.q (p:=aAN (fM dO yV 0 a) a.length (dO c) (yV true) =some ((fM dO yV 0 (mX c true a)),length (mX c true a))) (aZO aZN _ _ _)]<|gw 4 15 (d+1)<|.W 3 1 [0] (vA b (d+1) (mX c true a)))<|.i [rn 6,sI 17 (a.length:Int)] [.q (p:=(nI ((fM dO yV 0 a).length:Int)) = (nI (a.length:Int))) (aVA _ _ _)]<|gl 1 dO b<|gE 4 1 (bV ((a.length:Int) == (b.length:Int)))
def aMB:=fun a b c d e f g i=>bGe a b c|>.t e d f g i ⟨kZ0,trivial⟩
def aMC:=fun a b c d=>bGe a b c|>.f d tv
def aEj(a:List Node)(b:Prog)(c:Int):TS:=⟨(tf 196 19 [(0,(iN a)),(1,(.func 168 [] [(.ptr 0 0)])),(4,(nI 0)),(7,(nI (a.length:Int))),(8,(nI c))] [kc f196 52,kl f196 52,.inBlock 0,kc f196 7]),[(tf 167 9 [(4,(bV false)),(5,(iN a)),(6,(.func 168 [] [(.ptr 0 0)]))] [ko f167 6 2,kc f167 7]),(tf 128 9 [(4,(bV false)),(5,(iN a)),(6,(.func 168 [] [(.ptr 0 0)]))] [ko f128 6 2,kc f128 7])],[oC 0 [(.func 129 [(Prog.av b)] [])]],1⟩
def aEk(a:List Con)(b:Int):TS:=⟨(tf 194 19 [(0,(iC a)),(1,(.func 165 [] [(.ptr 0 0)])),(4,(nI 0)),(7,(nI (a.length:Int))),(8,(nI b))] [kc f194 52,kl f194 52,.inBlock 0,kc f194 7]),[(tf 164 9 [(4,(bV false)),(5,(iC a)),(6,(.func 165 [] [(.ptr 0 0)]))] [ko f164 6 2,kc f164 7]),(tf 123 9 [(4,(bV false)),(5,(iC a)),(6,(.func 165 [] [(.ptr 0 0)]))] [ko f123 6 2,kc f123 7])],[oC 0 [(.func 124 [] [])]],1⟩
def aEl(a:List Int)(b:Int):TS:=⟨(tf 200 19 [(0,(.ilst 1 (jI a) true)),(1,(.func 176 [] [(.ptr 0 0)])),(4,(nI 0)),(7,(nI (a.length:Int))),(8,(nI b))] [kc f200 52,kl f200 52,.inBlock 0,kc f200 7]),[(tf 175 9 [(4,(bV false)),(5,(.ilst 1 (jI a) true)),(6,(.func 176 [] [(.ptr 0 0)]))] [ko f175 6 2,kc f175 7]),(tf 130 9 [(4,(bV false)),(5,(.ilst 1 (jI a) true)),(6,(.func 176 [] [(.ptr 0 0)]))] [ko f130 6 2,kc f130 7])],[oC 0 [(.func 131 [] [])]],1⟩
def aEm(a:List Con)(c:Int)(b:List cC):TS:=⟨(tf 126 22 [(1,(.func 127 [] [])),(4,.nils),(5,(.gl 0 1 0 b.length false)),(8,(iC a)),(9,(nI (a.length:Int))),(10,(nI c))] [kc f126 116,kl f126 116,.inBlock 0,kc f126 15]),[],[oL 0 1 (map dO b)],1⟩
def vB(a:Prog)(c:Int)(b:List Int):TS:=⟨(tf 88 128 [kp 1 0,(2,(bV false)),(3,(nI (a.nodes.length:Int))),(4,(.gl 1 1 0 b.length true)),(77,(iI a.funs)),(78,(nI (a.funs.length:Int))),(79,(nI c))] [kc f88 1012,kl f88 1012,.inBlock 0,kc f88 127]),[],[oC 0 [(iN a.nodes),(iI a.funs),(nI a.main),(iC a.cons)],oL 1 1 (jI b)],2⟩
def qF(a:Prog)(b:List Int)(c:Int):TS:=⟨(tf 88 128 [(2,(bV false)),(3,(nI (a.nodes.length:Int))),(4,(.gl 0 1 0 b.length true)),(97,(iN a.nodes)),(98,(nI (a.nodes.length:Int))),(99,(nI c))] [kc f88 2036,kl f88 2036,.inBlock 2,kc f88 255]),[],[oL 0 1 (jI b)],1⟩
def vC(a:Prog)(c:List Int)(d:Int)(b:List Int)(e f g:Int):TS:=⟨(tf 88 128 [(2,(bV false)),(3,(nI (a.nodes.length:Int))),(4,(.gl 0 1 0 b.length true)),(7,(nI f)),(97,(iN a.nodes)),(98,(nI (a.nodes.length:Int))),(99,(nI g)),(105,(iI c)),(106,(nI d)),(107,(nI e))] [kc f88 521420,kl f88 521420,.inBlock 4,.inBlock 3,kc f88 16295,kl f88 2036,.inBlock 2,kc f88 255]),[],[oL 0 1 (jI b)],1⟩
def aWq (a:List Node)(b:Prog):=(tT 0 (start PP 128 [(iN a),(.func 129 [(Prog.av b)] [])])<|gl 27 Node.av a<|.W 4 1 [0] (aEj a b 0)) tv
def bEV(b:List Node)(c:Prog)(a:Int):=tT 0 (aEj b c a)<|gd 5 9 (a< (b.length:Int)) (gX Node.av 14 b a<|fun d=>kK 11 129 [(Prog.av c),(Node.av d)]<|fun e=>.b 6 16 (!e) (gE 17 2 (bV (!(decide (a≥0)))))<|gw 5 18 (a+1)<|.W 3 2 [0] (aEj b c (a+1)))<|gE 17 1 (bV true)
def aWr:=fun a b c d e f g i j k=>bEV a b c|>.t f d g i e j|>.t k tv
def aWs:=fun a b c d e f g i j k l=>bEV a b c|>.t f d g i e j|>.f k l tv
def aWt:=fun a b c d=>bEV a b c|>.f d tv
def aWu (a:List Con):=(tT 0 (start PP 123 [(iC a),(.func 124 [] [])])<|gl 27 Con.av a<|.W 4 1 [0] (aEk a 0)) tv
def bEW(b:List Con)(a:Int):=tT 0 (aEk b a)<|gd 5 9 (a< (b.length:Int)) (gX Con.av 14 b a<|fun c=>kK 11 124 [(.agg [(dO c.name),(nI c.args)])]<|fun d=>.b 6 16 (!d) (gE 17 2 (bV (!(decide (a≥0)))))<|gw 5 18 (a+1)<|.W 3 2 [0] (aEk b (a+1)))<|gE 17 1 (bV true)
def aWv:=fun a b c d e f g i j=>bEW a b|>.t e c f g d i|>.t j tv
def aWw:=fun a b c d e f g i j k=>bEW a b|>.t e c f g d i|>.f j k tv
def aWx:=fun a b c=>bEW a b|>.f c tv
def aWy (a:List Int):=(tT 0 (start PP 130 [(.ilst 1 (jI a) true),(.func 131 [] [])])<|gl 27 cA a<|.W 4 1 [0] (aEl a 0)) tv
def bEX(b:List Int)(a:Int):=tT 0 (aEl b a)<|gd 5 9 (a< (b.length:Int)) (gX cA 14 b a<|fun c=>.b 29 16 (!(c==1)) (gE 17 1 (bV (!(decide (a≥0)))))<|gw 5 18 (a+1)<|.W 3 1 [0] (aEl b (a+1)))<|gE 17 1 (bV true)
def aWz:=fun a b c d e f g=>bEX a b|>.t d c e f|>.t g tv
def aWA:=fun a b c d e f g i=>bEX a b|>.t d c e f|>.f g i tv
def aWB:=fun a b c=>bEX a b|>.f c tv
def aWC (a:List Con):=(tT 0 (start PP 126 [(iC a),(.func 127 [] [])])<|gl 12 Con.av a<|.i [rn 4,.nilL 5 1] []<|gu 0 0 (map dO ([] :List cC))<|gs 0 5 (.gl 0 1 0 ([] :List cC).length false)<|.W 0 1 [0] (aEm a 0 ([] :List cC))) ⟨kk,trivial⟩
def bGf(c:List Con)(a:Int)(b:List cC):=tT 0 (aEm c a b)<|gd 5 11 (a< (c.length:Int)) (gX Con.av 6 c a<|fun d=>ga 23 dO b [d.name]<|gw 5 20 (a+1)<|.W 3 5 [4] (aEm c (a+1) (b++ [d.name])))<|gz 8 4 0 1 dO b false<|gE 0 1 (iS b)
def aWD:=fun a b c d e f g i j=>bGf a b c|>.t e d f g i j ⟨kk,trivial⟩
def aWE:=fun a b c d=>bGf a b c|>.f d tv
def aJV(a:Prog):=tT 0 (start PP 88 [(Prog.av a)])<|gl 10 Node.av a.nodes<|gd 8 17 ((a.nodes.length:Int) >300) (gE 40 1 (bV false))<|gl 3 cA a.funs<|gd 3 24 ((a.funs.length:Int) <1) (gE 33 1 (bV false))<|gl 3 cA a.funs<|gd 4 32 ((a.funs.length:Int) > (a.nodes.length:Int)) (gE 25 1 (bV false))<|gl 3 Con.av a.cons<|gd 3 39 ((a.cons.length:Int) >20) (gE 18 1 (bV false))<|gl 6 cA a.funs<|gw 1 47 ((a.funs.length:Int) - (1:Int))<|kK 0 122 [(nI a.main),(nI 0),(nI ((a.funs.length:Int) - (1:Int)))]<|fun c=>.b 3 50 (!c) (gE 6 1 (bV false))<|kK 8 123 [(iC a.cons),(.func 124 [] [])]<|fun d=>.b 2 56 (!d) (gE 23 1 (bV false))<|.y fun b:List cC=>gp 3 126 [(iC a.cons),(.func 127 [] [])] (iS b)<|kK 0 125 [(iS b)]<|fun e=>.b 3 64 (!e) (gE 15 1 (bV false))<|kK 5 128 [(iN a.nodes),(.func 129 [(Prog.av a)] [])]<|fun f=>.b 3 72 (!f) (gE 6 1 (bV false))<|.i [rn 5,.mk a.nodes.length] [hr ((a.nodes.length:Nat) :Int),hr ((a.nodes.length:Nat) :Int),hA (a.nodes.length<100000)]<|.i [.lset 1 (jI (replicate a.nodes.length (0:Int)))] [.q (p:=replicate a.nodes.length (cA (0:Int)) = (jI (replicate a.nodes.length (0:Int)))) (aJp _ _ _)]<|.i [.set 74 (.gl 1 1 0 (replicate a.nodes.length (0:Int)).length true)] [.q (p:=(AV.gl 1 1 0 a.nodes.length true) = (.gl 1 1 0 (replicate a.nodes.length (0:Int)).length true)) (cI (aIA ..).symm)]<|gl 8 cA a.funs<|.W 4 2 [0,1] (vB a 0 (replicate a.nodes.length (0:Int)))
def aMD:=fun a b=>aJV a|>.t b tv
def aME:=fun a b c=>aJV a|>.f b|>.t c tv
def aMF:=fun a b c d=>aJV a|>.f b|>.f c|>.t d tv
def aMG:=fun a b c d e=>aJV a|>.f b|>.f c|>.f d|>.t e tv
def aMH:=fun a b c d e f g i j=>aJV a|>.f c|>.f d|>.f e|>.f f g b i|>.t j tv
def aMI:=fun a b c d e f g i j k l m=>aJV a|>.f d|>.f e|>.f f|>.f g i b j|>.f k c l|>.t m tv
def aMJ:=fun a b c d e f g i j k l m n o p q r=>aJV a|>.f f|>.f g|>.f i|>.f j k b l|>.f m c n|>.f o d p e q|>.t r tv
def aMK:=fun a b c d e f g i j k l m n o p q r s t u=>aJV a|>.f g|>.f i|>.f j|>.f k l b m|>.f n c o|>.f p d q e r|>.f s f t|>.t u tv
def aML:=fun a b c d e f g i j k l m n o p q r s t u v=>aJV a|>.f g|>.f i|>.f j|>.f k l b m|>.f n c o|>.f p d q e r|>.f s f t|>.f u v ⟨kk,trivial⟩
def bEY(d:Prog)(e:Int)(a:List Int):=tT 0 (vB d e a)<|gd 5 80 (e< (d.funs.length:Int)) (gX cA 6 d.funs e<|fun b=>gw 9 85 ((d.nodes.length:Int) -1)<|kK 0 122 [(nI b),(nI 0),(nI ((d.nodes.length:Int) -1))]<|fun f=>.b 2 87 (!f) (gE 6 2 (bV false))<|.i [rn 5,.ans (.ix)] [hA (0≤b),hA (b< (a.length:Int))]<|.y fun c:Int=>gj cA 0 a b.toNat c<|gw 1 92 (c+1)<|.i [.ans (.ix)] [hA (0≤b),hA (b< (a.length:Int))]<|.i [.st (cA c) (cA (c+1))] [.a (((a)[b.toNat]?) =some c) (cS (f:=cA)),hr (some (cA (c+1)))]<|.i [.lset 1 (jI (set a b.toNat (c+1)))] [.q (p:=(jI a).set (0+b.toNat) (cA (c+1)) = (jI (set a b.toNat (c+1)))) (qC _ _ _ _)]<|.i [.set 4 (.gl 1 1 0 (set a b.toNat (c+1)).length true)] [.q (p:=(AV.gl 1 1 0 a.length true) = (.gl 1 1 0 (set a b.toNat (c+1)).length true)) (cI (fK ..).symm)]<|.i [.set 88 (.gl 1 1 0 (set a b.toNat (c+1)).length true)] [.q (p:=(AV.gl 1 1 0 a.length true) = (.gl 1 1 0 (set a b.toNat (c+1)).length true)) (cI (fK ..).symm)]<|gw 4 94 (e+1)<|.W 3 2 [0,1] (vB d (e+1) (set a b.toNat (c+1))))<|gl 8 Node.av d.nodes<|.W 4 2 [1] (qF d a 0)
def aMM:=fun a b c d e f g i j k l=>bEY a b c|>.t f d g i j e k|>.t l tv
def aMN:=fun d e f g i j k l m n o p a b c q r=>bEY d e f|>.t k g l m n i o|>.f p a b j c q a b c r ⟨kk,trivial⟩
def aMO:=fun a b c d=>bEY a b c|>.f d ⟨kk,trivial⟩
def bGg(c:Prog)(d:List Int)(a:Int):=tT 0 (qF c d a)<|gd 5 100 (a< (c.nodes.length:Int)) (gX Node.av 7 c.nodes a<|fun b=>gl 9 cA b.kids<|.W 4 2 [0] (vC c b.kids (b.kids.length:Int) d 0 a a))<|gz 5 126 0 1 cA d true<|kK 0 130 [(.ilst 1 (jI d) true),(.func 131 [] [])]<|fun b=>gE 3 1 (bV b)
def aMP:=fun a b c d e f g=>bGg a b c|>.t e d f g ⟨kk,trivial⟩
def aMQ:=fun a b c d e f=>bGg a b c|>.f e d f tv
def bEZ(d:Prog)(i:List Int)(j:Int)(a:List Int)(e f g:Int):=tT 0 (vC d i j a e f g)<|gd 5 108 (e<j) (gX cA 6 i e<|fun b=>gw 9 113 (f+1)<|gw 2 115 ((d.nodes.length:Int) -1)<|kK 0 122 [(nI b),(nI (f+1)),(nI ((d.nodes.length:Int) -1))]<|fun k=>.b 2 117 (!k) (gE 6 1 (bV false))<|.i [rn 5,.ans (.ix)] [hA (0≤b),hA (b< (a.length:Int))]<|.y fun c:Int=>gj cA 0 a b.toNat c<|gw 1 122 (c+1)<|.i [.ans (.ix)] [hA (0≤b),hA (b< (a.length:Int))]<|.i [.st (cA c) (cA (c+1))] [.a (((a)[b.toNat]?) =some c) (cS (f:=cA)),hr (some (cA (c+1)))]<|.i [.lset 0 (jI (set a b.toNat (c+1)))] [.q (p:=(jI a).set (0+b.toNat) (cA (c+1)) = (jI (set a b.toNat (c+1)))) (qC _ _ _ _)]<|.i [.set 4 (.gl 0 1 0 (set a b.toNat (c+1)).length true)] [.q (p:=(AV.gl 0 1 0 a.length true) = (.gl 0 1 0 (set a b.toNat (c+1)).length true)) (cI (fK ..).symm)]<|.i [.set 118 (.gl 0 1 0 (set a b.toNat (c+1)).length true)] [.q (p:=(AV.gl 0 1 0 a.length true) = (.gl 0 1 0 (set a b.toNat (c+1)).length true)) (cI (fK ..).symm)]<|gw 4 124 (e+1)<|.W 3 1 [0] (vC d i j (set a b.toNat (c+1)) (e+1) f g))<|gw 5 125 (g+1)<|.W 3 1 [0] (qF d a (g+1))
def aMR:=fun a b c d e f g i j k l m n o p q=>bEZ a b c d e f g|>.t k i l m n o j p|>.t q tv
def aMS:=fun d e f g i j k l m n o p q r s t u a b c v w=>bEZ d e f g i j k|>.t o l p q r s m t|>.f u a b n c v a b c w ⟨kk,trivial⟩
def aMT:=fun a b c d e f g i j=>bEZ a b c d e f g|>.f i j ⟨kk,trivial⟩
def bGh(a:Prog):=tT 0 (start PP 45 [(Prog.av a)])<|kK 10 88 [(Prog.av a)]<|fun b=>.b 2 6 (!b) (gE 6 1 (nI 2))<|gE 7 1 (nI 0)
def aPE:=fun a b c d=>bGh a b c|>.t d tv
def aPF:=fun a b c d=>bGh a b c|>.f d tv
theorem gG (n lo a:Int) :aM PP 122 [.int .i64 n,.int .i64 lo,.int .i64 a] (.bool (dY n lo a)) :=by
 refine aK aC rfl rfl ?_;by_cases h:n≥lo
 · have e:dY n lo a=decide (n≤a) :=by unfold dY;rw [decide_eq_true (show lo≤n from h),nV]
   rw [e];exact aZ4 n lo a (decide_eq_true h)
 · have e:dY n lo a=false:=by unfold dY;rw [decide_eq_false (show ¬lo≤n from h),Bool.false_and]
   rw [e];exact aZ5 n lo a (decide_eq_false h)
theorem aCY (n:Int) :aM PP 197 [.int .i64 n] (.bool (dY n (-1000000000) 1000000000)) :=
 aK aC rfl rfl (aV8 n _ (gG n _ _))
theorem aTY (b:ByteArray)(i:Nat)(h:128≤ (b.get! i).toNat) :128≤ (Utf8.decode b i).1:=by
 unfold Utf8.decode Utf8.runeError;simp only [add_zero];rw [if_neg (show ¬ (b.get! i).toNat<0x80 by omega)]
 repeat' split
 all_goals first
  |assumption
  | (simp_all;done)
  | (rename_i q;simp only [cM,decide_eq_true_eq,ge_iff_le]at q;simp only;omega)
theorem aZ8 {s:cC}{i:Nat}{c:UInt8}(h:s[i]?=some c) :∃r d,aN3 (length s) (aG s) i=some (r,d) ∧ (c.toNat<128→r=c.toNat∧d=1) ∧ (128≤c.toNat→128≤r) :=by
 have l:= (zq0.1 h).1;have hb:=byte_at h;unfold aN3;have f:blt i (length s) =true:=by rw [cX];exact decide_eq_true l
 have e:mod (div (aG s) (pow 256 i)) 256=c.toNat:=hb;rw [f,e];simp only [cond];by_cases k:c.toNat<128
 · have a:blt c.toNat 128=true:=by rw [cX];exact decide_eq_true k
   rw [a];exact⟨_,_,rfl,fun _=> ⟨rfl,rfl⟩,fun g=>by omega⟩
 · have a:blt c.toNat 128=false:=by rw [cX];exact decide_eq_false k
   rw [a];refine⟨_,_,rfl,fun g=>by omega,fun _=>?_⟩;have j:aP (length s) (aG s) =s:=fW s;rw [j];have b: ((⟨⟨s⟩⟩ :ByteArray).get! (i+0)).toNat=c.toNat:=by
    simp only [add_zero,ByteArray.get!];have: (⟨s⟩ :Array UInt8)[i]! =c:=by
     rw [Array.getElem!_eq_getD,aAB,show(⟨s⟩ :Array UInt8) =s.toArray from rfl,List.getElem?_toArray,h];rfl
    rw [this]
   exact aTY _ _ (by rw [add_zero]at b;rw [b];omega)
theorem aDI (s:cC) :∀ (t:cC) (i:Nat),s.drop i=t→Ends PP 0 (zC s i).as (.ret (.bool (jZ t))) (aA [] 0)
 | [],i,h=>aPu s i (bL h)
 | c :: t,i,h=>by
  obtain⟨j,l,a⟩ :=bI h;obtain⟨r,d,f,b,g⟩ :=aZ8 j;by_cases m:c.toNat<97
  · have:= (b (by omega)).1;exact Ends.eqv (aPr s i r d a f sd) (by simp [jZ,uR];omega)
  · by_cases n:122<c.toNat
    · have hr:122<r:=by
       by_cases k:c.toNat<128
       ·have:= (b k).1;omega
       ·have:=g (by omega);omega
      exact Ends.eqv (aPs s i r d a f sd sd) (by simp [jZ,uR];omega)
    · obtain⟨rfl,rfl⟩ :=b (by omega);refine(aPt s i _ _ a f sd sd).ends ?_;have e:uR c=true:=by simp [uR];omega
      exact Ends.eqv (aDI s t (i+1) l) (by simp [jZ,e])
theorem aMU (s:cC) :aM PP 195 [dO s] (.bool (jZ s)) :=
 aK aC rfl rfl ((aPq s).ends (aDI s s 0 rfl))
theorem aMV (s:cC) :aM PP 166 [dO s] (.bool (jH s)) :=by
 refine aK aC rfl rfl ?_
 match s with
 | [] =>exact aPz [] rfl
 | c ::t=>
  have b: (!(jW (length (c::t)) (aG (c::t)) 0 0)) =true:=by rw [dP];rfl
  by_cases f: (c::t).length≤8
  · have a: (decide (((length (c::t) :Nat) :Int) ≤ (8:Int))) =true:=sd;by_cases d:65≤c.toNat
    · by_cases e:c.toNat≤90
      ·exact Ends.eqv (aPv (c::t) c _ b a rfl sd sd (by simp) (aMU t)) (by simp only [jH,decide_eq_true f,decide_eq_true d,decide_eq_true e,nV])
      ·exact Ends.eqv (aPw (c::t) c b a rfl sd sd) (by simp only [jH,decide_eq_false e,Bool.and_false,Bool.false_and])
    ·exact Ends.eqv (aPx (c::t) c b a rfl sd) (by simp only [jH,decide_eq_false d,Bool.and_false,Bool.false_and])
  ·exact Ends.eqv (aPy (c::t) b sd) (by simp only [jH,decide_eq_false f,Bool.false_and])
theorem aTZ (c:Con) :aM PP 124 [Con.av c] (.bool (fJ c)) :=by
 refine aK aC rfl rfl ?_;have a:=aMV c.name;cases k:jH c.name
 case false=>rw [k]at a;exact Ends.eqv (aWb c false a rfl) (by simp [fJ,k])
 rw [k]at a;exact Ends.eqv (aWa c true _ a rfl (gG _ _ _)) (by simp [fJ,k])
def oV (p:Prog)(x:Node) :Bool:=if x.op=14 then true else dQ p x.op x.n
theorem aT0 (p:Prog)(x:Node)(f:p.funs.length≤1000) :Ends PP 0 (start PP 173 [Prog.av p,Node.av x]).as (.ret (.bool (oV p x))) (aA [] 0) :=by
 cases a: (x.op== (1:Int))
 case true=>exact Ends.eqv (aMk p x  (dY (x.n) (-1000000000) 1000000000) a (aCY (x.n))) (by simp_all [oV,dQ] <;>rfl)
 cases b: (x.op== (2:Int))
 case true=>exact Ends.eqv (aMl p x  (dY (x.n) 0 1) a b (gG (x.n) 0 1)) (by simp_all [oV,dQ] <;>rfl)
 cases c: (x.op== (24:Int))
 case true=>exact Ends.eqv (aMm p x  (dY (x.n) 0 3) a b c (gG (x.n) 0 3)) (by simp_all [oV,dQ] <;>rfl)
 cases d: (x.op== (4:Int))
 case true=>exact Ends.eqv (aMn p x  (dY (x.n) (0- ((length p.funs:Nat) :Int)) 29) a b c d sdI (gG (x.n) (0- ((length p.funs:Nat) :Int)) 29)) (by simp_all [oV,dQ] <;>rfl)
 cases e: (x.op== (14:Int))
 case true=>exact Ends.eqv (aMo p x   a b c d e) (by simp_all [oV,dQ] <;>rfl)
 exact Ends.eqv (aMp p x   a b c d e) (by simp_all [oV,dQ] <;>rfl)
theorem aJW (p:Prog)(x:Node)(a:p.funs.length≤1000) :aM PP 173 [Prog.av p,Node.av x] (.bool (oV p x)) :=
 aK aC rfl rfl (aT0 p x a)
mutual
def qG :Pat→Int→Int
 | .mk _ _ _ ps,most=>mZ ps most 1
def mZ :List Pat→Int→Int→Int
 | [],_,n=>n
 |p::ps,most,n=>if n>most then n else mZ ps most (n+qG p (most-n))
end
mutual
theorem aFX :∀ (p:Pat) (m:Int),0≤m→1≤qG p m∧qG p m≤m+1
 | .mk _ _ _ a,m,h=>by rw [qG];exact aH0 a m 1 (by omega) (by omega)
theorem aH0 :∀ (b:List Pat) (m n:Int),1≤n→n≤m+1→1≤mZ b m n∧mZ b m n≤m+1
 | [],m,n,d,c=>by rw [mZ];omega
 | p ::b,m,n,d,c=>by
  rw [mZ];split
  ·omega
  · have a:=aFX p (m-n) (by omega);exact aH0 b m _ (by omega) (by omega)
end
mutual
theorem aMW :∀ (p:Pat) (m:Int),0≤m→ ((bX p:Int) ≤m→qG p m=bX p) ∧ (m<bX p→m<qG p m)
 | .mk _ _ _ a,m,h=>by
  have:=aH1 a m 1 (by omega);simp only [qG,bX];constructor
  ·intro g;have:=this.1 (by omega);omega
  ·intro g;exact this.2 (by omega)
theorem aH1 :∀ (c:List Pat) (m n:Int),n≤m+1→ (n+bD c≤m→mZ c m n=n+bD c) ∧ (m<n+bD c→m<mZ c m n)
 | [],m,n,h=>by simp only [mZ,bD];omega
 | p ::c,m,n,h=>by
  simp only [mZ,bD];split
  ·omega
  · rename_i k;have a:=aMW p (m-n) (by omega);have l:=aFX p (m-n) (by omega);have b:=aH1 c m (n+qG p (m-n)) (by omega);constructor
    · intro g;have:=a.1 (by omega);have:=b.1 (by omega);omega
    · intro g;refine b.2 ?_;by_cases q: (bX p:Int) ≤m-n
      ·have:=a.1 q;omega
      ·have:=a.2 (by omega);omega
end
theorem aH2 (p:Pat)(m:Int)(h:0≤m) :qG p m≤m↔ (bX p:Int) ≤m:=by
 have:=aMW p m h;constructor
 · intro g;by_cases k: (bX p:Int) ≤m
   ·exact k
   ·have:=this.2 (by omega);omega
 ·intro g;have:=this.1 g;omega
theorem aFY (f n:Int)(s:cC)(ps:List Pat)(m:Int)(hm:m≤1000)(e:∀p∈ps,∀m:Int,0≤m→m≤1000→aM PP 171 [Pat.av p,.int .i64 m] (.int .i64 (qG p m))) :
  ∀ (t:List Pat) (i:Nat) (k:Int),ps.drop i=t→ (i:Int) +1≤k→k≤m+1→Ends PP 0 (aBT f n s ps m k (i:Int)).as (.ret (.int .i64 (mZ t m k))) (aA [] 0)
 | [],i,k,h,o,q=>by
  have:=bL h;rw [mZ];exact aTF f n s ps m k i sd
 | .mk c d b a::t,i,k,h,o,q=>by
  obtain⟨g,j,r⟩ :=bI h;rw [mZ];split
  ·exact aTD f n s ps m k i c d b a sd sd sd sd
  · rename_i hk;have l:=aFX (.mk c d b a) (m-k) (by omega);refine(aTE f n s ps m k i c d b a _ sd sd sd sd sd (e (.mk c d b a) (kN g) (m-k) (by omega) (by omega)) sd sd).ends ?_;exact aFY f n s ps m hm e t (i+1) _ j (by omega) (by omega)
mutual
theorem aFZ :∀ (p:Pat) (m:Int),0≤m→m≤1000→aM PP 171 [Pat.av p,.int .i64 m] (.int .i64 (qG p m))
 | .mk f n s a,m,c,b=>by
  refine aK aC (by simp [keylessL,kW,keyless]) rfl ?_;rw [qG];refine(aTC f n s a m).ends ?_;exact aFY f n s a m b (aH3 a) a 0 1 rfl (by omega) (by omega)
theorem aH3 :∀ (b:List Pat),∀p∈b,∀m:Int,0≤m→m≤1000→aM PP 171 [Pat.av p,.int .i64 m] (.int .i64 (qG p m))
 | [],p,a,_,_,_=>by cases a
 | q::b,p,a,m,c,d=>by
  rcases zq7.1 a with e|a
  ·rw [e];exact aFZ q m c d
  ·exact aH3 b p a m c d
end
theorem sdW {p:Prop}(h:p:=by simp_all only [inB_iff,inB_not,beq_iff_eq,decide_eq_true_eq,decide_eq_false_iff_not] <;>omega) :p:=h
theorem idW {p:Prop}(h:p:=by exact⟨_,kF (by simp_all only [inB_iff,inB_not,beq_iff_eq,decide_eq_true_eq,decide_eq_false_iff_not] <;>omega)⟩) :p:=h
theorem aH4 (l:List Pat)(p:Prog)(hl:l.length<1000000)(c:∀q∈l,aM PP 172 [Prog.av p,Pat.av q] (.bool (dZ p.cons q))) :
  ∀ (t:List Pat) (i:Nat),l.drop i=t→Ends PP 0 (aEi l p (i:Int)).as (.ret (.bool (cZ p.cons t))) (aA [] 0)
 | [],i,h=>by
  have:=bL h;exact Ends.eqv (aWp l p i sd) (by simp [cZ])
 | .mk f n s b::t,i,h=>by
  obtain⟨d,e,g⟩ :=bI h;have a:=c (.mk f n s b) (kN d);cases k:dZ p.cons (.mk f n s b)
  case false=>
   rw [k]at a;exact Ends.eqv (aWn l p i f n s b false sd sd sd a rfl) (by simp [cZ,k])
  rw [k]at a;refine(aWo l p i f n s b true sd sd sd a rfl sd).ends ?_;exact Ends.eqv (aH4 l p hl c t (i+1) e) (by simp [cZ,k])
theorem aT1 (l:List Pat)(p:Prog)(hl:l.length<1000000)(a:∀q∈l,aM PP 172 [Prog.av p,Pat.av q] (.bool (dZ p.cons q))) :
  aM PP 174 [.ilst 4 (Pats.av l) false,.func 172 [Prog.av p] []] (.bool (cZ p.cons l)) :=
 aK aC (by simp [keylessL,keyless,Prog.av]) rfl ((aWm l p).ends (aH4 l p hl a l 0 rfl))
theorem bE0 (p:Prog)(b d:Int)(c:cC)(a:List Pat)(hc:p.cons.length≤1000)(e:aM PP 174 [.ilst 4 (Pats.av a) false,.func 172 [Prog.av p] []] (.bool (cZ p.cons a))) :
  Ends PP 0 (start PP 172 [Prog.av p,Pat.av (.mk b d c a)]).as (.ret (.bool (dZ p.cons (.mk b d c a)))) (aA [] 0) :=by
 have w:IntKind.i64.wrap ((p.cons.length:Int) -1) = (p.cons.length:Int) -1:=by apply wrap64<;>omega
 cases f: (!(jW (length c) (aG c) 0 0))
 case true=>exact Ends.eqv (aWc p b d c a   f) (by clear e;simp_all [dZ,eG,eT,dP,gQ] <;>rfl)
 cases g: (!(cZ p.cons a))
 case true=>exact Ends.eqv (aWd p b d c a  (cZ p.cons a) f e g) (by clear e;simp_all [dZ,eG,eT,dP,gQ] <;>rfl)
 cases h: (b== (1:Int))
 case true=>
  cases u: (d== (0:Int))
  case true=>exact Ends.eqv (aWe p b d c a  (cZ p.cons a) f e g h u) (by clear e;simp_all [dZ,eG,eT,dP,gQ] <;>rfl)
  exact Ends.eqv (aWf p b d c a  (cZ p.cons a) f e g h u) (by clear e;simp_all [dZ,eG,eT,dP,gQ] <;>rfl)
 cases i: (b== (2:Int))
 case true=>
  cases r: (d== (0:Int))
  case true=>exact Ends.eqv (aWg p b d c a  (cZ p.cons a) f e g h i r) (by clear e;simp_all [dZ,eG,eT,dP,gQ] <;>rfl)
  exact Ends.eqv (aWh p b d c a  (cZ p.cons a) f e g h i r) (by clear e;simp_all [dZ,eG,eT,dP,gQ] <;>rfl)
 cases j: (b== (5:Int))
 case true=>
  cases t: (d== (0:Int))
  case true=>exact Ends.eqv (aWi p b d c a  (cZ p.cons a) f e g h i j t) (by clear e;simp_all [dZ,eG,eT,dP,gQ] <;>rfl)
  exact Ends.eqv (aWj p b d c a  (cZ p.cons a) f e g h i j t) (by clear e;simp_all [dZ,eG,eT,dP,gQ] <;>rfl)
 cases l: (b== (3:Int))
 case true=>
  cases o: (dY d (-1000000000) 1000000000)
  case true=>exact Ends.eqv (aWk p b d c a  (cZ p.cons a) (dY d (-1000000000) 1000000000) f e g h i j l (aCY d) o) (by clear e;simp_all [dZ,eG,eT,dP,gQ] <;>rfl)
  exact Ends.eqv (aWl p b d c a  (cZ p.cons a) (dY d (-1000000000) 1000000000) f e g h i j l (aCY d) o) (by clear e;simp_all [dZ,eG,eT,dP,gQ] <;>rfl)
 cases k: (b== (4:Int))
 case true=>
  cases q: (dY d 0 1)
  case true=>exact Ends.eqv (aTG p b d c a  (cZ p.cons a) (dY d 0 1) f e g h i j l k (gG d 0 1) q) (by clear e;simp_all [dZ,eG,eT,dP,gQ] <;>rfl)
  exact Ends.eqv (aTH p b d c a  (cZ p.cons a) (dY d 0 1) f e g h i j l k (gG d 0 1) q) (by clear e;simp_all [dZ,eG,eT,dP,gQ] <;>rfl)
 cases m: (b== (6:Int))
 case true=>
  cases n: (dY d 0 (IntKind.i64.wrap (((length p.cons:Nat) :Int) - (1:Int))))
  case true=>
   obtain⟨v,s⟩ :∃y,((p.cons)[d.toNat]?) =some y:=idW;exact Ends.eqv (aTI p b d c a  (cZ p.cons a) (dY d 0 (IntKind.i64.wrap (((length p.cons:Nat) :Int) - (1:Int)))) v f e g h i j l k m (gG d 0 (IntKind.i64.wrap (((length p.cons:Nat) :Int) - (1:Int)))) n sdW s) (by clear e;simp_all [dZ,eG,eT,dP,gQ] <;>rfl)
  exact Ends.eqv (aTJ p b d c a  (cZ p.cons a) (dY d 0 (IntKind.i64.wrap (((length p.cons:Nat) :Int) - (1:Int)))) f e g h i j l k m (gG d 0 (IntKind.i64.wrap (((length p.cons:Nat) :Int) - (1:Int)))) n) (by clear e;simp_all [dZ,eG,eT,dP,gQ] <;>rfl)
 exact Ends.eqv (aTK p b d c a  (cZ p.cons a) f e g h i j l k m) (by clear e;simp_all [dZ,eG,eT,dP,gQ] <;>rfl)
mutual
theorem aH5 (p:Prog)(hc:p.cons.length≤1000) :∀ (q:Pat),bX q<1000000→aM PP 172 [Prog.av p,Pat.av q] (.bool (dZ p.cons q))
 | .mk f n s a,h=>by
  refine aK aC (by simp [keylessL,kW,keyless,Prog.av]) rfl ?_;simp only [bX]at h;have:=eD a;exact bE0 p f n s a hc (aT1 a p (by omega) (aMX p hc a (by omega)))
theorem aMX (p:Prog)(hc:p.cons.length≤1000) :∀ (b:List Pat),bD b<1000000→∀q∈b,aM PP 172 [Prog.av p,Pat.av q] (.bool (dZ p.cons q))
 | [],_,q,a=>by cases a
 | r::b,h,q,a=>by
  simp only [bD]at h;rcases zq7.1 a with e|a
  ·rw [e];exact aH5 p hc r (by omega)
  ·exact aMX p hc b (by omega) q a
end
def cT (op:Int) :Option Int:=
 if op=1∨op=2∨op=3∨op=4∨op=21∨op=25∨op=28 then some 0
 else if op=5∨op=27∨op=16∨op=17∨op=19∨op=20∨op=23∨op=26∨op=24 then some 1
 else if op=6∨op=7∨op=9∨op=10∨op=11∨op=12∨op=13∨op=18∨op=22 then some 2
 else if op=8 then some 3 else none
def bG (op:Int) :AV:=
 match cT op with
 |some k=>.iface 242 (.int .i64 k)
 |none=>if op=15 then .iface 225 (.agg [])else if op=14 then .iface 243 (.agg [])else .nili
theorem aMY {op k:Int}(h:cT op=some k)(pats a:Int) :cK op pats a=k∧op≠15∧op≠14:=by
 unfold cT at h;unfold cK;split at h
 ·rename_i g;rw [if_pos g];simp only [Option.some.injEq]at h;refine⟨h,?_,?_⟩ <;>omega
 · rename_i d;rw [if_neg d];split at h
   ·rename_i g;rw [if_pos g];simp only [Option.some.injEq]at h;refine⟨h,?_,?_⟩ <;>omega
   · rename_i b;rw [if_neg b];split at h
     ·rename_i g;rw [if_pos g];simp only [Option.some.injEq]at h;refine⟨h,?_,?_⟩ <;>omega
     · rename_i c;rw [if_neg c];split at h
       ·rename_i g;rw [if_pos g];simp only [Option.some.injEq]at h;refine⟨h,?_,?_⟩ <;>omega
       ·cases h
theorem aPG {op:Int}(h:cT op=none)(pats a:Int) :cK op pats a=if op=15 then 1+pats else if op=14 then a else -1:=by
 unfold cT at h;unfold cK;split at h
 ·cases h
 · rename_i c;rw [if_neg c];split at h
   ·cases h
   · rename_i d;rw [if_neg d];split at h
     ·cases h
     · rename_i b;rw [if_neg b];split at h
       ·cases h
       ·rename_i g;rw [if_neg g]
theorem aT2 (op:Int) :Ends PP 0 (start PP 169 [.int .i64 op]).as (.ret (bG op)) (aA [] 0) :=by
 cases b: (op== (1:Int))
 case true=>exact Ends.eqv (aMq op   b) (by simp_all [bG,cT])
 cases d: (op== (2:Int))
 case true=>exact Ends.eqv (aMr op   b d) (by simp_all [bG,cT])
 cases f: (op== (3:Int))
 case true=>exact Ends.eqv (aMs op   b d f) (by simp_all [bG,cT])
 cases g: (op== (4:Int))
 case true=>exact Ends.eqv (aMt op   b d f g) (by simp_all [bG,cT])
 cases i: (op== (21:Int))
 case true=>exact Ends.eqv (aMu op   b d f g i) (by simp_all [bG,cT])
 cases k: (op== (25:Int))
 case true=>exact Ends.eqv (aMv op   b d f g i k) (by simp_all [bG,cT])
 cases l: (op== (28:Int))
 case true=>exact Ends.eqv (aMw op   b d f g i k l) (by simp_all [bG,cT])
 cases n: (op== (5:Int))
 case true=>exact Ends.eqv (aMx op   b d f g i k l n) (by simp_all [bG,cT])
 cases p: (op== (27:Int))
 case true=>exact Ends.eqv (aMy op   b d f g i k l n p) (by simp_all [bG,cT])
 cases a: (op== (16:Int))
 case true=>exact Ends.eqv (aMz op   b d f g i k l n p a) (by simp_all [bG,cT])
 cases c: (op== (17:Int))
 case true=>exact Ends.eqv (aJC op   b d f g i k l n p a c) (by simp_all [bG,cT])
 cases e: (op== (19:Int))
 case true=>exact Ends.eqv (aJD op   b d f g i k l n p a c e) (by simp_all [bG,cT])
 cases h: (op== (20:Int))
 case true=>exact Ends.eqv (aJE op   b d f g i k l n p a c e h) (by simp_all [bG,cT])
 cases j: (op== (23:Int))
 case true=>exact Ends.eqv (aJF op   b d f g i k l n p a c e h j) (by simp_all [bG,cT])
 cases m: (op== (24:Int))
 case true=>exact Ends.eqv (aJG op   b d f g i k l n p a c e h j m) (by simp_all [bG,cT])
 cases o: (op== (26:Int))
 case true=>exact Ends.eqv (aJH op   b d f g i k l n p a c e h j m o) (by simp_all [bG,cT])
 cases q: (op== (6:Int))
 case true=>exact Ends.eqv (aJI op   b d f g i k l n p a c e h j m o q) (by simp_all [bG,cT])
 cases r: (op== (7:Int))
 case true=>exact Ends.eqv (aJJ op   b d f g i k l n p a c e h j m o q r) (by simp_all [bG,cT])
 cases s: (op== (9:Int))
 case true=>exact Ends.eqv (aJK op   b d f g i k l n p a c e h j m o q r s) (by simp_all [bG,cT])
 cases t: (op== (10:Int))
 case true=>exact Ends.eqv (aJL op   b d f g i k l n p a c e h j m o q r s t) (by simp_all [bG,cT])
 cases u: (op== (11:Int))
 case true=>exact Ends.eqv (aJM op   b d f g i k l n p a c e h j m o q r s t u) (by simp_all [bG,cT])
 cases v: (op== (12:Int))
 case true=>exact Ends.eqv (aJN op   b d f g i k l n p a c e h j m o q r s t u v) (by simp_all [bG,cT])
 cases w: (op== (13:Int))
 case true=>exact Ends.eqv (aJO op   b d f g i k l n p a c e h j m o q r s t u v w) (by simp_all [bG,cT])
 cases x: (op== (18:Int))
 case true=>exact Ends.eqv (aJP op   b d f g i k l n p a c e h j m o q r s t u v w x) (by simp_all [bG,cT])
 cases y: (op== (22:Int))
 case true=>exact Ends.eqv (aJQ op   b d f g i k l n p a c e h j m o q r s t u v w x y) (by simp_all [bG,cT])
 cases z: (op== (8:Int))
 case true=>exact Ends.eqv (aJR op   b d f g i k l n p a c e h j m o q r s t u v w x y z) (by simp_all [bG,cT])
 cases A: (op== (14:Int))
 case true=>exact Ends.eqv (aJS op   b d f g i k l n p a c e h j m o q r s t u v w x y z A) (by simp_all [bG,cT])
 cases B: (op== (15:Int))
 case true=>exact Ends.eqv (aJT op   b d f g i k l n p a c e h j m o q r s t u v w x y z A B) (by simp_all [bG,cT])
 exact Ends.eqv (aJU op   b d f g i k l n p a c e h j m o q r s t u v w x y z A B) (by simp_all [bG,cT])
theorem aPH (op:Int) :keyless (bG op) =true:=by
 unfold bG;split
 ·rfl
 · split
   ·rfl
   ·split<;>rfl
theorem aJX (op:Int) :aM PP 169 [.int .i64 op] (bG op) :=
 aK aC rfl (aPH op) (aT2 op)
theorem aF0 (p:Prog)(x:Node)(hc:p.cons.length≤1000)(l:x.pats.length≤10) :
  ∀ (t:List Pat) (i:Nat),x.pats.drop i=t→Ends PP 0 (sX p x (i:Int)).as (.ret (.bool (t.all (iE p.cons)))) (aA [] 0)
 | [],i,h=>by
  have:=bL h;exact Ends.eqv (aTX p x i sd) (by simp)
 | .mk f n s a::t,i,h=>by
  obtain⟨m,j,o⟩ :=bI h;have e:=aFZ (.mk f n s a) 12 (by omega) (by omega);by_cases k:bX (.mk f n s a) ≤12
  · have c:qG (.mk f n s a) 12≤12:= (aH2 (.mk f n s a) 12 (by omega)).2 (by omega);have d:=aH5 p hc (.mk f n s a) (by omega);cases b:dZ p.cons (.mk f n s a)
    case false=>
     rw [b]at d;exact Ends.eqv (aTU p x i f n s a _ false sd sd sd e (decide_eq_true c) d rfl) (by simp [iE,b])
    rw [b]at d;refine(aTV p x i f n s a _ true sd sd sd e (decide_eq_true c) d rfl sd).ends ?_;exact Ends.eqv (aF0 p x hc l t (i+1) j) (by simp [iE,k,b])
  · have c:¬qG (.mk f n s a) 12≤12:=fun g=>k (by have:= (aH2 (.mk f n s a) 12 (by omega)).1 g;omega);exact Ends.eqv (aTW p x i f n s a _ sd sd sd e (decide_eq_false c)) (by simp [iE,k])
theorem aPI (p:Prog)(x:Node)(hc:p.cons.length≤1000)(s:p.funs.length≤1000)(t:x.pats.length≤10)(hk:x.kids.length≤10) :aM PP 129 [Prog.av p,Node.av x] (.bool (aO p x)) :=by
 refine aK aC rfl rfl ?_;have o:IntKind.i64.wrap ((p.cons.length:Int) -1) = (p.cons.length:Int) -1:=by apply wrap64<;>omega
 have a:=aJX x.op;have h:=aJW p x s;have hl:=aF0 p x hc t x.pats 0 rfl;cases n:cT x.op
 case some k=>
  obtain⟨q,v,y⟩ :=aMY n (x.pats.length:Int) (fD p x);have ev:bG x.op= .iface 242 (.int .i64 k) :=by unfold bG;rw [n]
  rw [ev]at a;have l:aO p x= (oV p x&&decide (x.pats.length=0) &&x.pats.all (iE p.cons) &&decide ((x.kids.length:Int) =k)) :=by
   simp only [aO,eR,oV,q,if_neg v,if_neg y]
  rw [l];by_cases j:x.pats.length=0
  · by_cases b: (x.kids.length:Int) =k
    · have e: (((length x.kids:Nat) :Int) ==k) =true:=by simp [b]
      cases i:oV p x
      case false=>
       rw [i]at h;exact Ends.eqv (aPB p x k false a sd e h rfl) (by simp)
      rw [i]at h;refine(aPA p x k true a sd e h rfl).ends ?_;exact Ends.eqv hl (by simp [j,b])
    · have e: (((length x.kids:Nat) :Int) ==k) =false:=by simp [b]
      exact Ends.eqv (aPC p x k a sd e) (by simp [b])
  ·exact Ends.eqv (aTT p x k a sd) (by simp [j])
 have q:=aPG n (x.pats.length:Int) (fD p x);by_cases g:x.op=15
 · have ev:bG x.op= .iface 225 (.agg []) :=by unfold bG;rw [n];simp only [g,if_true]
   rw [ev]at a;have l:aO p x= (oV p x&&dY (x.pats.length:Int) 1 5&&x.pats.all (iE p.cons) &&decide ((x.kids.length:Int) =1+ (x.pats.length:Int))) :=by
    simp only [aO,eR,oV,q,if_pos g,if_neg (show ¬x.op=14 by omega)]
   rw [l];have f:=gG (x.pats.length:Int) 1 5;cases j:dY (x.pats.length:Int) 1 5
   case false=>
    rw [j]at f;exact Ends.eqv (aTO p x false a f rfl) (by simp)
   rw [j]at f;by_cases b: (x.kids.length:Int) =1+ (x.pats.length:Int)
   · have e: (((length x.kids:Nat) :Int) == ((1:Int) + ((length x.pats:Nat) :Int))) =true:=by simp [b]
     cases i:oV p x
     case false=>
      rw [i]at h;exact Ends.eqv (aTM p x true false a f rfl sd e h rfl) (by simp)
     rw [i]at h;refine(aTL p x true true a f rfl sd e h rfl).ends ?_;exact Ends.eqv hl (by simp [b])
   · have e: (((length x.kids:Nat) :Int) == ((1:Int) + ((length x.pats:Nat) :Int))) =false:=by simp [b]
     exact Ends.eqv (aTN p x true a f rfl sd e) (by simp [b])
 · by_cases d:x.op=14
   · have ev:bG x.op= .iface 243 (.agg []) :=by unfold bG;rw [n];simp [d]
     rw [ev]at a;have l:aO p x= (dY x.n 0 ((p.cons.length:Int) -1) &&decide (x.pats.length=0) &&x.pats.all (iE p.cons) &&decide ((x.kids.length:Int) =fD p x)) :=by
      simp only [aO,eR,dQ,q,if_neg g,if_pos d,if_neg (show ¬x.op=1 by omega),if_neg (show ¬x.op=2 by omega),if_neg (show ¬x.op=4 by omega),if_neg (show ¬x.op=24 by omega)]
     rw [l];by_cases j:x.pats.length=0
     · have f:=gG x.n 0 ((p.cons.length:Int) -1);rw [←o]at f;cases b:dY x.n 0 ((p.cons.length:Int) -1)
       case false=>
        rw [o,b,←o]at f;exact Ends.eqv (aTS p x false a sd f rfl) (by simp)
       rw [o,b,←o]at f;have hb:=inB_iff.1 b;obtain⟨c,m⟩ :∃c,p.cons[x.n.toNat]?=some c:= ⟨_,kF (by omega)⟩;have u:fD p x=c.args:=by simp [fD,d,b,eT,m]
       rw [u];by_cases i: (x.kids.length:Int) =c.args
       · have e: (((length x.kids:Nat) :Int) ==c.args) =true:=by simp [i]
         have r:oV p x=true:=by simp [oV,d]
         rw [r]at h;refine(aTQ p x true c true a sd f rfl (by omega) m e h rfl).ends ?_;exact Ends.eqv hl (by simp [j,i])
       · have e: (((length x.kids:Nat) :Int) ==c.args) =false:=by simp [i]
         exact Ends.eqv (aTR p x true c a sd f rfl (by omega) m e) (by simp [i])
     ·exact Ends.eqv (aTP p x a sd) (by simp [j])
   · have ev:bG x.op= .nili:=by unfold bG;rw [n];simp [g,d]
     rw [ev]at a;have l:aO p x=false:=by
      have:cK x.op x.pats.length (fD p x) = -1:=by rw [q,if_neg g,if_neg d]
      have w:¬ (x.kids.length:Int) = -1:=by omega
      simp [aO,this,w]
     rw [l];exact aPD p x a
def xT :List cC→List (cC×Bool) →List (cC×Bool)
 | [],m=>m
 |x::t,m=>xT t (mX x true m)
theorem aBU (l:List cC)(hl:l.length<1000000) :∀ (t:List cC) (i:Nat) (m:List (cC×Bool)),l.drop i=t→Ends PP 0 (vA l (i:Int) m).as (.ret (.bool (decide ((xT t m).length=l.length)))) (aA [] 0)
 | [],i,m,h=>by
  have:=bL h;refine Ends.eqv (aMC l i m sd) ?_;have: (((length m:Nat) :Int) == ((length l:Nat) :Int)) =decide (m.length=l.length) :=by
   by_cases k:m.length=l.length<;>simp [k] <;>omega
  rw [this];rfl
 | x::t,i,m,h=>by
  obtain⟨b,a,c⟩ :=bI h;refine(aMB l i m x sd sd sd sd).ends ?_;exact aBU l hl t (i+1) _ a
theorem aF1 {k:cC}{v w:Bool}:∀ {m:List (cC×Bool)},xN k m=some w→ (mX k v m).map Prod.fst=m.map Prod.fst
 | [],h=>by cases h
 | e::m,h=>by
  unfold xN at h;unfold mX;split at h
  ·rename_i hk;rw [if_pos hk];simp [hk]
  ·rename_i hk;rw [if_neg hk];simp [aF1 h]
theorem aF2 {k:cC}{v:Bool}:∀ {m:List (cC×Bool)},xN k m=none→ (mX k v m).map Prod.fst=m.map Prod.fst++ [k]
 | [],_=>rfl
 | e::m,h=>by
  unfold xN at h;unfold mX;split at h
  ·cases h
  ·rename_i hk;rw [if_neg hk];simp [aF2 h]
theorem aF3 {k:cC}:∀ {m:List (cC×Bool)},(xN k m).isSome=uS (m.map Prod.fst) k
 | [] =>rfl
 | e ::m=>by
  unfold xN;split
  ·rename_i hk;simp [uS,hk]
  · rename_i hk;have:¬e.1=k:=fun h=>hk h.symm;rw [aF3];simp [uS,this]
theorem aH6 :∀ (t:List cC) (m:List (cC×Bool)),(xT t m).length≤m.length+t.length
 | [],m=>by simp [xT]
 | x::t,m=>by
  have a:=aH6 t (mX x true m);have b: (mX x true m).length≤m.length+1:=by
   cases h:xN x m with
   |none=>have:=congrArg length (aF2 (v:=true) h);simp at this;omega
   |some w=>have:=congrArg length (aF1 (v:=true) h);simp at this;omega
  simp only [xT,oI];omega
theorem aF4 :∀ (t:List cC) (m:List (cC×Bool)),(xT t m).length=m.length+t.length↔dM (m.map Prod.fst) t=true
 | [],m=>by simp [xT,dM]
 | x::t,m=>by
  simp only [xT,dM];cases h:xN x m
  case some w=>
   have e:=aF1 (v:=true) h;have c:uS (m.map Prod.fst) x=true:=by rw [←aF3,h];rfl
   have a:=aH6 t (mX x true m);have b:=congrArg length e;simp only [lN]at b;rw [c];constructor
   ·intro g;simp only [oI]at g;omega
   ·intro g;simp at g
  have e:=aF2 (v:=true) h;have c:uS (m.map Prod.fst) x=false:=by rw [←aF3,h];rfl
  have d:=aF4 t (mX x true m);have b:=congrArg length e;simp only [lN,tI,List.length_singleton]at b;rw [c,←e];simp only [Bool.not_false,nV,oI];rw [←d,b];omega
theorem aJY (l:List cC)(hl:l.length<1000000) :aM PP 125 [.ilst 1 (map dO l) false] (.bool (pE l)) :=by
 refine aK aC rfl rfl ((aMA l).ends (Ends.eqv (aBU l hl l 0 [] rfl) ?_));have:=aF4 l [];simp only [List.length_nil,eS,map_nil]at this;congr 1;cases k:pE l
 case true=>exact decide_eq_true (this.2 k)
 exact decide_eq_false fun g=>by have:=this.1 g;unfold pE at k;rw [k]at this;cases this
theorem aH7 (l:List Con)(hl:l.length<1000000) :∀ (t:List Con) (i:Nat),l.drop i=t→Ends PP 0 (aEk l (i:Int)).as (.ret (.bool (t.all fJ))) (aA [] 0)
 | [],i,h=>by
  have:=bL h;exact Ends.eqv (aWx l i sd) (by simp)
 | c::t,i,h=>by
  obtain⟨d,b,e⟩ :=bI h;have a:=aTZ c;cases k:fJ c
  case false=>rw [k]at a;exact Ends.eqv (aWv l i c false sd sd sd a rfl) (by simp [k])
  rw [k]at a;refine(aWw l i c true sd sd sd a rfl sd).ends ?_;exact Ends.eqv (aH7 l hl t (i+1) b) (by simp [k])
theorem aT3 (l:List Con)(hl:l.length<1000000) :aM PP 123 [.ilst 2 (map Con.av l) false,.func 124 [] []] (.bool (l.all fJ)) :=
 aK aC rfl rfl ((aWu l).ends (aH7 l hl l 0 rfl))
theorem aH8 (l:List Node)(p:Prog)(hl:l.length<1000000)(b:∀x∈l,aM PP 129 [Prog.av p,Node.av x] (.bool (aO p x))) :∀ (t:List Node) (i:Nat),l.drop i=t→Ends PP 0 (aEj l p (i:Int)).as (.ret (.bool (t.all (aO p)))) (aA [] 0)
 | [],i,h=>by
  have:=bL h;exact Ends.eqv (aWt l p i sd) (by simp)
 | c::t,i,h=>by
  obtain⟨d,e,f⟩ :=bI h;have a:=b c (kN d);cases k:aO p c
  case false=>rw [k]at a;exact Ends.eqv (aWr l p i c false sd sd sd a rfl) (by simp [k])
  rw [k]at a;refine(aWs l p i c true sd sd sd a rfl sd).ends ?_;exact Ends.eqv (aH8 l p hl b t (i+1) e) (by simp [k])
theorem aT4 (l:List Node)(p:Prog)(hl:l.length<1000000)(a:∀x∈l,aM PP 129 [Prog.av p,Node.av x] (.bool (aO p x))) :aM PP 128 [.ilst 4 (map Node.av l) false,.func 129 [Prog.av p] []] (.bool (l.all (aO p))) :=
 aK aC rfl rfl ((aWq l p).ends (aH8 l p hl a l 0 rfl))
def one (k:Int) :Bool:=decide (k=1)
theorem aH9 (l:List Int)(hl:l.length<1000000) :∀ (t:List Int) (i:Nat),l.drop i=t→Ends PP 0 (aEl l (i:Int)).as (.ret (.bool (t.all one))) (aA [] 0)
 | [],i,h=>by
  have:=bL h;exact Ends.eqv (aWB l i sd) (by simp)
 | c ::t,i,h=>by
  obtain⟨b,a,d⟩ :=bI h;by_cases k:c=1
  · refine(aWA l i c sd sd sd (by simp [k]) sd).ends ?_;exact Ends.eqv (aH9 l hl t (i+1) a) (by simp [k,one])
  ·exact Ends.eqv (aWz l i c sd sd sd (by simp [k])) (by simp [k,one])
theorem aT5 (l:List Int)(hl:l.length<1000000) :aM PP 130 [.ilst 1 (map cA l) true,.func 131 [] []] (.bool (l.all one)) :=
 aK aC rfl rfl ((aWy l).ends (aH9 l hl l 0 rfl))
theorem aIa (l:List Con)(hl:l.length<100000) :∀ (t:List Con) (i:Nat),l.drop i=t→Ends PP 0 (aEm l (i:Int) (bB (l.take i))).as (.ret (.ilst 1 (map dO (bB l)) false)) (aA [] 0)
 | [],i,h=>by
  have d:=bL h;have e:bB (l.take i) =bB l:=by rw [aG5 d]
  rw [e];exact aWE l i _ sd
 | c::t,i,h=>by
  obtain⟨a,b,f⟩ :=bI h;have e:bB (l.take i) ++ [c.name] =bB (l.take (i+1)) :=by
   rw [List.take_add_one,a];simp [bB]
  refine(aWD l i (bB (l.take i)) c sd sd sd (by simp [bB];omega) sd).ends ?_;rw [e];exact aIa l hl t (i+1) b
theorem aT6 (l:List Con)(hl:l.length<100000) :aM PP 126 [.ilst 2 (map Con.av l) false,.func 127 [] []] (.ilst 1 (map dO (bB l)) false) :=
 aK aC rfl rfl ((aWC l).ends (aIa l hl l 0 rfl))
def oP (lo n:Int) :List Int→List Int→Option (List Int)
 | [],c=>some c
 |k::ks,c=>if dY k lo (n-1) =true then oP lo n ks (c.set k.toNat (c.getD k.toNat 0+1))else none
def nA (p:Prog) :Nat→List Node→List Int→Option (List Int)
 |_,[],c=>some c
 | i,x::t,c=>match oP ((i:Int) +1) (p.nodes.length:Int) x.kids c with
   |some d=>nA p (i+1) t d
   |none=>none
def rE :Option (List Int) →Bool
 |some c=>c.all one
 |none=>false
def below (b:Int)(c:List Int) :Prop:=∀k∈c,0≤k∧k≤b
theorem aCZ {b:Int}{c:List Int}(h:below b c){i:Nat}{z:Int}(hz:c[i]?=some z) :0≤z∧z≤b:=h z (kN hz)
theorem aIb {b:Int}{c:List Int}(h:below b c){i:Nat}{z:Int}(hz:c[i]?=some z) :below (b+1) (c.set i (z+1)) :=fun k hk=>by
 rcases List.mem_or_eq_of_mem_set hk with g|g
 ·have:=h k g;omega
 ·have:=aCZ h hz;omega
theorem bF2 (p:Prog)(i:Nat)(r:i<p.nodes.length)(l:p.nodes.length≤1000)(ks:List Int)(hk:ks.length≤1000)(K:List Int→Bool)(B:Int)(hB:0≤B)(g:B≤1000000)
  (hb:∀v:List Int,v.length=p.nodes.length→below (B+ks.length) v→Ends PP 0 (qF p v ((i:Int) +1)).as (.ret (.bool (K v))) (aA [] 0)) :
  ∀ (t:List Int) (k:Nat) (c:List Int),c.length=p.nodes.length→k≤ks.length→below (B+k) c→ks.drop k=t→Ends PP 0 (vC p ks (ks.length:Int) c (k:Int) (i:Int) (i:Int)).as (.ret (.bool (match oP ((i:Int) +1) p.nodes.length t c with|some v=>K v|none=>false))) (aA [] 0)
 | [],k,c,hc,f,a,h=>by
  have:=bL h;have e:k=ks.length:=by omega
  subst e;refine(aMT p ks ks.length c ks.length i i sd sd).ends ?_;exact hb c hc a
 | y::t,k,c,hc,f,a,h=>by
  obtain⟨s,n,u⟩ :=bI h;have b:=gG y ((i:Int) +1) ((p.nodes.length:Int) -1);cases d:dY y ((i:Int) +1) ((p.nodes.length:Int) -1)
  case false=>
   rw [d]at b;exact Ends.eqv (aMR p ks ks.length c k i i y false sd sd sd sd sd b rfl) (by simp [oP,d])
  rw [d]at b;have w:=inB_iff.1 d;obtain⟨z,hz⟩ :∃z,c[y.toNat]?=some z:= ⟨_,kF (by omega)⟩;have m:=aCZ a hz;refine(aMS p ks ks.length c k i i y true z sd sd sd sd sd b rfl (by omega) (by omega) hz sd sd).ends ?_;have e:c.getD y.toNat 0=z:=by rw [nW,hz];rfl
  have j:oP ((i:Int) +1) p.nodes.length (y::t) c=oP ((i:Int) +1) p.nodes.length t (c.set y.toNat (z+1)) :=by
   rw [oP,if_pos d,e]
  rw [j];refine bF2 p i r l ks hk K B hB g hb t (k+1) (c.set y.toNat (z+1)) (by simpa using hc) (by omega) ?_ n;have:=aIb a hz;intro q o;have:=this q o
  push_cast
  omega
def vD :List Node→Nat
 | [] =>0
 |x::t=>x.kids.length+vD t
theorem aF5 :∀ (t:List Node),(∀x∈t,x.kids.length≤10) →vD t≤10*t.length
 | [],_=>by simp [vD]
 | x::t,h=>by
  have a:=aF5 t (fun y c=>h y (cJ _ c));have b:=h x (cN ..);simp only [vD,oI];omega
theorem bF1 (p:Prog)(hp:aF p=true)(d:p.nodes.length≤1000) :∀ (t:List Node) (i:Nat) (c:List Int) (B:Int),0≤B→B+vD t≤100000→c.length=p.nodes.length→below B c→p.nodes.drop i=t →
  Ends PP 0 (qF p c (i:Int)).as (.ret (.bool (rE (nA p i t c)))) (aA [] 0)
 | [],i,c,B,b,e,hc,hb,h=>by
  have:=bL h;exact Ends.eqv (aMQ p c i _ sd (aT5 c (by omega))) rfl
 | x::t,i,c,B,b,e,hc,hb,h=>by
  obtain⟨f,j,l⟩ :=bI h;have k:bA x=true:=by
   simp only [aF,cM]at hp;exact zq27.1 hp.2 x (kN f)
  simp only [bA,cM,decide_eq_true_eq]at k;simp only [vD]at e;refine(aMP p c i x sd sd sd).ends ?_;refine Ends.eqv (bF2 p i l d x.kids (by omega) (fun v=>rE (nA p (i+1) t v)) B b (by omega) (fun v g a=>bF1 p hp d t (i+1) v (B+x.kids.length) (by omega) (by omega) g a j) x.kids 0 c hc (by omega) (by simpa using hb) rfl) ?_;rw [nA];cases oP ((i:Int) +1) (p.nodes.length:Int) x.kids c<;>rfl
theorem bF0 (p:Prog)(hp:aF p=true)(f:p.nodes.length≤1000)(d:vD p.nodes≤10000)(g:p.funs.length≤1000) :∀ (t:List Int) (i:Nat) (c:List Int),i≤p.funs.length→c.length=p.nodes.length→below (i:Int) c→p.funs.drop i=t →
  Ends PP 0 (vB p (i:Int) c).as (.ret (.bool (match oP 0 p.nodes.length t c with|some v=>rE (nA p 0 p.nodes v) |none=>false))) (aA [] 0)
 | [],i,c,n,hc,hb,h=>by
  have:=bL h;refine(aMO p i c sd).ends ?_;exact bF1 p hp f p.nodes 0 c i (by omega) (by omega) hc hb rfl
 | y::t,i,c,n,hc,hb,h=>by
  obtain⟨o,j,r⟩ :=bI h;have a:=gG y 0 ((p.nodes.length:Int) -1);cases b:dY y 0 ((p.nodes.length:Int) -1)
  case false=>
   rw [b]at a;exact Ends.eqv (aMM p i c y false sd sd sd sd a rfl) (by simp [oP,b])
  rw [b]at a;have s:=inB_iff.1 b;obtain⟨z,hz⟩ :∃z,c[y.toNat]?=some z:= ⟨_,kF (by omega)⟩;have m:=aCZ hb hz;refine(aMN p i c y true z sd sd sd sd a rfl (by omega) (by omega) hz sd sd).ends ?_;have e:c.getD y.toNat 0=z:=by rw [nW,hz];rfl
  have l:oP 0 p.nodes.length (y::t) c=oP 0 p.nodes.length t (c.set y.toNat (z+1)) :=by
   rw [oP,if_pos b,e]
  rw [l];refine bF0 p hp f d g t (i+1) (c.set y.toNat (z+1)) (by omega) (by simpa using hc) ?_ j;have:=aIb hb hz;intro q k;have:=this q k
  push_cast
  omega
def dN (p:Prog) :Bool:=
 dX p&&decide (p.cons.length≤20) &&p.cons.all fJ&&pE (bB p.cons) &&p.nodes.all (aO p) &&
  (match oP 0 (p.nodes.length:Int) p.funs (replicate p.nodes.length 0)with
  |some v=>rE (nA p 0 p.nodes v)
  |none=>false)
theorem aMZ {p:Prog}(hp:aF p=true) :∀x∈p.nodes,x.kids.length≤10∧x.pats.length≤10:=fun x a=>by
 simp only [aF,cM]at hp;have:=zq27.1 hp.2 x a;simp only [bA,cM,decide_eq_true_eq]at this;exact this.1
theorem aJZ (p:Prog)(hp:aF p=true) :aM PP 88 [Prog.av p] (.bool (dN p)) :=by
 refine aK aC rfl rfl ?_;have j:=hp;simp only [aF,cM,decide_eq_true_eq]at j;obtain⟨⟨⟨⟨u,s⟩,t⟩,_⟩,_⟩ :=j;have a:=aMZ hp;by_cases l:p.nodes.length≤300
 · by_cases r:1≤p.funs.length
   · by_cases v:p.funs.length≤p.nodes.length
     · have kk:dY (p.funs.length:Int) 1 (p.nodes.length:Int) =true:=inB_iff.2 ⟨by omega,by omega⟩;by_cases k:p.cons.length≤20
       · have b:=gG p.main 0 ((p.funs.length:Int) -1);cases h:dY p.main 0 ((p.funs.length:Int) -1)
         case false=>
          rw [h]at b;exact Ends.eqv (aMH p false sd sd sd sd sd b rfl) (by simp [dN,dX,h])
         rw [h]at b;have o:dX p=true:=by simp [dX,l,kk,h]
         have hc:=aT3 p.cons (by omega);cases e:p.cons.all fJ
         case false=>
          rw [e]at hc;exact Ends.eqv (aMI p true false sd sd sd sd sd b rfl hc rfl) (by simp only [dN,e,Bool.and_false,Bool.false_and])
         rw [e]at hc;have hm:=aT6 p.cons (by omega);have c:=aJY (bB p.cons) (by simp [bB];omega);cases i:pE (bB p.cons)
         case false=>
          rw [i]at c;exact Ends.eqv (aMJ p true true (bB p.cons) false sd sd sd sd sd b rfl hc rfl hm c rfl) (by simp only [dN,i,Bool.and_false,Bool.false_and])
         rw [i]at c;have d:=aT4 p.nodes p (by omega) (fun x f=>aPI p x (by omega) (by omega) (a x f).2 (a x f).1);cases g:p.nodes.all (aO p)
         case false=>
          rw [g]at d;exact Ends.eqv (aMK p true true (bB p.cons) true false sd sd sd sd sd b rfl hc rfl hm c rfl d rfl) (by simp only [dN,g,Bool.and_false,Bool.false_and])
         rw [g]at d;refine(aML p true true (bB p.cons) true true sd sd sd sd sd b rfl hc rfl hm c rfl d rfl (by omega)).ends ?_;have n:=aF5 p.nodes (fun x f=> (a x f).1);refine Ends.eqv (bF0 p hp (by omega) (by omega) (by omega) p.funs 0 _ (by omega) (by simp) ?_ rfl) ?_
         · intro q m;have:= (List.mem_replicate.1 m).2;omega
         ·simp only [dN,o,decide_eq_true k,e,i,g,nV] <;>rfl
       ·exact Ends.eqv (aMG p sd sd sd sd) (by simp [dN,k])
     · have kk:dY (p.funs.length:Int) 1 (p.nodes.length:Int) =false:=inB_not.2 (by omega);exact Ends.eqv (aMF p sd sd sd) (by simp [dN,dX,kk])
   · have kk:dY (p.funs.length:Int) 1 (p.nodes.length:Int) =false:=inB_not.2 (by omega);exact Ends.eqv (aME p sd sd) (by simp [dN,dX,kk])
 ·exact Ends.eqv (aMD p sd) (by simp [dN,dX,l])
theorem aM0 (p:Prog)(hp:aF p=true) :aM PP 45 [Prog.av p] (.int .i64 (checkN (dN p))) :=by
 refine aK aC rfl rfl ?_;have h:=aJZ p hp;cases k:dN p
 case false=>rw [k]at h;exact aPE p false h rfl
 rw [k]at h;exact aPF p true h rfl
def cnt (b:Bool) :Int:=if b=true then 1 else 0
def vE (u:List Bool) :List Int:=u.map cnt
def aAV (c:List Int) :Prop:= (∃ (i:Nat) (z:Int),c[i]?=some z∧2≤z) ∧∀z∈c,0≤z
theorem aM1 {c:List Int}(h:aAV c) :c.all one=false:=by
 obtain⟨⟨i,z,a,b⟩,_⟩ :=h;cases k:c.all one
 case false=>rfl
 have:=zq27.1 k z (kN a);simp only [one,decide_eq_true_eq]at this;omega
theorem aPJ {c:List Int}{j:Nat}(h:aAV c) :aAV (c.set j (c.getD j 0+1)) :=by
 obtain⟨⟨i,z,a,l⟩,b⟩ :=h;have f:= (zq0.1 a).1;refine⟨⟨i,if j=i then z+1 else z,?_,by split<;>omega⟩,fun q d=>?_⟩
 · rw [List.getElem?_set];by_cases e:j=i
   · subst e;rw [if_pos rfl,if_pos f,if_pos rfl,nW,a];rfl
   ·rw [if_neg e,if_neg e];exact a
 · rcases List.mem_or_eq_of_mem_set d with g|g
   ·exact b q g
   · rw [g,nW];cases k:c[j]? with
     |none=>simp
     |some w=>have:=b w (kN k);simp;omega
theorem xU {lo n:Int}:∀ {a c:List Int} {d:List Int},aAV c→oP lo n a c=some d→aAV d
 | [],c,d,h,e=>by simp only [oP,Option.some.injEq]at e;rw [←e];exact h
 | k::a,c,d,h,e=>by
  simp only [oP]at e;split at e
  ·exact xU (aPJ h) e
  ·cases e
theorem aM2 (u:List Bool) :∀z∈vE u,0≤z:=fun z hz=>by
 obtain⟨b,_,rfl⟩ :=zq24.1 hz;cases b<;>simp [cnt]
theorem aAW {lo n:Int}(h:0≤lo) :∀ (b:List Int) (u:List Bool),n≤u.length →
  (∀v,marks lo n b u=some v→oP lo n b (vE u) =some (vE v)) ∧ (marks lo n b u=none→∀d,oP lo n b (vE u) =some d→aAV d)
 | [],u,i=>by
  simp only [marks,oP,Option.some.injEq];exact⟨fun v e=>by rw [e],fun e=>by cases e⟩
 | k ::b,u,i=>by
  simp only [marks,oP];by_cases c:dY k lo (n-1) =true
  · have hk:=inB_iff.1 c;have f:k.toNat<u.length:=by omega
    have a:u[k.toNat]?=some u[k.toNat] :=kF f;have hc: (vE u).getD k.toNat 0=cnt u[k.toNat] :=by
     rw [nW,vE,pT,a];rfl
    rw [if_pos c];cases hb:u[k.toNat]
    case false=>
     rw [hb]at a hc;rw [if_pos ⟨c,a⟩];have e: (vE u).set k.toNat ((vE u).getD k.toNat 0+1) =vE (u.set k.toNat true) :=by
      rw [hc,vE,vE,map_set];rfl
     rw [e];exact aAW h b (u.set k.toNat true) (by simpa using i)
    rw [hb]at a hc;rw [if_neg (by rw [a];simp)];refine And.intro (fun v e=>nomatch e) (fun _ d e=>xU (And.intro ⟨k.toNat,2,?_,by omega⟩ ?_) e)
    ·rw [hc,List.getElem?_set_self (by simp [vE];exact f)];rfl
    · intro z hz;rcases List.mem_or_eq_of_mem_set hz with g|g
      ·exact aM2 u z g
      ·rw [g,hc];simp [cnt]
  · rw [if_neg c,if_neg (fun g=>c g.1)];exact And.intro (fun v e=>nomatch e) (fun _ d e=>nomatch e)
theorem rY (p:Prog) :∀ (t:List Node) (i:Nat) (c:List Int),aAV c→rE (nA p i t c) =false
 | [],i,c,h=>by rw [nA];exact aM1 h
 | x::t,i,c,h=>by
  rw [nA];cases e:oP ((i:Int) +1) (p.nodes.length:Int) x.kids c with
  |none=>rfl
  |some d=>exact rY p t (i+1) d (xU h e)
theorem aIc :∀ (u:List Bool),(vE u).all one=u.all fun b=>b
 | [] =>rfl
 | b::u=>by
  have:=aIc u;simp only [vE,eK,all_cons]at this ⊢;rw [this];cases b<;>simp [cnt,one]
theorem aM3 (p:Prog) :∀ (t:List Node) (i:Nat) (u:List Bool),u.length=p.nodes.length→t.all (aO p) =true→allT (bW p i t u) =rE (nA p i t (vE u))
 | [],i,u,b,_=>by simp only [bW,nA,allT,rE,aIc]
 | x::t,i,u,b,a=>by
  simp only [all_cons,cM]at a;obtain⟨e,f⟩ :=aAW (lo:= (i:Int) +1) (n:= (p.nodes.length:Int)) (by omega) x.kids u (by omega);simp only [bW,nA,if_pos a.1];cases hm:marks ((i:Int) +1) (p.nodes.length:Int) x.kids u
  case some v=>
   rw [e v hm];exact aM3 p t (i+1) v (by rw [jV hm,b]) a.2
  cases c:oP ((i:Int) +1) (p.nodes.length:Int) x.kids (vE u)with
  |none=>rfl
  |some d=>exact(rY p t (i+1) d (f hm d c)).symm
theorem aBV (p:Prog) :∀ (t:List Node) (i:Nat) (u:List Bool),t.all (aO p) =false→allT (bW p i t u) =false
 | [],i,u,h=>by simp at h
 | x ::t,i,u,h=>by
  simp only [bW];by_cases a:aO p x=true
  · rw [if_pos a];have b:t.all (aO p) =false:=by simpa [a]using h
    cases marks ((i:Int) +1) (p.nodes.length:Int) x.kids u with
    |none=>rfl
    |some v=>exact aBV p t (i+1) v b
  ·rw [if_neg a];rfl
theorem aT7 (p:Prog) :dN p=aJ p:=by
 have g:dN p= (dX p&&xR p.cons&& (p.nodes.all (aO p) && (match oP 0 (p.nodes.length:Int) p.funs (replicate p.nodes.length 0)with
  |some v=>rE (nA p 0 p.nodes v)
  |none=>false))) :=by
  unfold dN xR;cases dX p<;>cases p.cons.all fJ<;>cases pE (bB p.cons) <;>cases p.nodes.all (aO p) <;>cases decide (p.cons.length≤20) <;>simp
 rw [g,aJ];congr 1;have b:replicate p.nodes.length (0:Int) =vE (replicate p.nodes.length false) :=by rw [vE,List.map_replicate];rfl
 rw [b];obtain⟨e,f⟩ :=aAW (lo:=0) (n:= (p.nodes.length:Int)) (by omega) p.funs (replicate p.nodes.length false) (by simp);cases hm:marks 0 (p.nodes.length:Int) p.funs (replicate p.nodes.length false)
 case some v=>
  rw [e v hm];cases a:p.nodes.all (aO p)
  case true=>simp only [nV];exact(aM3 p p.nodes 0 v (by rw [jV hm];simp) a).symm
  simp only [Bool.false_and];exact(aBV p p.nodes 0 v a).symm
 simp only;cases c:oP 0 (p.nodes.length:Int) p.funs (vE (replicate p.nodes.length false))with
 |none=>simp
 |some d=>simp only [rY p p.nodes 0 d (f hm d c),Bool.and_false]
def zD(d e:Int)(f:cC)(a:List Pat)(b c:Int):TS:=⟨(tf 177 22 [(2,(nI 0)),(3,(nI b)),(10,(iP a)),(11,(nI (a.length:Int))),(12,(nI c))] [kc f177 244,kl f177 244,.inBlock 0,kc f177 31]),[],[],0⟩
def aPK(a:Node)(b:Int):=tT 0 (start PP 134 [(Node.av a),(nI b)])<|.b 13 9 (a.op==5) (gE 21 1 (nI 1))<|.b 5 14 (a.op==27) (gE 16 1 (nI 1))<|.b 4 18 (a.op==7) (.b 6 5 (b==1) (gE 6 1 (nI 1))<|.b 7 27 (a.op==15) (gd 5 23 (b>0) (gw 7 34 (b-1)<|rW 0 a.pats (b-1)<|fun c d e f=>gpI 1 177 [(.agg [(nI c),(nI d),(dO e),(iP f)])]<|fun g=>gE 3 1 (nI g))<|gE 8 1 (nI 0))<|gE 13 1 (nI 0))<|.b 13 27 (a.op==15) (gd 5 23 (b>0) (gw 7 34 (b-1)<|rW 0 a.pats (b-1)<|fun c d e f=>gpI 1 177 [(.agg [(nI c),(nI d),(dO e),(iP f)])]<|fun g=>gE 3 1 (nI g))<|gE 8 1 (nI 0))<|gE 13 1 (nI 0)
def aT8:=fun a b c=>aPK a b|>.t c tv
def aT9:=fun a b c d=>aPK a b|>.f c|>.t d tv
def aUa:=fun a b c d e f=>aPK a b|>.f c|>.f d|>.t e|>.t f tv
def aUb:=fun a b c d e f g=>aPK a b|>.f c|>.f d|>.t e|>.f f|>.f g tv
def aUc:=fun a b c d e f g i j k l m n o p q=>aPK a b|>.f i|>.f j|>.f k|>.t l|>.t m n c d e f o p g q tv
def aUd:=fun a b c d e f g=>aPK a b|>.f c|>.f d|>.f e|>.t f|>.f g tv
def aUe:=fun a b c d e f=>aPK a b|>.f c|>.f d|>.f e|>.f f tv
def bGi(a c:Int)(d:cC)(b:List Pat):=tT 0 (start PP 177 [(.agg [(nI a),(nI c),(dO d),(iP b)])])<|.b 12 8 (a==2) (gE 6 1 (nI 1))<|gm 11 aE b<|.W 4 1 [] (zD a c d b 0 0)
def aPL:=fun a b c d e=>bGi a b c d|>.t e tv
def aPM:=fun a b c d e=>bGi a b c d|>.f e tv
def bGj(d e:Int)(f:cC)(b:List Pat)(c a:Int):=tT 0 (zD d e f b c a)<|gd 5 13 (a< (b.length:Int)) (rW 6 b a<|fun i j k l=>gpI 7 177 [(.agg [(nI i),(nI j),(dO k),(iP l)])]<|fun g=>gw 1 19 (c+g)<|gw 5 20 (a+1)<|.W 3 1 [] (zD d e f b (c+g) (a+1)))<|gE 8 0 (nI c)
def aPN:=fun a b c d e f g i j k l m n o p q r=>bGj a b c d e f|>.t m g i j k n o l p q r tv
def aPO:=fun a b c d e f g=>bGj a b c d e f|>.f g tv
def sY(a b:Int)(c:cC)(d:List Pat)(e f:Int):TS:=⟨(tf 163 24 [kp 1 0,(2,(nI 0)),(3,(nI e)),(4,(nI f))] [kc f163 244,kl f163 244,.inBlock 0,kc f163 31]),[],[oC 0 [(nI a),(nI b),(dO c),(iP d)]],1⟩
def aUf(a:Node)(b:Int):=tT 0 (start PP 121 [(Node.av a),(nI b)])<|.b 18 7 (a.op==5) (gE 8 1 (nI 1))<|.b 5 7 (a.op==27) (gE 6 1 (nI 1))<|.b 6 10 (a.op==7) (gE 7 1 (nI b))<|.b 6 13 (a.op==15) (gd 6 16 (b>0) (gw 7 20 (b-1)<|rW 0 a.pats (b-1)<|fun c d e f=>gpI 1 163 [(.agg [(nI c),(nI d),(dO e),(iP f)])]<|fun g=>gE 3 1 (nI g))<|gE 8 1 (nI 0))<|gE 8 1 (nI 0)
def aUg:=fun a b c=>aUf a b|>.t c tv
def aUh:=fun a b c d=>aUf a b|>.f c|>.t d tv
def aUi:=fun a b c d e=>aUf a b|>.f c|>.f d|>.t e tv
def aUj:=fun a b c d e f g i j k l m n o p q=>aUf a b|>.f i|>.f j|>.f k|>.t l|>.t m n c d e f o p g q tv
def aUk:=fun a b c d e f g=>aUf a b|>.f c|>.f d|>.f e|>.t f|>.f g tv
def aUl:=fun a b c d e f=>aUf a b|>.f c|>.f d|>.f e|>.f f tv
def bGk(a b:Int)(c:cC)(d:List Pat):=tT 0 (start PP 163 [(.agg [(nI a),(nI b),(dO c),(iP d)])])<|.b 16 7 (a==2) (.W 11 1 [0] (sY a b c d 1 0))<|.W 9 1 [0] (sY a b c d 0 0)
def aPP:=fun a b c d e=>bGk a b c d|>.t e tv
def aPQ:=fun a b c d e=>bGk a b c d|>.f e tv
def bGl(d e:Int)(f:cC)(a:List Pat)(c b:Int):=tT 0 (sY d e f a c b)<|gm 6 aE a<|gd 2 12 (b< (a.length:Int)) (rW 9 a b<|fun i j k l=>gpI 1 163 [(.agg [(nI i),(nI j),(dO k),(iP l)])]<|fun g=>gw 1 22 (c+g)<|gw 6 14 (b+1)<|.W 3 1 [0] (sY d e f a (c+g) (b+1)))<|gE 8 1 (nI c)
def aPR:=fun a b c d e f g i j k l m n o p q r=>bGl a b c d e f|>.t m g i j k n o l p q r tv
def aPS:=fun a b c d e f g=>bGl a b c d e f|>.f g tv
theorem Ends.val {P:Program}{m:Nat}{s:AS}{v v':AV}{h':Hp}(h:Ends P m s (.ret v) h')(k:∀E b,VR E v b→VR E v' b) :Ends P m s (.ret v') h':=fun hm E fr d w f fs r j a=>by
 obtain⟨c,i,p,n,⟨b,e,g⟩,o,l⟩ :=h hm E fr d w f fs r j a;exact⟨c,i,p,n,⟨b,e,k _ _ g⟩,o,l⟩
theorem nB {E:Emb}{e:Nat}{xs:List AV}{cv:Value}(h:VR E (.ilst e xs true) cv) :VR E (.ilst e xs false) cv:=by
 simp only [VR]at h ⊢;obtain⟨g,n,i,j⟩ :=h;refine⟨g,n,i,?_⟩;rcases j with⟨c,a,b,f,d,m⟩ | ⟨k,a,b,C,c,f,d,m,l⟩
 ·exact .inl ⟨c,a,b,f,d,fun e=> (by cases e)⟩
 ·exact .inr ⟨k,a,b,C,c,f,d,fun e=> (by cases e),l⟩
mutual
def bnm :Pat→Int
 | .mk f _ _ ps=>if f=2 then 1 else aAf ps
def aAf :List Pat→Int
 | [] =>0
 |p::ps=>bnm p+aAf ps
end
mutual
def rnm :Pat→Int
 | .mk f _ _ ps=> (if f=2 then 1 else 0) +aC0 ps
def aC0 :List Pat→Int
 | [] =>0
 |p::ps=>rnm p+aC0 ps
end
mutual
theorem aF7 :∀p,0≤bnm p∧bnm p≤bX p
 | .mk f _ _ a=>by
  have:=zE a;simp only [bnm,bX];split<;>omega
theorem zE :∀a,0≤aAf a∧aAf a≤bD a
 | [] =>by simp [aAf,bD]
 | p::a=>by
  have:=aF7 p;have:=zE a;simp only [aAf,bD];omega
end
mutual
theorem aWF :∀p,0≤rnm p∧rnm p≤bX p
 | .mk f _ _ a=>by
  have:=aEn a;simp only [rnm,bX];split<;>omega
theorem aEn :∀a,0≤aC0 a∧aC0 a≤bD a
 | [] =>by simp [aC0,bD]
 | p::a=>by
  have:=aWF p;have:=aEn a;simp only [aC0,bD];omega
end
mutual
theorem aWG (cons:List Con) :∀p,dZ cons p=true→bnm p=rnm p
 | .mk f n s a,h=>by
  simp only [dZ,cM]at h;have:=aWH cons a h.2;simp only [bnm,rnm];by_cases g:f=2
  · have hk:=h.1;subst g;simp only [eG]at hk;simp at hk;obtain⟨⟨hk,_⟩,_⟩ :=hk;subst hk;simp [aC0]
  ·rw [if_neg g,if_neg g,this];omega
theorem aWH (cons:List Con) :∀a,cZ cons a=true→aAf a=aC0 a
 | [],_=>rfl
 | p::a,h=>by
  simp only [cZ,cM]at h;simp only [aAf,aC0,aWG cons p h.1,aWH cons a h.2]
end
theorem aDJ (f n:Int)(s:cC)(ps:List Pat)(hl:ps.length<1000000)(j:∀p∈ps,aM PP 177 [Pat.av p] (.int .i64 (bnm p))) :
  ∀ (t:List Pat) (i:Nat) (a:Int),0≤a→a+aAf t≤1000000→ps.drop i=t→Ends PP 0 (zD f n s ps a (i:Int)).as (.ret (.int .i64 (a+aAf t))) (aA [] 0)
 | [],i,a,_,_,h=>by
  have:=bL h;exact Ends.eqv (aPO f n s ps a i sd) (by simp [aAf])
 | .mk d g c b::t,i,a,o,hb,h=>by
  obtain⟨k,l,r⟩ :=bI h;have e:=j _ (kN k);have q:=aF7 (.mk d g c b);have m:=zE t;rw [aAf]at hb ⊢;refine(aPN f n s ps a i d g c b _ sd sd sd e sd sd).ends ?_;exact Ends.eqv (aDJ f n s ps hl j t (i+1) (a+bnm (.mk d g c b)) (by omega) (by omega) l) (by rw [Int.add_assoc])
mutual
theorem aDK :∀ (p:Pat),bX p<100000→aM PP 177 [Pat.av p] (.int .i64 (bnm p))
 | .mk f n s a,h=>by
  refine aK aC (by simp [keylessL,kW]) rfl ?_;simp only [bX]at h;have:=eD a;have b:=zE a;by_cases g:f=2
  · subst g;exact Ends.eqv (aPL 2 n s a rfl) (by simp [bnm])
  · refine(aPM f n s a (by simpa using g)).ends ?_;exact Ends.eqv (aDJ f n s a (by omega) (aF8 a (by omega)) a 0 0 (by omega) (by omega) rfl) (by simp [bnm,g])
theorem aF8 :∀ (b:List Pat),bD b<100000→∀p∈b,aM PP 177 [Pat.av p] (.int .i64 (bnm p))
 | [],_,p,a=>by cases a
 | q::b,h,p,a=>by
  simp only [bD]at h;rcases zq7.1 a with e|a
  ·rw [e];exact aDK q (by omega)
  ·exact aF8 b (by omega) p a
end
theorem xW (f n:Int)(s:cC)(ps:List Pat)(hl:ps.length<1000000)(j:∀p∈ps,aM PP 163 [Pat.av p] (.int .i64 (rnm p))) :
  ∀ (t:List Pat) (i:Nat) (a:Int),0≤a→a+aC0 t≤1000000→ps.drop i=t→Ends PP 0 (sY f n s ps a (i:Int)).as (.ret (.int .i64 (a+aC0 t))) (aA [] 0)
 | [],i,a,_,_,h=>by
  have:=bL h;exact Ends.eqv (aPS f n s ps a i sd) (by simp [aC0])
 | .mk d g c b::t,i,a,o,hb,h=>by
  obtain⟨k,l,r⟩ :=bI h;have e:=j _ (kN k);have q:=aWF (.mk d g c b);have m:=aEn t;rw [aC0]at hb ⊢;refine(aPR f n s ps a i d g c b _ sd sd sd e sd sd).ends ?_;exact Ends.eqv (xW f n s ps hl j t (i+1) (a+rnm (.mk d g c b)) (by omega) (by omega) l) (by rw [Int.add_assoc])
mutual
theorem aDL :∀ (p:Pat),bX p<100000→aM PP 163 [Pat.av p] (.int .i64 (rnm p))
 | .mk f n s a,h=>by
  refine aK aC (by simp [keylessL,kW]) rfl ?_;simp only [bX]at h;have:=eD a;have b:=aEn a;by_cases g:f=2
  · subst g;refine(aPP 2 n s a rfl).ends ?_;exact Ends.eqv (xW 2 n s a (by omega) (aAX a (by omega)) a 0 1 (by omega) (by omega) rfl) (by simp [rnm])
  · refine(aPQ f n s a (by simpa using g)).ends ?_;exact Ends.eqv (xW f n s a (by omega) (aAX a (by omega)) a 0 0 (by omega) (by omega) rfl) (by simp [rnm,g])
theorem aAX :∀ (b:List Pat),bD b<100000→∀p∈b,aM PP 163 [Pat.av p] (.int .i64 (rnm p))
 | [],_,p,a=>by cases a
 | q::b,h,p,a=>by
  simp only [bD]at h;rcases zq7.1 a with e|a
  ·rw [e];exact aDL q (by omega)
  ·exact aAX b (by omega) p a
end
def dI (x:Node)(k:Int) :Int:=
 if x.op=5∨x.op=27∨ (x.op=7∧k=1)then 1
 else if x.op=15∧k>0 then(match x.pats[(k-1).toNat]? with|some q=>bnm q|none=>0)else 0
structure FineN (cons:List Con) (x:Node) :Prop where
 pats:∀q∈x.pats,bX q≤12∧dZ cons q=true
 mat:x.op=15→x.kids.length=1+x.pats.length
 let2:x.op=7→x.kids.length=2
theorem aJ0 {p:Prog}{x:Node}(h:aO p x=true) :FineN p.cons x:=by
 simp only [aO,cM,decide_eq_true_eq]at h;obtain⟨⟨_,b⟩,a⟩ :=h;refine⟨fun q c=>?_,fun e=>?_,fun e=>?_⟩
 · have:=zq27.1 b q c;simpa [iE]using this
 ·rw [e]at a;simp [cK]at a;omega
 ·rw [e]at a;simp [cK]at a;omega
theorem aM4 {cons:List Con}{x:Node}(b:FineN cons x)(k:Int) :0≤dI x k∧dI x k≤12:=by
 unfold dI;split
 ·omega
 · split
   · split
     · rename_i q a;have:= (b.pats q (kN a)).1;have:=aF7 q;omega
     ·omega
   ·omega
theorem aId {x:Node}{k:Int}(a:x.op=15)(hk:k>0){q:Pat}(b:x.pats[(k-1).toNat]?=some q) :dI x k=bnm q:=by
 unfold dI;rw [if_neg (by rw [a];omega),if_pos ⟨a,hk⟩,b]
theorem aPT {cons:List Con}{x:Node}(j:FineN cons x){k:Int}(o:0≤k)(h1:k<x.kids.length)(hk:x.kids.length≤10) :aM PP 134 [Node.av x,.int .i64 k] (.int .i64 (dI x k)) :=by
 refine aK aC rfl rfl ?_
 have l:x.op=15→k>0→∃f n s h,x.pats[(k-1).toNat]?=some (.mk f n s h) ∧aM PP 177 [Pat.av (.mk f n s h)] (.int .i64 (bnm (.mk f n s h))) :=fun e g=>by
  have hl:=j.mat e;obtain⟨q,i⟩ :∃q,x.pats[(k-1).toNat]?=some q:= ⟨_,kF (by omega)⟩;obtain⟨f,n,s,h⟩ :=q;have:= (j.pats _ (kN i)).1;exact⟨f,n,s,h,i,aDK _ (by omega)⟩
 by_cases c:x.op=5
 ·exact Ends.eqv (aT8 x k (by simp [c])) (by simp [dI,c])
 · by_cases a:x.op=27
   ·exact Ends.eqv (aT9 x k (by simp [c]) (by simp [a])) (by simp [dI,a])
   · by_cases d:x.op=7
     · by_cases gk:k=1
       ·exact Ends.eqv (aUa x k (by simp [c]) (by simp [a]) (by simp [d]) (by simp [gk])) (by simp [dI,d,gk])
       ·exact Ends.eqv (aUb x k (by simp [c]) (by simp [a]) (by simp [d]) (by simp [gk]) (by simp [d])) (by simp [dI,d,gk])
     · by_cases b:x.op=15
       · by_cases gk:k>0
         · obtain⟨f,n,s,h,i,m⟩ :=l b gk;exact Ends.eqv (aUc x k f n s h _ (by simp [c]) (by simp [a]) (by simp [d]) (by simp [b]) (by simpa using gk) sd (by omega) i m) (by rw [aId b gk i])
         ·exact Ends.eqv (aUd x k (by simp [c]) (by simp [a]) (by simp [d]) (by simp [b]) (by simpa using gk)) (by simp [dI,b,gk])
       ·exact Ends.eqv (aUe x k (by simp [c]) (by simp [a]) (by simp [d]) (by simp [b])) (by simp [dI,c,a,d,b])
theorem aPU {cons:List Con}{x:Node}(e:FineN cons x){k:Int}(l:0≤k)(h1:k<x.kids.length)(hk:x.kids.length≤10) :aM PP 121 [Node.av x,.int .i64 k] (.int .i64 (dI x k)) :=by
 refine aK aC rfl rfl ?_;by_cases c:x.op=5
 ·exact Ends.eqv (aUg x k (by simp [c])) (by simp [dI,c])
 · by_cases a:x.op=27
   ·exact Ends.eqv (aUh x k (by simp [c]) (by simp [a])) (by simp [dI,a])
   · by_cases d:x.op=7
     · have:=e.let2 d;refine Ends.eqv (aUi x k (by simp [c]) (by simp [a]) (by simp [d])) ?_;by_cases gk:k=1
       ·simp [dI,d,gk]
       · have:k=0:=by omega
         simp [dI,d,this]
     · by_cases b:x.op=15
       · by_cases gk:k>0
         · have hl:=e.mat b;obtain⟨q,g⟩ :∃q,x.pats[(k-1).toNat]?=some q:= ⟨_,kF (by omega)⟩;obtain⟨f,n,s,i⟩ :=q;have h:=e.pats _ (kN g);have j:=aDL (.mk f n s i) (by omega);rw [←aWG cons _ h.2]at j;exact Ends.eqv (aUj x k f n s i _ (by simp [c]) (by simp [a]) (by simp [d]) (by simp [b]) (by simpa using gk) sd (by omega) g j) (by rw [aId b gk g])
         ·exact Ends.eqv (aUk x k (by simp [c]) (by simp [a]) (by simp [d]) (by simp [b]) (by simpa using gk)) (by simp [dI,b,gk])
       ·exact Ends.eqv (aUl x k (by simp [c]) (by simp [a]) (by simp [d]) (by simp [b])) (by simp [dI,c,a,d,b])
abbrev bGm:=[oC 1 [(bV false)],oC 2 [(nI 0)],(3,(.loop .ready none 46 (cE [kp 1 7,kp 2 1,kp 3 2]) 32 [15] (kd f46 116) (kd f46 117) 4),false),(4,(.defd false),false),oC 5 [(.yield 3)]]
abbrev aZ9 (a:Nat)(b:Prog):=oC a [(iN b.nodes),(iI b.funs),(nI b.main),(iC b.cons)]
abbrev bGn (a:Prog)(b c d:Int):=aA [oC 0 [(.func 133 [] [(.ptr 5 0),(.ptr 6 0),(.ptr 0 0)])],oC 1 [(bV false)],oC 2 [(nI 0)],(3,(.loop .done (some .ret) 46 (cE [kp 1 7,kp 2 1,kp 3 2]) 32 [15] (kd f46 116) (kd f46 117) 4),false),(4,(.defd false),false),oC 5 [(.yield 3)],aZ9 6 a,aZ9 7 a,oC 8 [(nI b),(nI c),(nI d)]] 9
abbrev bAa (a:Prog)(b c d:Int):=aA ([oC 0 [(.func 133 [] [(.ptr 5 0),(.ptr 6 0),(.ptr 0 0)])]]++bGm++[aZ9 6 a,aZ9 7 a,oC 8 [(nI b),(nI c),(nI d)]]) 9
abbrev aF9 (a:Nat):=oC a [(.func 133 [] [(.ptr 5 0),(.ptr 6 0),(.ptr 0 0)])]
abbrev qQ (a:Nat)(b:Prog):=oC a [(iN b.nodes),(iI b.funs),(nI b.main),(iC b.cons)]
def bDG(a:Prog):TS:=cH PP 46 [(Prog.av a)] [] 0
def aJ1(a:Prog)(b:Int):TS:=⟨(tf 132 23 [kp 3 0,(9,(iI a.funs)),(10,(nI (a.funs.length:Int))),(11,(nI b))] [kc f132 124,kl f132 124,.inBlock 0]),[(tf 46 32 [kp 2 1,kp 3 2] [.inRF 3,.inBlock 0,kc f46 15] (defers:=[.col 4]))],[aF9 0,oC 1 [(bV false)],oC 2 [(nI 0)],(3,(.loop .ready none 46 (cE [kp 1 7,kp 2 1,kp 3 2]) 32 [15] (kd f46 116) (kd f46 117) 4),false),(4,(.defd false),false),oC 5 [(.yield 3)],qQ 6 a,qQ 7 a],8⟩
def bHR(a:Prog):List (Nat×AObj×Bool):=[aF9 0,oC 1 [(bV false)],oC 2 [(nI 0)],(3,(.loop .done (some .ret) 46 (cE [kp 1 7,kp 2 1,kp 3 2]) 32 [15] (kd f46 116) (kd f46 117) 4),false),(4,(.defd false),false),oC 5 [(.yield 3)],qQ 6 a,qQ 7 a]
def aGa(a:Prog)(b c d:Int):TS:=cH PP 133 [(.agg [(nI b),(nI c),(nI d)]),(.ptr 5 0),(.ptr 6 0),(.ptr 0 0)] [aF9 0,oC 1 [(bV false)],oC 2 [(nI 0)],(3,(.loop .ready none 46 (cE [kp 1 7,kp 2 1,kp 3 2]) 32 [15] (kd f46 116) (kd f46 117) 4),false),(4,(.defd false),false),oC 5 [(.yield 3)],qQ 6 a,qQ 7 a] 8
def aBW(a:Prog)(b c d:Int)(e:List Int)(f g:Int):TS:=⟨(tf 133 46 [kp 2 6,kp 3 0,kp 4 8,(5,(bV false)),(19,(iI e)),(20,(nI f)),(21,(nI g))] [kc f133 116,kl f133 116,.inBlock 0,kc f133 15]),[],([aF9 0]++bGm++[qQ 6 a,qQ 7 a,oC 8 [(nI b),(nI c),(nI d)]]),9⟩
def bGo(a:Prog):=tT 0 (bDG a)<|gpI 10 45 [(Prog.av a)]<|fun b=>.b 7 10 (b != 0) (gE 8 3 (.tup [(bV false),(nI b)]))<|.i [rn 23,.lkeep 5 [1,2,3]] []<|gl 18 cA a.funs<|.W 4 8 [7,1,2,5,4,6,3,0] (aJ1 a 0)
def bAb:=fun a b c d=>bGo a b c|>.t d tv
def bAc:=fun a b c d=>bGo a b c|>.f d tv
def bE1(a:Prog)(b:Int):=tT 0 (aJ1 a b)<|gd 5 12 (b< (a.funs.length:Int)) (gX cA 7 a.funs b<|fun c=>.o (gk 10 (.enter 133 [(.agg [(nI c),(nI b),(nI 1)]),(.ptr 5 0),(.ptr 6 0),(.ptr 0 0)]) [aF9 0,oC 1 [(bV false)],oC 2 [(nI 0)],(3,(.loop .ready none 46 (cE [kp 1 7,kp 2 1,kp 3 2]) 32 [15] (kd f46 116) (kd f46 117) 4),false),(4,(.defd false),false),oC 5 [(.yield 3)],qQ 6 a,qQ 7 a] 8 (bV false) [aF9 0,oC 1 [(bV false)],oC 2 [(nI 0)],(3,(.loop .done (some .ret) 46 (cE [kp 1 7,kp 2 1,kp 3 2]) 32 [15] (kd f46 116) (kd f46 117) 4),false),(4,(.defd false),false),oC 5 [(.yield 3)],qQ 6 a,qQ 7 a] 8<|gE 8 8 (.tup [(bV false),(nI 0)]))<|gk 10 (.enter 133 [(.agg [(nI c),(nI b),(nI 1)]),(.ptr 5 0),(.ptr 6 0),(.ptr 0 0)]) [aF9 0,oC 1 [(bV false)],oC 2 [(nI 0)],(3,(.loop .ready none 46 (cE [kp 1 7,kp 2 1,kp 3 2]) 32 [15] (kd f46 116) (kd f46 117) 4),false),(4,(.defd false),false),oC 5 [(.yield 3)],qQ 6 a,qQ 7 a] 8 (bV true) [aF9 0,oC 1 [(bV false)],oC 2 [(nI 0)],(3,(.loop .ready none 46 (cE [kp 1 7,kp 2 1,kp 3 2]) 32 [15] (kd f46 116) (kd f46 117) 4),false),(4,(.defd false),false),oC 5 [(.yield 3)],qQ 6 a,qQ 7 a] 8<|gw 7 22 (b+1)<|.W 3 8 [0,1,2,3,4,5,6,7] (aJ1 a (b+1)))<|gE 13 8 (.tup [(bV true),(nI 0)])
def bAd:=fun a b c d e f g=>bE1 a b|>.t d c e f|>.1 g tv
def bAe:=fun a b c d e f g i=>bE1 a b|>.t d c e f|>.2 g i tv
def bAf:=fun a b c=>bE1 a b|>.f c tv
def bE2(a:Prog)(c e d:Int):=tT 8 (aGa a c e d)<|gX Node.av 23 a.nodes c<|fun b=>.b 10 25 (b.op==4) (gd 7 31 (b.n≥d) (.E 15 11 [] (bV false) [aF9 0,oC 1 [(bV false)],oC 2 [(nI 0)],(3,(.loop .done (some .ret) 46 (cE [kp 1 7,kp 2 1,kp 3 2]) 32 [15] (kd f46 116) (kd f46 117) 4),false),(4,(.defd false),false),oC 5 [(.yield 3)],qQ 6 a,qQ 7 a] 8)<|gi Node.av 16 a.nodes c b<|gl 2 cA b.kids<|.W 4 11 [8] (aBW a c e d b.kids (b.kids.length:Int) 0))<|gi Node.av 23 a.nodes c b<|gl 2 cA b.kids<|.W 4 11 [8] (aBW a c e d b.kids (b.kids.length:Int) 0)
def aWI:=fun a b c d e f g i j=>bE2 a b c d e f g|>.t i|>.t j tv
def aWJ:=fun c d e f g a b i j=>bE2 c d e f g a b|>.t i|>.f j a b tv
def aWK:=fun c d e f g a b i=>bE2 c d e f g a b|>.f i a b tv
def bE3(a:Prog)(d b c:Int)(i:List Int)(j e:Int):=tT 8 (aBW a d b c i j e)<|gd 5 22 (e<j) (gX cA 7 i e<|fun k=>.o (.y fun f:Node=>.y fun g:Int=>.i [rn 5,.reg (rd 11 [.ans (.idx (Node.av f)),.d,.d,.pure (nI g),.d,.d,.call (bV false) (bGn a d b c),.d])] [hA (0≤d),.a (((a.nodes)[d.toNat]?) =some f) (aZ (f:=Node.av)),hA (aM PP 134 [(Node.av f),(nI e)] (nI g)),hA (Spec PP (.enter 133 [(.agg [(nI k),(nI b),(nI (IntKind.i64.wrap (c+g)))]),(.ptr 5 0),(.ptr 6 0),(.ptr 0 0)]) (bAa a d b c) (.ret (bV false)) (bGn a d b c)),hr (nI c),hr (nI c),hr (nI b),hr (nI b),hr (func 133 [] [(.ptr 5 0),(.ptr 6 0),(.ptr 0 0)]),hr (func 133 [] [(.ptr 5 0),(.ptr 6 0),(.ptr 0 0)])]<|.E 6 9 [] (bV false) [aF9 0,oC 1 [(bV false)],oC 2 [(nI 0)],(3,(.loop .done (some .ret) 46 (cE [kp 1 7,kp 2 1,kp 3 2]) 32 [15] (kd f46 116) (kd f46 117) 4),false),(4,(.defd false),false),oC 5 [(.yield 3)],qQ 6 a,qQ 7 a] 8)<|.y fun f:Node=>.y fun g:Int=>.i [rn 5,.reg (rd 11 [.ans (.idx (Node.av f)),.d,.d,.pure (nI g),.d,.d,.call (bV true) (bAa a d b c),.d])] [hA (0≤d),.a (((a.nodes)[d.toNat]?) =some f) (aZ (f:=Node.av)),hA (aM PP 134 [(Node.av f),(nI e)] (nI g)),hA (Spec PP (.enter 133 [(.agg [(nI k),(nI b),(nI (IntKind.i64.wrap (c+g)))]),(.ptr 5 0),(.ptr 6 0),(.ptr 0 0)]) (bAa a d b c) (.ret (bV true)) (bAa a d b c)),hr (nI c),hr (nI c),hr (nI b),hr (nI b),hr (func 133 [] [(.ptr 5 0),(.ptr 6 0),(.ptr 0 0)]),hr (func 133 [] [(.ptr 5 0),(.ptr 6 0),(.ptr 0 0)])]<|gw 5 45 (e+1)<|.W 3 9 [8] (aBW a d b c i j (e+1)))<|.E 7 9 [] (bV true) [aF9 0,oC 1 [(bV false)],oC 2 [(nI 0)],(3,(.loop .ready none 46 (cE [kp 1 7,kp 2 1,kp 3 2]) 32 [15] (kd f46 116) (kd f46 117) 4),false),(4,(.defd false),false),oC 5 [(.yield 3)],qQ 6 a,qQ 7 a] 8
def aWL:=fun a b c d e f g i j k l m n o p q r=>bE3 a b c d e f g|>.t l i m n|>.1 j k o p q r tv
def aWM:=fun a b c d e f g i j k l m n o p q r s=>bE3 a b c d e f g|>.t l i m n|>.2 j k o p q r s tv
def aWN:=fun a b c d e f g i=>bE3 a b c d e f g|>.f i tv
structure FineP (p:Prog) :Prop where
 small:p.nodes.length≤320
 fsmall:p.funs.length≤320
 node:∀ (i:Nat) (x:Node),p.nodes[i]?=some x→FineN p.cons x∧x.kids.length≤10∧∀k∈x.kids,(i:Int) <k∧k<p.nodes.length
 funs:∀f∈p.funs,0≤f∧f<p.nodes.length
def bE4 (a fn sz:Int) :AV:=.agg [.int .i64 a,.int .i64 fn,.int .i64 sz]
section
variable (p :Prog) (mf mc:List (Int×Int))
variable {p mf mc}
end
theorem aIe {P:Program}{f:Nat}{b args':List AV}{v v':AV}{l l' lc lc':List (Nat×AObj×Bool)}{m nb a n2 n3:Nat}{ks:List Nat}
  (t:fC P m (.enter f b) (aA l nb) (.ret v) (aA l' a)) (w:a-m+n2=n3) (ev:ren (jX m n2 ks) v=v') (c:AV.renL (eW 0 nb n2 ks) b=args') (hm:ble m nb=true) (g:ble m a=true)
  (h:cP 0 ⟨⟨0,0,[],[],[],.run,.normal,none⟩,[],l,nb⟩ ks=true) (hl:sS (aA lc n2) (eW 0 nb n2 ks) l=hP (eW 0 nb n2 ks) l) (j:eX l)
  (s:sS (aA lc' n3) (jX m n2 ks) l'=hP (jX m n2 ks) l') (e:eX l') (q:xK l'=true:=by kernel_rfl) (n:fQ a l'=true:=by kernel_rfl)
  (u:fQ n2 lc=true:=by kernel_rfl) (o:fQ n3 lc'=true:=by kernel_rfl) (i:ks.all (fun k=>blt k n2) =true:=by kernel_rfl) (d:aDz (namesT (jX m n2 ks) l') (l.map fun p=>ks.getD p.1 0) (aA lc n2) lc'=qP lc':=by kernel_rfl) (r:qP l'= (l'.map fun p=> (aA l' a).look p.1) :=by kernel_rfl) :
  Spec P (.enter f args') (aA lc n2) (.ret v') (aA lc' n3) :=by
 subst w ev;exact aVy t c hm g h hl j s e q n u o i d r
def bN (mf mc:List (Int×Int))(op n:Int) :Int:=if op=4 then(if 0≤n then n else -1-mAt mf (-1-n))else if op=14 then mAt mc n else n
def aWO (mf mc:List (Int×Int))(to:List Int)(x:Node) :Node:= ⟨x.op,bN mf mc x.op x.n,x.kids.map (aTf to),aV4 mc x.pats⟩
section
variable (p :Prog) (mf mc:List (Int×Int)) (to:List Int)
variable {p mf mc to}
end
section
variable {P :Program}
def bGp (Q:Nat→AObj→Prop) :List (Nat×AObj×Bool) →Prop
 | [] =>True
 | (b,o,_) ::l=>Q b o∧bGp Q l
theorem aU {Q:Nat→AObj→Prop}:∀ {l:List (Nat×AObj×Bool)} {nb:Nat},bGp Q l→∀x o,(aA l nb).look x=some o→Q x o:=fun {l nb} hq x o e=>by
 obtain⟨f,hm⟩ :=hJ e;clear e
 induction l with
 |nil=>cases hm
 | cons p l ih=>
  obtain⟨b,q,g⟩ :=p;rcases zq7.1 hm with h|h
  ·cases h;exact hq.1
  ·exact ih hq.2 h
theorem kS {α:Type}{m:Nat}{s:AS}{t:α→AS}{ok:α→Prop}{res:Res}{hf:Hp}(z:aAR s.h ok (fun x=> (t x).h))(hfr:∀x,(t x).fr=s.fr∧ (t x).cs=s.cs)(k:∀x,ok x→Ends P m (t x) res hf) :Ends P m s res hf:=
 aLS (fr:=s.fr) (cs:=s.cs) (h:=s.h) z (fun x hx=>by
  have h2:=k x hx;obtain⟨e1,e2⟩ :=hfr x;rw [←e1,←e2];exact h2)
theorem mA {m:Nat}{s t:AS}(z:jJ s.h t.h)(hfr:t.fr=s.fr)(hcs:t.cs=s.cs) :LeadsM P m s t:=by
 have:=aLR (P:=P) (m:=m) (fr:=s.fr) (cs:=s.cs) z;have e:t= ⟨s.fr,s.cs,t.h⟩ :=by rw [←hfr,←hcs]
 rw [e];exact this
theorem sZ {m:Nat}{s t:AS}{j:Nat}{v v':AV}(hj:s.fr.tm.at j=some v)(ht:m≤s.h.nb→oU m s.h t.h v v')(hfr:t.fr= {s.fr with tm:=s.fr.tm.put j v'})(hcs:t.cs=s.cs) :LeadsM P m s t:=by
 have:=jG (P:=P) (fr:=s.fr) (cs:=s.cs) hj ht;have e:t= ⟨{s.fr with tm:=s.fr.tm.put j v'},s.cs,t.h⟩ :=by rw [←hfr,←hcs]
 rw [e];exact this
theorem nS {m:Nat}{s:AS}{v:AV}{h h':Hp}(e:Ends P m s (.ret v) h)(z:jJ h h')(hm:m≤h.nb) :Ends P m s (.ret v) h':=fun hm0 E fr ccs w f fs r cl base=>by
 obtain⟨cl',w',E2,s1,⟨cv,rfl,g2⟩,r2,x2⟩ :=e hm0 E fr ccs w f fs r cl base;obtain⟨E3,h1,h2,h3⟩ :=z E2 w' r2;exact⟨_,w',E3,s1,⟨cv,rfl,g2.mono h1⟩,h2,x2.trans (h3 m hm)⟩
theorem eE {m:Nat}{s:AS}{v v0:AV}{lc l:List (Nat×AObj×Bool)}{nb n2:Nat}{ks:List Nat}(e:Ends P m s (.ret v0) (aA lc n2))(hv:ren (eW m nb n2 ks) v=v0)
  (hok:cP m ⟨⟨0,0,[],[],[],.run,.normal,none⟩,[],l,nb⟩ ks=true) (hh:sS (aA lc n2) (eW m nb n2 ks) l=hP (eW m nb n2 ks) l) (hkl:eX l) :Ends P m s (.ret v) (aA l nb) :=fun hm E fr ccs w f fs r cl base=>by
 obtain⟨cl',w',E2,s1,⟨cv,rfl,g2⟩,r2,x2⟩ :=e hm E fr ccs w f fs r cl base;obtain⟨q1,q2⟩ :=kJ hok hh hkl r2;subst hv;exact⟨_,w',_,s1,⟨cv,rfl,(eP _ _ _ _).1 g2⟩,q1,x2.trans q2⟩
mutual
def IsTree (p:Prog) :XT→Int→Prop
 | .mk o n ks ps,at0=>0≤at0∧∃nd,p.nodes[at0.toNat]?=some nd∧nd.op=o∧nd.n=n∧nd.pats=ps∧aQ p ks nd.kids
def aQ (p:Prog) :List XT→List Int→Prop
 | [],l=>l= []
 |t::ts,l=>∃k l',l=k::l'∧IsTree p t k∧aQ p ts l'
end
end
inductive KV where
 |row (l:List Int)
 |nil
 |val (u:Value)
def KV.av :KV→AV
 | .row l=>.ilst 1 (map cA l) false
 | .nil=>.nils
 | .val u=>.val u
structure ONode where
 op:Int
 n:Int
 kv:KV
 pats:List Pat
def ONode.av (x:ONode) :AV:=.agg [.int .i64 x.op,.int .i64 x.n,x.kv.av,.ilst 4 (Pats.av x.pats) false]
def Node.o (x:Node) :ONode:= ⟨x.op,x.n,.row x.kids,x.pats⟩
theorem aJ2 (l:List Node) :map ONode.av (map Node.o l) =map Node.av l:=by
 rw [List.map_map];rfl
theorem bGq :∀k:KV,keyless k.av=true
 | .row l=>by simp only [KV.av,keyless]
 | .nil=>rfl
 | .val u=>rfl
theorem dJ (x:ONode) :keyless x.av=true:=by
 simp only [ONode.av,keyless,keylessL,bGq,aBL,Bool.and_true]
theorem aJ3 {E:Emb}{x y:AV}(j:∀v,VR E x v→VR E y v) :∀ {d:List AV} {i:Nat},d[i]?=some x→∀c,VRs E d c→VRs E (d.set i y) c
 | [],i,h,c,b=>by simp at h
 | a::d,0,h,c,b=>by
  simp only [VRs]at b;obtain⟨u,e,rfl,g,f⟩ :=b;simp at h;subst h;simp only [List.set_cons_zero,VRs];exact⟨u,e,rfl,j u g,f⟩
 | a::d,i+1,h,c,b=>by
  simp only [VRs]at b;obtain⟨u,e,rfl,g,f⟩ :=b;simp only [mM]at h;simp only [List.set_cons_succ,VRs];exact⟨u,e,rfl,g,aJ3 j h e f⟩
theorem aM5 {E:Emb}{x:ONode}{k:KV}(hk:∀v,VR E x.kv.av v→VR E k.av v) :∀v,VR E x.av v→VR E (ONode.av ⟨x.op,x.n,k,x.pats⟩) v:=fun v h=>by
 simp only [ONode.av,VR,VRs]at h ⊢;obtain⟨l,rfl,f,g,rfl,d,j,m,rfl,a,i,e,rfl,c,b⟩ :=h;exact⟨_,rfl,_,_,rfl,d,_,_,rfl,a,_,_,rfl,hk _ c,b⟩
theorem aPV {E:Emb}:∀v,VR E KV.nil.av v→VR E (KV.row []).av v:=fun v h=>by
 simp only [KV.av,VR]at h;simp only [KV.av,VR,map_nil];exact⟨[],VRs.nil _,fun _ a=>by(cases a),.inl ⟨rfl,none,0,h,fun _=>rfl,fun _=>rfl⟩⟩
theorem aWP {l:List ONode}{i:Nat}{y:ONode}(h:l[i]?=some y)(hk:y.kv= .nil) :VW (map ONode.av l) (map ONode.av (l.set i ⟨y.op,y.n,.row [],y.pats⟩)) :=fun E b a=>by
 have c: (map ONode.av l)[i]?=some y.av:=by rw [pT,h];rfl
 rw [map_set];exact aJ3 (aM5 (by rw [hk];exact aPV)) c b a
theorem aWQ {l:List ONode}{i:Nat}{y:ONode}{u:Value}{ks:List Int}(h:l[i]?=some y)(hk:y.kv= .val u) :VQ u 1 (map cA ks) (map ONode.av l) (map ONode.av (l.set i ⟨y.op,y.n,.row ks,y.pats⟩)) :=fun E c d b=>by
 have e: (map ONode.av l)[i]?=some y.av:=by rw [pT,h];rfl
 rw [map_set];refine aJ3 (aM5 (fun v a=>?_)) e c b;rw [hk]at a;simp only [KV.av,VR]at a;subst a;exact d
theorem aJ4 {a:Type}{f:a→AV}{l:List a}{i:Nat}{y:a}(h:l[i]?=some y) :map f l≠ [] :=fun e=>by
 cases l with
 |nil=>simp at h
 |cons _ _=>cases e
abbrev rZ (a b:Int)(c:cC)(d:List Pat):AV:=.agg [(nI a),(nI b),(dO c),(iP d)]
abbrev aAY (a:List XT):AV:=.ilst 1 (XTs.av a) false
def bGr(a b:Int)(c:cC)(d:List Pat):TS:=cH PP 201 [(rZ a b c d)] [] 0
def aJ5(d e:Int)(f:cC)(a:List Pat)(b c:Int):TS:=⟨(tf 201 22 [(2,(nI 0)),(3,(nI b)),(10,(iP a)),(11,(nI (a.length:Int))),(12,(nI c))] [kc f201 244,kl f201 244,.inBlock 0,kc f201 31]),[],[],0⟩
def bGs(a b:Int)(c:List XT)(d:List Pat)(e:Int):TS:=cH PP 178 [(.iptr [(nI a),(nI b),(aAY c),(iP d)]),(nI e)] [] 0
def bGt(a b:Int)(c:List XT)(d:List Pat):TS:=cH PP 138 [(.iptr [(nI a),(nI b),(aAY c),(iP d)])] [] 0
def bGu(a b:Int)(c:List XT)(d:List Pat):TS:=cH PP 137 [(.iptr [(nI a),(nI b),(aAY c),(iP d)])] [] 0
def bGv(a b:Int)(c:List XT)(d:List Pat):TS:=cH PP 95 [(.iptr [(nI a),(nI b),(aAY c),(iP d)])] [] 0
def aJ6(a b:Int)(c:List XT)(d:List Pat)(e f:Int):TS:=⟨(tf 95 38 [(0,(.iptr [(nI a),(nI b),(aAY c),(iP d)])),(2,.nili),(22,(nI e)),(23,(nI f))] [kc f95 116,kl f95 116,.inBlock 0,kc f95 15]),[],[],0⟩
def bGw(a b:Int)(c:cC)(d:List Pat):TS:=cH PP 162 [(rZ a b c d)] [] 0
def aJ7(c d:Int)(e:cC)(a:List Pat)(f:Int)(b:List Pat):TS:=⟨(tf 162 22 [kp 1 0,kp 2 1,(3,(.gl 2 4 0 b.length false)),(7,(iP a)),(8,(nI (a.length:Int))),(9,(nI f))] [kc f162 116,kl f162 116,.inBlock 0,kc f162 15]),[],[oC 0 [(nI c),(nI d),(dO e),(iP a)],oC 1 [(nI 0),(nI 0),(.str 0 0),.nils],oL 2 4 (Pats.av b)],3⟩
def bGx(a:List Pat):TS:=cH PP 120 [(iP a)] [] 0
def aJ8(a:List Pat)(c:Int)(b:List Pat):TS:=⟨(tf 120 19 [(2,.nils),(3,(.gl 0 4 0 b.length false)),(6,(iP a)),(7,(nI (a.length:Int))),(8,(nI c))] [kc f120 116,kl f120 116,.inBlock 0,kc f120 15]),[],[oL 0 4 (Pats.av b)],1⟩
def aWR(a c:Int)(d:cC)(b:List Pat):=tT 0 (bGr a c d b)<|.b 12 8 (a==2) (gE 6 1 (nI 1))<|gm 11 aE b<|.W 4 1 [] (aJ5 a c d b 0 0)
def bAg:=fun a b c d e=>aWR a b c d|>.t e tv
def bAh:=fun a b c d e=>aWR a b c d|>.f e tv
def aWS(d e:Int)(f:cC)(b:List Pat)(c a:Int):=tT 0 (aJ5 d e f b c a)<|gd 5 13 (a< (b.length:Int)) (rW 6 b a<|fun i j k l=>gpI 7 201 [(rZ i j k l)]<|fun g=>gw 1 19 (c+g)<|gw 5 20 (a+1)<|.W 3 1 [] (aJ5 d e f b (c+g) (a+1)))<|gE 8 0 (nI c)
def bAi:=fun a b c d e f g i j k l m n o p q r=>aWS a b c d e f|>.t m g i j k n o l p q r tv
def bAj:=fun a b c d e f g=>aWS a b c d e f|>.f g tv
def aAZ(b j:Int)(k:List XT)(c:List Pat)(a:Int):=tT 0 (bGs b j k c a)<|.b 14 11 (b==5) (gE 25 0 (nI 1))<|.b 7 18 (b==27) (gE 18 0 (nI 1))<|.b 6 24 (b==7) (.b 6 5 (a==1) (gE 6 0 (nI 1))<|.b 9 35 (b==15) (gd 5 29 (a>0) (gw 9 44 (a-1)<|rW 0 c (a-1)<|fun d e f g=>gpI 1 201 [(rZ d e f g)]<|fun i=>gE 3 0 (nI i))<|gE 8 0 (nI 0))<|gE 13 0 (nI 0))<|.b 15 35 (b==15) (gd 5 29 (a>0) (gw 9 44 (a-1)<|rW 0 c (a-1)<|fun d e f g=>gpI 1 201 [(rZ d e f g)]<|fun i=>gE 3 0 (nI i))<|gE 8 0 (nI 0))<|gE 13 0 (nI 0)
def bAk:=fun a b c d e f=>aAZ a b c d e|>.t f tv
def bAl:=fun a b c d e f g=>aAZ a b c d e|>.f f|>.t g tv
def bAm:=fun a b c d e f g i j=>aAZ a b c d e|>.f f|>.f g|>.t i|>.t j tv
def bAn:=fun a b c d e f g i j k=>aAZ a b c d e|>.f f|>.f g|>.t i|>.f j|>.f k tv
def bAo:=fun a b c d e f g i j k l m n o p q r s t=>aAZ a b c d e|>.f l|>.f m|>.f n|>.t o|>.t p q f g i j r s k t tv
def bAp:=fun a b c d e f g i j k=>aAZ a b c d e|>.f f|>.f g|>.f i|>.t j|>.f k tv
def bAq:=fun a b c d e f g i j=>aAZ a b c d e|>.f f|>.f g|>.f i|>.f j tv
def aGb(a b:Int)(c:List XT)(d:List Pat):=tT 0 (bGt a b c d)<|.b 19 7 (a==1) (gE 8 0 (bV true))<|.b 6 7 (a==2) (gE 8 0 (bV true))<|.b 6 7 (a==3) (gE 8 0 (bV true))<|.b 5 7 (a==4) (gE 6 0 (bV true))<|gE 8 0 (bV false)
def bAr:=fun a b c d e=>aGb a b c d|>.t e tv
def bAs:=fun a b c d e f=>aGb a b c d|>.f e|>.t f tv
def bAt:=fun a b c d e f g=>aGb a b c d|>.f e|>.f f|>.t g tv
def bAu:=fun a b c d e f g i=>aGb a b c d|>.f e|>.f f|>.f g|>.t i tv
def bAv:=fun a b c d e f g i=>aGb a b c d|>.f e|>.f f|>.f g|>.f i tv
def iW(b c:Int)(a:List XT)(d:List Pat):=tT 0 (bGu b c a d)<|.b 19 7 (b==8) (gE 8 0 (nI 1))<|.b 6 7 (b==15) (gE 8 0 (nI 1))<|.b 6 7 (b==16) (gE 8 0 (nI 1))<|.b 6 7 (b==17) (gE 8 0 (nI 1))<|.b 6 7 (b==19) (gE 8 0 (nI 1))<|.b 6 7 (b==20) (gE 8 0 (nI 1))<|.b 6 7 (b==23) (gE 8 0 (nI 1))<|.b 5 7 (b==24) (gE 6 0 (nI 1))<|.b 7 16 (b==6) (.i [rn 9,aL a] [.q (p:=((XTs.av a).length:Int) = (a.length:Int)) (jY cY _)]<|gE 3 0 (nI (a.length:Int)))<|.b 6 16 (b==9) (.i [rn 9,aL a] [.q (p:=((XTs.av a).length:Int) = (a.length:Int)) (jY cY _)]<|gE 3 0 (nI (a.length:Int)))<|.b 6 16 (b==10) (.i [rn 9,aL a] [.q (p:=((XTs.av a).length:Int) = (a.length:Int)) (jY cY _)]<|gE 3 0 (nI (a.length:Int)))<|.b 6 16 (b==11) (.i [rn 9,aL a] [.q (p:=((XTs.av a).length:Int) = (a.length:Int)) (jY cY _)]<|gE 3 0 (nI (a.length:Int)))<|.b 6 16 (b==12) (.i [rn 9,aL a] [.q (p:=((XTs.av a).length:Int) = (a.length:Int)) (jY cY _)]<|gE 3 0 (nI (a.length:Int)))<|.b 6 16 (b==13) (.i [rn 9,aL a] [.q (p:=((XTs.av a).length:Int) = (a.length:Int)) (jY cY _)]<|gE 3 0 (nI (a.length:Int)))<|.b 6 16 (b==18) (.i [rn 9,aL a] [.q (p:=((XTs.av a).length:Int) = (a.length:Int)) (jY cY _)]<|gE 3 0 (nI (a.length:Int)))<|.b 6 16 (b==22) (.i [rn 9,aL a] [.q (p:=((XTs.av a).length:Int) = (a.length:Int)) (jY cY _)]<|gE 3 0 (nI (a.length:Int)))<|.b 5 16 (b==14) (.i [rn 7,aL a] [.q (p:=((XTs.av a).length:Int) = (a.length:Int)) (jY cY _)]<|gE 3 0 (nI (a.length:Int)))<|gE 8 0 (nI 0)
def bAw:=fun a b c d e=>iW a b c d|>.t e tv
def bAx:=fun a b c d e f=>iW a b c d|>.f e|>.t f tv
def bAy:=fun a b c d e f g=>iW a b c d|>.f e|>.f f|>.t g tv
def bAz:=fun a b c d e f g i=>iW a b c d|>.f e|>.f f|>.f g|>.t i tv
def bAA:=fun a b c d e f g i j=>iW a b c d|>.f e|>.f f|>.f g|>.f i|>.t j tv
def bAB:=fun a b c d e f g i j k=>iW a b c d|>.f e|>.f f|>.f g|>.f i|>.f j|>.t k tv
def bAC:=fun a b c d e f g i j k l=>iW a b c d|>.f e|>.f f|>.f g|>.f i|>.f j|>.f k|>.t l tv
def bAD:=fun a b c d e f g i j k l m=>iW a b c d|>.f e|>.f f|>.f g|>.f i|>.f j|>.f k|>.f l|>.t m tv
def bAE:=fun a b c d e f g i j k l m n=>iW a b c d|>.f e|>.f f|>.f g|>.f i|>.f j|>.f k|>.f l|>.f m|>.t n tv
def bAF:=fun a b c d e f g i j k l m n o=>iW a b c d|>.f e|>.f f|>.f g|>.f i|>.f j|>.f k|>.f l|>.f m|>.f n|>.t o tv
def aWT:=fun a b c d e f g i j k l m n o p=>iW a b c d|>.f e|>.f f|>.f g|>.f i|>.f j|>.f k|>.f l|>.f m|>.f n|>.f o|>.t p tv
def aWU:=fun a b c d e f g i j k l m n o p q=>iW a b c d|>.f e|>.f f|>.f g|>.f i|>.f j|>.f k|>.f l|>.f m|>.f n|>.f o|>.f p|>.t q tv
def aWV:=fun a b c d e f g i j k l m n o p q r=>iW a b c d|>.f e|>.f f|>.f g|>.f i|>.f j|>.f k|>.f l|>.f m|>.f n|>.f o|>.f p|>.f q|>.t r tv
def aWW:=fun a b c d e f g i j k l m n o p q r s=>iW a b c d|>.f e|>.f f|>.f g|>.f i|>.f j|>.f k|>.f l|>.f m|>.f n|>.f o|>.f p|>.f q|>.f r|>.t s tv
def aWX:=fun a b c d e f g i j k l m n o p q r s t=>iW a b c d|>.f e|>.f f|>.f g|>.f i|>.f j|>.f k|>.f l|>.f m|>.f n|>.f o|>.f p|>.f q|>.f r|>.f s|>.t t tv
def aWY:=fun a b c d e f g i j k l m n o p q r s t u=>iW a b c d|>.f e|>.f f|>.f g|>.f i|>.f j|>.f k|>.f l|>.f m|>.f n|>.f o|>.f p|>.f q|>.f r|>.f s|>.f t|>.t u tv
def aWZ:=fun a b c d e f g i j k l m n o p q r s t u v=>iW a b c d|>.f e|>.f f|>.f g|>.f i|>.f j|>.f k|>.f l|>.f m|>.f n|>.f o|>.f p|>.f q|>.f r|>.f s|>.f t|>.f u|>.t v tv
def aW0:=fun a b c d e f g i j k l m n o p q r s t u v=>iW a b c d|>.f e|>.f f|>.f g|>.f i|>.f j|>.f k|>.f l|>.f m|>.f n|>.f o|>.f p|>.f q|>.f r|>.f s|>.f t|>.f u|>.f v tv
def aPW(a c:Int)(b:List XT)(d:List Pat):=tT 0 (bGv a c b d)<|.b 13 8 (a==7) (.y fun e:Int=>.y fun f:Int=>.y fun g:List XT=>.y fun i:List Pat=>giF cY 8 b 0 (XT.mk e f g i)<|.b 6 18 (e==7) (gE 8 0 (.iface 191 (.agg [])))<|gE 7 0 .nili)<|gpI 6 137 [(.iptr [(nI a),(nI c),(aAY b),(iP d)])]<|fun j=>.W 4 0 [] (aJ6 a c b d j 0)
def bAG:=fun a b c d e f g i j k l m=>aPW a b c d|>.t j e f g i k l|>.t m tv
def bAH:=fun a b c d e f g i j k l m=>aPW a b c d|>.t j e f g i k l|>.f m tv
def bAI:=fun a b c d e f g=>aPW a b c d|>.f f e g tv
def aPX(d e:Int)(b:List XT)(f:List Pat)(c a:Int):=tT 0 (aJ6 d e b f c a)<|gd 5 24 (a<c) (.y fun g:Int=>.y fun i:Int=>.y fun j:List XT=>.y fun k:List Pat=>giF cY 16 b a (XT.mk g i j k)<|kK 1 138 [(.iptr [(nI g),(nI i),(aAY j),(iP k)])]<|fun l=>.b 2 34 (!l) (gE 8 0 (.iface 193 (nI a)))<|gw 5 37 (a+1)<|.W 3 0 [] (aJ6 d e b f c (a+1)))<|gE 7 0 .nili
def bAJ:=fun a b c d e f g i j k l m n o p q=>aPX a b c d e f|>.t m g i j k n o l p|>.t q tv
def bAK:=fun a b c d e f g i j k l m n o p q r=>aPX a b c d e f|>.t m g i j k n o l p|>.f q r tv
def bAL:=fun a b c d e f g=>aPX a b c d e f|>.f g tv
def bAM (b c:Int)(d:cC)(a:List Pat):=(tT 0 (bGw b c d a)<|gm 14 aE a<|.i [rn 4,.nilL 3 4] []<|gu 0 2 (Pats.av ([] :List Pat))<|gs 0 3 (.gl 2 4 0 ([] :List Pat).length false)<|.W 0 3 [0,1,2] (aJ7 b c d a 0 ([] :List Pat))) ⟨fH,trivial⟩
def aW1(d e:Int)(f:cC)(c:List Pat)(a:Int)(b:List Pat):=tT 0 (aJ7 d e f c a b)<|gd 5 10 (a< (c.length:Int)) (rW 6 c a<|fun l m n o=>.y fun g:Int=>.y fun i:Int=>.y fun j:cC=>.y fun k:List Pat=>gp 7 162 [(rZ l m n o)] (rZ g i j k)<|gA 1 aE b [(Pat.mk g i j k)]<|gw 5 18 (a+1)<|.W 3 6 [0,1,5] (aJ7 d e f c (a+1) (b++ [(Pat.mk g i j k)])))<|gY 14 1 3 2 4 aE fH b false<|gE 0 3 (rZ d e f b)
def bAN:=fun a b c d e f g i j k l m n o p q r s t u=>aW1 a b c d e f|>.t p g i j k q r l m n o s t u ⟨fH,trivial⟩
def bAO:=fun a b c d e f g=>aW1 a b c d e f|>.f g tv
def bAP (a:List Pat):=(tT 0 (bGx a)<|gm 12 aE a<|.i [rn 4,.nilL 3 4] []<|gu 0 0 (Pats.av ([] :List Pat))<|gs 0 3 (.gl 0 4 0 ([] :List Pat).length false)<|.W 0 1 [0] (aJ8 a 0 ([] :List Pat))) ⟨fH,trivial⟩
def aW2(c:List Pat)(a:Int)(b:List Pat):=tT 0 (aJ8 c a b)<|gd 5 9 (a< (c.length:Int)) (rW 6 c a<|fun i j k l=>.y fun d:Int=>.y fun e:Int=>.y fun f:cC=>.y fun g:List Pat=>gp 7 162 [(rZ i j k l)] (rZ d e f g)<|gA 1 aE b [(Pat.mk d e f g)]<|gw 5 17 (a+1)<|.W 3 4 [3] (aJ8 c (a+1) (b++ [(Pat.mk d e f g)])))<|gZ 8 2 0 4 aE fH b false<|gE 0 1 (iP b)
def bAQ:=fun a b c d e f g i j k l m n o p q r=>aW2 a b c|>.t m d e f g n o i j k l p q r ⟨fH,trivial⟩
def bAR:=fun a b c d=>aW2 a b c|>.f d tv
theorem take_succ' {a:Type}{l:List a}{i:Nat}{x:a}(h:l[i]?=some x) :l.take i++ [x] =l.take (i+1) :=by
 rw [List.take_add_one,h];rfl
theorem aM6 (f n:Int)(s:cC)(ps:List Pat)(hl:ps.length<1000000)(hp:∀q∈ps,aM PP 162 [Pat.av q] (Pat.av q)) :∀ (t:List Pat) (i:Nat),ps.drop i=t→Ends PP 0 (aJ7 f n s ps (i:Int) (ps.take i)).as (.ret (Pat.av (.mk f n s ps))) (aA [] 0)
 | [],i,h=>by
  have j:=bL h;have:=bAO f n s ps (i:Int) (ps.take i) sd;rw [aG5 j]at this ⊢;exact this
 | .mk a b c d::t,i,h=>by
  obtain⟨g,k,l⟩ :=bI h;have e:=take_succ' g;refine(bAN f n s ps (i:Int) (ps.take i) a b c d a b c d sd sd sd (hp _ (kN g)) (by rw [e,List.length_take];omega) sd).ends ?_;rw [e];exact aM6 f n s ps hl hp t (i+1) k
mutual
theorem aW3 :∀q:Pat,bX q≤1000000→aM PP 162 [Pat.av q] (Pat.av q)
 | .mk f n s a,h=>by
  have hl:=eD a;simp only [bX]at h;refine aK aC (by simp [keylessL,kW]) (kW _) ((bAM f n s a).ends ?_);exact aM6 f n s a (by omega) (aJ9 a (by omega)) a 0 rfl
theorem aJ9 :∀b:List Pat,bD b≤1000000→∀q∈b,aM PP 162 [Pat.av q] (Pat.av q)
 | [],_,q,a=>by cases a
 | p::b,h,q,a=>by
  simp only [bD]at h;rcases zq7.1 a with e|a
  ·rw [e];exact aW3 p (by omega)
  ·exact aJ9 b (by omega) q a
end
theorem aM7 (ps:List Pat)(hl:ps.length<1000000)(hp:∀q∈ps,aM PP 162 [Pat.av q] (Pat.av q)) :∀ (t:List Pat) (i:Nat),ps.drop i=t→Ends PP 0 (aJ8 ps (i:Int) (ps.take i)).as (.ret (.ilst 4 (Pats.av ps) false)) (aA [] 0)
 | [],i,h=>by
  have g:=bL h;have:=bAR ps (i:Int) (ps.take i) sd;rw [aG5 g]at this ⊢;exact this
 | .mk a b c d::t,i,h=>by
  obtain⟨f,j,k⟩ :=bI h;have e:=take_succ' f;refine(bAQ ps (i:Int) (ps.take i) a b c d a b c d sd sd sd (hp _ (kN f)) (by rw [e,List.length_take];omega) sd).ends ?_;rw [e];exact aM7 ps hl hp t (i+1) j
theorem aM8 (ps:List Pat)(h:bD ps<1000000) :aM PP 120 [.ilst 4 (Pats.av ps) false] (.ilst 4 (Pats.av ps) false) :=by
 have hl:=eD ps;exact aK aC (by simp [keylessL,keyless,fH]) (by simp [keyless,fH]) ((bAP ps).ends (aM7 ps (by omega) (aJ9 ps (by omega)) ps 0 rfl))
end
end Go.Hb
