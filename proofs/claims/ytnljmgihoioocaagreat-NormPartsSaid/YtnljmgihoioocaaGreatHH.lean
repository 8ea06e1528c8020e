/- A machine on abstract values, its soundness, ways, plain laws. -/
import Derived.Test.YtnljmgihoioocaaGreatHF
import Derived.Test.YtnljmgihoioocaaGreatHG
set_option linter.defProp false
set_option linter.unusedVariables false
set_option linter.unusedSimpArgs false
set_option linter.unusedSectionVars false
set_option maxRecDepth 100000
set_option maxHeartbeats 2000000
namespace Go.Hb
open AV (func int keyless keylessL ren)
open List (all_cons drop length map map_nil map_set replicate set)
open Nat (add_zero ble blt div mod pow)
open Go.Proofs Tryz
noncomputable section
def zW(a:cA)(b:Nat):TS:=⟨(tf 195 16 [(2,(bV false)),kp 6 0] [kc f195 52,kl f195 52,.inBlock 0,kc f195 7]),[],[(0,(.siter a.length (aF a) b),false)],1⟩
def aB7(e f:Int)(g:cA)(a:List Pat)(b c d:Int):TS:=⟨(tf 171 27 [(1,(nI b)),(4,(nI 0)),(5,(nI c)),(9,(iP a)),(10,(nI (a.length:Int))),(11,(nI d))] [kc f171 116,kl f171 116,.inBlock 0,kc f171 15]),[],[],0⟩
def bHQ(a b c:Int):=tT 0 (start PP 122 [(nI a),(nI b),(nI c)])<|gd 10 10 (a≥b) (gE 7 0 (bV (decide (a≤c))))<|gE 7 0 (bV false)
def bBd:=fun a b c d=>bHQ a b c|>.t d tv
def bBe:=fun a b c d=>bHQ a b c|>.f d tv
def aW6 (b:Int):=fun a c=>(tT 0 (start PP 197 [(nI b)])<|lW 7 122 [(nI b),(nI (-1000000000)),(nI 1000000000)]<|fun a=>gE 3 0 (bV a)) a c tv
def aQB (a:cA):=(tT 0 (start PP 195 [(dP a)])<|.W 12 1 [0] (zW a 0)) tv
def bBf(a:cA)(b:Nat):=tT 0 (zW a b)<|.o (.y fun c:Nat=>.y fun d:Nat=>.i [rn 2,.nxt c d] [hA (b<a.length),hA (aPh a.length (aF a) b=some (c,d))]<|gd 16 12 (((c:Nat) :Int) <97) (gE 10 1 (bV false))<|gd 4 15 (((c:Nat) :Int) >122) (gE 6 1 (bV false))<|.W 4 1 [0] (zW a (Nat.add b d)))<|.i [rn 2,.nxtE] [hA (a.length≤b)]<|gE 10 1 (bV true)
def aQC:=fun a b c d e f g=>bBf a b|>.1 c d e f|>.t g tv
def aQD:=fun a b c d e f g i=>bBf a b|>.1 c d e f|>.f g|>.t i tv
def aQE:=fun a b c d e f g i=>bBf a b|>.1 c d e f|>.f g|>.f i tv
def aQF:=fun a b c=>bBf a b|>.2 c tv
def aW7(a:cA):=tT 0 (start PP 166 [(dP a)])<|.b 9 5 (!(jL a.length (aF a) 0 0)) (gd 5 10 ((a.length:Int) ≤8) (.y fun b:UInt8=>.i [rn 1,.ans (.ev (.int .u8 ((b.toNat:Nat) :Int)))] [.q (p:=0≤ (0:Int)) (by decide),.a ((a)[0]?=some b) (p':=(0:Int) < (a.length:Int)) (fun h=>(aDh (k:= (0:Int)) (by decide) h)),.a ((a)[0]?=some b) (p':=int .u8 ((mod (div (aF a) (pow 256 (0:Int).toNat)) 256:Nat) :Int) = (.int .u8 ((b.toNat:Nat) :Int))) (fun h=>(aDi (k:= (0:Int)) h))]<|gd 3 15 (((b.toNat:Nat) :Int) ≥65) (.i [rn 1,.ans (.ev (.int .u8 ((b.toNat:Nat) :Int)))] [.q (p:=0≤ (0:Int)) (by decide),.a ((a)[0]?=some b) (p':=(0:Int) < (a.length:Int)) (fun h=>(aDh (k:= (0:Int)) (by decide) h)),.a ((a)[0]?=some b) (p':=int .u8 ((mod (div (aF a) (pow 256 (0:Int).toNat)) 256:Nat) :Int) = (.int .u8 ((b.toNat:Nat) :Int))) (fun h=>(aDi (k:= (0:Int)) h))]<|gd 3 20 (((b.toNat:Nat) :Int) ≤90) (.i [rn 1,.ans (.ev (dP (drop 1 a)))] [.a (1≤length a) (p':=aT4 PP 9 (dP a) (some (nI 1)) none (dP (drop 1 a))) (fun h=>(aD6 (k:= (1:Int)) aC (by decide) h))]<|lW 0 195 [(dP (drop 1 a))]<|fun c=>gE 4 0 (bV c))<|gE 7 0 (bV false))<|gE 12 0 (bV false))<|gE 17 0 (bV false))<|gE 22 0 (bV false)
def aQG:=fun b c d e f a g i j k=>aW7 b|>.t e|>.t f c a a|>.t g a a|>.t i j d k tv
def aQH:=fun b c d e a f g=>aW7 b|>.t d|>.t e c a a|>.t f a a|>.f g tv
def aQI:=fun b c d e a f=>aW7 b|>.t d|>.t e c a a|>.f f tv
def aQJ:=fun a b c=>aW7 a|>.t b|>.f c tv
def aQK:=fun a b=>aW7 a|>.f b tv
def bHR(a:Con):=tT 0 (start PP 124 [(.agg [(dP a.name),(nI a.args)])])<|lW 9 166 [(dP a.name)]<|fun b=>.b 1 6 b (lW 2 122 [(nI a.args),(nI 0),(nI 3)]<|fun c=>gE 4 1 (bV c))<|gE 7 1 (bV false)
def aW8:=fun a b c d e f=>bHR a b d|>.t e c f tv
def aW9:=fun a b c d=>bHR a b c|>.f d tv
def aUS(c:Prog)(a:Node):=tT 0 (start PP 173 [(Prog.av c),(Node.av a)])<|.b 18 7 (a.op==1) (lW 5 197 [(nI a.n)]<|fun b=>gE 3 2 (bV b))<|.b 6 12 (a.op==2) (lW 5 122 [(nI a.n),(nI 0),(nI 1)]<|fun b=>gE 3 2 (bV b))<|.b 6 17 (a.op==24) (lW 5 122 [(nI a.n),(nI 0),(nI 3)]<|fun b=>gE 3 2 (bV b))<|.b 6 22 (a.op==4) (gl 8 bU c.funs<|gw 1 30 (0- (c.funs.length:Int))<|lW 0 122 [(nI a.n),(nI (0- (c.funs.length:Int))),(nI 29)]<|fun b=>gE 3 2 (bV b))<|.b 6 32 (a.op==14) (gE 6 2 (bV true))<|gE 11 2 (bV (a.n==0))
def aNp:=fun a b c d e=>aUS a b|>.t d c e tv
def aNq:=fun a b c d e f=>aUS a b|>.f d|>.t e c f tv
def aNr:=fun a b c d e f g=>aUS a b|>.f d|>.f e|>.t f c g tv
def aNs:=fun a b c d e f g i j=>aUS a b|>.f d|>.f e|>.f f|>.t g i c j tv
def aNt:=fun a b c d e f g=>aUS a b|>.f c|>.f d|>.f e|>.f f|>.t g tv
def aNu:=fun a b c d e f g=>aUS a b|>.f c|>.f d|>.f e|>.f f|>.f g tv
def aUT (b c:Int)(d:cA)(a:List Pat)(e:Int):=(tT 0 (start PP 171 [(.agg [(nI b),(nI c),(dP d),(iP a)]),(nI e)])<|gm 14 aH a<|.W 4 1 [] (aB7 b c d a e 1 0)) tv
def bGo(e f:Int)(g:cA)(d:List Pat)(b a c:Int):=tT 0 (aB7 e f g d b a c)<|gd 5 12 (c< (d.length:Int)) (vA 6 d c<|fun j k l m=>gd 11 17 (a>b) (gE 8 1 (nI a))<|gw 8 22 (b-a)<|gpI 0 171 [(.agg [(nI j),(nI k),(dP l),(iP m)]),(nI (b-a))]<|fun i=>gw 1 24 (a+i)<|gw 5 25 (c+1)<|.W 3 1 [] (aB7 e f g d b (a+i) (c+1)))<|gE 8 0 (nI a)
def aUU:=fun a b c d e f g i j k l m n o p=>bGo a b c d e f g|>.t m i j k l n o|>.t p tv
def aUV:=fun a b c d e f g i j k l m n o p q r s t u=>bGo a b c d e f g|>.t n i j k l o p|>.f q r m s t u tv
def aUW:=fun a b c d e f g i=>bGo a b c d e f g|>.f i tv
def aA3(d:Prog)(e c:Int)(f:cA)(a:List Pat):=tT 0 (start PP 172 [(Prog.av d),(.agg [(nI e),(nI c),(dP f),(iP a)])])<|.b 13 8 (!(jL f.length (aF f) 0 0)) (gE 14 2 (bV false))<|lW 4 174 [(iP a),(.func 172 [(Prog.av d)] [])]<|fun i=>.b 3 15 (!i) (gE 6 2 (bV false))<|.b 15 18 (e==1) (.b 9 25 (c==0) (gm 2 aH a<|gE 5 2 (bV ((a.length:Int) ==0)))<|gE 8 2 (bV false))<|.b 6 18 (e==2) (.b 9 25 (c==0) (gm 2 aH a<|gE 5 2 (bV ((a.length:Int) ==0)))<|gE 8 2 (bV false))<|.b 5 18 (e==5) (.b 7 25 (c==0) (gm 2 aH a<|gE 5 2 (bV ((a.length:Int) ==0)))<|gE 8 2 (bV false))<|.b 6 31 (e==3) (lW 5 197 [(nI c)]<|fun b=>.b 1 36 b (gm 2 aH a<|gE 5 2 (bV ((a.length:Int) ==0)))<|gE 8 2 (bV false))<|.b 6 42 (e==4) (lW 5 122 [(nI c),(nI 0),(nI 1)]<|fun b=>.b 1 47 b (gm 2 aH a<|gE 5 2 (bV ((a.length:Int) ==0)))<|gE 8 2 (bV false))<|.b 6 53 (e==6) (.o (.y fun b:Bool=>.y fun g:Con=>.i [rn 2,.reg (rd 5 (.ans (.len (d.cons.length:Int))::.d::.pure (bV b)::.d::.b 63 true::.d::.d::.ans (.len (a.length:Int))::rd 5 (.ans (.idx (Con.av g))::rd 5 [])))] [hl Con.av d.cons,hA (aJ PP 122 [(nI c),(nI 0),(nI (IntKind.i64.wrap ((d.cons.length:Int) -1)))] (bV b)),hA (b=true),hm aH a,hA (0≤c),.a (((d.cons)[c.toNat]?) =some g) (bP (f:=Con.av))]<|gE 1 2 (bV ((a.length:Int) ==g.args)))<|.y fun b:Bool=>.i [rn 2,.reg (rd 5 (.ans (.len (d.cons.length:Int))::.d::.pure (bV b)::.d::.b 63 false::rd 14 []))] [hl Con.av d.cons,hA (aJ PP 122 [(nI c),(nI 0),(nI (IntKind.i64.wrap ((d.cons.length:Int) -1)))] (bV b)),hA (b=false)]<|gE 1 2 (bV false))<|gE 8 2 (bV false)
def aXa:=fun a b c d e f=>aA3 a b c d e|>.t f tv
def aXb:=fun a b c d e f g i j=>aA3 a b c d e|>.f g f i|>.t j tv
def aXc:=fun a b c d e f g i j k l=>aA3 a b c d e|>.f g f i|>.f j|>.t k|>.t l tv
def aXd:=fun a b c d e f g i j k l=>aA3 a b c d e|>.f g f i|>.f j|>.t k|>.f l tv
def aXe:=fun a b c d e f g i j k l m=>aA3 a b c d e|>.f g f i|>.f j|>.f k|>.t l|>.t m tv
def aXf:=fun a b c d e f g i j k l m=>aA3 a b c d e|>.f g f i|>.f j|>.f k|>.t l|>.f m tv
def aXg:=fun a b c d e f g i j k l m n=>aA3 a b c d e|>.f g f i|>.f j|>.f k|>.f l|>.t m|>.t n tv
def aXh:=fun a b c d e f g i j k l m n=>aA3 a b c d e|>.f g f i|>.f j|>.f k|>.f l|>.t m|>.f n tv
def aXi:=fun a b c d e f g i j k l m n o p q=>aA3 a b c d e|>.f i f j|>.f k|>.f l|>.f m|>.f n|>.t o g p|>.t q tv
def aXj:=fun a b c d e f g i j k l m n o p q=>aA3 a b c d e|>.f i f j|>.f k|>.f l|>.f m|>.f n|>.t o g p|>.f q tv
def aUX:=fun a b c d e f g i j k l m n o p q r=>aA3 a b c d e|>.f i f j|>.f k|>.f l|>.f m|>.f n|>.f o|>.t p g q|>.t r tv
def aUY:=fun a b c d e f g i j k l m n o p q r=>aA3 a b c d e|>.f i f j|>.f k|>.f l|>.f m|>.f n|>.f o|>.t p g q|>.f r tv
def aUZ:=fun a b c d e f g i j k l m n o p q r s t u v=>aA3 a b c d e|>.f j f k|>.f l|>.f m|>.f n|>.f o|>.f p|>.f q|>.t r|>.1 g i s t u v tv
def aU0:=fun a b c d e f g i j k l m n o p q r s=>aA3 a b c d e|>.f i f j|>.f k|>.f l|>.f m|>.f n|>.f o|>.f p|>.t q|>.2 g r s tv
def aU1:=fun a b c d e f g i j k l m n o p=>aA3 a b c d e|>.f g f i|>.f j|>.f k|>.f l|>.f m|>.f n|>.f o|>.f p tv
def mI(a:Int):=tT 0 (start PP 169 [(nI a)])<|.b 16 4 (a==1) (gE 9 0 (.iface 242 (nI 0)))<|.b 6 4 (a==2) (gE 9 0 (.iface 242 (nI 0)))<|.b 6 4 (a==3) (gE 9 0 (.iface 242 (nI 0)))<|.b 6 4 (a==4) (gE 9 0 (.iface 242 (nI 0)))<|.b 6 4 (a==21) (gE 9 0 (.iface 242 (nI 0)))<|.b 6 4 (a==25) (gE 9 0 (.iface 242 (nI 0)))<|.b 5 4 (a==28) (gE 7 0 (.iface 242 (nI 0)))<|.b 7 13 (a==5) (gE 9 0 (.iface 242 (nI 1)))<|.b 6 13 (a==27) (gE 9 0 (.iface 242 (nI 1)))<|.b 6 13 (a==16) (gE 9 0 (.iface 242 (nI 1)))<|.b 6 13 (a==17) (gE 9 0 (.iface 242 (nI 1)))<|.b 6 13 (a==19) (gE 9 0 (.iface 242 (nI 1)))<|.b 6 13 (a==20) (gE 9 0 (.iface 242 (nI 1)))<|.b 6 13 (a==23) (gE 9 0 (.iface 242 (nI 1)))<|.b 6 13 (a==24) (gE 9 0 (.iface 242 (nI 1)))<|.b 5 13 (a==26) (gE 7 0 (.iface 242 (nI 1)))<|.b 7 24 (a==6) (gE 9 0 (.iface 242 (nI 2)))<|.b 6 24 (a==7) (gE 9 0 (.iface 242 (nI 2)))<|.b 6 24 (a==9) (gE 9 0 (.iface 242 (nI 2)))<|.b 6 24 (a==10) (gE 9 0 (.iface 242 (nI 2)))<|.b 6 24 (a==11) (gE 9 0 (.iface 242 (nI 2)))<|.b 6 24 (a==12) (gE 9 0 (.iface 242 (nI 2)))<|.b 6 24 (a==13) (gE 9 0 (.iface 242 (nI 2)))<|.b 6 24 (a==18) (gE 9 0 (.iface 242 (nI 2)))<|.b 5 24 (a==22) (gE 7 0 (.iface 242 (nI 2)))<|.b 6 35 (a==8) (gE 7 0 (.iface 242 (nI 3)))<|.b 6 38 (a==14) (gE 8 0 (.iface 243 (.agg [])))<|.b 6 42 (a==15) (gE 8 0 (.iface 225 (.agg [])))<|gE 8 0 .nili
def aNv:=fun a b=>mI a|>.t b tv
def aNw:=fun a b c=>mI a|>.f b|>.t c tv
def aNx:=fun a b c d=>mI a|>.f b|>.f c|>.t d tv
def aNy:=fun a b c d e=>mI a|>.f b|>.f c|>.f d|>.t e tv
def aNz:=fun a b c d e f=>mI a|>.f b|>.f c|>.f d|>.f e|>.t f tv
def aNA:=fun a b c d e f g=>mI a|>.f b|>.f c|>.f d|>.f e|>.f f|>.t g tv
def aNB:=fun a b c d e f g i=>mI a|>.f b|>.f c|>.f d|>.f e|>.f f|>.f g|>.t i tv
def aNC:=fun a b c d e f g i j=>mI a|>.f b|>.f c|>.f d|>.f e|>.f f|>.f g|>.f i|>.t j tv
def aND:=fun a b c d e f g i j k=>mI a|>.f b|>.f c|>.f d|>.f e|>.f f|>.f g|>.f i|>.f j|>.t k tv
def aNE:=fun a b c d e f g i j k l=>mI a|>.f b|>.f c|>.f d|>.f e|>.f f|>.f g|>.f i|>.f j|>.f k|>.t l tv
def aKs:=fun a b c d e f g i j k l m=>mI a|>.f b|>.f c|>.f d|>.f e|>.f f|>.f g|>.f i|>.f j|>.f k|>.f l|>.t m tv
def aKt:=fun a b c d e f g i j k l m n=>mI a|>.f b|>.f c|>.f d|>.f e|>.f f|>.f g|>.f i|>.f j|>.f k|>.f l|>.f m|>.t n tv
def aKu:=fun a b c d e f g i j k l m n o=>mI a|>.f b|>.f c|>.f d|>.f e|>.f f|>.f g|>.f i|>.f j|>.f k|>.f l|>.f m|>.f n|>.t o tv
def aKv:=fun a b c d e f g i j k l m n o p=>mI a|>.f b|>.f c|>.f d|>.f e|>.f f|>.f g|>.f i|>.f j|>.f k|>.f l|>.f m|>.f n|>.f o|>.t p tv
def aKw:=fun a b c d e f g i j k l m n o p q=>mI a|>.f b|>.f c|>.f d|>.f e|>.f f|>.f g|>.f i|>.f j|>.f k|>.f l|>.f m|>.f n|>.f o|>.f p|>.t q tv
def aKx:=fun a b c d e f g i j k l m n o p q r=>mI a|>.f b|>.f c|>.f d|>.f e|>.f f|>.f g|>.f i|>.f j|>.f k|>.f l|>.f m|>.f n|>.f o|>.f p|>.f q|>.t r tv
def aKy:=fun a b c d e f g i j k l m n o p q r s=>mI a|>.f b|>.f c|>.f d|>.f e|>.f f|>.f g|>.f i|>.f j|>.f k|>.f l|>.f m|>.f n|>.f o|>.f p|>.f q|>.f r|>.t s tv
def aKz:=fun a b c d e f g i j k l m n o p q r s t=>mI a|>.f b|>.f c|>.f d|>.f e|>.f f|>.f g|>.f i|>.f j|>.f k|>.f l|>.f m|>.f n|>.f o|>.f p|>.f q|>.f r|>.f s|>.t t tv
def aKA:=fun a b c d e f g i j k l m n o p q r s t u=>mI a|>.f b|>.f c|>.f d|>.f e|>.f f|>.f g|>.f i|>.f j|>.f k|>.f l|>.f m|>.f n|>.f o|>.f p|>.f q|>.f r|>.f s|>.f t|>.t u tv
def aKB:=fun a b c d e f g i j k l m n o p q r s t u v=>mI a|>.f b|>.f c|>.f d|>.f e|>.f f|>.f g|>.f i|>.f j|>.f k|>.f l|>.f m|>.f n|>.f o|>.f p|>.f q|>.f r|>.f s|>.f t|>.f u|>.t v tv
def aKC:=fun a b c d e f g i j k l m n o p q r s t u v w=>mI a|>.f b|>.f c|>.f d|>.f e|>.f f|>.f g|>.f i|>.f j|>.f k|>.f l|>.f m|>.f n|>.f o|>.f p|>.f q|>.f r|>.f s|>.f t|>.f u|>.f v|>.t w tv
def aKD:=fun a b c d e f g i j k l m n o p q r s t u v w x=>mI a|>.f b|>.f c|>.f d|>.f e|>.f f|>.f g|>.f i|>.f j|>.f k|>.f l|>.f m|>.f n|>.f o|>.f p|>.f q|>.f r|>.f s|>.f t|>.f u|>.f v|>.f w|>.t x tv
def aKE:=fun a b c d e f g i j k l m n o p q r s t u v w x y=>mI a|>.f b|>.f c|>.f d|>.f e|>.f f|>.f g|>.f i|>.f j|>.f k|>.f l|>.f m|>.f n|>.f o|>.f p|>.f q|>.f r|>.f s|>.f t|>.f u|>.f v|>.f w|>.f x|>.t y tv
def aKF:=fun a b c d e f g i j k l m n o p q r s t u v w x y z=>mI a|>.f b|>.f c|>.f d|>.f e|>.f f|>.f g|>.f i|>.f j|>.f k|>.f l|>.f m|>.f n|>.f o|>.f p|>.f q|>.f r|>.f s|>.f t|>.f u|>.f v|>.f w|>.f x|>.f y|>.t z tv
def aKG:=fun a b c d e f g i j k l m n o p q r s t u v w x y z A=>mI a|>.f b|>.f c|>.f d|>.f e|>.f f|>.f g|>.f i|>.f j|>.f k|>.f l|>.f m|>.f n|>.f o|>.f p|>.f q|>.f r|>.f s|>.f t|>.f u|>.f v|>.f w|>.f x|>.f y|>.f z|>.t A tv
def aKH:=fun a b c d e f g i j k l m n o p q r s t u v w x y z A B=>mI a|>.f b|>.f c|>.f d|>.f e|>.f f|>.f g|>.f i|>.f j|>.f k|>.f l|>.f m|>.f n|>.f o|>.f p|>.f q|>.f r|>.f s|>.f t|>.f u|>.f v|>.f w|>.f x|>.f y|>.f z|>.f A|>.t B tv
def aKI:=fun a b c d e f g i j k l m n o p q r s t u v w x y z A B C=>mI a|>.f b|>.f c|>.f d|>.f e|>.f f|>.f g|>.f i|>.f j|>.f k|>.f l|>.f m|>.f n|>.f o|>.f p|>.f q|>.f r|>.f s|>.f t|>.f u|>.f v|>.f w|>.f x|>.f y|>.f z|>.f A|>.f B|>.t C tv
def aKJ:=fun a b c d e f g i j k l m n o p q r s t u v w x y z A B C D=>mI a|>.f b|>.f c|>.f d|>.f e|>.f f|>.f g|>.f i|>.f j|>.f k|>.f l|>.f m|>.f n|>.f o|>.f p|>.f q|>.f r|>.f s|>.f t|>.f u|>.f v|>.f w|>.f x|>.f y|>.f z|>.f A|>.f B|>.f C|>.t D tv
def aKK:=fun a b c d e f g i j k l m n o p q r s t u v w x y z A B C D=>mI a|>.f b|>.f c|>.f d|>.f e|>.f f|>.f g|>.f i|>.f j|>.f k|>.f l|>.f m|>.f n|>.f o|>.f p|>.f q|>.f r|>.f s|>.f t|>.f u|>.f v|>.f w|>.f x|>.f y|>.f z|>.f A|>.f B|>.f C|>.f D tv
def aEX(a:List Pat)(b:Prog)(c:Int):TS:=⟨(tf 211 19 [(0,(iP a)),(1,(.func 199 [] [(.ptr 0 0)])),(4,(nI 0)),(7,(nI (a.length:Int))),(8,(nI c))] [kc f211 52,kl f211 52,.inBlock 0,kc f211 7]),[(tf 198 9 [(4,(bV false)),(5,(iP a)),(6,(.func 199 [] [(.ptr 0 0)]))] [ko f198 6 2,kc f198 7]),(tf 174 9 [(4,(bV false)),(5,(iP a)),(6,(.func 199 [] [(.ptr 0 0)]))] [ko f174 6 2,kc f174 7])],[oC 0 [(.func 172 [(Prog.av b)] [])]],1⟩
def tL(b:Prog)(a:Node)(c:Int):TS:=⟨(tf 211 19 [(0,(iP a.pats)),(1,(.func 199 [] [(.ptr 0 0)])),(4,(nI 0)),(7,(nI (a.pats.length:Int))),(8,(nI c))] [kc f211 52,kl f211 52,.inBlock 0,kc f211 7]),[(tf 198 9 [(4,(bV false)),(5,(iP a.pats)),(6,(.func 199 [] [(.ptr 0 0)]))] [ko f198 6 2,kc f198 7]),(tf 174 9 [(4,(bV false)),(5,(iP a.pats)),(6,(.func 199 [] [(.ptr 0 0)]))] [ko f174 6 2,kc f174 7]),(tf 129 35 [(4,(bV false)),(29,(bV true)),(31,(iP a.pats)),(32,(.func 170 [] [(.ptr 1 0)]))] [ko f129 62 13,kc f129 63])],[oC 0 [(.func 170 [] [(.ptr 1 0)])],oC 1 [(iN b.nodes),(iI b.funs),(nI b.main),(iC b.cons)]],2⟩
def vN(a:List cA)(c:Int)(b:List (cA×Bool)):TS:=⟨(tf 125 21 [(0,(iS a)),(2,(bV false)),(3,(.map 0)),(7,(iS a)),(8,(nI (a.length:Int))),(9,(nI c))] [kc f125 116,kl f125 116,.inBlock 0,kc f125 15]),[],[(0,(.map (fQ dP kU 0 b) b.length),true)],1⟩
def aXk (a:List Pat)(b:Prog):=(tT 0 (start PP 174 [(iP a),(.func 172 [(Prog.av b)] [])])<|gm 27 aH a<|.W 4 1 [0] (aEX a b 0)) tv
def bGp(b:List Pat)(c:Prog)(a:Int):=tT 0 (aEX b c a)<|gd 5 9 (a< (b.length:Int)) (vA 14 b a<|fun d e f g=>lW 11 172 [(Prog.av c),(.agg [(nI d),(nI e),(dP f),(iP g)])]<|fun i=>.b 6 16 (!i) (gE 17 2 (bV (!(decide (a≥0)))))<|gw 5 18 (a+1)<|.W 3 2 [0] (aEX b c (a+1)))<|gE 17 1 (bV true)
def aXl:=fun a b c d e f g i j k l m n=>bGp a b c|>.t j d e f g k l i m|>.t n tv
def aXm:=fun a b c d e f g i j k l m n o=>bGp a b c|>.t j d e f g k l i m|>.f n o tv
def aXn:=fun a b c d=>bGp a b c|>.f d tv
def aDo(b:Prog)(a:Node):=tT 0 (start PP 129 [(Prog.av b),(Node.av a)])<|.o (gp 10 169 [(nI a.op)] (.iface 225 (.agg []))<|gm 44 aH a.pats<|lW 0 122 [(nI (a.pats.length:Int)),(nI 1),(nI 5)]<|fun c=>.b 1 11 c (gl 2 bU a.kids<|gm 2 aH a.pats<|gw 1 18 (1+ (a.pats.length:Int))<|.b 7 24 ((a.kids.length:Int) == (1+ (a.pats.length:Int))) (lW 2 173 [(Prog.av b),(Node.av a)]<|fun d=>.b 2 29 d (gm 31 aH a.pats<|.W 4 6 [5,0] (tL b a 0))<|gE 8 5 (bV false))<|gE 13 5 (bV false))<|gE 27 5 (bV false))<|.o (gp 10 169 [(nI a.op)] (.iface 243 (.agg []))<|gm 24 aH a.pats<|gd 2 14 ((a.pats.length:Int) >0) (gE 6 2 (bV false))<|.o (.y fun c:Bool=>.y fun d:Con=>.i [rn 22,.reg (rd 5 (.ans (.len (b.cons.length:Int))::.d::.pure (bV c)::.d::.b 15 true::.d::.d::.ans (.len (a.kids.length:Int))::rd 5 (.ans (.idx (Con.av d))::rd 5 [])))] [hl Con.av b.cons,hA (aJ PP 122 [(nI a.n),(nI 0),(nI (IntKind.i64.wrap ((b.cons.length:Int) -1)))] (bV c)),hA (c=true),hl bU a.kids,hA (0≤a.n),.a (((b.cons)[a.n.toNat]?) =some d) (bP (f:=Con.av))]<|.b 3 24 ((a.kids.length:Int) ==d.args) (lW 2 173 [(Prog.av b),(Node.av a)]<|fun f=>.b 2 29 f (gm 31 aH a.pats<|.W 4 6 [5,0] (tL b a 0)) .x)<|gE 13 5 (bV false))<|.y fun c:Bool=>.i [rn 22,.reg (rd 5 (.ans (.len (b.cons.length:Int))::.d::.pure (bV c)::.d::.b 15 false::rd 14 []))] [hl Con.av b.cons,hA (aJ PP 122 [(nI a.n),(nI 0),(nI (IntKind.i64.wrap ((b.cons.length:Int) -1)))] (bV c)),hA (c=false)]<|gE 16 5 (bV false))<|.o (.y fun e:Int=>gp 10 169 [(nI a.op)] (.iface 242 (nI e))<|gm 24 aH a.pats<|gd 2 14 ((a.pats.length:Int) >0) (gE 6 2 (bV false))<|gl 24 bU a.kids<|.b 7 24 ((a.kids.length:Int) ==e) (lW 2 173 [(Prog.av b),(Node.av a)]<|fun d=>.b 2 29 d (gm 31 aH a.pats<|.W 4 5 [4,0] (tL b a 0))<|gE 8 4 (bV false))<|gE 13 4 (bV false))<|gp 10 169 [(nI a.op)] (.nili)<|gE 18 2 (bV false)
def aU2:=fun a b c d e f g i j k l=>aDo a b|>.1 e c f|>.t g i|>.t j d k|>.t l tv
def aU3:=fun a b c d e f g i j k l=>aDo a b|>.1 e c f|>.t g i|>.t j d k|>.f l tv
def aU4:=fun a b c d e f g i=>aDo a b|>.1 d c e|>.t f g|>.f i tv
def aU5:=fun a b c d e f=>aDo a b|>.1 d c e|>.f f tv
def aU6:=fun a b c d=>aDo a b|>.2|>.1 c|>.t d tv
def aU7:=fun a b c d e f g i j k l m n o=>aDo a b|>.2|>.1 f|>.f g|>.1 c d i j k l|>.t m e n|>.t o tv
def aU8:=fun a b c d e f g i j k l=>aDo a b|>.2|>.1 e|>.f f|>.1 c d g i j k|>.f l tv
def aU9:=fun a b c d e f g=>aDo a b|>.2|>.1 d|>.f e|>.2 c f g tv
def aVa:=fun a b c d e=>aDo a b|>.2|>.2|>.1 c d|>.t e tv
def aQL:=fun a b c d e f g i j=>aDo a b|>.2|>.2|>.1 c e|>.f f|>.t g d i|>.t j tv
def aQM:=fun a b c d e f g i j=>aDo a b|>.2|>.2|>.1 c e|>.f f|>.t g d i|>.f j tv
def aQN:=fun a b c d e f=>aDo a b|>.2|>.2|>.1 c d|>.f e|>.f f tv
def aQO:=fun a b c=>aDo a b|>.2|>.2|>.2 c tv
def bBg(c:Prog)(b:Node)(a:Int):=tT 0 (tL c b a)<|gd 5 9 (a< (b.pats.length:Int)) (vA 14 b.pats a<|fun d e f g=>gpI 20 171 [(.agg [(nI d),(nI e),(dP f),(iP g)]),(nI 12)]<|fun i=>gd 2 7 (i≤12) (lW 2 172 [(Prog.av c),(.agg [(nI d),(nI e),(dP f),(iP g)])]<|fun j=>.b 11 16 (!j) (gE 22 4 (bV (!(decide (a≥0)))))<|gw 5 18 (a+1)<|.W 3 4 [0,1] (tL c b (a+1)))<|gE 36 4 (bV (!(decide (a≥0)))))<|gE 22 2 (bV true)
def aVb:=fun a b c d e f g i j k l m n o p q=>bBg a b c|>.t k d e f g l m i n|>.t o j p|>.t q tv
def aVc:=fun a b c d e f g i j k l m n o p q r=>bBg a b c|>.t k d e f g l m i n|>.t o j p|>.f q r tv
def aVd:=fun a b c d e f g i j k l m n=>bBg a b c|>.t j d e f g k l i m|>.f n tv
def aVe:=fun a b c d=>bBg a b c|>.f d tv
def aNF (a:List cA):=(tT 0 (start PP 125 [(iS a)])<|.i [rn 7,.mset 0 (fQ dP kU 0 ([] :List (cA×Bool))) ([] :List (cA×Bool)).length] [hr (fQ dP kU 0 ([] :List (cA×Bool))),hr (length ([] :List (cA×Bool)))]<|gl 6 dP a<|.W 4 1 [0] (vN a 0 ([] :List (cA×Bool)))) ⟨kZ0,trivial⟩
def bHS(b:List cA)(d:Int)(a:List (cA×Bool)):=tT 0 (vN b d a)<|gd 5 10 (d< (b.length:Int)) (gX dP 6 b d<|fun c=>.i [rn 6,.mput (fQ dP kU 0 (lH c true a)) (lH c true a).length] [.q (p:=aFX (fQ dP kU 0 a) a.length (dP c) (kU true) =some ((fQ dP kU 0 (lH c true a)),length (lH c true a))) (bAW bAV _ _ _)]<|gw 4 15 (d+1)<|.W 3 1 [0] (vN b (d+1) (lH c true a)))<|.i [rn 6,sI 17 (a.length:Int)] [.q (p:=(nI ((fQ dP kU 0 a).length:Int)) = (nI (a.length:Int))) (aWB _ _ _)]<|gl 1 dP b<|gE 4 1 (bV ((a.length:Int) == (b.length:Int)))
def aNG:=fun a b c d e f g i=>bHS a b c|>.t e d f g i ⟨kZ0,trivial⟩
def aNH:=fun a b c d=>bHS a b c|>.f d tv
def aEY(a:List Node)(b:Prog)(c:Int):TS:=⟨(tf 196 19 [(0,(iN a)),(1,(.func 168 [] [(.ptr 0 0)])),(4,(nI 0)),(7,(nI (a.length:Int))),(8,(nI c))] [kc f196 52,kl f196 52,.inBlock 0,kc f196 7]),[(tf 167 9 [(4,(bV false)),(5,(iN a)),(6,(.func 168 [] [(.ptr 0 0)]))] [ko f167 6 2,kc f167 7]),(tf 128 9 [(4,(bV false)),(5,(iN a)),(6,(.func 168 [] [(.ptr 0 0)]))] [ko f128 6 2,kc f128 7])],[oC 0 [(.func 129 [(Prog.av b)] [])]],1⟩
def aEZ(a:List Con)(b:Int):TS:=⟨(tf 194 19 [(0,(iC a)),(1,(.func 165 [] [(.ptr 0 0)])),(4,(nI 0)),(7,(nI (a.length:Int))),(8,(nI b))] [kc f194 52,kl f194 52,.inBlock 0,kc f194 7]),[(tf 164 9 [(4,(bV false)),(5,(iC a)),(6,(.func 165 [] [(.ptr 0 0)]))] [ko f164 6 2,kc f164 7]),(tf 123 9 [(4,(bV false)),(5,(iC a)),(6,(.func 165 [] [(.ptr 0 0)]))] [ko f123 6 2,kc f123 7])],[oC 0 [(.func 124 [] [])]],1⟩
def aE0(a:List Int)(b:Int):TS:=⟨(tf 200 19 [(0,(.ilst 1 (jI a) true)),(1,(.func 176 [] [(.ptr 0 0)])),(4,(nI 0)),(7,(nI (a.length:Int))),(8,(nI b))] [kc f200 52,kl f200 52,.inBlock 0,kc f200 7]),[(tf 175 9 [(4,(bV false)),(5,(.ilst 1 (jI a) true)),(6,(.func 176 [] [(.ptr 0 0)]))] [ko f175 6 2,kc f175 7]),(tf 130 9 [(4,(bV false)),(5,(.ilst 1 (jI a) true)),(6,(.func 176 [] [(.ptr 0 0)]))] [ko f130 6 2,kc f130 7])],[oC 0 [(.func 131 [] [])]],1⟩
def aE1(a:List Con)(c:Int)(b:List cA):TS:=⟨(tf 126 22 [(1,(.func 127 [] [])),(4,.nils),(5,(.gl 0 1 0 b.length false)),(8,(iC a)),(9,(nI (a.length:Int))),(10,(nI c))] [kc f126 116,kl f126 116,.inBlock 0,kc f126 15]),[],[oL 0 1 (map dP b)],1⟩
def vO(a:Prog)(c:Int)(b:List Int):TS:=⟨(tf 88 128 [kp 1 0,(2,(bV false)),(3,(nI (a.nodes.length:Int))),(4,(.gl 1 1 0 b.length true)),(77,(iI a.funs)),(78,(nI (a.funs.length:Int))),(79,(nI c))] [kc f88 1012,kl f88 1012,.inBlock 0,kc f88 127]),[],[oC 0 [(iN a.nodes),(iI a.funs),(nI a.main),(iC a.cons)],oL 1 1 (jI b)],2⟩
def qJ(a:Prog)(b:List Int)(c:Int):TS:=⟨(tf 88 128 [(2,(bV false)),(3,(nI (a.nodes.length:Int))),(4,(.gl 0 1 0 b.length true)),(97,(iN a.nodes)),(98,(nI (a.nodes.length:Int))),(99,(nI c))] [kc f88 2036,kl f88 2036,.inBlock 2,kc f88 255]),[],[oL 0 1 (jI b)],1⟩
def vP(a:Prog)(c:List Int)(d:Int)(b:List Int)(e f g:Int):TS:=⟨(tf 88 128 [(2,(bV false)),(3,(nI (a.nodes.length:Int))),(4,(.gl 0 1 0 b.length true)),(7,(nI f)),(97,(iN a.nodes)),(98,(nI (a.nodes.length:Int))),(99,(nI g)),(105,(iI c)),(106,(nI d)),(107,(nI e))] [kc f88 521420,kl f88 521420,.inBlock 4,.inBlock 3,kc f88 16295,kl f88 2036,.inBlock 2,kc f88 255]),[],[oL 0 1 (jI b)],1⟩
def aXo (a:List Node)(b:Prog):=(tT 0 (start PP 128 [(iN a),(.func 129 [(Prog.av b)] [])])<|gl 27 Node.av a<|.W 4 1 [0] (aEY a b 0)) tv
def bGq(b:List Node)(c:Prog)(a:Int):=tT 0 (aEY b c a)<|gd 5 9 (a< (b.length:Int)) (gX Node.av 14 b a<|fun d=>lW 11 129 [(Prog.av c),(Node.av d)]<|fun e=>.b 6 16 (!e) (gE 17 2 (bV (!(decide (a≥0)))))<|gw 5 18 (a+1)<|.W 3 2 [0] (aEY b c (a+1)))<|gE 17 1 (bV true)
def aXp:=fun a b c d e f g i j k=>bGq a b c|>.t f d g i e j|>.t k tv
def aXq:=fun a b c d e f g i j k l=>bGq a b c|>.t f d g i e j|>.f k l tv
def aXr:=fun a b c d=>bGq a b c|>.f d tv
def aXs (a:List Con):=(tT 0 (start PP 123 [(iC a),(.func 124 [] [])])<|gl 27 Con.av a<|.W 4 1 [0] (aEZ a 0)) tv
def bGr(b:List Con)(a:Int):=tT 0 (aEZ b a)<|gd 5 9 (a< (b.length:Int)) (gX Con.av 14 b a<|fun c=>lW 11 124 [(.agg [(dP c.name),(nI c.args)])]<|fun d=>.b 6 16 (!d) (gE 17 2 (bV (!(decide (a≥0)))))<|gw 5 18 (a+1)<|.W 3 2 [0] (aEZ b (a+1)))<|gE 17 1 (bV true)
def aXt:=fun a b c d e f g i j=>bGr a b|>.t e c f g d i|>.t j tv
def aXu:=fun a b c d e f g i j k=>bGr a b|>.t e c f g d i|>.f j k tv
def aXv:=fun a b c=>bGr a b|>.f c tv
def aXw (a:List Int):=(tT 0 (start PP 130 [(.ilst 1 (jI a) true),(.func 131 [] [])])<|gl 27 bU a<|.W 4 1 [0] (aE0 a 0)) tv
def bGs(b:List Int)(a:Int):=tT 0 (aE0 b a)<|gd 5 9 (a< (b.length:Int)) (gX bU 14 b a<|fun c=>.b 29 16 (!(c==1)) (gE 17 1 (bV (!(decide (a≥0)))))<|gw 5 18 (a+1)<|.W 3 1 [0] (aE0 b (a+1)))<|gE 17 1 (bV true)
def aXx:=fun a b c d e f g=>bGs a b|>.t d c e f|>.t g tv
def aXy:=fun a b c d e f g i=>bGs a b|>.t d c e f|>.f g i tv
def aXz:=fun a b c=>bGs a b|>.f c tv
def aXA (a:List Con):=(tT 0 (start PP 126 [(iC a),(.func 127 [] [])])<|gl 12 Con.av a<|.i [rn 4,.nilL 5 1] []<|gu 0 0 (map dP ([] :List cA))<|gs 0 5 (.gl 0 1 0 ([] :List cA).length false)<|.W 0 1 [0] (aE1 a 0 ([] :List cA))) ⟨kk,trivial⟩
def bHT(c:List Con)(a:Int)(b:List cA):=tT 0 (aE1 c a b)<|gd 5 11 (a< (c.length:Int)) (gX Con.av 6 c a<|fun d=>ga 23 dP b [d.name]<|gw 5 20 (a+1)<|.W 3 5 [4] (aE1 c (a+1) (b++ [d.name])))<|gz 8 4 0 1 dP b false<|gE 0 1 (iS b)
def aXB:=fun a b c d e f g i j=>bHT a b c|>.t e d f g i j ⟨kk,trivial⟩
def aXC:=fun a b c d=>bHT a b c|>.f d tv
def aKL(a:Prog):=tT 0 (start PP 88 [(Prog.av a)])<|gl 10 Node.av a.nodes<|gd 8 17 ((a.nodes.length:Int) >300) (gE 40 1 (bV false))<|gl 3 bU a.funs<|gd 3 24 ((a.funs.length:Int) <1) (gE 33 1 (bV false))<|gl 3 bU a.funs<|gd 4 32 ((a.funs.length:Int) > (a.nodes.length:Int)) (gE 25 1 (bV false))<|gl 3 Con.av a.cons<|gd 3 39 ((a.cons.length:Int) >20) (gE 18 1 (bV false))<|gl 6 bU a.funs<|gw 1 47 ((a.funs.length:Int) - (1:Int))<|lW 0 122 [(nI a.main),(nI 0),(nI ((a.funs.length:Int) - (1:Int)))]<|fun c=>.b 3 50 (!c) (gE 6 1 (bV false))<|lW 8 123 [(iC a.cons),(.func 124 [] [])]<|fun d=>.b 2 56 (!d) (gE 23 1 (bV false))<|.y fun b:List cA=>gp 3 126 [(iC a.cons),(.func 127 [] [])] (iS b)<|lW 0 125 [(iS b)]<|fun e=>.b 3 64 (!e) (gE 15 1 (bV false))<|lW 5 128 [(iN a.nodes),(.func 129 [(Prog.av a)] [])]<|fun f=>.b 3 72 (!f) (gE 6 1 (bV false))<|.i [rn 5,.mk a.nodes.length] [hr ((a.nodes.length:Nat) :Int),hr ((a.nodes.length:Nat) :Int),hA (a.nodes.length<100000)]<|.i [.lset 1 (jI (replicate a.nodes.length (0:Int)))] [.q (p:=replicate a.nodes.length (bU (0:Int)) = (jI (replicate a.nodes.length (0:Int)))) (aEU _ _ _)]<|.i [.set 74 (.gl 1 1 0 (replicate a.nodes.length (0:Int)).length true)] [.q (p:=(AV.gl 1 1 0 a.nodes.length true) = (.gl 1 1 0 (replicate a.nodes.length (0:Int)).length true)) (bT (aAs ..).symm)]<|gl 8 bU a.funs<|.W 4 2 [0,1] (vO a 0 (replicate a.nodes.length (0:Int)))
def aNI:=fun a b=>aKL a|>.t b tv
def aNJ:=fun a b c=>aKL a|>.f b|>.t c tv
def aNK:=fun a b c d=>aKL a|>.f b|>.f c|>.t d tv
def aNL:=fun a b c d e=>aKL a|>.f b|>.f c|>.f d|>.t e tv
def aNM:=fun a b c d e f g i j=>aKL a|>.f c|>.f d|>.f e|>.f f g b i|>.t j tv
def aNN:=fun a b c d e f g i j k l m=>aKL a|>.f d|>.f e|>.f f|>.f g i b j|>.f k c l|>.t m tv
def aNO:=fun a b c d e f g i j k l m n o p q r=>aKL a|>.f f|>.f g|>.f i|>.f j k b l|>.f m c n|>.f o d p e q|>.t r tv
def aNP:=fun a b c d e f g i j k l m n o p q r s t u=>aKL a|>.f g|>.f i|>.f j|>.f k l b m|>.f n c o|>.f p d q e r|>.f s f t|>.t u tv
def aNQ:=fun a b c d e f g i j k l m n o p q r s t u v=>aKL a|>.f g|>.f i|>.f j|>.f k l b m|>.f n c o|>.f p d q e r|>.f s f t|>.f u v ⟨kk,trivial⟩
def bGt(d:Prog)(e:Int)(a:List Int):=tT 0 (vO d e a)<|gd 5 80 (e< (d.funs.length:Int)) (gX bU 6 d.funs e<|fun b=>gw 9 85 ((d.nodes.length:Int) -1)<|lW 0 122 [(nI b),(nI 0),(nI ((d.nodes.length:Int) -1))]<|fun f=>.b 2 87 (!f) (gE 6 2 (bV false))<|.i [rn 5,.ans (.ix)] [hA (0≤b),hA (b< (a.length:Int))]<|.y fun c:Int=>gj bU 0 a b.toNat c<|gw 1 92 (c+1)<|.i [.ans (.ix)] [hA (0≤b),hA (b< (a.length:Int))]<|.i [.st (bU c) (bU (c+1))] [.a (((a)[b.toNat]?) =some c) (cU (f:=bU)),hr (some (bU (c+1)))]<|.i [.lset 1 (jI (set a b.toNat (c+1)))] [.q (p:=(jI a).set (0+b.toNat) (bU (c+1)) = (jI (set a b.toNat (c+1)))) (mE _ _ _ _)]<|.i [.set 4 (.gl 1 1 0 (set a b.toNat (c+1)).length true)] [.q (p:=(AV.gl 1 1 0 a.length true) = (.gl 1 1 0 (set a b.toNat (c+1)).length true)) (bT (eG ..).symm)]<|.i [.set 88 (.gl 1 1 0 (set a b.toNat (c+1)).length true)] [.q (p:=(AV.gl 1 1 0 a.length true) = (.gl 1 1 0 (set a b.toNat (c+1)).length true)) (bT (eG ..).symm)]<|gw 4 94 (e+1)<|.W 3 2 [0,1] (vO d (e+1) (set a b.toNat (c+1))))<|gl 8 Node.av d.nodes<|.W 4 2 [1] (qJ d a 0)
def aNR:=fun a b c d e f g i j k l=>bGt a b c|>.t f d g i j e k|>.t l tv
def aNS:=fun d e f g i j k l m n o p a b c q r=>bGt d e f|>.t k g l m n i o|>.f p a b j c q a b c r ⟨kk,trivial⟩
def aNT:=fun a b c d=>bGt a b c|>.f d ⟨kk,trivial⟩
def bHU(c:Prog)(d:List Int)(a:Int):=tT 0 (qJ c d a)<|gd 5 100 (a< (c.nodes.length:Int)) (gX Node.av 7 c.nodes a<|fun b=>gl 9 bU b.kids<|.W 4 2 [0] (vP c b.kids (b.kids.length:Int) d 0 a a))<|gz 5 126 0 1 bU d true<|lW 0 130 [(.ilst 1 (jI d) true),(.func 131 [] [])]<|fun b=>gE 3 1 (bV b)
def aNU:=fun a b c d e f g=>bHU a b c|>.t e d f g ⟨kk,trivial⟩
def aNV:=fun a b c d e f=>bHU a b c|>.f e d f tv
def bGu(d:Prog)(i:List Int)(j:Int)(a:List Int)(e f g:Int):=tT 0 (vP d i j a e f g)<|gd 5 108 (e<j) (gX bU 6 i e<|fun b=>gw 9 113 (f+1)<|gw 2 115 ((d.nodes.length:Int) -1)<|lW 0 122 [(nI b),(nI (f+1)),(nI ((d.nodes.length:Int) -1))]<|fun k=>.b 2 117 (!k) (gE 6 1 (bV false))<|.i [rn 5,.ans (.ix)] [hA (0≤b),hA (b< (a.length:Int))]<|.y fun c:Int=>gj bU 0 a b.toNat c<|gw 1 122 (c+1)<|.i [.ans (.ix)] [hA (0≤b),hA (b< (a.length:Int))]<|.i [.st (bU c) (bU (c+1))] [.a (((a)[b.toNat]?) =some c) (cU (f:=bU)),hr (some (bU (c+1)))]<|.i [.lset 0 (jI (set a b.toNat (c+1)))] [.q (p:=(jI a).set (0+b.toNat) (bU (c+1)) = (jI (set a b.toNat (c+1)))) (mE _ _ _ _)]<|.i [.set 4 (.gl 0 1 0 (set a b.toNat (c+1)).length true)] [.q (p:=(AV.gl 0 1 0 a.length true) = (.gl 0 1 0 (set a b.toNat (c+1)).length true)) (bT (eG ..).symm)]<|.i [.set 118 (.gl 0 1 0 (set a b.toNat (c+1)).length true)] [.q (p:=(AV.gl 0 1 0 a.length true) = (.gl 0 1 0 (set a b.toNat (c+1)).length true)) (bT (eG ..).symm)]<|gw 4 124 (e+1)<|.W 3 1 [0] (vP d i j (set a b.toNat (c+1)) (e+1) f g))<|gw 5 125 (g+1)<|.W 3 1 [0] (qJ d a (g+1))
def aNW:=fun a b c d e f g i j k l m n o p q=>bGu a b c d e f g|>.t k i l m n o j p|>.t q tv
def aNX:=fun d e f g i j k l m n o p q r s t u a b c v w=>bGu d e f g i j k|>.t o l p q r s m t|>.f u a b n c v a b c w ⟨kk,trivial⟩
def aNY:=fun a b c d e f g i j=>bGu a b c d e f g|>.f i j ⟨kk,trivial⟩
def bHV(a:Prog):=tT 0 (start PP 45 [(Prog.av a)])<|lW 10 88 [(Prog.av a)]<|fun b=>.b 2 6 (!b) (gE 6 1 (nI 2))<|gE 7 1 (nI 0)
def aQP:=fun a b c d=>bHV a b c|>.t d tv
def aQQ:=fun a b c d=>bHV a b c|>.f d tv
theorem gK (n lo a:Int) :aJ PP 122 [.int .i64 n,.int .i64 lo,.int .i64 a] (.bool (dH n lo a)) :=by
 refine aO aC rfl rfl ?_;by_cases h:n≥lo
 · have e:dH n lo a=decide (n≤a) :=by unfold dH;rw [decide_eq_true (show lo≤n from h),mY]
   rw [e];exact bBd n lo a (decide_eq_true h)
 · have e:dH n lo a=false:=by unfold dH;rw [decide_eq_false (show ¬lo≤n from h),Bool.false_and]
   rw [e];exact bBe n lo a (decide_eq_false h)
theorem aDp (n:Int) :aJ PP 197 [.int .i64 n] (.bool (dH n (-1000000000) 1000000000)) :=
 aO aC rfl rfl (aW6 n _ (gK n _ _))
theorem aVf (b:ByteArray)(i:Nat)(h:128≤ (b.get! i).toNat) :128≤ (Utf8.decode b i).1:=by
 unfold Utf8.decode Utf8.runeError;simp only [add_zero];rw [if_neg (show ¬ (b.get! i).toNat<0x80 by omega)]
 repeat' split
 all_goals first
  |assumption
  | (simp_all;done)
  | (rename_i q;simp only [cF,decide_eq_true_eq,ge_iff_le]at q;simp only;omega)
theorem bBh {s:cA}{i:Nat}{c:UInt8}(h:s[i]?=some c) :∃r d,aPh (length s) (aF s) i=some (r,d) ∧ (c.toNat<128→r=c.toNat∧d=1) ∧ (128≤c.toNat→128≤r) :=by
 have j:= (zq0.1 h).1;have hb:=byte_at h;unfold aPh;have l:blt i (length s) =true:=by rw [dK];exact decide_eq_true j
 have f:mod (div (aF s) (pow 256 i)) 256=c.toNat:=hb;rw [l,f];simp only [cond];by_cases k:c.toNat<128
 · have a:blt c.toNat 128=true:=by rw [dK];exact decide_eq_true k
   rw [a];exact⟨_,_,rfl,fun _=> ⟨rfl,rfl⟩,fun g=>by omega⟩
 · have a:blt c.toNat 128=false:=by rw [dK];exact decide_eq_false k
   rw [a];refine⟨_,_,rfl,fun g=>by omega,fun _=>?_⟩;have e:aP (length s) (aF s) =s:=fZ s;rw [e];have b: ((⟨⟨s⟩⟩ :ByteArray).get! (i+0)).toNat=c.toNat:=by
    simp only [add_zero,ByteArray.get!];have: (⟨s⟩ :Array UInt8)[i]! =c:=by
     rw [Array.getElem!_eq_getD,aAR,show(⟨s⟩ :Array UInt8) =s.toArray from rfl,List.getElem?_toArray,h];rfl
    rw [this]
   exact aVf _ _ (by rw [add_zero]at b;rw [b];omega)
theorem aEe (s:cA) :∀ (t:cA) (i:Nat),s.drop i=t→Ends PP 0 (zW s i).as (.ret (.bool (kN t))) (aA [] 0)
 | [],i,h=>aQF s i (bJ h)
 | c :: t,i,h=>by
  obtain⟨l,j,a⟩ :=bE h;obtain⟨r,d,b,f,g⟩ :=bBh l;by_cases m:c.toNat<97
  · have:= (f (by omega)).1;exact Ends.eqv (aQC s i r d a b sd) (by simp [kN,vD];omega)
  · by_cases n:122<c.toNat
    · have hr:122<r:=by
       by_cases k:c.toNat<128
       ·have:= (f k).1;omega
       ·have:=g (by omega);omega
      exact Ends.eqv (aQD s i r d a b sd sd) (by simp [kN,vD];omega)
    · obtain⟨rfl,rfl⟩ :=f (by omega);refine(aQE s i _ _ a b sd sd).ends ?_;have e:vD c=true:=by simp [vD];omega
      exact Ends.eqv (aEe s t (i+1) j) (by simp [kN,e])
theorem aNZ (s:cA) :aJ PP 195 [dP s] (.bool (kN s)) :=
 aO aC rfl rfl ((aQB s).ends (aEe s s 0 rfl))
theorem aN0 (s:cA) :aJ PP 166 [dP s] (.bool (jU s)) :=by
 refine aO aC rfl rfl ?_
 match s with
 | [] =>exact aQK [] rfl
 | c ::t=>
  have b: (!(jL (length (c::t)) (aF (c::t)) 0 0)) =true:=by rw [dR];rfl
  by_cases f: (c::t).length≤8
  · have a: (decide (((length (c::t) :Nat) :Int) ≤ (8:Int))) =true:=sd;by_cases d:65≤c.toNat
    · by_cases e:c.toNat≤90
      ·exact Ends.eqv (aQG (c::t) c _ b a rfl sd sd (by simp) (aNZ t)) (by simp only [jU,decide_eq_true f,decide_eq_true d,decide_eq_true e,mY])
      ·exact Ends.eqv (aQH (c::t) c b a rfl sd sd) (by simp only [jU,decide_eq_false e,Bool.and_false,Bool.false_and])
    ·exact Ends.eqv (aQI (c::t) c b a rfl sd) (by simp only [jU,decide_eq_false d,Bool.and_false,Bool.false_and])
  ·exact Ends.eqv (aQJ (c::t) b sd) (by simp only [jU,decide_eq_false f,Bool.false_and])
theorem aVg (c:Con) :aJ PP 124 [Con.av c] (.bool (fC c)) :=by
 refine aO aC rfl rfl ?_;have a:=aN0 c.name;cases k:jU c.name
 case false=>rw [k]at a;exact Ends.eqv (aW9 c false a rfl) (by simp [fC,k])
 rw [k]at a;exact Ends.eqv (aW8 c true _ a rfl (gK _ _ _)) (by simp [fC,k])
def pG (p:Prog)(x:Node) :Bool:=if x.op=14 then true else bO p x.op x.n
theorem aVh (p:Prog)(x:Node)(f:p.funs.length≤1000) :Ends PP 0 (start PP 173 [Prog.av p,Node.av x]).as (.ret (.bool (pG p x))) (aA [] 0) :=by
 cases a: (x.op== (1:Int))
 case true=>exact Ends.eqv (aNp p x  (dH (x.n) (-1000000000) 1000000000) a (aDp (x.n))) (by simp_all [pG,bO] <;>rfl)
 cases b: (x.op== (2:Int))
 case true=>exact Ends.eqv (aNq p x  (dH (x.n) 0 1) a b (gK (x.n) 0 1)) (by simp_all [pG,bO] <;>rfl)
 cases c: (x.op== (24:Int))
 case true=>exact Ends.eqv (aNr p x  (dH (x.n) 0 3) a b c (gK (x.n) 0 3)) (by simp_all [pG,bO] <;>rfl)
 cases d: (x.op== (4:Int))
 case true=>exact Ends.eqv (aNs p x  (dH (x.n) (0- ((length p.funs:Nat) :Int)) 29) a b c d sdI (gK (x.n) (0- ((length p.funs:Nat) :Int)) 29)) (by simp_all [pG,bO] <;>rfl)
 cases e: (x.op== (14:Int))
 case true=>exact Ends.eqv (aNt p x   a b c d e) (by simp_all [pG,bO] <;>rfl)
 exact Ends.eqv (aNu p x   a b c d e) (by simp_all [pG,bO] <;>rfl)
theorem aKM (p:Prog)(x:Node)(a:p.funs.length≤1000) :aJ PP 173 [Prog.av p,Node.av x] (.bool (pG p x)) :=
 aO aC rfl rfl (aVh p x a)
mutual
def qK :Pat→Int→Int
 | .mk _ _ _ ps,most=>nK ps most 1
def nK :List Pat→Int→Int→Int
 | [],_,n=>n
 |p::ps,most,n=>if n>most then n else nK ps most (n+qK p (most-n))
end
mutual
theorem aGC :∀ (p:Pat) (m:Int),0≤m→1≤qK p m∧qK p m≤m+1
 | .mk _ _ _ a,m,h=>by rw [qK];exact aIP a m 1 (by omega) (by omega)
theorem aIP :∀ (b:List Pat) (m n:Int),1≤n→n≤m+1→1≤nK b m n∧nK b m n≤m+1
 | [],m,n,d,c=>by rw [nK];omega
 | p ::b,m,n,d,c=>by
  rw [nK];split
  ·omega
  · have a:=aGC p (m-n) (by omega);exact aIP b m _ (by omega) (by omega)
end
mutual
theorem aN1 :∀ (p:Pat) (m:Int),0≤m→ ((cB p:Int) ≤m→qK p m=cB p) ∧ (m<cB p→m<qK p m)
 | .mk _ _ _ a,m,h=>by
  have:=aIQ a m 1 (by omega);simp only [qK,cB];constructor
  ·intro g;have:=this.1 (by omega);omega
  ·intro g;exact this.2 (by omega)
theorem aIQ :∀ (c:List Pat) (m n:Int),n≤m+1→ (n+aT c≤m→nK c m n=n+aT c) ∧ (m<n+aT c→m<nK c m n)
 | [],m,n,h=>by simp only [nK,aT];omega
 | p ::c,m,n,h=>by
  simp only [nK,aT];split
  ·omega
  · rename_i k;have a:=aN1 p (m-n) (by omega);have l:=aGC p (m-n) (by omega);have b:=aIQ c m (n+qK p (m-n)) (by omega);constructor
    · intro g;have:=a.1 (by omega);have:=b.1 (by omega);omega
    · intro g;refine b.2 ?_;by_cases q: (cB p:Int) ≤m-n
      ·have:=a.1 q;omega
      ·have:=a.2 (by omega);omega
end
theorem aIR (p:Pat)(m:Int)(h:0≤m) :qK p m≤m↔ (cB p:Int) ≤m:=by
 have:=aN1 p m h;constructor
 · intro g;by_cases k: (cB p:Int) ≤m
   ·exact k
   ·have:=this.2 (by omega);omega
 ·intro g;have:=this.1 g;omega
theorem aGD (f n:Int)(s:cA)(ps:List Pat)(m:Int)(hm:m≤1000)(e:∀p∈ps,∀m:Int,0≤m→m≤1000→aJ PP 171 [Pat.av p,.int .i64 m] (.int .i64 (qK p m))) :
  ∀ (t:List Pat) (i:Nat) (k:Int),ps.drop i=t→ (i:Int) +1≤k→k≤m+1→Ends PP 0 (aB7 f n s ps m k (i:Int)).as (.ret (.int .i64 (nK t m k))) (aA [] 0)
 | [],i,k,h,q,o=>by
  have:=bJ h;rw [nK];exact aUW f n s ps m k i sd
 | .mk d c b a::t,i,k,h,q,o=>by
  obtain⟨g,j,r⟩ :=bE h;rw [nK];split
  ·exact aUU f n s ps m k i d c b a sd sd sd sd
  · rename_i hk;have l:=aGC (.mk d c b a) (m-k) (by omega);refine(aUV f n s ps m k i d c b a _ sd sd sd sd sd (e (.mk d c b a) (iO g) (m-k) (by omega) (by omega)) sd sd).ends ?_;exact aGD f n s ps m hm e t (i+1) _ j (by omega) (by omega)
mutual
theorem aGE :∀ (p:Pat) (m:Int),0≤m→m≤1000→aJ PP 171 [Pat.av p,.int .i64 m] (.int .i64 (qK p m))
 | .mk f n s a,m,c,b=>by
  refine aO aC (by simp [keylessL,mF,keyless]) rfl ?_;rw [qK];refine(aUT f n s a m).ends ?_;exact aGD f n s a m b (aIS a) a 0 1 rfl (by omega) (by omega)
theorem aIS :∀ (b:List Pat),∀p∈b,∀m:Int,0≤m→m≤1000→aJ PP 171 [Pat.av p,.int .i64 m] (.int .i64 (qK p m))
 | [],p,a,_,_,_=>by cases a
 | q::b,p,a,m,c,d=>by
  rcases zq7.1 a with e|a
  ·rw [e];exact aGE q m c d
  ·exact aIS b p a m c d
end
theorem sdW {p:Prop}(h:p:=by simp_all only [inB_iff,inB_not,beq_iff_eq,decide_eq_true_eq,decide_eq_false_iff_not] <;>omega) :p:=h
theorem idW {p:Prop}(h:p:=by exact⟨_,kH (by simp_all only [inB_iff,inB_not,beq_iff_eq,decide_eq_true_eq,decide_eq_false_iff_not] <;>omega)⟩) :p:=h
theorem aIT (l:List Pat)(p:Prog)(hl:l.length<1000000)(c:∀q∈l,aJ PP 172 [Prog.av p,Pat.av q] (.bool (cJ p.cons q))) :
  ∀ (t:List Pat) (i:Nat),l.drop i=t→Ends PP 0 (aEX l p (i:Int)).as (.ret (.bool (bY p.cons t))) (aA [] 0)
 | [],i,h=>by
  have:=bJ h;exact Ends.eqv (aXn l p i sd) (by simp [bY])
 | .mk f n s b::t,i,h=>by
  obtain⟨d,e,g⟩ :=bE h;have a:=c (.mk f n s b) (iO d);cases k:cJ p.cons (.mk f n s b)
  case false=>
   rw [k]at a;exact Ends.eqv (aXl l p i f n s b false sd sd sd a rfl) (by simp [bY,k])
  rw [k]at a;refine(aXm l p i f n s b true sd sd sd a rfl sd).ends ?_;exact Ends.eqv (aIT l p hl c t (i+1) e) (by simp [bY,k])
theorem aVi (l:List Pat)(p:Prog)(hl:l.length<1000000)(a:∀q∈l,aJ PP 172 [Prog.av p,Pat.av q] (.bool (cJ p.cons q))) :
  aJ PP 174 [.ilst 4 (Pats.av l) false,.func 172 [Prog.av p] []] (.bool (bY p.cons l)) :=
 aO aC (by simp [keylessL,keyless,Prog.av]) rfl ((aXk l p).ends (aIT l p hl a l 0 rfl))
theorem bGv (p:Prog)(b d:Int)(c:cA)(a:List Pat)(hc:p.cons.length≤1000)(e:aJ PP 174 [.ilst 4 (Pats.av a) false,.func 172 [Prog.av p] []] (.bool (bY p.cons a))) :
  Ends PP 0 (start PP 172 [Prog.av p,Pat.av (.mk b d c a)]).as (.ret (.bool (cJ p.cons (.mk b d c a)))) (aA [] 0) :=by
 have w:IntKind.i64.wrap ((p.cons.length:Int) -1) = (p.cons.length:Int) -1:=by apply wrap64<;>omega
 cases f: (!(jL (length c) (aF c) 0 0))
 case true=>exact Ends.eqv (aXa p b d c a   f) (by clear e;simp_all [cJ,dL,fA,dR,hO] <;>rfl)
 cases g: (!(bY p.cons a))
 case true=>exact Ends.eqv (aXb p b d c a  (bY p.cons a) f e g) (by clear e;simp_all [cJ,dL,fA,dR,hO] <;>rfl)
 cases h: (b== (1:Int))
 case true=>
  cases t: (d== (0:Int))
  case true=>exact Ends.eqv (aXc p b d c a  (bY p.cons a) f e g h t) (by clear e;simp_all [cJ,dL,fA,dR,hO] <;>rfl)
  exact Ends.eqv (aXd p b d c a  (bY p.cons a) f e g h t) (by clear e;simp_all [cJ,dL,fA,dR,hO] <;>rfl)
 cases i: (b== (2:Int))
 case true=>
  cases r: (d== (0:Int))
  case true=>exact Ends.eqv (aXe p b d c a  (bY p.cons a) f e g h i r) (by clear e;simp_all [cJ,dL,fA,dR,hO] <;>rfl)
  exact Ends.eqv (aXf p b d c a  (bY p.cons a) f e g h i r) (by clear e;simp_all [cJ,dL,fA,dR,hO] <;>rfl)
 cases j: (b== (5:Int))
 case true=>
  cases u: (d== (0:Int))
  case true=>exact Ends.eqv (aXg p b d c a  (bY p.cons a) f e g h i j u) (by clear e;simp_all [cJ,dL,fA,dR,hO] <;>rfl)
  exact Ends.eqv (aXh p b d c a  (bY p.cons a) f e g h i j u) (by clear e;simp_all [cJ,dL,fA,dR,hO] <;>rfl)
 cases l: (b== (3:Int))
 case true=>
  cases o: (dH d (-1000000000) 1000000000)
  case true=>exact Ends.eqv (aXi p b d c a  (bY p.cons a) (dH d (-1000000000) 1000000000) f e g h i j l (aDp d) o) (by clear e;simp_all [cJ,dL,fA,dR,hO] <;>rfl)
  exact Ends.eqv (aXj p b d c a  (bY p.cons a) (dH d (-1000000000) 1000000000) f e g h i j l (aDp d) o) (by clear e;simp_all [cJ,dL,fA,dR,hO] <;>rfl)
 cases k: (b== (4:Int))
 case true=>
  cases n: (dH d 0 1)
  case true=>exact Ends.eqv (aUX p b d c a  (bY p.cons a) (dH d 0 1) f e g h i j l k (gK d 0 1) n) (by clear e;simp_all [cJ,dL,fA,dR,hO] <;>rfl)
  exact Ends.eqv (aUY p b d c a  (bY p.cons a) (dH d 0 1) f e g h i j l k (gK d 0 1) n) (by clear e;simp_all [cJ,dL,fA,dR,hO] <;>rfl)
 cases m: (b== (6:Int))
 case true=>
  cases q: (dH d 0 (IntKind.i64.wrap (((length p.cons:Nat) :Int) - (1:Int))))
  case true=>
   obtain⟨v,s⟩ :∃y,((p.cons)[d.toNat]?) =some y:=idW;exact Ends.eqv (aUZ p b d c a  (bY p.cons a) (dH d 0 (IntKind.i64.wrap (((length p.cons:Nat) :Int) - (1:Int)))) v f e g h i j l k m (gK d 0 (IntKind.i64.wrap (((length p.cons:Nat) :Int) - (1:Int)))) q sdW s) (by clear e;simp_all [cJ,dL,fA,dR,hO] <;>rfl)
  exact Ends.eqv (aU0 p b d c a  (bY p.cons a) (dH d 0 (IntKind.i64.wrap (((length p.cons:Nat) :Int) - (1:Int)))) f e g h i j l k m (gK d 0 (IntKind.i64.wrap (((length p.cons:Nat) :Int) - (1:Int)))) q) (by clear e;simp_all [cJ,dL,fA,dR,hO] <;>rfl)
 exact Ends.eqv (aU1 p b d c a  (bY p.cons a) f e g h i j l k m) (by clear e;simp_all [cJ,dL,fA,dR,hO] <;>rfl)
mutual
theorem aIU (p:Prog)(hc:p.cons.length≤1000) :∀ (q:Pat),cB q<1000000→aJ PP 172 [Prog.av p,Pat.av q] (.bool (cJ p.cons q))
 | .mk f n s a,h=>by
  refine aO aC (by simp [keylessL,mF,keyless,Prog.av]) rfl ?_;simp only [cB]at h;have:=eT a;exact bGv p f n s a hc (aVi a p (by omega) (aN2 p hc a (by omega)))
theorem aN2 (p:Prog)(hc:p.cons.length≤1000) :∀ (b:List Pat),aT b<1000000→∀q∈b,aJ PP 172 [Prog.av p,Pat.av q] (.bool (cJ p.cons q))
 | [],_,q,a=>by cases a
 | r::b,h,q,a=>by
  simp only [aT]at h;rcases zq7.1 a with e|a
  ·rw [e];exact aIU p hc r (by omega)
  ·exact aN2 p hc b (by omega) q a
end
def cV (op:Int) :Option Int:=
 if op=1∨op=2∨op=3∨op=4∨op=21∨op=25∨op=28 then some 0
 else if op=5∨op=27∨op=16∨op=17∨op=19∨op=20∨op=23∨op=26∨op=24 then some 1
 else if op=6∨op=7∨op=9∨op=10∨op=11∨op=12∨op=13∨op=18∨op=22 then some 2
 else if op=8 then some 3 else none
def bF (op:Int) :AV:=
 match cV op with
 |some k=>.iface 242 (.int .i64 k)
 |none=>if op=15 then .iface 225 (.agg [])else if op=14 then .iface 243 (.agg [])else .nili
theorem aN3 {op k:Int}(h:cV op=some k)(pats a:Int) :cL op pats a=k∧op≠15∧op≠14:=by
 unfold cV at h;unfold cL;split at h
 ·rename_i g;rw [if_pos g];simp only [Option.some.injEq]at h;refine⟨h,?_,?_⟩ <;>omega
 · rename_i d;rw [if_neg d];split at h
   ·rename_i g;rw [if_pos g];simp only [Option.some.injEq]at h;refine⟨h,?_,?_⟩ <;>omega
   · rename_i b;rw [if_neg b];split at h
     ·rename_i g;rw [if_pos g];simp only [Option.some.injEq]at h;refine⟨h,?_,?_⟩ <;>omega
     · rename_i c;rw [if_neg c];split at h
       ·rename_i g;rw [if_pos g];simp only [Option.some.injEq]at h;refine⟨h,?_,?_⟩ <;>omega
       ·cases h
theorem aQR {op:Int}(h:cV op=none)(pats a:Int) :cL op pats a=if op=15 then 1+pats else if op=14 then a else -1:=by
 unfold cV at h;unfold cL;split at h
 ·cases h
 · rename_i d;rw [if_neg d];split at h
   ·cases h
   · rename_i c;rw [if_neg c];split at h
     ·cases h
     · rename_i b;rw [if_neg b];split at h
       ·cases h
       ·rename_i g;rw [if_neg g]
theorem aVj (op:Int) :Ends PP 0 (start PP 169 [.int .i64 op]).as (.ret (bF op)) (aA [] 0) :=by
 cases c: (op== (1:Int))
 case true=>exact Ends.eqv (aNv op   c) (by simp_all [bF,cV])
 cases d: (op== (2:Int))
 case true=>exact Ends.eqv (aNw op   c d) (by simp_all [bF,cV])
 cases f: (op== (3:Int))
 case true=>exact Ends.eqv (aNx op   c d f) (by simp_all [bF,cV])
 cases h: (op== (4:Int))
 case true=>exact Ends.eqv (aNy op   c d f h) (by simp_all [bF,cV])
 cases i: (op== (21:Int))
 case true=>exact Ends.eqv (aNz op   c d f h i) (by simp_all [bF,cV])
 cases k: (op== (25:Int))
 case true=>exact Ends.eqv (aNA op   c d f h i k) (by simp_all [bF,cV])
 cases l: (op== (28:Int))
 case true=>exact Ends.eqv (aNB op   c d f h i k l) (by simp_all [bF,cV])
 cases n: (op== (5:Int))
 case true=>exact Ends.eqv (aNC op   c d f h i k l n) (by simp_all [bF,cV])
 cases p: (op== (27:Int))
 case true=>exact Ends.eqv (aND op   c d f h i k l n p) (by simp_all [bF,cV])
 cases a: (op== (16:Int))
 case true=>exact Ends.eqv (aNE op   c d f h i k l n p a) (by simp_all [bF,cV])
 cases b: (op== (17:Int))
 case true=>exact Ends.eqv (aKs op   c d f h i k l n p a b) (by simp_all [bF,cV])
 cases e: (op== (19:Int))
 case true=>exact Ends.eqv (aKt op   c d f h i k l n p a b e) (by simp_all [bF,cV])
 cases g: (op== (20:Int))
 case true=>exact Ends.eqv (aKu op   c d f h i k l n p a b e g) (by simp_all [bF,cV])
 cases j: (op== (23:Int))
 case true=>exact Ends.eqv (aKv op   c d f h i k l n p a b e g j) (by simp_all [bF,cV])
 cases m: (op== (24:Int))
 case true=>exact Ends.eqv (aKw op   c d f h i k l n p a b e g j m) (by simp_all [bF,cV])
 cases o: (op== (26:Int))
 case true=>exact Ends.eqv (aKx op   c d f h i k l n p a b e g j m o) (by simp_all [bF,cV])
 cases q: (op== (6:Int))
 case true=>exact Ends.eqv (aKy op   c d f h i k l n p a b e g j m o q) (by simp_all [bF,cV])
 cases r: (op== (7:Int))
 case true=>exact Ends.eqv (aKz op   c d f h i k l n p a b e g j m o q r) (by simp_all [bF,cV])
 cases s: (op== (9:Int))
 case true=>exact Ends.eqv (aKA op   c d f h i k l n p a b e g j m o q r s) (by simp_all [bF,cV])
 cases t: (op== (10:Int))
 case true=>exact Ends.eqv (aKB op   c d f h i k l n p a b e g j m o q r s t) (by simp_all [bF,cV])
 cases u: (op== (11:Int))
 case true=>exact Ends.eqv (aKC op   c d f h i k l n p a b e g j m o q r s t u) (by simp_all [bF,cV])
 cases v: (op== (12:Int))
 case true=>exact Ends.eqv (aKD op   c d f h i k l n p a b e g j m o q r s t u v) (by simp_all [bF,cV])
 cases w: (op== (13:Int))
 case true=>exact Ends.eqv (aKE op   c d f h i k l n p a b e g j m o q r s t u v w) (by simp_all [bF,cV])
 cases x: (op== (18:Int))
 case true=>exact Ends.eqv (aKF op   c d f h i k l n p a b e g j m o q r s t u v w x) (by simp_all [bF,cV])
 cases y: (op== (22:Int))
 case true=>exact Ends.eqv (aKG op   c d f h i k l n p a b e g j m o q r s t u v w x y) (by simp_all [bF,cV])
 cases z: (op== (8:Int))
 case true=>exact Ends.eqv (aKH op   c d f h i k l n p a b e g j m o q r s t u v w x y z) (by simp_all [bF,cV])
 cases A: (op== (14:Int))
 case true=>exact Ends.eqv (aKI op   c d f h i k l n p a b e g j m o q r s t u v w x y z A) (by simp_all [bF,cV])
 cases B: (op== (15:Int))
 case true=>exact Ends.eqv (aKJ op   c d f h i k l n p a b e g j m o q r s t u v w x y z A B) (by simp_all [bF,cV])
 exact Ends.eqv (aKK op   c d f h i k l n p a b e g j m o q r s t u v w x y z A B) (by simp_all [bF,cV])
theorem aQS (op:Int) :keyless (bF op) =true:=by
 unfold bF;split
 ·rfl
 · split
   ·rfl
   ·split<;>rfl
theorem aKN (op:Int) :aJ PP 169 [.int .i64 op] (bF op) :=
 aO aC rfl (aQS op) (aVj op)
theorem aGF (p:Prog)(x:Node)(hc:p.cons.length≤1000)(l:x.pats.length≤10) :
  ∀ (t:List Pat) (i:Nat),x.pats.drop i=t→Ends PP 0 (tL p x (i:Int)).as (.ret (.bool (t.all (eQ p.cons)))) (aA [] 0)
 | [],i,h=>by
  have:=bJ h;exact Ends.eqv (aVe p x i sd) (by simp)
 | .mk f n s a::t,i,h=>by
  obtain⟨o,j,m⟩ :=bE h;have e:=aGE (.mk f n s a) 12 (by omega) (by omega);by_cases k:cB (.mk f n s a) ≤12
  · have b:qK (.mk f n s a) 12≤12:= (aIR (.mk f n s a) 12 (by omega)).2 (by omega);have c:=aIU p hc (.mk f n s a) (by omega);cases d:cJ p.cons (.mk f n s a)
    case false=>
     rw [d]at c;exact Ends.eqv (aVb p x i f n s a _ false sd sd sd e (decide_eq_true b) c rfl) (by simp [eQ,d])
    rw [d]at c;refine(aVc p x i f n s a _ true sd sd sd e (decide_eq_true b) c rfl sd).ends ?_;exact Ends.eqv (aGF p x hc l t (i+1) j) (by simp [eQ,k,d])
  · have b:¬qK (.mk f n s a) 12≤12:=fun g=>k (by have:= (aIR (.mk f n s a) 12 (by omega)).1 g;omega);exact Ends.eqv (aVd p x i f n s a _ sd sd sd e (decide_eq_false b)) (by simp [eQ,k])
theorem aQT (p:Prog)(x:Node)(hc:p.cons.length≤1000)(s:p.funs.length≤1000)(y:x.pats.length≤10)(hk:x.kids.length≤10) :aJ PP 129 [Prog.av p,Node.av x] (.bool (aM p x)) :=by
 refine aO aC rfl rfl ?_;have q:IntKind.i64.wrap ((p.cons.length:Int) -1) = (p.cons.length:Int) -1:=by apply wrap64<;>omega
 have a:=aKN x.op;have h:=aKM p x s;have hl:=aGF p x hc y x.pats 0 rfl;cases n:cV x.op
 case some k=>
  obtain⟨o,w,u⟩ :=aN3 n (x.pats.length:Int) (eZ p x);have ev:bF x.op= .iface 242 (.int .i64 k) :=by unfold bF;rw [n]
  rw [ev]at a;have m:aM p x= (pG p x&&decide (x.pats.length=0) &&x.pats.all (eQ p.cons) &&decide ((x.kids.length:Int) =k)) :=by
   simp only [aM,dC,pG,o,if_neg w,if_neg u]
  rw [m];by_cases j:x.pats.length=0
  · by_cases b: (x.kids.length:Int) =k
    · have e: (((length x.kids:Nat) :Int) ==k) =true:=by simp [b]
      cases i:pG p x
      case false=>
       rw [i]at h;exact Ends.eqv (aQM p x k false a sd e h rfl) (by simp)
      rw [i]at h;refine(aQL p x k true a sd e h rfl).ends ?_;exact Ends.eqv hl (by simp [j,b])
    · have e: (((length x.kids:Nat) :Int) ==k) =false:=by simp [b]
      exact Ends.eqv (aQN p x k a sd e) (by simp [b])
  ·exact Ends.eqv (aVa p x k a sd) (by simp [j])
 have o:=aQR n (x.pats.length:Int) (eZ p x);by_cases g:x.op=15
 · have ev:bF x.op= .iface 225 (.agg []) :=by unfold bF;rw [n];simp only [g,if_true]
   rw [ev]at a;have m:aM p x= (pG p x&&dH (x.pats.length:Int) 1 5&&x.pats.all (eQ p.cons) &&decide ((x.kids.length:Int) =1+ (x.pats.length:Int))) :=by
    simp only [aM,dC,pG,o,if_pos g,if_neg (show ¬x.op=14 by omega)]
   rw [m];have d:=gK (x.pats.length:Int) 1 5;cases j:dH (x.pats.length:Int) 1 5
   case false=>
    rw [j]at d;exact Ends.eqv (aU5 p x false a d rfl) (by simp)
   rw [j]at d;by_cases b: (x.kids.length:Int) =1+ (x.pats.length:Int)
   · have e: (((length x.kids:Nat) :Int) == ((1:Int) + ((length x.pats:Nat) :Int))) =true:=by simp [b]
     cases i:pG p x
     case false=>
      rw [i]at h;exact Ends.eqv (aU3 p x true false a d rfl sd e h rfl) (by simp)
     rw [i]at h;refine(aU2 p x true true a d rfl sd e h rfl).ends ?_;exact Ends.eqv hl (by simp [b])
   · have e: (((length x.kids:Nat) :Int) == ((1:Int) + ((length x.pats:Nat) :Int))) =false:=by simp [b]
     exact Ends.eqv (aU4 p x true a d rfl sd e) (by simp [b])
 · by_cases f:x.op=14
   · have ev:bF x.op= .iface 243 (.agg []) :=by unfold bF;rw [n];simp [f]
     rw [ev]at a;have m:aM p x= (dH x.n 0 ((p.cons.length:Int) -1) &&decide (x.pats.length=0) &&x.pats.all (eQ p.cons) &&decide ((x.kids.length:Int) =eZ p x)) :=by
      simp only [aM,dC,bO,o,if_neg g,if_pos f,if_neg (show ¬x.op=1 by omega),if_neg (show ¬x.op=2 by omega),if_neg (show ¬x.op=4 by omega),if_neg (show ¬x.op=24 by omega)]
     rw [m];by_cases j:x.pats.length=0
     · have d:=gK x.n 0 ((p.cons.length:Int) -1);rw [←q]at d;cases b:dH x.n 0 ((p.cons.length:Int) -1)
       case false=>
        rw [q,b,←q]at d;exact Ends.eqv (aU9 p x false a sd d rfl) (by simp)
       rw [q,b,←q]at d;have hb:=inB_iff.1 b;obtain⟨c,l⟩ :∃c,p.cons[x.n.toNat]?=some c:= ⟨_,kH (by omega)⟩;have v:eZ p x=c.args:=by simp [eZ,f,b,fA,l]
       rw [v];by_cases i: (x.kids.length:Int) =c.args
       · have e: (((length x.kids:Nat) :Int) ==c.args) =true:=by simp [i]
         have r:pG p x=true:=by simp [pG,f]
         rw [r]at h;refine(aU7 p x true c true a sd d rfl (by omega) l e h rfl).ends ?_;exact Ends.eqv hl (by simp [j,i])
       · have e: (((length x.kids:Nat) :Int) ==c.args) =false:=by simp [i]
         exact Ends.eqv (aU8 p x true c a sd d rfl (by omega) l e) (by simp [i])
     ·exact Ends.eqv (aU6 p x a sd) (by simp [j])
   · have ev:bF x.op= .nili:=by unfold bF;rw [n];simp [g,f]
     rw [ev]at a;have m:aM p x=false:=by
      have:cL x.op x.pats.length (eZ p x) = -1:=by rw [o,if_neg g,if_neg f]
      have t:¬ (x.kids.length:Int) = -1:=by omega
      simp [aM,this,t]
     rw [m];exact aQO p x a
def yR :List cA→List (cA×Bool) →List (cA×Bool)
 | [],m=>m
 |x::t,m=>yR t (lH x true m)
theorem aB8 (l:List cA)(hl:l.length<1000000) :∀ (t:List cA) (i:Nat) (m:List (cA×Bool)),l.drop i=t→Ends PP 0 (vN l (i:Int) m).as (.ret (.bool (decide ((yR t m).length=l.length)))) (aA [] 0)
 | [],i,m,h=>by
  have:=bJ h;refine Ends.eqv (aNH l i m sd) ?_;have: (((length m:Nat) :Int) == ((length l:Nat) :Int)) =decide (m.length=l.length) :=by
   by_cases k:m.length=l.length<;>simp [k] <;>omega
  rw [this];rfl
 | x::t,i,m,h=>by
  obtain⟨c,a,b⟩ :=bE h;refine(aNG l i m x sd sd sd sd).ends ?_;exact aB8 l hl t (i+1) _ a
theorem aGG {k:cA}{v w:Bool}:∀ {m:List (cA×Bool)},mR k m=some w→ (lH k v m).map Prod.fst=m.map Prod.fst
 | [],h=>by cases h
 | e::m,h=>by
  unfold mR at h;unfold lH;split at h
  ·rename_i hk;rw [if_pos hk];simp [hk]
  ·rename_i hk;rw [if_neg hk];simp [aGG h]
theorem aGH {k:cA}{v:Bool}:∀ {m:List (cA×Bool)},mR k m=none→ (lH k v m).map Prod.fst=m.map Prod.fst++ [k]
 | [],_=>rfl
 | e::m,h=>by
  unfold mR at h;unfold lH;split at h
  ·cases h
  ·rename_i hk;rw [if_neg hk];simp [aGH h]
theorem aGI {k:cA}:∀ {m:List (cA×Bool)},(mR k m).isSome=vE (m.map Prod.fst) k
 | [] =>rfl
 | e ::m=>by
  unfold mR;split
  ·rename_i hk;simp [vE,hk]
  · rename_i hk;have:¬e.1=k:=fun h=>hk h.symm;rw [aGI];simp [vE,this]
theorem aIV :∀ (t:List cA) (m:List (cA×Bool)),(yR t m).length≤m.length+t.length
 | [],m=>by simp [yR]
 | x::t,m=>by
  have a:=aIV t (lH x true m);have b: (lH x true m).length≤m.length+1:=by
   cases h:mR x m with
   |none=>have:=congrArg length (aGH (v:=true) h);simp at this;omega
   |some w=>have:=congrArg length (aGG (v:=true) h);simp at this;omega
  simp only [yR,oK];omega
theorem aGJ :∀ (t:List cA) (m:List (cA×Bool)),(yR t m).length=m.length+t.length↔dM (m.map Prod.fst) t=true
 | [],m=>by simp [yR,dM]
 | x::t,m=>by
  simp only [yR,dM];cases h:mR x m
  case some w=>
   have e:=aGG (v:=true) h;have c:vE (m.map Prod.fst) x=true:=by rw [←aGI,h];rfl
   have a:=aIV t (lH x true m);have b:=congrArg length e;simp only [hJ]at b;rw [c];constructor
   ·intro g;simp only [oK]at g;omega
   ·intro g;simp at g
  have e:=aGH (v:=true) h;have c:vE (m.map Prod.fst) x=false:=by rw [←aGI,h];rfl
  have d:=aGJ t (lH x true m);have b:=congrArg length e;simp only [hJ,wT,List.length_singleton]at b;rw [c,←e];simp only [Bool.not_false,mY,oK];rw [←d,b];omega
theorem aKO (l:List cA)(hl:l.length<1000000) :aJ PP 125 [.ilst 1 (map dP l) false] (.bool (pL l)) :=by
 refine aO aC rfl rfl ((aNF l).ends (Ends.eqv (aB8 l hl l 0 [] rfl) ?_));have:=aGJ l [];simp only [List.length_nil,eX,map_nil]at this;congr 1;cases k:pL l
 case true=>exact decide_eq_true (this.2 k)
 exact decide_eq_false fun g=>by have:=this.1 g;unfold pL at k;rw [k]at this;cases this
theorem aIW (l:List Con)(hl:l.length<1000000) :∀ (t:List Con) (i:Nat),l.drop i=t→Ends PP 0 (aEZ l (i:Int)).as (.ret (.bool (t.all fC))) (aA [] 0)
 | [],i,h=>by
  have:=bJ h;exact Ends.eqv (aXv l i sd) (by simp)
 | c::t,i,h=>by
  obtain⟨e,b,d⟩ :=bE h;have a:=aVg c;cases k:fC c
  case false=>rw [k]at a;exact Ends.eqv (aXt l i c false sd sd sd a rfl) (by simp [k])
  rw [k]at a;refine(aXu l i c true sd sd sd a rfl sd).ends ?_;exact Ends.eqv (aIW l hl t (i+1) b) (by simp [k])
theorem aVk (l:List Con)(hl:l.length<1000000) :aJ PP 123 [.ilst 2 (map Con.av l) false,.func 124 [] []] (.bool (l.all fC)) :=
 aO aC rfl rfl ((aXs l).ends (aIW l hl l 0 rfl))
theorem aIX (l:List Node)(p:Prog)(hl:l.length<1000000)(b:∀x∈l,aJ PP 129 [Prog.av p,Node.av x] (.bool (aM p x))) :∀ (t:List Node) (i:Nat),l.drop i=t→Ends PP 0 (aEY l p (i:Int)).as (.ret (.bool (t.all (aM p)))) (aA [] 0)
 | [],i,h=>by
  have:=bJ h;exact Ends.eqv (aXr l p i sd) (by simp)
 | c::t,i,h=>by
  obtain⟨d,e,f⟩ :=bE h;have a:=b c (iO d);cases k:aM p c
  case false=>rw [k]at a;exact Ends.eqv (aXp l p i c false sd sd sd a rfl) (by simp [k])
  rw [k]at a;refine(aXq l p i c true sd sd sd a rfl sd).ends ?_;exact Ends.eqv (aIX l p hl b t (i+1) e) (by simp [k])
theorem aVl (l:List Node)(p:Prog)(hl:l.length<1000000)(a:∀x∈l,aJ PP 129 [Prog.av p,Node.av x] (.bool (aM p x))) :aJ PP 128 [.ilst 4 (map Node.av l) false,.func 129 [Prog.av p] []] (.bool (l.all (aM p))) :=
 aO aC rfl rfl ((aXo l p).ends (aIX l p hl a l 0 rfl))
def one (k:Int) :Bool:=decide (k=1)
theorem aIY (l:List Int)(hl:l.length<1000000) :∀ (t:List Int) (i:Nat),l.drop i=t→Ends PP 0 (aE0 l (i:Int)).as (.ret (.bool (t.all one))) (aA [] 0)
 | [],i,h=>by
  have:=bJ h;exact Ends.eqv (aXz l i sd) (by simp)
 | c ::t,i,h=>by
  obtain⟨d,a,b⟩ :=bE h;by_cases k:c=1
  · refine(aXy l i c sd sd sd (by simp [k]) sd).ends ?_;exact Ends.eqv (aIY l hl t (i+1) a) (by simp [k,one])
  ·exact Ends.eqv (aXx l i c sd sd sd (by simp [k])) (by simp [k,one])
theorem aVm (l:List Int)(hl:l.length<1000000) :aJ PP 130 [.ilst 1 (map bU l) true,.func 131 [] []] (.bool (l.all one)) :=
 aO aC rfl rfl ((aXw l).ends (aIY l hl l 0 rfl))
theorem aIZ (l:List Con)(hl:l.length<100000) :∀ (t:List Con) (i:Nat),l.drop i=t→Ends PP 0 (aE1 l (i:Int) (bC (l.take i))).as (.ret (.ilst 1 (map dP (bC l)) false)) (aA [] 0)
 | [],i,h=>by
  have a:=bJ h;have e:bC (l.take i) =bC l:=by rw [aHY a]
  rw [e];exact aXC l i _ sd
 | c::t,i,h=>by
  obtain⟨d,b,f⟩ :=bE h;have e:bC (l.take i) ++ [c.name] =bC (l.take (i+1)) :=by
   rw [List.take_add_one,d];simp [bC]
  refine(aXB l i (bC (l.take i)) c sd sd sd (by simp [bC];omega) sd).ends ?_;rw [e];exact aIZ l hl t (i+1) b
theorem aVn (l:List Con)(hl:l.length<100000) :aJ PP 126 [.ilst 2 (map Con.av l) false,.func 127 [] []] (.ilst 1 (map dP (bC l)) false) :=
 aO aC rfl rfl ((aXA l).ends (aIZ l hl l 0 rfl))
def pA (lo n:Int) :List Int→List Int→Option (List Int)
 | [],c=>some c
 |k::ks,c=>if dH k lo (n-1) =true then pA lo n ks (c.set k.toNat (c.getD k.toNat 0+1))else none
def nL (p:Prog) :Nat→List Node→List Int→Option (List Int)
 |_,[],c=>some c
 | i,x::t,c=>match pA ((i:Int) +1) (p.nodes.length:Int) x.kids c with
   |some d=>nL p (i+1) t d
   |none=>none
def rP :Option (List Int) →Bool
 |some c=>c.all one
 |none=>false
def below (b:Int)(c:List Int) :Prop:=∀k∈c,0≤k∧k≤b
theorem aDq {b:Int}{c:List Int}(h:below b c){i:Nat}{z:Int}(hz:c[i]?=some z) :0≤z∧z≤b:=h z (iO hz)
theorem aI0 {b:Int}{c:List Int}(h:below b c){i:Nat}{z:Int}(hz:c[i]?=some z) :below (b+1) (c.set i (z+1)) :=fun k hk=>by
 rcases List.mem_or_eq_of_mem_set hk with g|g
 ·have:=h k g;omega
 ·have:=aDq h hz;omega
theorem bF2 (p:Prog)(i:Nat)(j:i<p.nodes.length)(m:p.nodes.length≤1000)(ks:List Int)(hk:ks.length≤1000)(K:List Int→Bool)(B:Int)(hB:0≤B)(g:B≤1000000)
  (hb:∀v:List Int,v.length=p.nodes.length→below (B+ks.length) v→Ends PP 0 (qJ p v ((i:Int) +1)).as (.ret (.bool (K v))) (aA [] 0)) :
  ∀ (t:List Int) (k:Nat) (c:List Int),c.length=p.nodes.length→k≤ks.length→below (B+k) c→ks.drop k=t→Ends PP 0 (vP p ks (ks.length:Int) c (k:Int) (i:Int) (i:Int)).as (.ret (.bool (match pA ((i:Int) +1) p.nodes.length t c with|some v=>K v|none=>false))) (aA [] 0)
 | [],k,c,hc,f,a,h=>by
  have:=bJ h;have e:k=ks.length:=by omega
  subst e;refine(aNY p ks ks.length c ks.length i i sd sd).ends ?_;exact hb c hc a
 | y::t,k,c,hc,f,a,h=>by
  obtain⟨u,r,s⟩ :=bE h;have b:=gK y ((i:Int) +1) ((p.nodes.length:Int) -1);cases d:dH y ((i:Int) +1) ((p.nodes.length:Int) -1)
  case false=>
   rw [d]at b;exact Ends.eqv (aNW p ks ks.length c k i i y false sd sd sd sd sd b rfl) (by simp [pA,d])
  rw [d]at b;have w:=inB_iff.1 d;obtain⟨z,hz⟩ :∃z,c[y.toNat]?=some z:= ⟨_,kH (by omega)⟩;have n:=aDq a hz;refine(aNX p ks ks.length c k i i y true z sd sd sd sd sd b rfl (by omega) (by omega) hz sd sd).ends ?_;have e:c.getD y.toNat 0=z:=by rw [hQ,hz];rfl
  have o:pA ((i:Int) +1) p.nodes.length (y::t) c=pA ((i:Int) +1) p.nodes.length t (c.set y.toNat (z+1)) :=by
   rw [pA,if_pos d,e]
  rw [o];refine bF2 p i j m ks hk K B hB g hb t (k+1) (c.set y.toNat (z+1)) (by simpa using hc) (by omega) ?_ r;have:=aI0 a hz;intro q l;have:=this q l
  push_cast
  omega
def vQ :List Node→Nat
 | [] =>0
 |x::t=>x.kids.length+vQ t
theorem aGK :∀ (t:List Node),(∀x∈t,x.kids.length≤10) →vQ t≤10*t.length
 | [],_=>by simp [vQ]
 | x::t,h=>by
  have a:=aGK t (fun y c=>h y (eD _ c));have b:=h x (dT ..);simp only [vQ,oK];omega
theorem bF1 (p:Prog)(hp:aK p=true)(d:p.nodes.length≤1000) :∀ (t:List Node) (i:Nat) (c:List Int) (B:Int),0≤B→B+vQ t≤100000→c.length=p.nodes.length→below B c→p.nodes.drop i=t →
  Ends PP 0 (qJ p c (i:Int)).as (.ret (.bool (rP (nL p i t c)))) (aA [] 0)
 | [],i,c,B,b,e,hc,hb,h=>by
  have:=bJ h;exact Ends.eqv (aNV p c i _ sd (aVm c (by omega))) rfl
 | x::t,i,c,B,b,e,hc,hb,h=>by
  obtain⟨j,k,g⟩ :=bE h;have l:bB x=true:=by
   simp only [aK,cF]at hp;exact zq27.1 hp.2 x (iO j)
  simp only [bB,cF,decide_eq_true_eq]at l;simp only [vQ]at e;refine(aNU p c i x sd sd sd).ends ?_;refine Ends.eqv (bF2 p i g d x.kids (by omega) (fun v=>rP (nL p (i+1) t v)) B b (by omega) (fun v f a=>bF1 p hp d t (i+1) v (B+x.kids.length) (by omega) (by omega) f a k) x.kids 0 c hc (by omega) (by simpa using hb) rfl) ?_;rw [nL];cases pA ((i:Int) +1) (p.nodes.length:Int) x.kids c<;>rfl
theorem bF0 (p:Prog)(hp:aK p=true)(f:p.nodes.length≤1000)(d:vQ p.nodes≤10000)(k:p.funs.length≤1000) :∀ (t:List Int) (i:Nat) (c:List Int),i≤p.funs.length→c.length=p.nodes.length→below (i:Int) c→p.funs.drop i=t →
  Ends PP 0 (vO p (i:Int) c).as (.ret (.bool (match pA 0 p.nodes.length t c with|some v=>rP (nL p 0 p.nodes v) |none=>false))) (aA [] 0)
 | [],i,c,g,hc,hb,h=>by
  have:=bJ h;refine(aNT p i c sd).ends ?_;exact bF1 p hp f p.nodes 0 c i (by omega) (by omega) hc hb rfl
 | y::t,i,c,g,hc,hb,h=>by
  obtain⟨r,n,o⟩ :=bE h;have a:=gK y 0 ((p.nodes.length:Int) -1);cases b:dH y 0 ((p.nodes.length:Int) -1)
  case false=>
   rw [b]at a;exact Ends.eqv (aNR p i c y false sd sd sd sd a rfl) (by simp [pA,b])
  rw [b]at a;have s:=inB_iff.1 b;obtain⟨z,hz⟩ :∃z,c[y.toNat]?=some z:= ⟨_,kH (by omega)⟩;have m:=aDq hb hz;refine(aNS p i c y true z sd sd sd sd a rfl (by omega) (by omega) hz sd sd).ends ?_;have e:c.getD y.toNat 0=z:=by rw [hQ,hz];rfl
  have l:pA 0 p.nodes.length (y::t) c=pA 0 p.nodes.length t (c.set y.toNat (z+1)) :=by
   rw [pA,if_pos b,e]
  rw [l];refine bF0 p hp f d k t (i+1) (c.set y.toNat (z+1)) (by omega) (by simpa using hc) ?_ n;have:=aI0 hb hz;intro q j;have:=this q j
  push_cast
  omega
def dN (p:Prog) :Bool:=
 eB p&&decide (p.cons.length≤20) &&p.cons.all fC&&pL (bC p.cons) &&p.nodes.all (aM p) &&
  (match pA 0 (p.nodes.length:Int) p.funs (replicate p.nodes.length 0)with
  |some v=>rP (nL p 0 p.nodes v)
  |none=>false)
theorem aN4 {p:Prog}(hp:aK p=true) :∀x∈p.nodes,x.kids.length≤10∧x.pats.length≤10:=fun x a=>by
 simp only [aK,cF]at hp;have:=zq27.1 hp.2 x a;simp only [bB,cF,decide_eq_true_eq]at this;exact this.1
theorem aKP (p:Prog)(hp:aK p=true) :aJ PP 88 [Prog.av p] (.bool (dN p)) :=by
 refine aO aC rfl rfl ?_;have i:=hp;simp only [aK,cF,decide_eq_true_eq]at i;obtain⟨⟨⟨⟨u,s⟩,t⟩,_⟩,_⟩ :=i;have b:=aN4 hp;by_cases j:p.nodes.length≤300
 · by_cases r:1≤p.funs.length
   · by_cases o:p.funs.length≤p.nodes.length
     · have kk:dH (p.funs.length:Int) 1 (p.nodes.length:Int) =true:=inB_iff.2 ⟨by omega,by omega⟩;by_cases k:p.cons.length≤20
       · have a:=gK p.main 0 ((p.funs.length:Int) -1);cases g:dH p.main 0 ((p.funs.length:Int) -1)
         case false=>
          rw [g]at a;exact Ends.eqv (aNM p false sd sd sd sd sd a rfl) (by simp [dN,eB,g])
         rw [g]at a;have n:eB p=true:=by simp [eB,j,kk,g]
         have hc:=aVk p.cons (by omega);cases e:p.cons.all fC
         case false=>
          rw [e]at hc;exact Ends.eqv (aNN p true false sd sd sd sd sd a rfl hc rfl) (by simp only [dN,e,Bool.and_false,Bool.false_and])
         rw [e]at hc;have hm:=aVn p.cons (by omega);have hd:=aKO (bC p.cons) (by simp [bC];omega);cases c:pL (bC p.cons)
         case false=>
          rw [c]at hd;exact Ends.eqv (aNO p true true (bC p.cons) false sd sd sd sd sd a rfl hc rfl hm hd rfl) (by simp only [dN,c,Bool.and_false,Bool.false_and])
         rw [c]at hd;have d:=aVl p.nodes p (by omega) (fun x h=>aQT p x (by omega) (by omega) (b x h).2 (b x h).1);cases f:p.nodes.all (aM p)
         case false=>
          rw [f]at d;exact Ends.eqv (aNP p true true (bC p.cons) true false sd sd sd sd sd a rfl hc rfl hm hd rfl d rfl) (by simp only [dN,f,Bool.and_false,Bool.false_and])
         rw [f]at d;refine(aNQ p true true (bC p.cons) true true sd sd sd sd sd a rfl hc rfl hm hd rfl d rfl (by omega)).ends ?_;have m:=aGK p.nodes (fun x h=> (b x h).1);refine Ends.eqv (bF0 p hp (by omega) (by omega) (by omega) p.funs 0 _ (by omega) (by simp) ?_ rfl) ?_
         · intro q l;have:= (List.mem_replicate.1 l).2;omega
         ·simp only [dN,n,decide_eq_true k,e,c,f,mY] <;>rfl
       ·exact Ends.eqv (aNL p sd sd sd sd) (by simp [dN,k])
     · have kk:dH (p.funs.length:Int) 1 (p.nodes.length:Int) =false:=inB_not.2 (by omega);exact Ends.eqv (aNK p sd sd sd) (by simp [dN,eB,kk])
   · have kk:dH (p.funs.length:Int) 1 (p.nodes.length:Int) =false:=inB_not.2 (by omega);exact Ends.eqv (aNJ p sd sd) (by simp [dN,eB,kk])
 ·exact Ends.eqv (aNI p sd) (by simp [dN,eB,j])
theorem aN5 (p:Prog)(hp:aK p=true) :aJ PP 45 [Prog.av p] (.int .i64 (checkN (dN p))) :=by
 refine aO aC rfl rfl ?_;have h:=aKP p hp;cases k:dN p
 case false=>rw [k]at h;exact aQP p false h rfl
 rw [k]at h;exact aQQ p true h rfl
def cnt (b:Bool) :Int:=if b=true then 1 else 0
def vR (u:List Bool) :List Int:=u.map cnt
def aA4 (c:List Int) :Prop:= (∃ (i:Nat) (z:Int),c[i]?=some z∧2≤z) ∧∀z∈c,0≤z
theorem aN6 {c:List Int}(h:aA4 c) :c.all one=false:=by
 obtain⟨⟨i,z,a,b⟩,_⟩ :=h;cases k:c.all one
 case false=>rfl
 have:=zq27.1 k z (iO a);simp only [one,decide_eq_true_eq]at this;omega
theorem aQU {c:List Int}{j:Nat}(h:aA4 c) :aA4 (c.set j (c.getD j 0+1)) :=by
 obtain⟨⟨i,z,a,l⟩,b⟩ :=h;have d:= (zq0.1 a).1;refine⟨⟨i,if j=i then z+1 else z,?_,by split<;>omega⟩,fun q f=>?_⟩
 · rw [List.getElem?_set];by_cases e:j=i
   · subst e;rw [if_pos rfl,if_pos d,if_pos rfl,hQ,a];rfl
   ·rw [if_neg e,if_neg e];exact a
 · rcases List.mem_or_eq_of_mem_set f with g|g
   ·exact b q g
   · rw [g,hQ];cases k:c[j]? with
     |none=>simp
     |some w=>have:=b w (iO k);simp;omega
theorem yS {lo n:Int}:∀ {a c:List Int} {d:List Int},aA4 c→pA lo n a c=some d→aA4 d
 | [],c,d,h,e=>by simp only [pA,Option.some.injEq]at e;rw [←e];exact h
 | k::a,c,d,h,e=>by
  simp only [pA]at e;split at e
  ·exact yS (aQU h) e
  ·cases e
theorem aN7 (u:List Bool) :∀z∈vR u,0≤z:=fun z hz=>by
 obtain⟨b,_,rfl⟩ :=zq24.1 hz;cases b<;>simp [cnt]
theorem aA5 {lo n:Int}(h:0≤lo) :∀ (b:List Int) (u:List Bool),n≤u.length →
  (∀v,marks lo n b u=some v→pA lo n b (vR u) =some (vR v)) ∧ (marks lo n b u=none→∀d,pA lo n b (vR u) =some d→aA4 d)
 | [],u,i=>by
  simp only [marks,pA,Option.some.injEq];exact⟨fun v e=>by rw [e],fun e=>by cases e⟩
 | k ::b,u,i=>by
  simp only [marks,pA];by_cases f:dH k lo (n-1) =true
  · have hk:=inB_iff.1 f;have c:k.toNat<u.length:=by omega
    have a:u[k.toNat]?=some u[k.toNat] :=kH c;have hc: (vR u).getD k.toNat 0=cnt u[k.toNat] :=by
     rw [hQ,vR,mZ,a];rfl
    rw [if_pos f];cases hb:u[k.toNat]
    case false=>
     rw [hb]at a hc;rw [if_pos ⟨f,a⟩];have e: (vR u).set k.toNat ((vR u).getD k.toNat 0+1) =vR (u.set k.toNat true) :=by
      rw [hc,vR,vR,map_set];rfl
     rw [e];exact aA5 h b (u.set k.toNat true) (by simpa using i)
    rw [hb]at a hc;rw [if_neg (by rw [a];simp)];refine And.intro (fun v e=>nomatch e) (fun _ d e=>yS (And.intro ⟨k.toNat,2,?_,by omega⟩ ?_) e)
    ·rw [hc,List.getElem?_set_self (by simp [vR];exact c)];rfl
    · intro z hz;rcases List.mem_or_eq_of_mem_set hz with g|g
      ·exact aN7 u z g
      ·rw [g,hc];simp [cnt]
  · rw [if_neg f,if_neg (fun g=>f g.1)];exact And.intro (fun v e=>nomatch e) (fun _ d e=>nomatch e)
theorem sL (p:Prog) :∀ (t:List Node) (i:Nat) (c:List Int),aA4 c→rP (nL p i t c) =false
 | [],i,c,h=>by rw [nL];exact aN6 h
 | x::t,i,c,h=>by
  rw [nL];cases e:pA ((i:Int) +1) (p.nodes.length:Int) x.kids c with
  |none=>rfl
  |some d=>exact sL p t (i+1) d (yS h e)
theorem aI1 :∀ (u:List Bool),(vR u).all one=u.all fun b=>b
 | [] =>rfl
 | b::u=>by
  have:=aI1 u;simp only [vR,dJ,all_cons]at this ⊢;rw [this];cases b<;>simp [cnt,one]
theorem aN8 (p:Prog) :∀ (t:List Node) (i:Nat) (u:List Bool),u.length=p.nodes.length→t.all (aM p) =true→allT (bS p i t u) =rP (nL p i t (vR u))
 | [],i,u,b,_=>by simp only [bS,nL,allT,rP,aI1]
 | x::t,i,u,b,a=>by
  simp only [all_cons,cF]at a;obtain⟨c,f⟩ :=aA5 (lo:= (i:Int) +1) (n:= (p.nodes.length:Int)) (by omega) x.kids u (by omega);simp only [bS,nL,if_pos a.1];cases hm:marks ((i:Int) +1) (p.nodes.length:Int) x.kids u
  case some v=>
   rw [c v hm];exact aN8 p t (i+1) v (by rw [hY hm,b]) a.2
  cases e:pA ((i:Int) +1) (p.nodes.length:Int) x.kids (vR u)with
  |none=>rfl
  |some d=>exact(sL p t (i+1) d (f hm d e)).symm
theorem aB9 (p:Prog) :∀ (t:List Node) (i:Nat) (u:List Bool),t.all (aM p) =false→allT (bS p i t u) =false
 | [],i,u,h=>by simp at h
 | x ::t,i,u,h=>by
  simp only [bS];by_cases a:aM p x=true
  · rw [if_pos a];have b:t.all (aM p) =false:=by simpa [a]using h
    cases marks ((i:Int) +1) (p.nodes.length:Int) x.kids u with
    |none=>rfl
    |some v=>exact aB9 p t (i+1) v b
  ·rw [if_neg a];rfl
theorem aVo (p:Prog) :dN p=aN p:=by
 have e:dN p= (eB p&&yQ p.cons&& (p.nodes.all (aM p) && (match pA 0 (p.nodes.length:Int) p.funs (replicate p.nodes.length 0)with
  |some v=>rP (nL p 0 p.nodes v)
  |none=>false))) :=by
  unfold dN yQ;cases eB p<;>cases p.cons.all fC<;>cases pL (bC p.cons) <;>cases p.nodes.all (aM p) <;>cases decide (p.cons.length≤20) <;>simp
 rw [e,aN];congr 1;have f:replicate p.nodes.length (0:Int) =vR (replicate p.nodes.length false) :=by rw [vR,List.map_replicate];rfl
 rw [f];obtain⟨b,g⟩ :=aA5 (lo:=0) (n:= (p.nodes.length:Int)) (by omega) p.funs (replicate p.nodes.length false) (by simp);cases hm:marks 0 (p.nodes.length:Int) p.funs (replicate p.nodes.length false)
 case some v=>
  rw [b v hm];cases a:p.nodes.all (aM p)
  case true=>simp only [mY];exact(aN8 p p.nodes 0 v (by rw [hY hm];simp) a).symm
  simp only [Bool.false_and];exact(aB9 p p.nodes 0 v a).symm
 simp only;cases c:pA 0 (p.nodes.length:Int) p.funs (vR (replicate p.nodes.length false))with
 |none=>simp
 |some d=>simp only [sL p p.nodes 0 d (g hm d c),Bool.and_false]
def zX(d e:Int)(f:cA)(a:List Pat)(b c:Int):TS:=⟨(tf 177 22 [(2,(nI 0)),(3,(nI b)),(10,(iP a)),(11,(nI (a.length:Int))),(12,(nI c))] [kc f177 244,kl f177 244,.inBlock 0,kc f177 31]),[],[],0⟩
def aQV(a:Node)(b:Int):=tT 0 (start PP 134 [(Node.av a),(nI b)])<|.b 13 9 (a.op==5) (gE 21 1 (nI 1))<|.b 5 14 (a.op==27) (gE 16 1 (nI 1))<|.b 4 18 (a.op==7) (.b 6 5 (b==1) (gE 6 1 (nI 1))<|.b 7 27 (a.op==15) (gd 5 23 (b>0) (gw 7 34 (b-1)<|vA 0 a.pats (b-1)<|fun c d e f=>gpI 1 177 [(.agg [(nI c),(nI d),(dP e),(iP f)])]<|fun g=>gE 3 1 (nI g))<|gE 8 1 (nI 0))<|gE 13 1 (nI 0))<|.b 13 27 (a.op==15) (gd 5 23 (b>0) (gw 7 34 (b-1)<|vA 0 a.pats (b-1)<|fun c d e f=>gpI 1 177 [(.agg [(nI c),(nI d),(dP e),(iP f)])]<|fun g=>gE 3 1 (nI g))<|gE 8 1 (nI 0))<|gE 13 1 (nI 0)
def aVp:=fun a b c=>aQV a b|>.t c tv
def aVq:=fun a b c d=>aQV a b|>.f c|>.t d tv
def aVr:=fun a b c d e f=>aQV a b|>.f c|>.f d|>.t e|>.t f tv
def aVs:=fun a b c d e f g=>aQV a b|>.f c|>.f d|>.t e|>.f f|>.f g tv
def aVt:=fun a b c d e f g i j k l m n o p q=>aQV a b|>.f i|>.f j|>.f k|>.t l|>.t m n c d e f o p g q tv
def aVu:=fun a b c d e f g=>aQV a b|>.f c|>.f d|>.f e|>.t f|>.f g tv
def aVv:=fun a b c d e f=>aQV a b|>.f c|>.f d|>.f e|>.f f tv
def bHW(a c:Int)(d:cA)(b:List Pat):=tT 0 (start PP 177 [(.agg [(nI a),(nI c),(dP d),(iP b)])])<|.b 12 8 (a==2) (gE 6 1 (nI 1))<|gm 11 aH b<|.W 4 1 [] (zX a c d b 0 0)
def aQW:=fun a b c d e=>bHW a b c d|>.t e tv
def aQX:=fun a b c d e=>bHW a b c d|>.f e tv
def bHX(d e:Int)(f:cA)(b:List Pat)(c a:Int):=tT 0 (zX d e f b c a)<|gd 5 13 (a< (b.length:Int)) (vA 6 b a<|fun i j k l=>gpI 7 177 [(.agg [(nI i),(nI j),(dP k),(iP l)])]<|fun g=>gw 1 19 (c+g)<|gw 5 20 (a+1)<|.W 3 1 [] (zX d e f b (c+g) (a+1)))<|gE 8 0 (nI c)
def aQY:=fun a b c d e f g i j k l m n o p q r=>bHX a b c d e f|>.t m g i j k n o l p q r tv
def aQZ:=fun a b c d e f g=>bHX a b c d e f|>.f g tv
theorem Ends.val {P:Program}{m:Nat}{s:AS}{v v':AV}{h':Hp}(h:Ends P m s (.ret v) h')(i:∀E b,VR E v b→VR E v' b) :Ends P m s (.ret v') h':=fun hm E fr c w f fs r o a=>by
 obtain⟨d,n,j,p,⟨b,e,g⟩,l,k⟩ :=h hm E fr c w f fs r o a;exact⟨d,n,j,p,⟨b,e,i _ _ g⟩,l,k⟩
theorem nM {E:Emb}{e:Nat}{xs:List AV}{cv:Value}(h:VR E (.ilst e xs true) cv) :VR E (.ilst e xs false) cv:=by
 simp only [VR]at h ⊢;obtain⟨m,n,i,l⟩ :=h;refine⟨m,n,i,?_⟩;rcases l with⟨c,a,b,f,d,g⟩ | ⟨k,a,b,C,c,f,d,g,j⟩
 ·exact .inl ⟨c,a,b,f,d,fun e=> (by cases e)⟩
 ·exact .inr ⟨k,a,b,C,c,f,d,fun e=> (by cases e),j⟩
mutual
def bnm :Pat→Int
 | .mk f _ _ ps=>if f=2 then 1 else qY ps
def qY :List Pat→Int
 | [] =>0
 |p::ps=>bnm p+qY ps
end
mutual
def rnm :Pat→Int
 | .mk f _ _ ps=> (if f=2 then 1 else 0) +aXD ps
def aXD :List Pat→Int
 | [] =>0
 |p::ps=>rnm p+aXD ps
end
mutual
theorem aGL :∀p,0≤bnm p∧bnm p≤cB p
 | .mk f _ _ a=>by
  have:=zY a;simp only [bnm,cB];split<;>omega
theorem zY :∀a,0≤qY a∧qY a≤aT a
 | [] =>by simp [qY,aT]
 | p::a=>by
  have:=aGL p;have:=zY a;simp only [qY,aT];omega
end
mutual
theorem bE7 (cons:List Con) :∀p,cJ cons p=true→bnm p=rnm p
 | .mk f n s a,h=>by
  simp only [cJ,cF]at h;have:=aXE cons a h.2;simp only [bnm,rnm];by_cases g:f=2
  · have hk:=h.1;subst g;simp only [dL]at hk;simp at hk;obtain⟨⟨hk,_⟩,_⟩ :=hk;subst hk;simp [aXD]
  ·rw [if_neg g,if_neg g,this];omega
theorem aXE (cons:List Con) :∀a,bY cons a=true→qY a=aXD a
 | [],_=>rfl
 | p::a,h=>by
  simp only [bY,cF]at h;simp only [qY,aXD,bE7 cons p h.1,aXE cons a h.2]
end
theorem aEf (f n:Int)(s:cA)(ps:List Pat)(hl:ps.length<1000000)(j:∀p∈ps,aJ PP 177 [Pat.av p] (.int .i64 (bnm p))) :
  ∀ (t:List Pat) (i:Nat) (a:Int),0≤a→a+qY t≤1000000→ps.drop i=t→Ends PP 0 (zX f n s ps a (i:Int)).as (.ret (.int .i64 (a+qY t))) (aA [] 0)
 | [],i,a,_,_,h=>by
  have:=bJ h;exact Ends.eqv (aQZ f n s ps a i sd) (by simp [qY])
 | .mk e d c b::t,i,a,q,hb,h=>by
  obtain⟨k,l,r⟩ :=bE h;have g:=j _ (iO k);have o:=aGL (.mk e d c b);have m:=zY t;rw [qY]at hb ⊢;refine(aQY f n s ps a i e d c b _ sd sd sd g sd sd).ends ?_;exact Ends.eqv (aEf f n s ps hl j t (i+1) (a+bnm (.mk e d c b)) (by omega) (by omega) l) (by rw [Int.add_assoc])
mutual
theorem aEg :∀ (p:Pat),cB p<100000→aJ PP 177 [Pat.av p] (.int .i64 (bnm p))
 | .mk f n s a,h=>by
  refine aO aC (by simp [keylessL,mF]) rfl ?_;simp only [cB]at h;have:=eT a;have b:=zY a;by_cases g:f=2
  · subst g;exact Ends.eqv (aQW 2 n s a rfl) (by simp [bnm])
  · refine(aQX f n s a (by simpa using g)).ends ?_;exact Ends.eqv (aEf f n s a (by omega) (aGM a (by omega)) a 0 0 (by omega) (by omega) rfl) (by simp [bnm,g])
theorem aGM :∀ (b:List Pat),aT b<100000→∀p∈b,aJ PP 177 [Pat.av p] (.int .i64 (bnm p))
 | [],_,p,a=>by cases a
 | q::b,h,p,a=>by
  simp only [aT]at h;rcases zq7.1 a with e|a
  ·rw [e];exact aEg q (by omega)
  ·exact aGM b (by omega) p a
end
def eR (x:Node)(k:Int) :Int:=
 if x.op=5∨x.op=27∨ (x.op=7∧k=1)then 1
 else if x.op=15∧k>0 then(match x.pats[(k-1).toNat]? with|some q=>bnm q|none=>0)else 0
structure FineN (cons:List Con) (x:Node) :Prop where
 pats:∀q∈x.pats,cB q≤12∧cJ cons q=true
 mat:x.op=15→x.kids.length=1+x.pats.length
 let2:x.op=7→x.kids.length=2
theorem aKQ {p:Prog}{x:Node}(h:aM p x=true) :FineN p.cons x:=by
 simp only [aM,cF,decide_eq_true_eq]at h;obtain⟨⟨_,b⟩,a⟩ :=h;refine⟨fun q c=>?_,fun e=>?_,fun e=>?_⟩
 · have:=zq27.1 b q c;simpa [eQ]using this
 ·rw [e]at a;simp [cL]at a;omega
 ·rw [e]at a;simp [cL]at a;omega
theorem aXF {cons:List Con}{x:Node}(b:FineN cons x)(k:Int) :0≤eR x k∧eR x k≤12:=by
 unfold eR;split
 ·omega
 · split
   · split
     · rename_i q a;have:= (b.pats q (iO a)).1;have:=aGL q;omega
     ·omega
   ·omega
theorem aVw {x:Node}{k:Int}(a:x.op=15)(hk:k>0){q:Pat}(b:x.pats[(k-1).toNat]?=some q) :eR x k=bnm q:=by
 unfold eR;rw [if_neg (by rw [a];omega),if_pos ⟨a,hk⟩,b]
theorem aQ0 {cons:List Con}{x:Node}(j:FineN cons x){k:Int}(o:0≤k)(h1:k<x.kids.length)(hk:x.kids.length≤10) :aJ PP 134 [Node.av x,.int .i64 k] (.int .i64 (eR x k)) :=by
 refine aO aC rfl rfl ?_
 have l:x.op=15→k>0→∃f n s h,x.pats[(k-1).toNat]?=some (.mk f n s h) ∧aJ PP 177 [Pat.av (.mk f n s h)] (.int .i64 (bnm (.mk f n s h))) :=fun e g=>by
  have hl:=j.mat e;obtain⟨q,i⟩ :∃q,x.pats[(k-1).toNat]?=some q:= ⟨_,kH (by omega)⟩;obtain⟨f,n,s,h⟩ :=q;have:= (j.pats _ (iO i)).1;exact⟨f,n,s,h,i,aEg _ (by omega)⟩
 by_cases d:x.op=5
 ·exact Ends.eqv (aVp x k (by simp [d])) (by simp [eR,d])
 · by_cases a:x.op=27
   ·exact Ends.eqv (aVq x k (by simp [d]) (by simp [a])) (by simp [eR,a])
   · by_cases c:x.op=7
     · by_cases gk:k=1
       ·exact Ends.eqv (aVr x k (by simp [d]) (by simp [a]) (by simp [c]) (by simp [gk])) (by simp [eR,c,gk])
       ·exact Ends.eqv (aVs x k (by simp [d]) (by simp [a]) (by simp [c]) (by simp [gk]) (by simp [c])) (by simp [eR,c,gk])
     · by_cases b:x.op=15
       · by_cases gk:k>0
         · obtain⟨f,n,s,h,i,m⟩ :=l b gk;exact Ends.eqv (aVt x k f n s h _ (by simp [d]) (by simp [a]) (by simp [c]) (by simp [b]) (by simpa using gk) sd (by omega) i m) (by rw [aVw b gk i])
         ·exact Ends.eqv (aVu x k (by simp [d]) (by simp [a]) (by simp [c]) (by simp [b]) (by simpa using gk)) (by simp [eR,b,gk])
       ·exact Ends.eqv (aVv x k (by simp [d]) (by simp [a]) (by simp [c]) (by simp [b])) (by simp [eR,d,a,c,b])
abbrev bHY:=[oC 1 [(bV false)],oC 2 [(nI 0)],(3,(.loop .ready none 46 (dO [kp 1 7,kp 2 1,kp 3 2]) 32 [15] (kd f46 116) (kd f46 117) 4),false),(4,(.defd false),false),oC 5 [(.yield 3)]]
abbrev bBi (a:Nat)(b:Prog):=oC a [(iN b.nodes),(iI b.funs),(nI b.main),(iC b.cons)]
abbrev bHZ (a:Prog)(b c d:Int):=aA [oC 0 [(.func 133 [] [(.ptr 5 0),(.ptr 6 0),(.ptr 0 0)])],oC 1 [(bV false)],oC 2 [(nI 0)],(3,(.loop .done (some .ret) 46 (dO [kp 1 7,kp 2 1,kp 3 2]) 32 [15] (kd f46 116) (kd f46 117) 4),false),(4,(.defd false),false),oC 5 [(.yield 3)],bBi 6 a,bBi 7 a,oC 8 [(nI b),(nI c),(nI d)]] 9
abbrev bBj (a:Prog)(b c d:Int):=aA ([oC 0 [(.func 133 [] [(.ptr 5 0),(.ptr 6 0),(.ptr 0 0)])]]++bHY++[bBi 6 a,bBi 7 a,oC 8 [(nI b),(nI c),(nI d)]]) 9
abbrev aGN (a:Nat):=oC a [(.func 133 [] [(.ptr 5 0),(.ptr 6 0),(.ptr 0 0)])]
abbrev qZ (a:Nat)(b:Prog):=oC a [(iN b.nodes),(iI b.funs),(nI b.main),(iC b.cons)]
def bE8(a:Prog):TS:=cO PP 46 [(Prog.av a)] [] 0
def aKR(a:Prog)(b:Int):TS:=⟨(tf 132 23 [kp 3 0,(9,(iI a.funs)),(10,(nI (a.funs.length:Int))),(11,(nI b))] [kc f132 124,kl f132 124,.inBlock 0]),[(tf 46 32 [kp 2 1,kp 3 2] [.inRF 3,.inBlock 0,kc f46 15] (defers:=[.col 4]))],[aGN 0,oC 1 [(bV false)],oC 2 [(nI 0)],(3,(.loop .ready none 46 (dO [kp 1 7,kp 2 1,kp 3 2]) 32 [15] (kd f46 116) (kd f46 117) 4),false),(4,(.defd false),false),oC 5 [(.yield 3)],qZ 6 a,qZ 7 a],8⟩
def bJn(a:Prog):List (Nat×AObj×Bool):=[aGN 0,oC 1 [(bV false)],oC 2 [(nI 0)],(3,(.loop .done (some .ret) 46 (dO [kp 1 7,kp 2 1,kp 3 2]) 32 [15] (kd f46 116) (kd f46 117) 4),false),(4,(.defd false),false),oC 5 [(.yield 3)],qZ 6 a,qZ 7 a]
def aGO(a:Prog)(b c d:Int):TS:=cO PP 133 [(.agg [(nI b),(nI c),(nI d)]),(.ptr 5 0),(.ptr 6 0),(.ptr 0 0)] [aGN 0,oC 1 [(bV false)],oC 2 [(nI 0)],(3,(.loop .ready none 46 (dO [kp 1 7,kp 2 1,kp 3 2]) 32 [15] (kd f46 116) (kd f46 117) 4),false),(4,(.defd false),false),oC 5 [(.yield 3)],qZ 6 a,qZ 7 a] 8
def aCb(a:Prog)(b c d:Int)(e:List Int)(f g:Int):TS:=⟨(tf 133 46 [kp 2 6,kp 3 0,kp 4 8,(5,(bV false)),(19,(iI e)),(20,(nI f)),(21,(nI g))] [kc f133 116,kl f133 116,.inBlock 0,kc f133 15]),[],([aGN 0]++bHY++[qZ 6 a,qZ 7 a,oC 8 [(nI b),(nI c),(nI d)]]),9⟩
def bH0(a:Prog):=tT 0 (bE8 a)<|gpI 10 45 [(Prog.av a)]<|fun b=>.b 7 10 (b != 0) (gE 8 3 (.tup [(bV false),(nI b)]))<|.i [rn 23,.lkeep 5 [1,2,3]] []<|gl 18 bU a.funs<|.W 4 8 [7,1,2,5,4,6,3,0] (aKR a 0)
def bBk:=fun a b c d=>bH0 a b c|>.t d tv
def bBl:=fun a b c d=>bH0 a b c|>.f d tv
def bGw(a:Prog)(b:Int):=tT 0 (aKR a b)<|gd 5 12 (b< (a.funs.length:Int)) (gX bU 7 a.funs b<|fun c=>.o (gk 10 (.enter 133 [(.agg [(nI c),(nI b),(nI 1)]),(.ptr 5 0),(.ptr 6 0),(.ptr 0 0)]) [aGN 0,oC 1 [(bV false)],oC 2 [(nI 0)],(3,(.loop .ready none 46 (dO [kp 1 7,kp 2 1,kp 3 2]) 32 [15] (kd f46 116) (kd f46 117) 4),false),(4,(.defd false),false),oC 5 [(.yield 3)],qZ 6 a,qZ 7 a] 8 (bV false) [aGN 0,oC 1 [(bV false)],oC 2 [(nI 0)],(3,(.loop .done (some .ret) 46 (dO [kp 1 7,kp 2 1,kp 3 2]) 32 [15] (kd f46 116) (kd f46 117) 4),false),(4,(.defd false),false),oC 5 [(.yield 3)],qZ 6 a,qZ 7 a] 8<|gE 8 8 (.tup [(bV false),(nI 0)]))<|gk 10 (.enter 133 [(.agg [(nI c),(nI b),(nI 1)]),(.ptr 5 0),(.ptr 6 0),(.ptr 0 0)]) [aGN 0,oC 1 [(bV false)],oC 2 [(nI 0)],(3,(.loop .ready none 46 (dO [kp 1 7,kp 2 1,kp 3 2]) 32 [15] (kd f46 116) (kd f46 117) 4),false),(4,(.defd false),false),oC 5 [(.yield 3)],qZ 6 a,qZ 7 a] 8 (bV true) [aGN 0,oC 1 [(bV false)],oC 2 [(nI 0)],(3,(.loop .ready none 46 (dO [kp 1 7,kp 2 1,kp 3 2]) 32 [15] (kd f46 116) (kd f46 117) 4),false),(4,(.defd false),false),oC 5 [(.yield 3)],qZ 6 a,qZ 7 a] 8<|gw 7 22 (b+1)<|.W 3 8 [0,1,2,3,4,5,6,7] (aKR a (b+1)))<|gE 13 8 (.tup [(bV true),(nI 0)])
def bBm:=fun a b c d e f g=>bGw a b|>.t d c e f|>.1 g tv
def bBn:=fun a b c d e f g i=>bGw a b|>.t d c e f|>.2 g i tv
def bBo:=fun a b c=>bGw a b|>.f c tv
def bGx(a:Prog)(c e d:Int):=tT 8 (aGO a c e d)<|gX Node.av 23 a.nodes c<|fun b=>.b 10 25 (b.op==4) (gd 7 31 (b.n≥d) (.E 15 11 [] (bV false) [aGN 0,oC 1 [(bV false)],oC 2 [(nI 0)],(3,(.loop .done (some .ret) 46 (dO [kp 1 7,kp 2 1,kp 3 2]) 32 [15] (kd f46 116) (kd f46 117) 4),false),(4,(.defd false),false),oC 5 [(.yield 3)],qZ 6 a,qZ 7 a] 8)<|gi Node.av 16 a.nodes c b<|gl 2 bU b.kids<|.W 4 11 [8] (aCb a c e d b.kids (b.kids.length:Int) 0))<|gi Node.av 23 a.nodes c b<|gl 2 bU b.kids<|.W 4 11 [8] (aCb a c e d b.kids (b.kids.length:Int) 0)
def aXG:=fun a b c d e f g i j=>bGx a b c d e f g|>.t i|>.t j tv
def aXH:=fun c d e f g a b i j=>bGx c d e f g a b|>.t i|>.f j a b tv
def aXI:=fun c d e f g a b i=>bGx c d e f g a b|>.f i a b tv
def bGy(a:Prog)(d b c:Int)(i:List Int)(j e:Int):=tT 8 (aCb a d b c i j e)<|gd 5 22 (e<j) (gX bU 7 i e<|fun k=>.o (.y fun f:Node=>.y fun g:Int=>.i [rn 5,.reg (rd 11 [.ans (.idx (Node.av f)),.d,.d,.pure (nI g),.d,.d,.call (bV false) (bHZ a d b c),.d])] [hA (0≤d),.a (((a.nodes)[d.toNat]?) =some f) (bP (f:=Node.av)),hA (aJ PP 134 [(Node.av f),(nI e)] (nI g)),hA (Spec PP (.enter 133 [(.agg [(nI k),(nI b),(nI (IntKind.i64.wrap (c+g)))]),(.ptr 5 0),(.ptr 6 0),(.ptr 0 0)]) (bBj a d b c) (.ret (bV false)) (bHZ a d b c)),hr (nI c),hr (nI c),hr (nI b),hr (nI b),hr (func 133 [] [(.ptr 5 0),(.ptr 6 0),(.ptr 0 0)]),hr (func 133 [] [(.ptr 5 0),(.ptr 6 0),(.ptr 0 0)])]<|.E 6 9 [] (bV false) [aGN 0,oC 1 [(bV false)],oC 2 [(nI 0)],(3,(.loop .done (some .ret) 46 (dO [kp 1 7,kp 2 1,kp 3 2]) 32 [15] (kd f46 116) (kd f46 117) 4),false),(4,(.defd false),false),oC 5 [(.yield 3)],qZ 6 a,qZ 7 a] 8)<|.y fun f:Node=>.y fun g:Int=>.i [rn 5,.reg (rd 11 [.ans (.idx (Node.av f)),.d,.d,.pure (nI g),.d,.d,.call (bV true) (bBj a d b c),.d])] [hA (0≤d),.a (((a.nodes)[d.toNat]?) =some f) (bP (f:=Node.av)),hA (aJ PP 134 [(Node.av f),(nI e)] (nI g)),hA (Spec PP (.enter 133 [(.agg [(nI k),(nI b),(nI (IntKind.i64.wrap (c+g)))]),(.ptr 5 0),(.ptr 6 0),(.ptr 0 0)]) (bBj a d b c) (.ret (bV true)) (bBj a d b c)),hr (nI c),hr (nI c),hr (nI b),hr (nI b),hr (func 133 [] [(.ptr 5 0),(.ptr 6 0),(.ptr 0 0)]),hr (func 133 [] [(.ptr 5 0),(.ptr 6 0),(.ptr 0 0)])]<|gw 5 45 (e+1)<|.W 3 9 [8] (aCb a d b c i j (e+1)))<|.E 7 9 [] (bV true) [aGN 0,oC 1 [(bV false)],oC 2 [(nI 0)],(3,(.loop .ready none 46 (dO [kp 1 7,kp 2 1,kp 3 2]) 32 [15] (kd f46 116) (kd f46 117) 4),false),(4,(.defd false),false),oC 5 [(.yield 3)],qZ 6 a,qZ 7 a] 8
def aXJ:=fun a b c d e f g i j k l m n o p q r=>bGy a b c d e f g|>.t l i m n|>.1 j k o p q r tv
def aXK:=fun a b c d e f g i j k l m n o p q r s=>bGy a b c d e f g|>.t l i m n|>.2 j k o p q r s tv
def aXL:=fun a b c d e f g i=>bGy a b c d e f g|>.f i tv
structure FineP (p:Prog) :Prop where
 small:p.nodes.length≤320
 fsmall:p.funs.length≤320
 node:∀ (i:Nat) (x:Node),p.nodes[i]?=some x→FineN p.cons x∧x.kids.length≤10∧∀k∈x.kids,(i:Int) <k∧k<p.nodes.length
 funs:∀f∈p.funs,0≤f∧f<p.nodes.length
def bGz (a fn sz:Int) :AV:=.agg [.int .i64 a,.int .i64 fn,.int .i64 sz]
section
variable (p :Prog) (mf mc:List (Int×Int))
variable {p mf mc}
end
theorem aI2 {P:Program}{f:Nat}{b args':List AV}{v v':AV}{l l' lc lc':List (Nat×AObj×Bool)}{m nb a n2 n3:Nat}{ks:List Nat}
  (t:gI P m (.enter f b) (aA l nb) (.ret v) (aA l' a)) (u:a-m+n2=n3) (ev:ren (kL m n2 ks) v=v') (c:AV.renL (fE 0 nb n2 ks) b=args') (hm:ble m nb=true) (q:ble m a=true)
  (j:cR 0 ⟨⟨0,0,[],[],[],.run,.normal,none⟩,[],l,nb⟩ ks=true) (hl:tG (aA lc n2) (fE 0 nb n2 ks) l=iE (fE 0 nb n2 ks) l) (s:fJ l)
  (g:tG (aA lc' n3) (kL m n2 ks) l'=iE (kL m n2 ks) l') (d:fJ l') (r:yL l'=true:=by kernel_rfl) (n:fS a l'=true:=by kernel_rfl)
  (w:fS n2 lc=true:=by kernel_rfl) (o:fS n3 lc'=true:=by kernel_rfl) (i:ks.all (fun k=>blt k n2) =true:=by kernel_rfl) (e:aD5 (namesT (kL m n2 ks) l') (l.map fun p=>ks.getD p.1 0) (aA lc n2) lc'=qX lc':=by kernel_rfl) (h:qX l'= (l'.map fun p=> (aA l' a).look p.1) :=by kernel_rfl) :
  Spec P (.enter f args') (aA lc n2) (.ret v') (aA lc' n3) :=by
 subst u ev;exact aWz t c hm q j hl s g d r n w o i e h
def bN (mf mc:List (Int×Int))(op n:Int) :Int:=if op=4 then(if 0≤n then n else -1-mAt mf (-1-n))else if op=14 then mAt mc n else n
def aCc (mf mc:List (Int×Int))(to:List Int)(x:Node) :Node:= ⟨x.op,bN mf mc x.op x.n,x.kids.map (aUw to),oR mc x.pats⟩
def nOk (mf:List (Int×Int))(x:Node) :Prop:=aT x.pats<1000000∧ (x.op=4→x.n<0→ -1000000000≤x.n∧ -1000000000≤mAt mf (-1-x.n) ∧mAt mf (-1-x.n) ≤1000000000)
section
variable (p :Prog) (mf mc:List (Int×Int)) (to:List Int)
variable {p mf mc to}
end
section
variable {P :Program}
def bH1 (Q:Nat→AObj→Prop) :List (Nat×AObj×Bool) →Prop
 | [] =>True
 | (b,o,_) ::l=>Q b o∧bH1 Q l
theorem aZ {Q:Nat→AObj→Prop}:∀ {l:List (Nat×AObj×Bool)} {nb:Nat},bH1 Q l→∀x o,(aA l nb).look x=some o→Q x o:=fun {l nb} hq x o e=>by
 obtain⟨f,hm⟩ :=hU e;clear e
 induction l with
 |nil=>cases hm
 | cons p l ih=>
  obtain⟨b,q,g⟩ :=p;rcases zq7.1 hm with h|h
  ·cases h;exact hq.1
  ·exact ih hq.2 h
theorem mJ {α:Type}{m:Nat}{s:AS}{t:α→AS}{ok:α→Prop}{res:Res}{hf:Hp}(z:aA1 s.h ok (fun x=> (t x).h))(hfr:∀x,(t x).fr=s.fr∧ (t x).cs=s.cs)(k:∀x,ok x→Ends P m (t x) res hf) :Ends P m s res hf:=
 aMW (fr:=s.fr) (cs:=s.cs) (h:=s.h) z (fun x hx=>by
  have h2:=k x hx;obtain⟨e1,e2⟩ :=hfr x;rw [←e1,←e2];exact h2)
theorem mK {m:Nat}{s t:AS}(z:kV s.h t.h)(hfr:t.fr=s.fr)(hcs:t.cs=s.cs) :LeadsM P m s t:=by
 have:=aMV (P:=P) (m:=m) (fr:=s.fr) (cs:=s.cs) z;have e:t= ⟨s.fr,s.cs,t.h⟩ :=by rw [←hfr,←hcs]
 rw [e];exact this
theorem yT {m:Nat}{s t:AS}{j:Nat}{v v':AV}(hj:s.fr.tm.at j=some v)(ht:m≤s.h.nb→rN m s.h t.h v v')(hfr:t.fr= {s.fr with tm:=s.fr.tm.put j v'})(hcs:t.cs=s.cs) :LeadsM P m s t:=by
 have:=jS (P:=P) (fr:=s.fr) (cs:=s.cs) hj ht;have e:t= ⟨{s.fr with tm:=s.fr.tm.put j v'},s.cs,t.h⟩ :=by rw [←hfr,←hcs]
 rw [e];exact this
theorem rQ {m:Nat}{s:AS}{v:AV}{h h':Hp}(e:Ends P m s (.ret v) h)(z:kV h h')(hm:m≤h.nb) :Ends P m s (.ret v) h':=fun hm0 E fr ccs w f fs r cl base=>by
 obtain⟨cl',w',E2,s1,⟨cv,rfl,g2⟩,r2,x2⟩ :=e hm0 E fr ccs w f fs r cl base;obtain⟨E3,h1,h2,h3⟩ :=z E2 w' r2;exact⟨_,w',E3,s1,⟨cv,rfl,g2.mono h1⟩,h2,x2.trans (h3 m hm)⟩
theorem iK {m:Nat}{s:AS}{v v0:AV}{lc l:List (Nat×AObj×Bool)}{nb n2:Nat}{ks:List Nat}(e:Ends P m s (.ret v0) (aA lc n2))(hv:ren (fE m nb n2 ks) v=v0)
  (hok:cR m ⟨⟨0,0,[],[],[],.run,.normal,none⟩,[],l,nb⟩ ks=true) (hh:tG (aA lc n2) (fE m nb n2 ks) l=iE (fE m nb n2 ks) l) (hkl:fJ l) :Ends P m s (.ret v) (aA l nb) :=fun hm E fr ccs w f fs r cl base=>by
 obtain⟨cl',w',E2,s1,⟨cv,rfl,g2⟩,r2,x2⟩ :=e hm E fr ccs w f fs r cl base;obtain⟨q1,q2⟩ :=kT hok hh hkl r2;subst hv;exact⟨_,w',_,s1,⟨cv,rfl,(gU _ _ _ _).1 g2⟩,q1,x2.trans q2⟩
mutual
def IsTree (p:Prog) :XT→Int→Prop
 | .mk o n ks ps,at0=>0≤at0∧∃nd,p.nodes[at0.toNat]?=some nd∧nd.op=o∧nd.n=n∧nd.pats=ps∧aE p ks nd.kids
def aE (p:Prog) :List XT→List Int→Prop
 | [],l=>l= []
 |t::ts,l=>∃k l',l=k::l'∧IsTree p t k∧aE p ts l'
end
end
inductive KV where
 |row (l:List Int)
 |nil
 |val (u:Value)
def KV.av :KV→AV
 | .row l=>.ilst 1 (map bU l) false
 | .nil=>.nils
 | .val u=>.val u
structure ONode where
 op:Int
 n:Int
 kv:KV
 pats:List Pat
def ONode.av (x:ONode) :AV:=.agg [.int .i64 x.op,.int .i64 x.n,x.kv.av,.ilst 4 (Pats.av x.pats) false]
def Node.o (x:Node) :ONode:= ⟨x.op,x.n,.row x.kids,x.pats⟩
theorem aKS (l:List Node) :map ONode.av (map Node.o l) =map Node.av l:=by
 rw [aMh];rfl
theorem bH2 :∀k:KV,keyless k.av=true
 | .row l=>by simp only [KV.av,keyless]
 | .nil=>rfl
 | .val u=>rfl
theorem dI (x:ONode) :keyless x.av=true:=by
 simp only [ONode.av,keyless,keylessL,bH2,aB0,Bool.and_true]
theorem aKT {E:Emb}{x y:AV}(j:∀v,VR E x v→VR E y v) :∀ {c:List AV} {i:Nat},c[i]?=some x→∀d,VRs E c d→VRs E (c.set i y) d
 | [],i,h,d,b=>by simp at h
 | a::c,0,h,d,b=>by
  simp only [VRs]at b;obtain⟨u,e,rfl,g,f⟩ :=b;simp at h;subst h;simp only [List.set_cons_zero,VRs];exact⟨u,e,rfl,j u g,f⟩
 | a::c,i+1,h,d,b=>by
  simp only [VRs]at b;obtain⟨u,e,rfl,g,f⟩ :=b;simp only [lV]at h;simp only [List.set_cons_succ,VRs];exact⟨u,e,rfl,g,aKT j h e f⟩
theorem aN9 {E:Emb}{x:ONode}{k:KV}(hk:∀v,VR E x.kv.av v→VR E k.av v) :∀v,VR E x.av v→VR E (ONode.av ⟨x.op,x.n,k,x.pats⟩) v:=fun v h=>by
 simp only [ONode.av,VR,VRs]at h ⊢;obtain⟨i,rfl,m,e,rfl,a,g,f,rfl,c,l,j,rfl,b,d⟩ :=h;exact⟨_,rfl,_,_,rfl,a,_,_,rfl,c,_,_,rfl,hk _ b,d⟩
theorem aQ1 {E:Emb}:∀v,VR E KV.nil.av v→VR E (KV.row []).av v:=fun v h=>by
 simp only [KV.av,VR]at h;simp only [KV.av,VR,map_nil];exact⟨[],VRs.nil _,fun _ a=>by(cases a),.inl ⟨rfl,none,0,h,fun _=>rfl,fun _=>rfl⟩⟩
theorem aXM {l:List ONode}{i:Nat}{y:ONode}(h:l[i]?=some y)(hk:y.kv= .nil) :VW (map ONode.av l) (map ONode.av (l.set i ⟨y.op,y.n,.row [],y.pats⟩)) :=fun E b a=>by
 have c: (map ONode.av l)[i]?=some y.av:=by rw [mZ,h];rfl
 rw [map_set];exact aKT (aN9 (by rw [hk];exact aQ1)) c b a
theorem aXN {l:List ONode}{i:Nat}{y:ONode}{u:Value}{ks:List Int}(h:l[i]?=some y)(hk:y.kv= .val u) :VQ u 1 (map bU ks) (map ONode.av l) (map ONode.av (l.set i ⟨y.op,y.n,.row ks,y.pats⟩)) :=fun E d c b=>by
 have e: (map ONode.av l)[i]?=some y.av:=by rw [mZ,h];rfl
 rw [map_set];refine aKT (aN9 (fun v a=>?_)) e d b;rw [hk]at a;simp only [KV.av,VR]at a;subst a;exact c
theorem aKU {a:Type}{f:a→AV}{l:List a}{i:Nat}{y:a}(h:l[i]?=some y) :map f l≠ [] :=fun e=>by
 cases l with
 |nil=>simp at h
 |cons _ _=>cases e
abbrev sN (a b:Int)(c:cA)(d:List Pat):AV:=.agg [(nI a),(nI b),(dP c),(iP d)]
abbrev aA6 (a:List XT):AV:=.ilst 1 (XTs.av a) false
def bH3(a b:Int)(c:cA)(d:List Pat):TS:=cO PP 201 [(sN a b c d)] [] 0
def aKV(d e:Int)(f:cA)(a:List Pat)(b c:Int):TS:=⟨(tf 201 22 [(2,(nI 0)),(3,(nI b)),(10,(iP a)),(11,(nI (a.length:Int))),(12,(nI c))] [kc f201 244,kl f201 244,.inBlock 0,kc f201 31]),[],[],0⟩
def bH4(a b:Int)(c:List XT)(d:List Pat)(e:Int):TS:=cO PP 178 [(.iptr [(nI a),(nI b),(aA6 c),(iP d)]),(nI e)] [] 0
def bH5(a b:Int)(c:List XT)(d:List Pat):TS:=cO PP 138 [(.iptr [(nI a),(nI b),(aA6 c),(iP d)])] [] 0
def bH6(a b:Int)(c:List XT)(d:List Pat):TS:=cO PP 137 [(.iptr [(nI a),(nI b),(aA6 c),(iP d)])] [] 0
def bH7(a b:Int)(c:List XT)(d:List Pat):TS:=cO PP 95 [(.iptr [(nI a),(nI b),(aA6 c),(iP d)])] [] 0
def aKW(a b:Int)(c:List XT)(d:List Pat)(e f:Int):TS:=⟨(tf 95 38 [(0,(.iptr [(nI a),(nI b),(aA6 c),(iP d)])),(2,.nili),(22,(nI e)),(23,(nI f))] [kc f95 116,kl f95 116,.inBlock 0,kc f95 15]),[],[],0⟩
def bH8(a b:Int)(c:cA)(d:List Pat):TS:=cO PP 162 [(sN a b c d)] [] 0
def aKX(c d:Int)(e:cA)(a:List Pat)(f:Int)(b:List Pat):TS:=⟨(tf 162 22 [kp 1 0,kp 2 1,(3,(.gl 2 4 0 b.length false)),(7,(iP a)),(8,(nI (a.length:Int))),(9,(nI f))] [kc f162 116,kl f162 116,.inBlock 0,kc f162 15]),[],[oC 0 [(nI c),(nI d),(dP e),(iP a)],oC 1 [(nI 0),(nI 0),(.str 0 0),.nils],oL 2 4 (Pats.av b)],3⟩
def bH9(a:List Pat):TS:=cO PP 120 [(iP a)] [] 0
def aKY(a:List Pat)(c:Int)(b:List Pat):TS:=⟨(tf 120 19 [(2,.nils),(3,(.gl 0 4 0 b.length false)),(6,(iP a)),(7,(nI (a.length:Int))),(8,(nI c))] [kc f120 116,kl f120 116,.inBlock 0,kc f120 15]),[],[oL 0 4 (Pats.av b)],1⟩
def aXO(a c:Int)(d:cA)(b:List Pat):=tT 0 (bH3 a c d b)<|.b 12 8 (a==2) (gE 6 1 (nI 1))<|gm 11 aH b<|.W 4 1 [] (aKV a c d b 0 0)
def bBp:=fun a b c d e=>aXO a b c d|>.t e tv
def bBq:=fun a b c d e=>aXO a b c d|>.f e tv
def aXP(d e:Int)(f:cA)(b:List Pat)(c a:Int):=tT 0 (aKV d e f b c a)<|gd 5 13 (a< (b.length:Int)) (vA 6 b a<|fun i j k l=>gpI 7 201 [(sN i j k l)]<|fun g=>gw 1 19 (c+g)<|gw 5 20 (a+1)<|.W 3 1 [] (aKV d e f b (c+g) (a+1)))<|gE 8 0 (nI c)
def bBr:=fun a b c d e f g i j k l m n o p q r=>aXP a b c d e f|>.t m g i j k n o l p q r tv
def bBs:=fun a b c d e f g=>aXP a b c d e f|>.f g tv
def aA7(b j:Int)(k:List XT)(c:List Pat)(a:Int):=tT 0 (bH4 b j k c a)<|.b 14 11 (b==5) (gE 25 0 (nI 1))<|.b 7 18 (b==27) (gE 18 0 (nI 1))<|.b 6 24 (b==7) (.b 6 5 (a==1) (gE 6 0 (nI 1))<|.b 9 35 (b==15) (gd 5 29 (a>0) (gw 9 44 (a-1)<|vA 0 c (a-1)<|fun d e f g=>gpI 1 201 [(sN d e f g)]<|fun i=>gE 3 0 (nI i))<|gE 8 0 (nI 0))<|gE 13 0 (nI 0))<|.b 15 35 (b==15) (gd 5 29 (a>0) (gw 9 44 (a-1)<|vA 0 c (a-1)<|fun d e f g=>gpI 1 201 [(sN d e f g)]<|fun i=>gE 3 0 (nI i))<|gE 8 0 (nI 0))<|gE 13 0 (nI 0)
def bBt:=fun a b c d e f=>aA7 a b c d e|>.t f tv
def bBu:=fun a b c d e f g=>aA7 a b c d e|>.f f|>.t g tv
def bBv:=fun a b c d e f g i j=>aA7 a b c d e|>.f f|>.f g|>.t i|>.t j tv
def bBw:=fun a b c d e f g i j k=>aA7 a b c d e|>.f f|>.f g|>.t i|>.f j|>.f k tv
def bBx:=fun a b c d e f g i j k l m n o p q r s t=>aA7 a b c d e|>.f l|>.f m|>.f n|>.t o|>.t p q f g i j r s k t tv
def bBy:=fun a b c d e f g i j k=>aA7 a b c d e|>.f f|>.f g|>.f i|>.t j|>.f k tv
def bBz:=fun a b c d e f g i j=>aA7 a b c d e|>.f f|>.f g|>.f i|>.f j tv
def aGP(a b:Int)(c:List XT)(d:List Pat):=tT 0 (bH5 a b c d)<|.b 19 7 (a==1) (gE 8 0 (bV true))<|.b 6 7 (a==2) (gE 8 0 (bV true))<|.b 6 7 (a==3) (gE 8 0 (bV true))<|.b 5 7 (a==4) (gE 6 0 (bV true))<|gE 8 0 (bV false)
def bBA:=fun a b c d e=>aGP a b c d|>.t e tv
def bBB:=fun a b c d e f=>aGP a b c d|>.f e|>.t f tv
def bBC:=fun a b c d e f g=>aGP a b c d|>.f e|>.f f|>.t g tv
def bBD:=fun a b c d e f g i=>aGP a b c d|>.f e|>.f f|>.f g|>.t i tv
def bBE:=fun a b c d e f g i=>aGP a b c d|>.f e|>.f f|>.f g|>.f i tv
def jE(b c:Int)(a:List XT)(d:List Pat):=tT 0 (bH6 b c a d)<|.b 19 7 (b==8) (gE 8 0 (nI 1))<|.b 6 7 (b==15) (gE 8 0 (nI 1))<|.b 6 7 (b==16) (gE 8 0 (nI 1))<|.b 6 7 (b==17) (gE 8 0 (nI 1))<|.b 6 7 (b==19) (gE 8 0 (nI 1))<|.b 6 7 (b==20) (gE 8 0 (nI 1))<|.b 6 7 (b==23) (gE 8 0 (nI 1))<|.b 5 7 (b==24) (gE 6 0 (nI 1))<|.b 7 16 (b==6) (.i [rn 9,aL a] [.q (p:=((XTs.av a).length:Int) = (a.length:Int)) (kM dA _)]<|gE 3 0 (nI (a.length:Int)))<|.b 6 16 (b==9) (.i [rn 9,aL a] [.q (p:=((XTs.av a).length:Int) = (a.length:Int)) (kM dA _)]<|gE 3 0 (nI (a.length:Int)))<|.b 6 16 (b==10) (.i [rn 9,aL a] [.q (p:=((XTs.av a).length:Int) = (a.length:Int)) (kM dA _)]<|gE 3 0 (nI (a.length:Int)))<|.b 6 16 (b==11) (.i [rn 9,aL a] [.q (p:=((XTs.av a).length:Int) = (a.length:Int)) (kM dA _)]<|gE 3 0 (nI (a.length:Int)))<|.b 6 16 (b==12) (.i [rn 9,aL a] [.q (p:=((XTs.av a).length:Int) = (a.length:Int)) (kM dA _)]<|gE 3 0 (nI (a.length:Int)))<|.b 6 16 (b==13) (.i [rn 9,aL a] [.q (p:=((XTs.av a).length:Int) = (a.length:Int)) (kM dA _)]<|gE 3 0 (nI (a.length:Int)))<|.b 6 16 (b==18) (.i [rn 9,aL a] [.q (p:=((XTs.av a).length:Int) = (a.length:Int)) (kM dA _)]<|gE 3 0 (nI (a.length:Int)))<|.b 6 16 (b==22) (.i [rn 9,aL a] [.q (p:=((XTs.av a).length:Int) = (a.length:Int)) (kM dA _)]<|gE 3 0 (nI (a.length:Int)))<|.b 5 16 (b==14) (.i [rn 7,aL a] [.q (p:=((XTs.av a).length:Int) = (a.length:Int)) (kM dA _)]<|gE 3 0 (nI (a.length:Int)))<|gE 8 0 (nI 0)
def bBF:=fun a b c d e=>jE a b c d|>.t e tv
def bBG:=fun a b c d e f=>jE a b c d|>.f e|>.t f tv
def bBH:=fun a b c d e f g=>jE a b c d|>.f e|>.f f|>.t g tv
def bBI:=fun a b c d e f g i=>jE a b c d|>.f e|>.f f|>.f g|>.t i tv
def bBJ:=fun a b c d e f g i j=>jE a b c d|>.f e|>.f f|>.f g|>.f i|>.t j tv
def bBK:=fun a b c d e f g i j k=>jE a b c d|>.f e|>.f f|>.f g|>.f i|>.f j|>.t k tv
def bBL:=fun a b c d e f g i j k l=>jE a b c d|>.f e|>.f f|>.f g|>.f i|>.f j|>.f k|>.t l tv
def bBM:=fun a b c d e f g i j k l m=>jE a b c d|>.f e|>.f f|>.f g|>.f i|>.f j|>.f k|>.f l|>.t m tv
def bBN:=fun a b c d e f g i j k l m n=>jE a b c d|>.f e|>.f f|>.f g|>.f i|>.f j|>.f k|>.f l|>.f m|>.t n tv
def bBO:=fun a b c d e f g i j k l m n o=>jE a b c d|>.f e|>.f f|>.f g|>.f i|>.f j|>.f k|>.f l|>.f m|>.f n|>.t o tv
def aXQ:=fun a b c d e f g i j k l m n o p=>jE a b c d|>.f e|>.f f|>.f g|>.f i|>.f j|>.f k|>.f l|>.f m|>.f n|>.f o|>.t p tv
def aXR:=fun a b c d e f g i j k l m n o p q=>jE a b c d|>.f e|>.f f|>.f g|>.f i|>.f j|>.f k|>.f l|>.f m|>.f n|>.f o|>.f p|>.t q tv
def aXS:=fun a b c d e f g i j k l m n o p q r=>jE a b c d|>.f e|>.f f|>.f g|>.f i|>.f j|>.f k|>.f l|>.f m|>.f n|>.f o|>.f p|>.f q|>.t r tv
def aXT:=fun a b c d e f g i j k l m n o p q r s=>jE a b c d|>.f e|>.f f|>.f g|>.f i|>.f j|>.f k|>.f l|>.f m|>.f n|>.f o|>.f p|>.f q|>.f r|>.t s tv
def aXU:=fun a b c d e f g i j k l m n o p q r s t=>jE a b c d|>.f e|>.f f|>.f g|>.f i|>.f j|>.f k|>.f l|>.f m|>.f n|>.f o|>.f p|>.f q|>.f r|>.f s|>.t t tv
def aXV:=fun a b c d e f g i j k l m n o p q r s t u=>jE a b c d|>.f e|>.f f|>.f g|>.f i|>.f j|>.f k|>.f l|>.f m|>.f n|>.f o|>.f p|>.f q|>.f r|>.f s|>.f t|>.t u tv
def aXW:=fun a b c d e f g i j k l m n o p q r s t u v=>jE a b c d|>.f e|>.f f|>.f g|>.f i|>.f j|>.f k|>.f l|>.f m|>.f n|>.f o|>.f p|>.f q|>.f r|>.f s|>.f t|>.f u|>.t v tv
def aXX:=fun a b c d e f g i j k l m n o p q r s t u v=>jE a b c d|>.f e|>.f f|>.f g|>.f i|>.f j|>.f k|>.f l|>.f m|>.f n|>.f o|>.f p|>.f q|>.f r|>.f s|>.f t|>.f u|>.f v tv
def aQ2(a c:Int)(b:List XT)(d:List Pat):=tT 0 (bH7 a c b d)<|.b 13 8 (a==7) (.y fun e:Int=>.y fun f:Int=>.y fun g:List XT=>.y fun i:List Pat=>giF dA 8 b 0 (XT.mk e f g i)<|.b 6 18 (e==7) (gE 8 0 (.iface 191 (.agg [])))<|gE 7 0 .nili)<|gpI 6 137 [(.iptr [(nI a),(nI c),(aA6 b),(iP d)])]<|fun j=>.W 4 0 [] (aKW a c b d j 0)
def bBP:=fun a b c d e f g i j k l m=>aQ2 a b c d|>.t j e f g i k l|>.t m tv
def bBQ:=fun a b c d e f g i j k l m=>aQ2 a b c d|>.t j e f g i k l|>.f m tv
def bBR:=fun a b c d e f g=>aQ2 a b c d|>.f f e g tv
def aQ3(d e:Int)(b:List XT)(f:List Pat)(c a:Int):=tT 0 (aKW d e b f c a)<|gd 5 24 (a<c) (.y fun g:Int=>.y fun i:Int=>.y fun j:List XT=>.y fun k:List Pat=>giF dA 16 b a (XT.mk g i j k)<|lW 1 138 [(.iptr [(nI g),(nI i),(aA6 j),(iP k)])]<|fun l=>.b 2 34 (!l) (gE 8 0 (.iface 193 (nI a)))<|gw 5 37 (a+1)<|.W 3 0 [] (aKW d e b f c (a+1)))<|gE 7 0 .nili
def bBS:=fun a b c d e f g i j k l m n o p q=>aQ3 a b c d e f|>.t m g i j k n o l p|>.t q tv
def bBT:=fun a b c d e f g i j k l m n o p q r=>aQ3 a b c d e f|>.t m g i j k n o l p|>.f q r tv
def bBU:=fun a b c d e f g=>aQ3 a b c d e f|>.f g tv
def bBV (b c:Int)(d:cA)(a:List Pat):=(tT 0 (bH8 b c d a)<|gm 14 aH a<|.i [rn 4,.nilL 3 4] []<|gu 0 2 (Pats.av ([] :List Pat))<|gs 0 3 (.gl 2 4 0 ([] :List Pat).length false)<|.W 0 3 [0,1,2] (aKX b c d a 0 ([] :List Pat))) ⟨fP,trivial⟩
def aXY(d e:Int)(f:cA)(c:List Pat)(a:Int)(b:List Pat):=tT 0 (aKX d e f c a b)<|gd 5 10 (a< (c.length:Int)) (vA 6 c a<|fun l m n o=>.y fun g:Int=>.y fun i:Int=>.y fun j:cA=>.y fun k:List Pat=>gp 7 162 [(sN l m n o)] (sN g i j k)<|gA 1 aH b [(Pat.mk g i j k)]<|gw 5 18 (a+1)<|.W 3 6 [0,1,5] (aKX d e f c (a+1) (b++ [(Pat.mk g i j k)])))<|gY 14 1 3 2 4 aH fP b false<|gE 0 3 (sN d e f b)
def bBW:=fun a b c d e f g i j k l m n o p q r s t u=>aXY a b c d e f|>.t p g i j k q r l m n o s t u ⟨fP,trivial⟩
def bBX:=fun a b c d e f g=>aXY a b c d e f|>.f g tv
def bBY (a:List Pat):=(tT 0 (bH9 a)<|gm 12 aH a<|.i [rn 4,.nilL 3 4] []<|gu 0 0 (Pats.av ([] :List Pat))<|gs 0 3 (.gl 0 4 0 ([] :List Pat).length false)<|.W 0 1 [0] (aKY a 0 ([] :List Pat))) ⟨fP,trivial⟩
def aXZ(c:List Pat)(a:Int)(b:List Pat):=tT 0 (aKY c a b)<|gd 5 9 (a< (c.length:Int)) (vA 6 c a<|fun i j k l=>.y fun d:Int=>.y fun e:Int=>.y fun f:cA=>.y fun g:List Pat=>gp 7 162 [(sN i j k l)] (sN d e f g)<|gA 1 aH b [(Pat.mk d e f g)]<|gw 5 17 (a+1)<|.W 3 4 [3] (aKY c (a+1) (b++ [(Pat.mk d e f g)])))<|gZ 8 2 0 4 aH fP b false<|gE 0 1 (iP b)
def bBZ:=fun a b c d e f g i j k l m n o p q r=>aXZ a b c|>.t m d e f g n o i j k l p q r ⟨fP,trivial⟩
def bB0:=fun a b c d=>aXZ a b c|>.f d tv
theorem take_succ' {a:Type}{l:List a}{i:Nat}{x:a}(h:l[i]?=some x) :l.take i++ [x] =l.take (i+1) :=by
 rw [List.take_add_one,h];rfl
theorem aOa (f n:Int)(s:cA)(ps:List Pat)(hl:ps.length<1000000)(hp:∀q∈ps,aJ PP 162 [Pat.av q] (Pat.av q)) :∀ (t:List Pat) (i:Nat),ps.drop i=t→Ends PP 0 (aKX f n s ps (i:Int) (ps.take i)).as (.ret (Pat.av (.mk f n s ps))) (aA [] 0)
 | [],i,h=>by
  have j:=bJ h;have:=bBX f n s ps (i:Int) (ps.take i) sd;rw [aHY j]at this ⊢;exact this
 | .mk a b c d::t,i,h=>by
  obtain⟨g,k,l⟩ :=bE h;have e:=take_succ' g;refine(bBW f n s ps (i:Int) (ps.take i) a b c d a b c d sd sd sd (hp _ (iO g)) (by rw [e,List.length_take];omega) sd).ends ?_;rw [e];exact aOa f n s ps hl hp t (i+1) k
mutual
theorem aX0 :∀q:Pat,cB q≤1000000→aJ PP 162 [Pat.av q] (Pat.av q)
 | .mk f n s a,h=>by
  have hl:=eT a;simp only [cB]at h;refine aO aC (by simp [keylessL,mF]) (mF _) ((bBV f n s a).ends ?_);exact aOa f n s a (by omega) (aKZ a (by omega)) a 0 rfl
theorem aKZ :∀b:List Pat,aT b≤1000000→∀q∈b,aJ PP 162 [Pat.av q] (Pat.av q)
 | [],_,q,a=>by cases a
 | p::b,h,q,a=>by
  simp only [aT]at h;rcases zq7.1 a with e|a
  ·rw [e];exact aX0 p (by omega)
  ·exact aKZ b (by omega) q a
end
theorem aOb (ps:List Pat)(hl:ps.length<1000000)(hp:∀q∈ps,aJ PP 162 [Pat.av q] (Pat.av q)) :∀ (t:List Pat) (i:Nat),ps.drop i=t→Ends PP 0 (aKY ps (i:Int) (ps.take i)).as (.ret (.ilst 4 (Pats.av ps) false)) (aA [] 0)
 | [],i,h=>by
  have g:=bJ h;have:=bB0 ps (i:Int) (ps.take i) sd;rw [aHY g]at this ⊢;exact this
 | .mk a b c d::t,i,h=>by
  obtain⟨f,j,k⟩ :=bE h;have e:=take_succ' f;refine(bBZ ps (i:Int) (ps.take i) a b c d a b c d sd sd sd (hp _ (iO f)) (by rw [e,List.length_take];omega) sd).ends ?_;rw [e];exact aOb ps hl hp t (i+1) j
theorem aOc (ps:List Pat)(h:aT ps<1000000) :aJ PP 120 [.ilst 4 (Pats.av ps) false] (.ilst 4 (Pats.av ps) false) :=by
 have hl:=eT ps;exact aO aC (by simp [keylessL,keyless,fP]) (by simp [keyless,fP]) ((bBY ps).ends (aOb ps (by omega) (aKZ ps (by omega)) ps 0 rfl))
end
end Go.Hb
