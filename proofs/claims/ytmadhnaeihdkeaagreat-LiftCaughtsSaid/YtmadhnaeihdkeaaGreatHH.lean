/- A machine on abstract values, its soundness, ways, plain laws. -/
import Derived.Test.YtmadhnaeihdkeaaGreatHF
import Derived.Test.YtmadhnaeihdkeaaGreatHG
set_option linter.defProp false
set_option linter.unusedVariables false
set_option linter.unusedSimpArgs false
set_option linter.unusedSectionVars false
set_option maxRecDepth 100000
set_option maxHeartbeats 2000000
namespace Go.Hb
open AV (func int keyless keylessL ren)
open List (all_cons drop length map map_nil map_set replicate set)
open Nat (add_zero ble blt div mod pow)
open Go.Proofs Tryz
noncomputable section
def vC(a:bS)(b:Nat):TS:=⟨(tf 222 16 [(2,(bV false)),kp 6 0] [kc f222 52,kl f222 52,.inBlock 0,kc f222 7]),[],[(0,(.siter a.length (aD a) b),false)],1⟩
def zH(e f:Int)(g:bS)(a:List Pat)(b c d:Int):TS:=⟨(tf 190 27 [(1,(nI b)),(4,(nI 0)),(5,(nI c)),(9,(iP a)),(10,(nI (a.length:Int))),(11,(nI d))] [kc f190 116,kl f190 116,.inBlock 0,kc f190 15]),[],[],0⟩
def aXA(a b c:Int):=tT 0 (start PP 134 [(nI a),(nI b),(nI c)])<|gd 10 10 (a≥b) (gE 7 0 (bV (decide (a≤c))))<|gE 7 0 (bV false)
def aUx:=fun a b c d=>aXA a b c|>.t d tv
def aUy:=fun a b c d=>aXA a b c|>.f d tv
def aQL (b:Int):=fun a c=>(tT 0 (start PP 224 [(nI b)])<|iE 7 134 [(nI b),(nI (-1000000000)),(nI 1000000000)]<|fun a=>gE 3 0 (bV a)) a c tv
def aLy (a:bS):=(tT 0 (start PP 222 [(cU a)])<|.W 12 1 [0] (vC a 0)) tv
def aUz(a:bS)(b:Nat):=tT 0 (vC a b)<|.o (.y fun c:Nat=>.y fun d:Nat=>.i [rn 2,.nxt c d] [hA (b<a.length),hA (aKd a.length (aD a) b=some (c,d))]<|gd 16 12 (((c:Nat) :Int) <97) (gE 10 1 (bV false))<|gd 4 15 (((c:Nat) :Int) >122) (gE 6 1 (bV false))<|.W 4 1 [0] (vC a (Nat.add b d)))<|.i [rn 2,.nxtE] [hA (a.length≤b)]<|gE 10 1 (bV true)
def aLz:=fun a b c d e f g=>aUz a b|>.1 c d e f|>.t g tv
def aLA:=fun a b c d e f g i=>aUz a b|>.1 c d e f|>.f g|>.t i tv
def aLB:=fun a b c d e f g i=>aUz a b|>.1 c d e f|>.f g|>.f i tv
def aLC:=fun a b c=>aUz a b|>.2 c tv
def aQM(a:bS):=tT 0 (start PP 185 [(cU a)])<|.b 9 5 (!(jA a.length (aD a) 0 0)) (gd 5 10 ((a.length:Int) ≤8) (.y fun b:UInt8=>.i [rn 1,.ans (.ev (.int .u8 ((b.toNat:Nat) :Int)))] [.q (p:=0≤ (0:Int)) (by decide),.a ((a)[0]?=some b) (p':=(0:Int) < (a.length:Int)) (fun h=>(aAs (k:= (0:Int)) (by decide) h)),.a ((a)[0]?=some b) (p':=int .u8 ((mod (div (aD a) (pow 256 (0:Int).toNat)) 256:Nat) :Int) = (.int .u8 ((b.toNat:Nat) :Int))) (fun h=>(aAt (k:= (0:Int)) h))]<|gd 3 15 (((b.toNat:Nat) :Int) ≥65) (.i [rn 1,.ans (.ev (.int .u8 ((b.toNat:Nat) :Int)))] [.q (p:=0≤ (0:Int)) (by decide),.a ((a)[0]?=some b) (p':=(0:Int) < (a.length:Int)) (fun h=>(aAs (k:= (0:Int)) (by decide) h)),.a ((a)[0]?=some b) (p':=int .u8 ((mod (div (aD a) (pow 256 (0:Int).toNat)) 256:Nat) :Int) = (.int .u8 ((b.toNat:Nat) :Int))) (fun h=>(aAt (k:= (0:Int)) h))]<|gd 3 20 (((b.toNat:Nat) :Int) ≤90) (.i [rn 1,.ans (.ev (cU (drop 1 a)))] [.a (1≤length a) (p':=aBk PP 9 (cU a) (some (nI 1)) none (cU (drop 1 a))) (fun h=>(aAY (k:= (1:Int)) kR0 (by decide) h))]<|iE 0 222 [(cU (drop 1 a))]<|fun c=>gE 4 0 (bV c))<|gE 7 0 (bV false))<|gE 12 0 (bV false))<|gE 17 0 (bV false))<|gE 22 0 (bV false)
def aLD:=fun b c d e f a g i j k=>aQM b|>.t e|>.t f c a a|>.t g a a|>.t i j d k tv
def aLE:=fun b c d e a f g=>aQM b|>.t d|>.t e c a a|>.t f a a|>.f g tv
def aLF:=fun b c d e a f=>aQM b|>.t d|>.t e c a a|>.f f tv
def aLG:=fun a b c=>aQM a|>.t b|>.f c tv
def aLH:=fun a b=>aQM a|>.f b tv
def aXB(a:Con):=tT 0 (start PP 136 [(.agg [(cU a.name),(nI a.args)])])<|iE 9 185 [(cU a.name)]<|fun b=>.b 1 6 b (iE 2 134 [(nI a.args),(nI 0),(nI 3)]<|fun c=>gE 4 1 (bV c))<|gE 7 1 (bV false)
def aQN:=fun a b c d e f=>aXB a b d|>.t e c f tv
def aQO:=fun a b c d=>aXB a b c|>.f d tv
def aOu(c:Prog)(a:Node):=tT 0 (start PP 192 [(Prog.av c),(Node.av a)])<|.b 18 7 (a.op==1) (iE 5 224 [(nI a.n)]<|fun b=>gE 3 2 (bV b))<|.b 6 12 (a.op==2) (iE 5 134 [(nI a.n),(nI 0),(nI 1)]<|fun b=>gE 3 2 (bV b))<|.b 6 17 (a.op==24) (iE 5 134 [(nI a.n),(nI 0),(nI 3)]<|fun b=>gE 3 2 (bV b))<|.b 6 22 (a.op==4) (gl 8 aY c.funs<|gw 1 30 (0- (c.funs.length:Int))<|iE 0 134 [(nI a.n),(nI (0- (c.funs.length:Int))),(nI 29)]<|fun b=>gE 3 2 (bV b))<|.b 6 32 (a.op==14) (gE 6 2 (bV true))<|gE 11 2 (bV (a.n==0))
def aIy:=fun a b c d e=>aOu a b|>.t d c e tv
def aIz:=fun a b c d e f=>aOu a b|>.f d|>.t e c f tv
def aIA:=fun a b c d e f g=>aOu a b|>.f d|>.f e|>.t f c g tv
def aIB:=fun a b c d e f g i j=>aOu a b|>.f d|>.f e|>.f f|>.t g i c j tv
def aIC:=fun a b c d e f g=>aOu a b|>.f c|>.f d|>.f e|>.f f|>.t g tv
def aID:=fun a b c d e f g=>aOu a b|>.f c|>.f d|>.f e|>.f f|>.f g tv
def aOv (b c:Int)(d:bS)(a:List Pat)(e:Int):=(tT 0 (start PP 190 [(.agg [(nI b),(nI c),(cU d),(iP a)]),(nI e)])<|gm 14 aF a<|.W 4 1 [] (zH b c d a e 1 0)) tv
def aWt(e f:Int)(g:bS)(d:List Pat)(b a c:Int):=tT 0 (zH e f g d b a c)<|gd 5 12 (c< (d.length:Int)) (tU 6 d c<|fun j k l m=>gd 11 17 (a>b) (gE 8 1 (nI a))<|gw 8 22 (b-a)<|gpI 0 190 [(.agg [(nI j),(nI k),(cU l),(iP m)]),(nI (b-a))]<|fun i=>gw 1 24 (a+i)<|gw 5 25 (c+1)<|.W 3 1 [] (zH e f g d b (a+i) (c+1)))<|gE 8 0 (nI a)
def aOw:=fun a b c d e f g i j k l m n o p=>aWt a b c d e f g|>.t m i j k l n o|>.t p tv
def aOx:=fun a b c d e f g i j k l m n o p q r s t u=>aWt a b c d e f g|>.t n i j k l o p|>.f q r m s t u tv
def aOy:=fun a b c d e f g i=>aWt a b c d e f g|>.f i tv
def xA(d:Prog)(e c:Int)(f:bS)(a:List Pat):=tT 0 (start PP 191 [(Prog.av d),(.agg [(nI e),(nI c),(cU f),(iP a)])])<|.b 13 8 (!(jA f.length (aD f) 0 0)) (gE 14 2 (bV false))<|iE 4 193 [(iP a),(.func 191 [(Prog.av d)] [])]<|fun i=>.b 3 15 (!i) (gE 6 2 (bV false))<|.b 15 18 (e==1) (.b 9 25 (c==0) (gm 2 aF a<|gE 5 2 (bV ((a.length:Int) ==0)))<|gE 8 2 (bV false))<|.b 6 18 (e==2) (.b 9 25 (c==0) (gm 2 aF a<|gE 5 2 (bV ((a.length:Int) ==0)))<|gE 8 2 (bV false))<|.b 5 18 (e==5) (.b 7 25 (c==0) (gm 2 aF a<|gE 5 2 (bV ((a.length:Int) ==0)))<|gE 8 2 (bV false))<|.b 6 31 (e==3) (iE 5 224 [(nI c)]<|fun b=>.b 1 36 b (gm 2 aF a<|gE 5 2 (bV ((a.length:Int) ==0)))<|gE 8 2 (bV false))<|.b 6 42 (e==4) (iE 5 134 [(nI c),(nI 0),(nI 1)]<|fun b=>.b 1 47 b (gm 2 aF a<|gE 5 2 (bV ((a.length:Int) ==0)))<|gE 8 2 (bV false))<|.b 6 53 (e==6) (.o (.y fun b:Bool=>.y fun g:Con=>.i [rn 2,.reg (rd 5 (.ans (.len (d.cons.length:Int))::.d::.pure (bV b)::.d::.b 63 true::.d::.d::.ans (.len (a.length:Int))::rd 5 (.ans (.idx (Con.av g))::rd 5 [])))] [hl Con.av d.cons,hA (aK PP 134 [(nI c),(nI 0),(nI (IntKind.i64.wrap ((d.cons.length:Int) -1)))] (bV b)),hA (b=true),hm aF a,hA (0≤c),.a (((d.cons)[c.toNat]?) =some g) (bW (f:=Con.av))]<|gE 1 2 (bV ((a.length:Int) ==g.args)))<|.y fun b:Bool=>.i [rn 2,.reg (rd 5 (.ans (.len (d.cons.length:Int))::.d::.pure (bV b)::.d::.b 63 false::rd 14 []))] [hl Con.av d.cons,hA (aK PP 134 [(nI c),(nI 0),(nI (IntKind.i64.wrap ((d.cons.length:Int) -1)))] (bV b)),hA (b=false)]<|gE 1 2 (bV false))<|gE 8 2 (bV false)
def aQP:=fun a b c d e f=>xA a b c d e|>.t f tv
def aQQ:=fun a b c d e f g i j=>xA a b c d e|>.f g f i|>.t j tv
def aQR:=fun a b c d e f g i j k l=>xA a b c d e|>.f g f i|>.f j|>.t k|>.t l tv
def aQS:=fun a b c d e f g i j k l=>xA a b c d e|>.f g f i|>.f j|>.t k|>.f l tv
def aQT:=fun a b c d e f g i j k l m=>xA a b c d e|>.f g f i|>.f j|>.f k|>.t l|>.t m tv
def aQU:=fun a b c d e f g i j k l m=>xA a b c d e|>.f g f i|>.f j|>.f k|>.t l|>.f m tv
def aQV:=fun a b c d e f g i j k l m n=>xA a b c d e|>.f g f i|>.f j|>.f k|>.f l|>.t m|>.t n tv
def aQW:=fun a b c d e f g i j k l m n=>xA a b c d e|>.f g f i|>.f j|>.f k|>.f l|>.t m|>.f n tv
def aQX:=fun a b c d e f g i j k l m n o p q=>xA a b c d e|>.f i f j|>.f k|>.f l|>.f m|>.f n|>.t o g p|>.t q tv
def aQY:=fun a b c d e f g i j k l m n o p q=>xA a b c d e|>.f i f j|>.f k|>.f l|>.f m|>.f n|>.t o g p|>.f q tv
def aOz:=fun a b c d e f g i j k l m n o p q r=>xA a b c d e|>.f i f j|>.f k|>.f l|>.f m|>.f n|>.f o|>.t p g q|>.t r tv
def aOA:=fun a b c d e f g i j k l m n o p q r=>xA a b c d e|>.f i f j|>.f k|>.f l|>.f m|>.f n|>.f o|>.t p g q|>.f r tv
def aOB:=fun a b c d e f g i j k l m n o p q r s t u v=>xA a b c d e|>.f j f k|>.f l|>.f m|>.f n|>.f o|>.f p|>.f q|>.t r|>.1 g i s t u v tv
def aOC:=fun a b c d e f g i j k l m n o p q r s=>xA a b c d e|>.f i f j|>.f k|>.f l|>.f m|>.f n|>.f o|>.f p|>.t q|>.2 g r s tv
def aOD:=fun a b c d e f g i j k l m n o p=>xA a b c d e|>.f g f i|>.f j|>.f k|>.f l|>.f m|>.f n|>.f o|>.f p tv
def jK(a:Int):=tT 0 (start PP 188 [(nI a)])<|.b 16 4 (a==1) (gE 9 0 (.iface 278 (nI 0)))<|.b 6 4 (a==2) (gE 9 0 (.iface 278 (nI 0)))<|.b 6 4 (a==3) (gE 9 0 (.iface 278 (nI 0)))<|.b 6 4 (a==4) (gE 9 0 (.iface 278 (nI 0)))<|.b 6 4 (a==21) (gE 9 0 (.iface 278 (nI 0)))<|.b 6 4 (a==25) (gE 9 0 (.iface 278 (nI 0)))<|.b 5 4 (a==28) (gE 7 0 (.iface 278 (nI 0)))<|.b 7 13 (a==5) (gE 9 0 (.iface 278 (nI 1)))<|.b 6 13 (a==27) (gE 9 0 (.iface 278 (nI 1)))<|.b 6 13 (a==16) (gE 9 0 (.iface 278 (nI 1)))<|.b 6 13 (a==17) (gE 9 0 (.iface 278 (nI 1)))<|.b 6 13 (a==19) (gE 9 0 (.iface 278 (nI 1)))<|.b 6 13 (a==20) (gE 9 0 (.iface 278 (nI 1)))<|.b 6 13 (a==23) (gE 9 0 (.iface 278 (nI 1)))<|.b 6 13 (a==24) (gE 9 0 (.iface 278 (nI 1)))<|.b 5 13 (a==26) (gE 7 0 (.iface 278 (nI 1)))<|.b 7 24 (a==6) (gE 9 0 (.iface 278 (nI 2)))<|.b 6 24 (a==7) (gE 9 0 (.iface 278 (nI 2)))<|.b 6 24 (a==9) (gE 9 0 (.iface 278 (nI 2)))<|.b 6 24 (a==10) (gE 9 0 (.iface 278 (nI 2)))<|.b 6 24 (a==11) (gE 9 0 (.iface 278 (nI 2)))<|.b 6 24 (a==12) (gE 9 0 (.iface 278 (nI 2)))<|.b 6 24 (a==13) (gE 9 0 (.iface 278 (nI 2)))<|.b 6 24 (a==18) (gE 9 0 (.iface 278 (nI 2)))<|.b 5 24 (a==22) (gE 7 0 (.iface 278 (nI 2)))<|.b 6 35 (a==8) (gE 7 0 (.iface 278 (nI 3)))<|.b 6 38 (a==14) (gE 8 0 (.iface 279 (.agg [])))<|.b 6 42 (a==15) (gE 8 0 (.iface 252 (.agg [])))<|gE 8 0 .nili
def aIE:=fun a b=>jK a|>.t b tv
def aIF:=fun a b c=>jK a|>.f b|>.t c tv
def aIG:=fun a b c d=>jK a|>.f b|>.f c|>.t d tv
def aIH:=fun a b c d e=>jK a|>.f b|>.f c|>.f d|>.t e tv
def aII:=fun a b c d e f=>jK a|>.f b|>.f c|>.f d|>.f e|>.t f tv
def aIJ:=fun a b c d e f g=>jK a|>.f b|>.f c|>.f d|>.f e|>.f f|>.t g tv
def aIK:=fun a b c d e f g i=>jK a|>.f b|>.f c|>.f d|>.f e|>.f f|>.f g|>.t i tv
def aIL:=fun a b c d e f g i j=>jK a|>.f b|>.f c|>.f d|>.f e|>.f f|>.f g|>.f i|>.t j tv
def aIM:=fun a b c d e f g i j k=>jK a|>.f b|>.f c|>.f d|>.f e|>.f f|>.f g|>.f i|>.f j|>.t k tv
def aIN:=fun a b c d e f g i j k l=>jK a|>.f b|>.f c|>.f d|>.f e|>.f f|>.f g|>.f i|>.f j|>.f k|>.t l tv
def aGn:=fun a b c d e f g i j k l m=>jK a|>.f b|>.f c|>.f d|>.f e|>.f f|>.f g|>.f i|>.f j|>.f k|>.f l|>.t m tv
def aGo:=fun a b c d e f g i j k l m n=>jK a|>.f b|>.f c|>.f d|>.f e|>.f f|>.f g|>.f i|>.f j|>.f k|>.f l|>.f m|>.t n tv
def aGp:=fun a b c d e f g i j k l m n o=>jK a|>.f b|>.f c|>.f d|>.f e|>.f f|>.f g|>.f i|>.f j|>.f k|>.f l|>.f m|>.f n|>.t o tv
def aGq:=fun a b c d e f g i j k l m n o p=>jK a|>.f b|>.f c|>.f d|>.f e|>.f f|>.f g|>.f i|>.f j|>.f k|>.f l|>.f m|>.f n|>.f o|>.t p tv
def aGr:=fun a b c d e f g i j k l m n o p q=>jK a|>.f b|>.f c|>.f d|>.f e|>.f f|>.f g|>.f i|>.f j|>.f k|>.f l|>.f m|>.f n|>.f o|>.f p|>.t q tv
def aGs:=fun a b c d e f g i j k l m n o p q r=>jK a|>.f b|>.f c|>.f d|>.f e|>.f f|>.f g|>.f i|>.f j|>.f k|>.f l|>.f m|>.f n|>.f o|>.f p|>.f q|>.t r tv
def aGt:=fun a b c d e f g i j k l m n o p q r s=>jK a|>.f b|>.f c|>.f d|>.f e|>.f f|>.f g|>.f i|>.f j|>.f k|>.f l|>.f m|>.f n|>.f o|>.f p|>.f q|>.f r|>.t s tv
def aGu:=fun a b c d e f g i j k l m n o p q r s t=>jK a|>.f b|>.f c|>.f d|>.f e|>.f f|>.f g|>.f i|>.f j|>.f k|>.f l|>.f m|>.f n|>.f o|>.f p|>.f q|>.f r|>.f s|>.t t tv
def aGv:=fun a b c d e f g i j k l m n o p q r s t u=>jK a|>.f b|>.f c|>.f d|>.f e|>.f f|>.f g|>.f i|>.f j|>.f k|>.f l|>.f m|>.f n|>.f o|>.f p|>.f q|>.f r|>.f s|>.f t|>.t u tv
def aGw:=fun a b c d e f g i j k l m n o p q r s t u v=>jK a|>.f b|>.f c|>.f d|>.f e|>.f f|>.f g|>.f i|>.f j|>.f k|>.f l|>.f m|>.f n|>.f o|>.f p|>.f q|>.f r|>.f s|>.f t|>.f u|>.t v tv
def aGx:=fun a b c d e f g i j k l m n o p q r s t u v w=>jK a|>.f b|>.f c|>.f d|>.f e|>.f f|>.f g|>.f i|>.f j|>.f k|>.f l|>.f m|>.f n|>.f o|>.f p|>.f q|>.f r|>.f s|>.f t|>.f u|>.f v|>.t w tv
def aGy:=fun a b c d e f g i j k l m n o p q r s t u v w x=>jK a|>.f b|>.f c|>.f d|>.f e|>.f f|>.f g|>.f i|>.f j|>.f k|>.f l|>.f m|>.f n|>.f o|>.f p|>.f q|>.f r|>.f s|>.f t|>.f u|>.f v|>.f w|>.t x tv
def aGz:=fun a b c d e f g i j k l m n o p q r s t u v w x y=>jK a|>.f b|>.f c|>.f d|>.f e|>.f f|>.f g|>.f i|>.f j|>.f k|>.f l|>.f m|>.f n|>.f o|>.f p|>.f q|>.f r|>.f s|>.f t|>.f u|>.f v|>.f w|>.f x|>.t y tv
def aGA:=fun a b c d e f g i j k l m n o p q r s t u v w x y z=>jK a|>.f b|>.f c|>.f d|>.f e|>.f f|>.f g|>.f i|>.f j|>.f k|>.f l|>.f m|>.f n|>.f o|>.f p|>.f q|>.f r|>.f s|>.f t|>.f u|>.f v|>.f w|>.f x|>.f y|>.t z tv
def aGB:=fun a b c d e f g i j k l m n o p q r s t u v w x y z A=>jK a|>.f b|>.f c|>.f d|>.f e|>.f f|>.f g|>.f i|>.f j|>.f k|>.f l|>.f m|>.f n|>.f o|>.f p|>.f q|>.f r|>.f s|>.f t|>.f u|>.f v|>.f w|>.f x|>.f y|>.f z|>.t A tv
def aGC:=fun a b c d e f g i j k l m n o p q r s t u v w x y z A B=>jK a|>.f b|>.f c|>.f d|>.f e|>.f f|>.f g|>.f i|>.f j|>.f k|>.f l|>.f m|>.f n|>.f o|>.f p|>.f q|>.f r|>.f s|>.f t|>.f u|>.f v|>.f w|>.f x|>.f y|>.f z|>.f A|>.t B tv
def aGD:=fun a b c d e f g i j k l m n o p q r s t u v w x y z A B C=>jK a|>.f b|>.f c|>.f d|>.f e|>.f f|>.f g|>.f i|>.f j|>.f k|>.f l|>.f m|>.f n|>.f o|>.f p|>.f q|>.f r|>.f s|>.f t|>.f u|>.f v|>.f w|>.f x|>.f y|>.f z|>.f A|>.f B|>.t C tv
def aGE:=fun a b c d e f g i j k l m n o p q r s t u v w x y z A B C D=>jK a|>.f b|>.f c|>.f d|>.f e|>.f f|>.f g|>.f i|>.f j|>.f k|>.f l|>.f m|>.f n|>.f o|>.f p|>.f q|>.f r|>.f s|>.f t|>.f u|>.f v|>.f w|>.f x|>.f y|>.f z|>.f A|>.f B|>.f C|>.t D tv
def aGF:=fun a b c d e f g i j k l m n o p q r s t u v w x y z A B C D=>jK a|>.f b|>.f c|>.f d|>.f e|>.f f|>.f g|>.f i|>.f j|>.f k|>.f l|>.f m|>.f n|>.f o|>.f p|>.f q|>.f r|>.f s|>.f t|>.f u|>.f v|>.f w|>.f x|>.f y|>.f z|>.f A|>.f B|>.f C|>.f D tv
def aBC(a:List Pat)(b:Prog)(c:Int):TS:=⟨(tf 245 19 [(0,(iP a)),(1,(.func 226 [] [(.ptr 0 0)])),(4,(nI 0)),(7,(nI (a.length:Int))),(8,(nI c))] [kc f245 52,kl f245 52,.inBlock 0,kc f245 7]),[(tf 225 9 [(4,(bV false)),(5,(iP a)),(6,(.func 226 [] [(.ptr 0 0)]))] [ko f225 6 2,kc f225 7]),(tf 193 9 [(4,(bV false)),(5,(iP a)),(6,(.func 226 [] [(.ptr 0 0)]))] [ko f193 6 2,kc f193 7])],[oC 0 [(.func 191 [(Prog.av b)] [])]],1⟩
def pQ(b:Prog)(a:Node)(c:Int):TS:=⟨(tf 245 19 [(0,(iP a.pats)),(1,(.func 226 [] [(.ptr 0 0)])),(4,(nI 0)),(7,(nI (a.pats.length:Int))),(8,(nI c))] [kc f245 52,kl f245 52,.inBlock 0,kc f245 7]),[(tf 225 9 [(4,(bV false)),(5,(iP a.pats)),(6,(.func 226 [] [(.ptr 0 0)]))] [ko f225 6 2,kc f225 7]),(tf 193 9 [(4,(bV false)),(5,(iP a.pats)),(6,(.func 226 [] [(.ptr 0 0)]))] [ko f193 6 2,kc f193 7]),(tf 141 35 [(4,(bV false)),(29,(bV true)),(31,(iP a.pats)),(32,(.func 189 [] [(.ptr 1 0)]))] [ko f141 62 13,kc f141 63])],[oC 0 [(.func 189 [] [(.ptr 1 0)])],oC 1 [(iN b.nodes),(iI b.funs),(nI b.main),(iC b.cons)]],2⟩
def rF(a:List bS)(c:Int)(b:List (bS×Bool)):TS:=⟨(tf 137 21 [(0,(iS a)),(2,(bV false)),(3,(.map 0)),(7,(iS a)),(8,(nI (a.length:Int))),(9,(nI c))] [kc f137 116,kl f137 116,.inBlock 0,kc f137 15]),[],[(0,(.map (bT cU kZ 0 b) b.length),true)],1⟩
def aQZ (a:List Pat)(b:Prog):=(tT 0 (start PP 193 [(iP a),(.func 191 [(Prog.av b)] [])])<|gm 27 aF a<|.W 4 1 [0] (aBC a b 0)) tv
def aWu(b:List Pat)(c:Prog)(a:Int):=tT 0 (aBC b c a)<|gd 5 9 (a< (b.length:Int)) (tU 14 b a<|fun d e f g=>iE 11 191 [(Prog.av c),(.agg [(nI d),(nI e),(cU f),(iP g)])]<|fun i=>.b 6 16 (!i) (gE 17 2 (bV (!(decide (a≥0)))))<|gw 5 18 (a+1)<|.W 3 2 [0] (aBC b c (a+1)))<|gE 17 1 (bV true)
def aQ0:=fun a b c d e f g i j k l m n=>aWu a b c|>.t j d e f g k l i m|>.t n tv
def aQ1:=fun a b c d e f g i j k l m n o=>aWu a b c|>.t j d e f g k l i m|>.f n o tv
def aQ2:=fun a b c d=>aWu a b c|>.f d tv
def aAv(b:Prog)(a:Node):=tT 0 (start PP 141 [(Prog.av b),(Node.av a)])<|.o (gp 10 188 [(nI a.op)] (.iface 252 (.agg []))<|gm 44 aF a.pats<|iE 0 134 [(nI (a.pats.length:Int)),(nI 1),(nI 5)]<|fun c=>.b 1 11 c (gl 2 aY a.kids<|gm 2 aF a.pats<|gw 1 18 (1+ (a.pats.length:Int))<|.b 7 24 ((a.kids.length:Int) == (1+ (a.pats.length:Int))) (iE 2 192 [(Prog.av b),(Node.av a)]<|fun d=>.b 2 29 d (gm 31 aF a.pats<|.W 4 6 [5,0] (pQ b a 0))<|gE 8 5 (bV false))<|gE 13 5 (bV false))<|gE 27 5 (bV false))<|.o (gp 10 188 [(nI a.op)] (.iface 279 (.agg []))<|gm 24 aF a.pats<|gd 2 14 ((a.pats.length:Int) >0) (gE 6 2 (bV false))<|.o (.y fun c:Bool=>.y fun d:Con=>.i [rn 22,.reg (rd 5 (.ans (.len (b.cons.length:Int))::.d::.pure (bV c)::.d::.b 15 true::.d::.d::.ans (.len (a.kids.length:Int))::rd 5 (.ans (.idx (Con.av d))::rd 5 [])))] [hl Con.av b.cons,hA (aK PP 134 [(nI a.n),(nI 0),(nI (IntKind.i64.wrap ((b.cons.length:Int) -1)))] (bV c)),hA (c=true),hl aY a.kids,hA (0≤a.n),.a (((b.cons)[a.n.toNat]?) =some d) (bW (f:=Con.av))]<|.b 3 24 ((a.kids.length:Int) ==d.args) (iE 2 192 [(Prog.av b),(Node.av a)]<|fun f=>.b 2 29 f (gm 31 aF a.pats<|.W 4 6 [5,0] (pQ b a 0)) .x)<|gE 13 5 (bV false))<|.y fun c:Bool=>.i [rn 22,.reg (rd 5 (.ans (.len (b.cons.length:Int))::.d::.pure (bV c)::.d::.b 15 false::rd 14 []))] [hl Con.av b.cons,hA (aK PP 134 [(nI a.n),(nI 0),(nI (IntKind.i64.wrap ((b.cons.length:Int) -1)))] (bV c)),hA (c=false)]<|gE 16 5 (bV false))<|.o (.y fun e:Int=>gp 10 188 [(nI a.op)] (.iface 278 (nI e))<|gm 24 aF a.pats<|gd 2 14 ((a.pats.length:Int) >0) (gE 6 2 (bV false))<|gl 24 aY a.kids<|.b 7 24 ((a.kids.length:Int) ==e) (iE 2 192 [(Prog.av b),(Node.av a)]<|fun d=>.b 2 29 d (gm 31 aF a.pats<|.W 4 5 [4,0] (pQ b a 0))<|gE 8 4 (bV false))<|gE 13 4 (bV false))<|gp 10 188 [(nI a.op)] (.nili)<|gE 18 2 (bV false)
def aOE:=fun a b c d e f g i j k l=>aAv a b|>.1 e c f|>.t g i|>.t j d k|>.t l tv
def aOF:=fun a b c d e f g i j k l=>aAv a b|>.1 e c f|>.t g i|>.t j d k|>.f l tv
def aOG:=fun a b c d e f g i=>aAv a b|>.1 d c e|>.t f g|>.f i tv
def aOH:=fun a b c d e f=>aAv a b|>.1 d c e|>.f f tv
def aOI:=fun a b c d=>aAv a b|>.2|>.1 c|>.t d tv
def aOJ:=fun a b c d e f g i j k l m n o=>aAv a b|>.2|>.1 f|>.f g|>.1 c d i j k l|>.t m e n|>.t o tv
def aOK:=fun a b c d e f g i j k l=>aAv a b|>.2|>.1 e|>.f f|>.1 c d g i j k|>.f l tv
def aOL:=fun a b c d e f g=>aAv a b|>.2|>.1 d|>.f e|>.2 c f g tv
def aOM:=fun a b c d e=>aAv a b|>.2|>.2|>.1 c d|>.t e tv
def aLI:=fun a b c d e f g i j=>aAv a b|>.2|>.2|>.1 c e|>.f f|>.t g d i|>.t j tv
def aLJ:=fun a b c d e f g i j=>aAv a b|>.2|>.2|>.1 c e|>.f f|>.t g d i|>.f j tv
def aLK:=fun a b c d e f=>aAv a b|>.2|>.2|>.1 c d|>.f e|>.f f tv
def aLL:=fun a b c=>aAv a b|>.2|>.2|>.2 c tv
def aUA(c:Prog)(b:Node)(a:Int):=tT 0 (pQ c b a)<|gd 5 9 (a< (b.pats.length:Int)) (tU 14 b.pats a<|fun d e f g=>gpI 20 190 [(.agg [(nI d),(nI e),(cU f),(iP g)]),(nI 12)]<|fun i=>gd 2 7 (i≤12) (iE 2 191 [(Prog.av c),(.agg [(nI d),(nI e),(cU f),(iP g)])]<|fun j=>.b 11 16 (!j) (gE 22 4 (bV (!(decide (a≥0)))))<|gw 5 18 (a+1)<|.W 3 4 [0,1] (pQ c b (a+1)))<|gE 36 4 (bV (!(decide (a≥0)))))<|gE 22 2 (bV true)
def aON:=fun a b c d e f g i j k l m n o p q=>aUA a b c|>.t k d e f g l m i n|>.t o j p|>.t q tv
def aOO:=fun a b c d e f g i j k l m n o p q r=>aUA a b c|>.t k d e f g l m i n|>.t o j p|>.f q r tv
def aOP:=fun a b c d e f g i j k l m n=>aUA a b c|>.t j d e f g k l i m|>.f n tv
def aOQ:=fun a b c d=>aUA a b c|>.f d tv
def aIO (a:List bS):=(tT 0 (start PP 137 [(iS a)])<|.i [rn 7,.mset 0 (bT cU kZ 0 ([] :List (bS×Bool))) ([] :List (bS×Bool)).length] [hr (bT cU kZ 0 ([] :List (bS×Bool))),hr (length ([] :List (bS×Bool)))]<|gl 6 cU a<|.W 4 1 [0] (rF a 0 ([] :List (bS×Bool)))) ⟨kZ0,trivial⟩
def aXC(b:List bS)(d:Int)(a:List (bS×Bool)):=tT 0 (rF b d a)<|gd 5 10 (d< (b.length:Int)) (gX cU 6 b d<|fun c=>.i [rn 6,.mput (bT cU kZ 0 (dN c true a)) (dN c true a).length] [.q (p:=qS (bT cU kZ 0 a) a.length (cU c) (kZ true) =some ((bT cU kZ 0 (dN c true a)),length (dN c true a))) (aGc aUf _ _ _)]<|gw 4 15 (d+1)<|.W 3 1 [0] (rF b (d+1) (dN c true a)))<|.i [rn 6,sI 17 (a.length:Int)] [.q (p:=(nI ((bT cU kZ 0 a).length:Int)) = (nI (a.length:Int))) (aQc _ _ _)]<|gl 1 cU b<|gE 4 1 (bV ((a.length:Int) == (b.length:Int)))
def aIP:=fun a b c d e f g i=>aXC a b c|>.t e d f g i ⟨kZ0,trivial⟩
def aIQ:=fun a b c d=>aXC a b c|>.f d tv
def aBD(a:List Node)(b:Prog)(c:Int):TS:=⟨(tf 223 19 [(0,(iN a)),(1,(.func 187 [] [(.ptr 0 0)])),(4,(nI 0)),(7,(nI (a.length:Int))),(8,(nI c))] [kc f223 52,kl f223 52,.inBlock 0,kc f223 7]),[(tf 186 9 [(4,(bV false)),(5,(iN a)),(6,(.func 187 [] [(.ptr 0 0)]))] [ko f186 6 2,kc f186 7]),(tf 140 9 [(4,(bV false)),(5,(iN a)),(6,(.func 187 [] [(.ptr 0 0)]))] [ko f140 6 2,kc f140 7])],[oC 0 [(.func 141 [(Prog.av b)] [])]],1⟩
def aBE(a:List Con)(b:Int):TS:=⟨(tf 212 19 [(0,(iC a)),(1,(.func 184 [] [(.ptr 0 0)])),(4,(nI 0)),(7,(nI (a.length:Int))),(8,(nI b))] [kc f212 52,kl f212 52,.inBlock 0,kc f212 7]),[(tf 165 9 [(4,(bV false)),(5,(iC a)),(6,(.func 184 [] [(.ptr 0 0)]))] [ko f165 6 2,kc f165 7]),(tf 135 9 [(4,(bV false)),(5,(iC a)),(6,(.func 184 [] [(.ptr 0 0)]))] [ko f135 6 2,kc f135 7])],[oC 0 [(.func 136 [] [])]],1⟩
def aBF(a:List Int)(b:Int):TS:=⟨(tf 227 19 [(0,(.ilst 1 (jI a) true)),(1,(.func 195 [] [(.ptr 0 0)])),(4,(nI 0)),(7,(nI (a.length:Int))),(8,(nI b))] [kc f227 52,kl f227 52,.inBlock 0,kc f227 7]),[(tf 194 9 [(4,(bV false)),(5,(.ilst 1 (jI a) true)),(6,(.func 195 [] [(.ptr 0 0)]))] [ko f194 6 2,kc f194 7]),(tf 142 9 [(4,(bV false)),(5,(.ilst 1 (jI a) true)),(6,(.func 195 [] [(.ptr 0 0)]))] [ko f142 6 2,kc f142 7])],[oC 0 [(.func 143 [] [])]],1⟩
def aBG(a:List Con)(c:Int)(b:List bS):TS:=⟨(tf 138 22 [(1,(.func 139 [] [])),(4,.nils),(5,(.gl 0 1 0 b.length false)),(8,(iC a)),(9,(nI (a.length:Int))),(10,(nI c))] [kc f138 116,kl f138 116,.inBlock 0,kc f138 15]),[],[oL 0 1 (map cU b)],1⟩
def rG(a:Prog)(c:Int)(b:List Int):TS:=⟨(tf 94 128 [kp 1 0,(2,(bV false)),(3,(nI (a.nodes.length:Int))),(4,(.gl 1 1 0 b.length true)),(77,(iI a.funs)),(78,(nI (a.funs.length:Int))),(79,(nI c))] [kc f94 1012,kl f94 1012,.inBlock 0,kc f94 127]),[],[oC 0 [(iN a.nodes),(iI a.funs),(nI a.main),(iC a.cons)],oL 1 1 (jI b)],2⟩
def mV(a:Prog)(b:List Int)(c:Int):TS:=⟨(tf 94 128 [(2,(bV false)),(3,(nI (a.nodes.length:Int))),(4,(.gl 0 1 0 b.length true)),(97,(iN a.nodes)),(98,(nI (a.nodes.length:Int))),(99,(nI c))] [kc f94 2036,kl f94 2036,.inBlock 2,kc f94 255]),[],[oL 0 1 (jI b)],1⟩
def rH(a:Prog)(c:List Int)(d:Int)(b:List Int)(e f g:Int):TS:=⟨(tf 94 128 [(2,(bV false)),(3,(nI (a.nodes.length:Int))),(4,(.gl 0 1 0 b.length true)),(7,(nI f)),(97,(iN a.nodes)),(98,(nI (a.nodes.length:Int))),(99,(nI g)),(105,(iI c)),(106,(nI d)),(107,(nI e))] [kc f94 521420,kl f94 521420,.inBlock 4,.inBlock 3,kc f94 16295,kl f94 2036,.inBlock 2,kc f94 255]),[],[oL 0 1 (jI b)],1⟩
def aQ3 (a:List Node)(b:Prog):=(tT 0 (start PP 140 [(iN a),(.func 141 [(Prog.av b)] [])])<|gl 27 Node.av a<|.W 4 1 [0] (aBD a b 0)) tv
def aWv(b:List Node)(c:Prog)(a:Int):=tT 0 (aBD b c a)<|gd 5 9 (a< (b.length:Int)) (gX Node.av 14 b a<|fun d=>iE 11 141 [(Prog.av c),(Node.av d)]<|fun e=>.b 6 16 (!e) (gE 17 2 (bV (!(decide (a≥0)))))<|gw 5 18 (a+1)<|.W 3 2 [0] (aBD b c (a+1)))<|gE 17 1 (bV true)
def aQ4:=fun a b c d e f g i j k=>aWv a b c|>.t f d g i e j|>.t k tv
def aQ5:=fun a b c d e f g i j k l=>aWv a b c|>.t f d g i e j|>.f k l tv
def aQ6:=fun a b c d=>aWv a b c|>.f d tv
def aQ7 (a:List Con):=(tT 0 (start PP 135 [(iC a),(.func 136 [] [])])<|gl 27 Con.av a<|.W 4 1 [0] (aBE a 0)) tv
def aWw(b:List Con)(a:Int):=tT 0 (aBE b a)<|gd 5 9 (a< (b.length:Int)) (gX Con.av 14 b a<|fun c=>iE 11 136 [(.agg [(cU c.name),(nI c.args)])]<|fun d=>.b 6 16 (!d) (gE 17 2 (bV (!(decide (a≥0)))))<|gw 5 18 (a+1)<|.W 3 2 [0] (aBE b (a+1)))<|gE 17 1 (bV true)
def aQ8:=fun a b c d e f g i j=>aWw a b|>.t e c f g d i|>.t j tv
def aQ9:=fun a b c d e f g i j k=>aWw a b|>.t e c f g d i|>.f j k tv
def aRa:=fun a b c=>aWw a b|>.f c tv
def aRb (a:List Int):=(tT 0 (start PP 142 [(.ilst 1 (jI a) true),(.func 143 [] [])])<|gl 27 aY a<|.W 4 1 [0] (aBF a 0)) tv
def aWx(b:List Int)(a:Int):=tT 0 (aBF b a)<|gd 5 9 (a< (b.length:Int)) (gX aY 14 b a<|fun c=>.b 29 16 (!(c==1)) (gE 17 1 (bV (!(decide (a≥0)))))<|gw 5 18 (a+1)<|.W 3 1 [0] (aBF b (a+1)))<|gE 17 1 (bV true)
def aRc:=fun a b c d e f g=>aWx a b|>.t d c e f|>.t g tv
def aRd:=fun a b c d e f g i=>aWx a b|>.t d c e f|>.f g i tv
def aRe:=fun a b c=>aWx a b|>.f c tv
def aRf (a:List Con):=(tT 0 (start PP 138 [(iC a),(.func 139 [] [])])<|gl 12 Con.av a<|.i [rn 4,.nilL 5 1] []<|gu 0 0 (map cU ([] :List bS))<|gs 0 5 (.gl 0 1 0 ([] :List bS).length false)<|.W 0 1 [0] (aBG a 0 ([] :List bS))) ⟨kk,trivial⟩
def aXD(c:List Con)(a:Int)(b:List bS):=tT 0 (aBG c a b)<|gd 5 11 (a< (c.length:Int)) (gX Con.av 6 c a<|fun d=>ga 23 cU b [d.name]<|gw 5 20 (a+1)<|.W 3 5 [4] (aBG c (a+1) (b++ [d.name])))<|gz 8 4 0 1 cU b false<|gE 0 1 (iS b)
def aRg:=fun a b c d e f g i j=>aXD a b c|>.t e d f g i j ⟨kk,trivial⟩
def aRh:=fun a b c d=>aXD a b c|>.f d tv
def aGG(a:Prog):=tT 0 (start PP 94 [(Prog.av a)])<|gl 10 Node.av a.nodes<|gd 8 17 ((a.nodes.length:Int) >300) (gE 40 1 (bV false))<|gl 3 aY a.funs<|gd 3 24 ((a.funs.length:Int) <1) (gE 33 1 (bV false))<|gl 3 aY a.funs<|gd 4 32 ((a.funs.length:Int) > (a.nodes.length:Int)) (gE 25 1 (bV false))<|gl 3 Con.av a.cons<|gd 3 39 ((a.cons.length:Int) >20) (gE 18 1 (bV false))<|gl 6 aY a.funs<|gw 1 47 ((a.funs.length:Int) - (1:Int))<|iE 0 134 [(nI a.main),(nI 0),(nI ((a.funs.length:Int) - (1:Int)))]<|fun c=>.b 3 50 (!c) (gE 6 1 (bV false))<|iE 8 135 [(iC a.cons),(.func 136 [] [])]<|fun d=>.b 2 56 (!d) (gE 23 1 (bV false))<|.y fun b:List bS=>gp 3 138 [(iC a.cons),(.func 139 [] [])] (iS b)<|iE 0 137 [(iS b)]<|fun e=>.b 3 64 (!e) (gE 15 1 (bV false))<|iE 5 140 [(iN a.nodes),(.func 141 [(Prog.av a)] [])]<|fun f=>.b 3 72 (!f) (gE 6 1 (bV false))<|.i [rn 5,.mk a.nodes.length] [hr ((a.nodes.length:Nat) :Int),hr ((a.nodes.length:Nat) :Int),hA (a.nodes.length<100000)]<|.i [.lset 1 (jI (replicate a.nodes.length (0:Int)))] [.q (p:=replicate a.nodes.length (aY (0:Int)) = (jI (replicate a.nodes.length (0:Int)))) (aGb _ _ _)]<|.i [.set 74 (.gl 1 1 0 (replicate a.nodes.length (0:Int)).length true)] [.q (p:=(AV.gl 1 1 0 a.nodes.length true) = (.gl 1 1 0 (replicate a.nodes.length (0:Int)).length true)) (cE (aKc ..).symm)]<|gl 8 aY a.funs<|.W 4 2 [0,1] (rG a 0 (replicate a.nodes.length (0:Int)))
def aIR:=fun a b=>aGG a|>.t b tv
def aIS:=fun a b c=>aGG a|>.f b|>.t c tv
def aIT:=fun a b c d=>aGG a|>.f b|>.f c|>.t d tv
def aIU:=fun a b c d e=>aGG a|>.f b|>.f c|>.f d|>.t e tv
def aIV:=fun a b c d e f g i j=>aGG a|>.f c|>.f d|>.f e|>.f f g b i|>.t j tv
def aIW:=fun a b c d e f g i j k l m=>aGG a|>.f d|>.f e|>.f f|>.f g i b j|>.f k c l|>.t m tv
def aIX:=fun a b c d e f g i j k l m n o p q r=>aGG a|>.f f|>.f g|>.f i|>.f j k b l|>.f m c n|>.f o d p e q|>.t r tv
def aIY:=fun a b c d e f g i j k l m n o p q r s t u=>aGG a|>.f g|>.f i|>.f j|>.f k l b m|>.f n c o|>.f p d q e r|>.f s f t|>.t u tv
def aIZ:=fun a b c d e f g i j k l m n o p q r s t u v=>aGG a|>.f g|>.f i|>.f j|>.f k l b m|>.f n c o|>.f p d q e r|>.f s f t|>.f u v ⟨kk,trivial⟩
def aWy(d:Prog)(e:Int)(a:List Int):=tT 0 (rG d e a)<|gd 5 80 (e< (d.funs.length:Int)) (gX aY 6 d.funs e<|fun b=>gw 9 85 ((d.nodes.length:Int) -1)<|iE 0 134 [(nI b),(nI 0),(nI ((d.nodes.length:Int) -1))]<|fun f=>.b 2 87 (!f) (gE 6 2 (bV false))<|.i [rn 5,.ans (.ix)] [hA (0≤b),hA (b< (a.length:Int))]<|.y fun c:Int=>gj aY 0 a b.toNat c<|gw 1 92 (c+1)<|.i [.ans (.ix)] [hA (0≤b),hA (b< (a.length:Int))]<|.i [.st (aY c) (aY (c+1))] [.a (((a)[b.toNat]?) =some c) (eZ (f:=aY)),hr (some (aY (c+1)))]<|.i [.lset 1 (jI (set a b.toNat (c+1)))] [.q (p:=(jI a).set (0+b.toNat) (aY (c+1)) = (jI (set a b.toNat (c+1)))) (lB _ _ _ _)]<|.i [.set 4 (.gl 1 1 0 (set a b.toNat (c+1)).length true)] [.q (p:=(AV.gl 1 1 0 a.length true) = (.gl 1 1 0 (set a b.toNat (c+1)).length true)) (cE (jP ..).symm)]<|.i [.set 88 (.gl 1 1 0 (set a b.toNat (c+1)).length true)] [.q (p:=(AV.gl 1 1 0 a.length true) = (.gl 1 1 0 (set a b.toNat (c+1)).length true)) (cE (jP ..).symm)]<|gw 4 94 (e+1)<|.W 3 2 [0,1] (rG d (e+1) (set a b.toNat (c+1))))<|gl 8 Node.av d.nodes<|.W 4 2 [1] (mV d a 0)
def aI0:=fun a b c d e f g i j k l=>aWy a b c|>.t f d g i j e k|>.t l tv
def aI1:=fun d e f g i j k l m n o p a b c q r=>aWy d e f|>.t k g l m n i o|>.f p a b j c q a b c r ⟨kk,trivial⟩
def aI2:=fun a b c d=>aWy a b c|>.f d ⟨kk,trivial⟩
def aXE(c:Prog)(d:List Int)(a:Int):=tT 0 (mV c d a)<|gd 5 100 (a< (c.nodes.length:Int)) (gX Node.av 7 c.nodes a<|fun b=>gl 9 aY b.kids<|.W 4 2 [0] (rH c b.kids (b.kids.length:Int) d 0 a a))<|gz 5 126 0 1 aY d true<|iE 0 142 [(.ilst 1 (jI d) true),(.func 143 [] [])]<|fun b=>gE 3 1 (bV b)
def aI3:=fun a b c d e f g=>aXE a b c|>.t e d f g ⟨kk,trivial⟩
def aI4:=fun a b c d e f=>aXE a b c|>.f e d f tv
def aWz(d:Prog)(i:List Int)(j:Int)(a:List Int)(e f g:Int):=tT 0 (rH d i j a e f g)<|gd 5 108 (e<j) (gX aY 6 i e<|fun b=>gw 9 113 (f+1)<|gw 2 115 ((d.nodes.length:Int) -1)<|iE 0 134 [(nI b),(nI (f+1)),(nI ((d.nodes.length:Int) -1))]<|fun k=>.b 2 117 (!k) (gE 6 1 (bV false))<|.i [rn 5,.ans (.ix)] [hA (0≤b),hA (b< (a.length:Int))]<|.y fun c:Int=>gj aY 0 a b.toNat c<|gw 1 122 (c+1)<|.i [.ans (.ix)] [hA (0≤b),hA (b< (a.length:Int))]<|.i [.st (aY c) (aY (c+1))] [.a (((a)[b.toNat]?) =some c) (eZ (f:=aY)),hr (some (aY (c+1)))]<|.i [.lset 0 (jI (set a b.toNat (c+1)))] [.q (p:=(jI a).set (0+b.toNat) (aY (c+1)) = (jI (set a b.toNat (c+1)))) (lB _ _ _ _)]<|.i [.set 4 (.gl 0 1 0 (set a b.toNat (c+1)).length true)] [.q (p:=(AV.gl 0 1 0 a.length true) = (.gl 0 1 0 (set a b.toNat (c+1)).length true)) (cE (jP ..).symm)]<|.i [.set 118 (.gl 0 1 0 (set a b.toNat (c+1)).length true)] [.q (p:=(AV.gl 0 1 0 a.length true) = (.gl 0 1 0 (set a b.toNat (c+1)).length true)) (cE (jP ..).symm)]<|gw 4 124 (e+1)<|.W 3 1 [0] (rH d i j (set a b.toNat (c+1)) (e+1) f g))<|gw 5 125 (g+1)<|.W 3 1 [0] (mV d a (g+1))
def aI5:=fun a b c d e f g i j k l m n o p q=>aWz a b c d e f g|>.t k i l m n o j p|>.t q tv
def aI6:=fun d e f g i j k l m n o p q r s t u a b c v w=>aWz d e f g i j k|>.t o l p q r s m t|>.f u a b n c v a b c w ⟨kk,trivial⟩
def aI7:=fun a b c d e f g i j=>aWz a b c d e f g|>.f i j ⟨kk,trivial⟩
def aXF(a:Prog):=tT 0 (start PP 56 [(Prog.av a)])<|iE 10 94 [(Prog.av a)]<|fun b=>.b 2 6 (!b) (gE 6 1 (nI 2))<|gE 7 1 (nI 0)
def aLM:=fun a b c d=>aXF a b c|>.t d tv
def aLN:=fun a b c d=>aXF a b c|>.f d tv
theorem dZ (n lo a:Int) :aK PP 134 [.int .i64 n,.int .i64 lo,.int .i64 a] (.bool (cZ n lo a)) :=by
 refine aH kR0 rfl rfl ?_;by_cases h:n≥lo
 · have e:cZ n lo a=decide (n≤a) :=by unfold cZ;rw [decide_eq_true (show lo≤n from h),lE]
   rw [e];exact aUx n lo a (decide_eq_true h)
 · have e:cZ n lo a=false:=by unfold cZ;rw [decide_eq_false (show ¬lo≤n from h),sA]
   rw [e];exact aUy n lo a (decide_eq_false h)
theorem aAw (n:Int) :aK PP 224 [.int .i64 n] (.bool (cZ n (-1000000000) 1000000000)) :=
 aH kR0 rfl rfl (aQL n _ (dZ n _ _))
theorem aOR (b:ByteArray)(i:Nat)(h:128≤ (b.get! i).toNat) :128≤ (Utf8.decode b i).1:=by
 unfold Utf8.decode Utf8.runeError;simp only [add_zero];rw [if_neg (show ¬ (b.get! i).toNat<0x80 by omega)]
 repeat' split
 all_goals first
  |assumption
  | (simp_all;done)
  | (rename_i q;simp only [dC,decide_eq_true_eq,ge_iff_le]at q;simp only;omega)
theorem aUB {s:bS}{i:Nat}{c:UInt8}(h:s[i]?=some c) :∃r d,aKd (length s) (aD s) i=some (r,d) ∧ (c.toNat<128→r=c.toNat∧d=1) ∧ (128≤c.toNat→128≤r) :=by
 have f:= (zq0.1 h).1;have hb:=byte_at h;unfold aKd;have j:blt i (length s) =true:=by rw [cF];exact decide_eq_true f
 have l:mod (div (aD s) (pow 256 i)) 256=c.toNat:=hb;rw [j,l];simp only [cond];by_cases k:c.toNat<128
 · have a:blt c.toNat 128=true:=by rw [cF];exact decide_eq_true k
   rw [a];exact⟨_,_,rfl,fun _=> ⟨rfl,rfl⟩,fun g=>by omega⟩
 · have a:blt c.toNat 128=false:=by rw [cF];exact decide_eq_false k
   rw [a];refine⟨_,_,rfl,fun g=>by omega,fun _=>?_⟩;have e:aJ (length s) (aD s) =s:=dV s;rw [e];have b: ((⟨⟨s⟩⟩ :ByteArray).get! (i+0)).toNat=c.toNat:=by
    simp only [add_zero,ByteArray.get!];have: (⟨s⟩ :Array UInt8)[i]! =c:=by
     rw [Array.getElem!_eq_getD,wM,show(⟨s⟩ :Array UInt8) =s.toArray from rfl,List.getElem?_toArray,h];rfl
    rw [this]
   exact aOR _ _ (by rw [add_zero]at b;rw [b];omega)
theorem aA4 (s:bS) :∀ (t:bS) (i:Nat),s.drop i=t→Ends PP 0 (vC s i).as (.ret (.bool (hN t))) (aA [] 0)
 | [],i,h=>aLC s i (bJ h)
 | c :: t,i,h=>by
  obtain⟨l,g,b⟩ :=bH h;obtain⟨r,d,f,a,j⟩ :=aUB l;by_cases m:c.toNat<97
  · have:= (a (by omega)).1;exact Ends.eqv (aLz s i r d b f sd) (by simp [hN,rA];omega)
  · by_cases n:122<c.toNat
    · have hr:122<r:=by
       by_cases k:c.toNat<128
       ·have:= (a k).1;omega
       ·have:=j (by omega);omega
      exact Ends.eqv (aLA s i r d b f sd sd) (by simp [hN,rA];omega)
    · obtain⟨rfl,rfl⟩ :=a (by omega);refine(aLB s i _ _ b f sd sd).ends ?_;have e:rA c=true:=by simp [rA];omega
      exact Ends.eqv (aA4 s t (i+1) g) (by simp [hN,e])
theorem aI8 (s:bS) :aK PP 222 [cU s] (.bool (hN s)) :=
 aH kR0 rfl rfl ((aLy s).ends (aA4 s s 0 rfl))
theorem aI9 (s:bS) :aK PP 185 [cU s] (.bool (fX s)) :=by
 refine aH kR0 rfl rfl ?_
 match s with
 | [] =>exact aLH [] rfl
 | c ::t=>
  have b: (!(jA (length (c::t)) (aD (c::t)) 0 0)) =true:=by rw [cI];rfl
  by_cases f: (c::t).length≤8
  · have a: (decide (((length (c::t) :Nat) :Int) ≤ (8:Int))) =true:=sd;by_cases d:65≤c.toNat
    · by_cases e:c.toNat≤90
      ·exact Ends.eqv (aLD (c::t) c _ b a rfl sd sd (by simp) (aI8 t)) (by simp only [fX,decide_eq_true f,decide_eq_true d,decide_eq_true e,lE])
      ·exact Ends.eqv (aLE (c::t) c b a rfl sd sd) (by simp only [fX,decide_eq_false e,Bool.and_false,sA])
    ·exact Ends.eqv (aLF (c::t) c b a rfl sd) (by simp only [fX,decide_eq_false d,Bool.and_false,sA])
  ·exact Ends.eqv (aLG (c::t) b sd) (by simp only [fX,decide_eq_false f,sA])
theorem aOS (c:Con) :aK PP 136 [Con.av c] (.bool (fN c)) :=by
 refine aH kR0 rfl rfl ?_;have a:=aI9 c.name;cases k:fX c.name
 case false=>rw [k]at a;exact Ends.eqv (aQO c false a rfl) (by simp [fN,k])
 rw [k]at a;exact Ends.eqv (aQN c true _ a rfl (dZ _ _ _)) (by simp [fN,k])
def lN (p:Prog)(x:Node) :Bool:=if x.op=14 then true else dL p x.op x.n
theorem aOT (p:Prog)(x:Node)(f:p.funs.length≤1000) :Ends PP 0 (start PP 192 [Prog.av p,Node.av x]).as (.ret (.bool (lN p x))) (aA [] 0) :=by
 cases a: (x.op== (1:Int))
 case true=>exact Ends.eqv (aIy p x  (cZ (x.n) (-1000000000) 1000000000) a (aAw (x.n))) (by simp_all [lN,dL] <;>rfl)
 cases b: (x.op== (2:Int))
 case true=>exact Ends.eqv (aIz p x  (cZ (x.n) 0 1) a b (dZ (x.n) 0 1)) (by simp_all [lN,dL] <;>rfl)
 cases c: (x.op== (24:Int))
 case true=>exact Ends.eqv (aIA p x  (cZ (x.n) 0 3) a b c (dZ (x.n) 0 3)) (by simp_all [lN,dL] <;>rfl)
 cases d: (x.op== (4:Int))
 case true=>exact Ends.eqv (aIB p x  (cZ (x.n) (0- ((length p.funs:Nat) :Int)) 29) a b c d sdI (dZ (x.n) (0- ((length p.funs:Nat) :Int)) 29)) (by simp_all [lN,dL] <;>rfl)
 cases e: (x.op== (14:Int))
 case true=>exact Ends.eqv (aIC p x   a b c d e) (by simp_all [lN,dL] <;>rfl)
 exact Ends.eqv (aID p x   a b c d e) (by simp_all [lN,dL] <;>rfl)
theorem aGH (p:Prog)(x:Node)(a:p.funs.length≤1000) :aK PP 192 [Prog.av p,Node.av x] (.bool (lN p x)) :=
 aH kR0 rfl rfl (aOT p x a)
mutual
def mW :Pat→Int→Int
 | .mk _ _ _ ps,most=>kB ps most 1
def kB :List Pat→Int→Int→Int
 | [],_,n=>n
 |p::ps,most,n=>if n>most then n else kB ps most (n+mW p (most-n))
end
mutual
theorem aC9 :∀ (p:Pat) (m:Int),0≤m→1≤mW p m∧mW p m≤m+1
 | .mk _ _ _ a,m,h=>by rw [mW];exact aES a m 1 (by omega) (by omega)
theorem aES :∀ (b:List Pat) (m n:Int),1≤n→n≤m+1→1≤kB b m n∧kB b m n≤m+1
 | [],m,n,d,c=>by rw [kB];omega
 | p ::b,m,n,d,c=>by
  rw [kB];split
  ·omega
  · have a:=aC9 p (m-n) (by omega);exact aES b m _ (by omega) (by omega)
end
mutual
theorem aJa :∀ (p:Pat) (m:Int),0≤m→ ((bU p:Int) ≤m→mW p m=bU p) ∧ (m<bU p→m<mW p m)
 | .mk _ _ _ a,m,h=>by
  have:=aET a m 1 (by omega);simp only [mW,bU];constructor
  ·intro g;have:=this.1 (by omega);omega
  ·intro g;exact this.2 (by omega)
theorem aET :∀ (c:List Pat) (m n:Int),n≤m+1→ (n+bE c≤m→kB c m n=n+bE c) ∧ (m<n+bE c→m<kB c m n)
 | [],m,n,h=>by simp only [kB,bE];omega
 | p ::c,m,n,h=>by
  simp only [kB,bE];split
  ·omega
  · rename_i k;have a:=aJa p (m-n) (by omega);have l:=aC9 p (m-n) (by omega);have b:=aET c m (n+mW p (m-n)) (by omega);constructor
    · intro g;have:=a.1 (by omega);have:=b.1 (by omega);omega
    · intro g;refine b.2 ?_;by_cases q: (bU p:Int) ≤m-n
      ·have:=a.1 q;omega
      ·have:=a.2 (by omega);omega
end
theorem aEU (p:Pat)(m:Int)(h:0≤m) :mW p m≤m↔ (bU p:Int) ≤m:=by
 have:=aJa p m h;constructor
 · intro g;by_cases k: (bU p:Int) ≤m
   ·exact k
   ·have:=this.2 (by omega);omega
 ·intro g;have:=this.1 g;omega
theorem aDa (f n:Int)(s:bS)(ps:List Pat)(m:Int)(hm:m≤1000)(e:∀p∈ps,∀m:Int,0≤m→m≤1000→aK PP 190 [Pat.av p,.int .i64 m] (.int .i64 (mW p m))) :
  ∀ (t:List Pat) (i:Nat) (k:Int),ps.drop i=t→ (i:Int) +1≤k→k≤m+1→Ends PP 0 (zH f n s ps m k (i:Int)).as (.ret (.int .i64 (kB t m k))) (aA [] 0)
 | [],i,k,h,o,g=>by
  have:=bJ h;rw [kB];exact aOy f n s ps m k i sd
 | .mk c d b a::t,i,k,h,o,g=>by
  obtain⟨j,q,r⟩ :=bH h;rw [kB];split
  ·exact aOw f n s ps m k i c d b a sd sd sd sd
  · rename_i hk;have l:=aC9 (.mk c d b a) (m-k) (by omega);refine(aOx f n s ps m k i c d b a _ sd sd sd sd sd (e (.mk c d b a) (oG j) (m-k) (by omega) (by omega)) sd sd).ends ?_;exact aDa f n s ps m hm e t (i+1) _ q (by omega) (by omega)
mutual
theorem aDb :∀ (p:Pat) (m:Int),0≤m→m≤1000→aK PP 190 [Pat.av p,.int .i64 m] (.int .i64 (mW p m))
 | .mk f n s a,m,c,b=>by
  refine aH kR0 (by simp [keylessL,lK,keyless]) rfl ?_;rw [mW];refine(aOv f n s a m).ends ?_;exact aDa f n s a m b (aEV a) a 0 1 rfl (by omega) (by omega)
theorem aEV :∀ (b:List Pat),∀p∈b,∀m:Int,0≤m→m≤1000→aK PP 190 [Pat.av p,.int .i64 m] (.int .i64 (mW p m))
 | [],p,a,_,_,_=>by cases a
 | q::b,p,a,m,c,d=>by
  rcases zq7.1 a with e|a
  ·rw [e];exact aDb q m c d
  ·exact aEV b p a m c d
end
theorem sdW {p:Prop}(h:p:=by simp_all only [inB_iff,inB_not,beq_iff_eq,decide_eq_true_eq,decide_eq_false_iff_not] <;>omega) :p:=h
theorem idW {p:Prop}(h:p:=by exact⟨_,lZ (by simp_all only [inB_iff,inB_not,beq_iff_eq,decide_eq_true_eq,decide_eq_false_iff_not] <;>omega)⟩) :p:=h
theorem aEW (l:List Pat)(p:Prog)(hl:l.length<1000000)(c:∀q∈l,aK PP 191 [Prog.av p,Pat.av q] (.bool (dP p.cons q))) :
  ∀ (t:List Pat) (i:Nat),l.drop i=t→Ends PP 0 (aBC l p (i:Int)).as (.ret (.bool (cT p.cons t))) (aA [] 0)
 | [],i,h=>by
  have:=bJ h;exact Ends.eqv (aQ2 l p i sd) (by simp [cT])
 | .mk f n s a::t,i,h=>by
  obtain⟨d,e,g⟩ :=bH h;have b:=c (.mk f n s a) (oG d);cases k:dP p.cons (.mk f n s a)
  case false=>
   rw [k]at b;exact Ends.eqv (aQ0 l p i f n s a false sd sd sd b rfl) (by simp [cT,k])
  rw [k]at b;refine(aQ1 l p i f n s a true sd sd sd b rfl sd).ends ?_;exact Ends.eqv (aEW l p hl c t (i+1) e) (by simp [cT,k])
theorem aOU (l:List Pat)(p:Prog)(hl:l.length<1000000)(a:∀q∈l,aK PP 191 [Prog.av p,Pat.av q] (.bool (dP p.cons q))) :
  aK PP 193 [.ilst 4 (Pats.av l) false,.func 191 [Prog.av p] []] (.bool (cT p.cons l)) :=
 aH kR0 (by simp [keylessL,keyless,Prog.av]) rfl ((aQZ l p).ends (aEW l p hl a l 0 rfl))
theorem aWA (p:Prog)(b d:Int)(c:bS)(a:List Pat)(hc:p.cons.length≤1000)(e:aK PP 193 [.ilst 4 (Pats.av a) false,.func 191 [Prog.av p] []] (.bool (cT p.cons a))) :
  Ends PP 0 (start PP 191 [Prog.av p,Pat.av (.mk b d c a)]).as (.ret (.bool (dP p.cons (.mk b d c a)))) (aA [] 0) :=by
 have w:IntKind.i64.wrap ((p.cons.length:Int) -1) = (p.cons.length:Int) -1:=by apply wrap64<;>omega
 cases f: (!(jA (length c) (aD c) 0 0))
 case true=>exact Ends.eqv (aQP p b d c a   f) (by clear e;simp_all [dP,dK,eN,cI,eI] <;>rfl)
 cases g: (!(cT p.cons a))
 case true=>exact Ends.eqv (aQQ p b d c a  (cT p.cons a) f e g) (by clear e;simp_all [dP,dK,eN,cI,eI] <;>rfl)
 cases h: (b== (1:Int))
 case true=>
  cases t: (d== (0:Int))
  case true=>exact Ends.eqv (aQR p b d c a  (cT p.cons a) f e g h t) (by clear e;simp_all [dP,dK,eN,cI,eI] <;>rfl)
  exact Ends.eqv (aQS p b d c a  (cT p.cons a) f e g h t) (by clear e;simp_all [dP,dK,eN,cI,eI] <;>rfl)
 cases i: (b== (2:Int))
 case true=>
  cases u: (d== (0:Int))
  case true=>exact Ends.eqv (aQT p b d c a  (cT p.cons a) f e g h i u) (by clear e;simp_all [dP,dK,eN,cI,eI] <;>rfl)
  exact Ends.eqv (aQU p b d c a  (cT p.cons a) f e g h i u) (by clear e;simp_all [dP,dK,eN,cI,eI] <;>rfl)
 cases j: (b== (5:Int))
 case true=>
  cases r: (d== (0:Int))
  case true=>exact Ends.eqv (aQV p b d c a  (cT p.cons a) f e g h i j r) (by clear e;simp_all [dP,dK,eN,cI,eI] <;>rfl)
  exact Ends.eqv (aQW p b d c a  (cT p.cons a) f e g h i j r) (by clear e;simp_all [dP,dK,eN,cI,eI] <;>rfl)
 cases l: (b== (3:Int))
 case true=>
  cases o: (cZ d (-1000000000) 1000000000)
  case true=>exact Ends.eqv (aQX p b d c a  (cT p.cons a) (cZ d (-1000000000) 1000000000) f e g h i j l (aAw d) o) (by clear e;simp_all [dP,dK,eN,cI,eI] <;>rfl)
  exact Ends.eqv (aQY p b d c a  (cT p.cons a) (cZ d (-1000000000) 1000000000) f e g h i j l (aAw d) o) (by clear e;simp_all [dP,dK,eN,cI,eI] <;>rfl)
 cases k: (b== (4:Int))
 case true=>
  cases q: (cZ d 0 1)
  case true=>exact Ends.eqv (aOz p b d c a  (cT p.cons a) (cZ d 0 1) f e g h i j l k (dZ d 0 1) q) (by clear e;simp_all [dP,dK,eN,cI,eI] <;>rfl)
  exact Ends.eqv (aOA p b d c a  (cT p.cons a) (cZ d 0 1) f e g h i j l k (dZ d 0 1) q) (by clear e;simp_all [dP,dK,eN,cI,eI] <;>rfl)
 cases m: (b== (6:Int))
 case true=>
  cases n: (cZ d 0 (IntKind.i64.wrap (((length p.cons:Nat) :Int) - (1:Int))))
  case true=>
   obtain⟨v,s⟩ :∃y,((p.cons)[d.toNat]?) =some y:=idW;exact Ends.eqv (aOB p b d c a  (cT p.cons a) (cZ d 0 (IntKind.i64.wrap (((length p.cons:Nat) :Int) - (1:Int)))) v f e g h i j l k m (dZ d 0 (IntKind.i64.wrap (((length p.cons:Nat) :Int) - (1:Int)))) n sdW s) (by clear e;simp_all [dP,dK,eN,cI,eI] <;>rfl)
  exact Ends.eqv (aOC p b d c a  (cT p.cons a) (cZ d 0 (IntKind.i64.wrap (((length p.cons:Nat) :Int) - (1:Int)))) f e g h i j l k m (dZ d 0 (IntKind.i64.wrap (((length p.cons:Nat) :Int) - (1:Int)))) n) (by clear e;simp_all [dP,dK,eN,cI,eI] <;>rfl)
 exact Ends.eqv (aOD p b d c a  (cT p.cons a) f e g h i j l k m) (by clear e;simp_all [dP,dK,eN,cI,eI] <;>rfl)
mutual
theorem aEX (p:Prog)(hc:p.cons.length≤1000) :∀ (q:Pat),bU q<1000000→aK PP 191 [Prog.av p,Pat.av q] (.bool (dP p.cons q))
 | .mk f n s a,h=>by
  refine aH kR0 (by simp [keylessL,lK,keyless,Prog.av]) rfl ?_;simp only [bU]at h;have:=eV a;exact aWA p f n s a hc (aOU a p (by omega) (aJb p hc a (by omega)))
theorem aJb (p:Prog)(hc:p.cons.length≤1000) :∀ (b:List Pat),bE b<1000000→∀q∈b,aK PP 191 [Prog.av p,Pat.av q] (.bool (dP p.cons q))
 | [],_,q,a=>by cases a
 | r::b,h,q,a=>by
  simp only [bE]at h;rcases zq7.1 a with e|a
  ·rw [e];exact aEX p hc r (by omega)
  ·exact aJb p hc b (by omega) q a
end
def bZ (op:Int) :Option Int:=
 if op=1∨op=2∨op=3∨op=4∨op=21∨op=25∨op=28 then some 0
 else if op=5∨op=27∨op=16∨op=17∨op=19∨op=20∨op=23∨op=26∨op=24 then some 1
 else if op=6∨op=7∨op=9∨op=10∨op=11∨op=12∨op=13∨op=18∨op=22 then some 2
 else if op=8 then some 3 else none
def aV (op:Int) :AV:=
 match bZ op with
 |some k=>.iface 278 (.int .i64 k)
 |none=>if op=15 then .iface 252 (.agg [])else if op=14 then .iface 279 (.agg [])else .nili
theorem aJc {op k:Int}(h:bZ op=some k)(pats a:Int) :bY op pats a=k∧op≠15∧op≠14:=by
 unfold bZ at h;unfold bY;split at h
 ·rename_i g;rw [if_pos g];simp only [Option.some.injEq]at h;refine⟨h,?_,?_⟩ <;>omega
 · rename_i d;rw [if_neg d];split at h
   ·rename_i g;rw [if_pos g];simp only [Option.some.injEq]at h;refine⟨h,?_,?_⟩ <;>omega
   · rename_i b;rw [if_neg b];split at h
     ·rename_i g;rw [if_pos g];simp only [Option.some.injEq]at h;refine⟨h,?_,?_⟩ <;>omega
     · rename_i c;rw [if_neg c];split at h
       ·rename_i g;rw [if_pos g];simp only [Option.some.injEq]at h;refine⟨h,?_,?_⟩ <;>omega
       ·cases h
theorem aLO {op:Int}(h:bZ op=none)(pats a:Int) :bY op pats a=if op=15 then 1+pats else if op=14 then a else -1:=by
 unfold bZ at h;unfold bY;split at h
 ·cases h
 · rename_i d;rw [if_neg d];split at h
   ·cases h
   · rename_i c;rw [if_neg c];split at h
     ·cases h
     · rename_i b;rw [if_neg b];split at h
       ·cases h
       ·rename_i g;rw [if_neg g]
theorem aOV (op:Int) :Ends PP 0 (start PP 188 [.int .i64 op]).as (.ret (aV op)) (aA [] 0) :=by
 cases b: (op== (1:Int))
 case true=>exact Ends.eqv (aIE op   b) (by simp_all [aV,bZ])
 cases d: (op== (2:Int))
 case true=>exact Ends.eqv (aIF op   b d) (by simp_all [aV,bZ])
 cases f: (op== (3:Int))
 case true=>exact Ends.eqv (aIG op   b d f) (by simp_all [aV,bZ])
 cases g: (op== (4:Int))
 case true=>exact Ends.eqv (aIH op   b d f g) (by simp_all [aV,bZ])
 cases i: (op== (21:Int))
 case true=>exact Ends.eqv (aII op   b d f g i) (by simp_all [aV,bZ])
 cases k: (op== (25:Int))
 case true=>exact Ends.eqv (aIJ op   b d f g i k) (by simp_all [aV,bZ])
 cases l: (op== (28:Int))
 case true=>exact Ends.eqv (aIK op   b d f g i k l) (by simp_all [aV,bZ])
 cases n: (op== (5:Int))
 case true=>exact Ends.eqv (aIL op   b d f g i k l n) (by simp_all [aV,bZ])
 cases p: (op== (27:Int))
 case true=>exact Ends.eqv (aIM op   b d f g i k l n p) (by simp_all [aV,bZ])
 cases a: (op== (16:Int))
 case true=>exact Ends.eqv (aIN op   b d f g i k l n p a) (by simp_all [aV,bZ])
 cases c: (op== (17:Int))
 case true=>exact Ends.eqv (aGn op   b d f g i k l n p a c) (by simp_all [aV,bZ])
 cases e: (op== (19:Int))
 case true=>exact Ends.eqv (aGo op   b d f g i k l n p a c e) (by simp_all [aV,bZ])
 cases h: (op== (20:Int))
 case true=>exact Ends.eqv (aGp op   b d f g i k l n p a c e h) (by simp_all [aV,bZ])
 cases j: (op== (23:Int))
 case true=>exact Ends.eqv (aGq op   b d f g i k l n p a c e h j) (by simp_all [aV,bZ])
 cases m: (op== (24:Int))
 case true=>exact Ends.eqv (aGr op   b d f g i k l n p a c e h j m) (by simp_all [aV,bZ])
 cases o: (op== (26:Int))
 case true=>exact Ends.eqv (aGs op   b d f g i k l n p a c e h j m o) (by simp_all [aV,bZ])
 cases q: (op== (6:Int))
 case true=>exact Ends.eqv (aGt op   b d f g i k l n p a c e h j m o q) (by simp_all [aV,bZ])
 cases r: (op== (7:Int))
 case true=>exact Ends.eqv (aGu op   b d f g i k l n p a c e h j m o q r) (by simp_all [aV,bZ])
 cases s: (op== (9:Int))
 case true=>exact Ends.eqv (aGv op   b d f g i k l n p a c e h j m o q r s) (by simp_all [aV,bZ])
 cases t: (op== (10:Int))
 case true=>exact Ends.eqv (aGw op   b d f g i k l n p a c e h j m o q r s t) (by simp_all [aV,bZ])
 cases u: (op== (11:Int))
 case true=>exact Ends.eqv (aGx op   b d f g i k l n p a c e h j m o q r s t u) (by simp_all [aV,bZ])
 cases v: (op== (12:Int))
 case true=>exact Ends.eqv (aGy op   b d f g i k l n p a c e h j m o q r s t u v) (by simp_all [aV,bZ])
 cases w: (op== (13:Int))
 case true=>exact Ends.eqv (aGz op   b d f g i k l n p a c e h j m o q r s t u v w) (by simp_all [aV,bZ])
 cases x: (op== (18:Int))
 case true=>exact Ends.eqv (aGA op   b d f g i k l n p a c e h j m o q r s t u v w x) (by simp_all [aV,bZ])
 cases y: (op== (22:Int))
 case true=>exact Ends.eqv (aGB op   b d f g i k l n p a c e h j m o q r s t u v w x y) (by simp_all [aV,bZ])
 cases z: (op== (8:Int))
 case true=>exact Ends.eqv (aGC op   b d f g i k l n p a c e h j m o q r s t u v w x y z) (by simp_all [aV,bZ])
 cases A: (op== (14:Int))
 case true=>exact Ends.eqv (aGD op   b d f g i k l n p a c e h j m o q r s t u v w x y z A) (by simp_all [aV,bZ])
 cases B: (op== (15:Int))
 case true=>exact Ends.eqv (aGE op   b d f g i k l n p a c e h j m o q r s t u v w x y z A B) (by simp_all [aV,bZ])
 exact Ends.eqv (aGF op   b d f g i k l n p a c e h j m o q r s t u v w x y z A B) (by simp_all [aV,bZ])
theorem aLP (op:Int) :keyless (aV op) =true:=by
 unfold aV;split
 ·rfl
 · split
   ·rfl
   ·split<;>rfl
theorem aGI (op:Int) :aK PP 188 [.int .i64 op] (aV op) :=
 aH kR0 rfl (aLP op) (aOV op)
theorem aDc (p:Prog)(x:Node)(hc:p.cons.length≤1000)(j:x.pats.length≤10) :
  ∀ (t:List Pat) (i:Nat),x.pats.drop i=t→Ends PP 0 (pQ p x (i:Int)).as (.ret (.bool (t.all (gU p.cons)))) (aA [] 0)
 | [],i,h=>by
  have:=bJ h;exact Ends.eqv (aOQ p x i sd) (by simp)
 | .mk f n s a::t,i,h=>by
  obtain⟨o,l,m⟩ :=bH h;have e:=aDb (.mk f n s a) 12 (by omega) (by omega);by_cases k:bU (.mk f n s a) ≤12
  · have b:mW (.mk f n s a) 12≤12:= (aEU (.mk f n s a) 12 (by omega)).2 (by omega);have d:=aEX p hc (.mk f n s a) (by omega);cases c:dP p.cons (.mk f n s a)
    case false=>
     rw [c]at d;exact Ends.eqv (aON p x i f n s a _ false sd sd sd e (decide_eq_true b) d rfl) (by simp [gU,c])
    rw [c]at d;refine(aOO p x i f n s a _ true sd sd sd e (decide_eq_true b) d rfl sd).ends ?_;exact Ends.eqv (aDc p x hc j t (i+1) l) (by simp [gU,k,c])
  · have b:¬mW (.mk f n s a) 12≤12:=fun g=>k (by have:= (aEU (.mk f n s a) 12 (by omega)).1 g;omega);exact Ends.eqv (aOP p x i f n s a _ sd sd sd e (decide_eq_false b)) (by simp [gU,k])
theorem aLQ (p:Prog)(x:Node)(hc:p.cons.length≤1000)(u:p.funs.length≤1000)(t:x.pats.length≤10)(hk:x.kids.length≤10) :aK PP 141 [Prog.av p,Node.av x] (.bool (aW p x)) :=by
 refine aH kR0 rfl rfl ?_;have o:IntKind.i64.wrap ((p.cons.length:Int) -1) = (p.cons.length:Int) -1:=by apply wrap64<;>omega
 have a:=aGI x.op;have h:=aGH p x u;have hl:=aDc p x hc t x.pats 0 rfl;cases n:bZ x.op
 case some k=>
  obtain⟨q,v,y⟩ :=aJc n (x.pats.length:Int) (fA p x);have ev:aV x.op= .iface 278 (.int .i64 k) :=by unfold aV;rw [n]
  rw [ev]at a;have m:aW p x= (lN p x&&decide (x.pats.length=0) &&x.pats.all (gU p.cons) &&decide ((x.kids.length:Int) =k)) :=by
   simp only [aW,fZ,lN,q,if_neg v,if_neg y]
  rw [m];by_cases j:x.pats.length=0
  · by_cases b: (x.kids.length:Int) =k
    · have f: (((length x.kids:Nat) :Int) ==k) =true:=by simp [b]
      cases i:lN p x
      case false=>
       rw [i]at h;exact Ends.eqv (aLJ p x k false a sd f h rfl) (by simp)
      rw [i]at h;refine(aLI p x k true a sd f h rfl).ends ?_;exact Ends.eqv hl (by simp [j,b])
    · have f: (((length x.kids:Nat) :Int) ==k) =false:=by simp [b]
      exact Ends.eqv (aLK p x k a sd f) (by simp [b])
  ·exact Ends.eqv (aOM p x k a sd) (by simp [j])
 have q:=aLO n (x.pats.length:Int) (fA p x);by_cases g:x.op=15
 · have ev:aV x.op= .iface 252 (.agg []) :=by unfold aV;rw [n];simp only [g,if_true]
   rw [ev]at a;have m:aW p x= (lN p x&&cZ (x.pats.length:Int) 1 5&&x.pats.all (gU p.cons) &&decide ((x.kids.length:Int) =1+ (x.pats.length:Int))) :=by
    simp only [aW,fZ,lN,q,if_pos g,if_neg (show ¬x.op=14 by omega)]
   rw [m];have e:=dZ (x.pats.length:Int) 1 5;cases j:cZ (x.pats.length:Int) 1 5
   case false=>
    rw [j]at e;exact Ends.eqv (aOH p x false a e rfl) (by simp)
   rw [j]at e;by_cases b: (x.kids.length:Int) =1+ (x.pats.length:Int)
   · have f: (((length x.kids:Nat) :Int) == ((1:Int) + ((length x.pats:Nat) :Int))) =true:=by simp [b]
     cases i:lN p x
     case false=>
      rw [i]at h;exact Ends.eqv (aOF p x true false a e rfl sd f h rfl) (by simp)
     rw [i]at h;refine(aOE p x true true a e rfl sd f h rfl).ends ?_;exact Ends.eqv hl (by simp [b])
   · have f: (((length x.kids:Nat) :Int) == ((1:Int) + ((length x.pats:Nat) :Int))) =false:=by simp [b]
     exact Ends.eqv (aOG p x true a e rfl sd f) (by simp [b])
 · by_cases d:x.op=14
   · have ev:aV x.op= .iface 279 (.agg []) :=by unfold aV;rw [n];simp [d]
     rw [ev]at a;have m:aW p x= (cZ x.n 0 ((p.cons.length:Int) -1) &&decide (x.pats.length=0) &&x.pats.all (gU p.cons) &&decide ((x.kids.length:Int) =fA p x)) :=by
      simp only [aW,fZ,dL,q,if_neg g,if_pos d,if_neg (show ¬x.op=1 by omega),if_neg (show ¬x.op=2 by omega),if_neg (show ¬x.op=4 by omega),if_neg (show ¬x.op=24 by omega)]
     rw [m];by_cases j:x.pats.length=0
     · have e:=dZ x.n 0 ((p.cons.length:Int) -1);rw [←o]at e;cases b:cZ x.n 0 ((p.cons.length:Int) -1)
       case false=>
        rw [o,b,←o]at e;exact Ends.eqv (aOL p x false a sd e rfl) (by simp)
       rw [o,b,←o]at e;have hb:=inB_iff.1 b;obtain⟨c,l⟩ :∃c,p.cons[x.n.toNat]?=some c:= ⟨_,lZ (by omega)⟩;have s:fA p x=c.args:=by simp [fA,d,b,eN,l]
       rw [s];by_cases i: (x.kids.length:Int) =c.args
       · have f: (((length x.kids:Nat) :Int) ==c.args) =true:=by simp [i]
         have r:lN p x=true:=by simp [lN,d]
         rw [r]at h;refine(aOJ p x true c true a sd e rfl (by omega) l f h rfl).ends ?_;exact Ends.eqv hl (by simp [j,i])
       · have f: (((length x.kids:Nat) :Int) ==c.args) =false:=by simp [i]
         exact Ends.eqv (aOK p x true c a sd e rfl (by omega) l f) (by simp [i])
     ·exact Ends.eqv (aOI p x a sd) (by simp [j])
   · have ev:aV x.op= .nili:=by unfold aV;rw [n];simp [g,d]
     rw [ev]at a;have m:aW p x=false:=by
      have:bY x.op x.pats.length (fA p x) = -1:=by rw [q,if_neg g,if_neg d]
      have w:¬ (x.kids.length:Int) = -1:=by omega
      simp [aW,this,w]
     rw [m];exact aLL p x a
def uA :List bS→List (bS×Bool) →List (bS×Bool)
 | [],m=>m
 |x::t,m=>uA t (dN x true m)
theorem zI (l:List bS)(hl:l.length<1000000) :∀ (t:List bS) (i:Nat) (m:List (bS×Bool)),l.drop i=t→Ends PP 0 (rF l (i:Int) m).as (.ret (.bool (decide ((uA t m).length=l.length)))) (aA [] 0)
 | [],i,m,h=>by
  have:=bJ h;refine Ends.eqv (aIQ l i m sd) ?_;have: (((length m:Nat) :Int) == ((length l:Nat) :Int)) =decide (m.length=l.length) :=by
   by_cases k:m.length=l.length<;>simp [k] <;>omega
  rw [this];rfl
 | x::t,i,m,h=>by
  obtain⟨c,a,b⟩ :=bH h;refine(aIP l i m x sd sd sd sd).ends ?_;exact zI l hl t (i+1) _ a
theorem aDd {k:bS}{v w:Bool}:∀ {m:List (bS×Bool)},vN k m=some w→ (dN k v m).map Prod.fst=m.map Prod.fst
 | [],h=>by cases h
 | e::m,h=>by
  unfold vN at h;unfold dN;split at h
  ·rename_i hk;rw [if_pos hk];simp [hk]
  ·rename_i hk;rw [if_neg hk];simp [aDd h]
theorem aDe {k:bS}{v:Bool}:∀ {m:List (bS×Bool)},vN k m=none→ (dN k v m).map Prod.fst=m.map Prod.fst++ [k]
 | [],_=>rfl
 | e::m,h=>by
  unfold vN at h;unfold dN;split at h
  ·cases h
  ·rename_i hk;rw [if_neg hk];simp [aDe h]
theorem aDf {k:bS}:∀ {m:List (bS×Bool)},(vN k m).isSome=vO (m.map Prod.fst) k
 | [] =>rfl
 | e ::m=>by
  unfold vN;split
  ·rename_i hk;simp [vO,hk]
  · rename_i hk;have:¬e.1=k:=fun h=>hk h.symm;rw [aDf];simp [vO,this]
theorem aEY :∀ (t:List bS) (m:List (bS×Bool)),(uA t m).length≤m.length+t.length
 | [],m=>by simp [uA]
 | x::t,m=>by
  have a:=aEY t (dN x true m);have b: (dN x true m).length≤m.length+1:=by
   cases h:vN x m with
   |none=>have:=congrArg length (aDe (v:=true) h);simp at this;omega
   |some w=>have:=congrArg length (aDd (v:=true) h);simp at this;omega
  simp only [uA,rY];omega
theorem aDg :∀ (t:List bS) (m:List (bS×Bool)),(uA t m).length=m.length+t.length↔dO (m.map Prod.fst) t=true
 | [],m=>by simp [uA,dO]
 | x::t,m=>by
  simp only [uA,dO];cases h:vN x m
  case some w=>
   have e:=aDd (v:=true) h;have c:vO (m.map Prod.fst) x=true:=by rw [←aDf,h];rfl
   have a:=aEY t (dN x true m);have b:=congrArg length e;simp only [lP]at b;rw [c];constructor
   ·intro g;simp only [rY]at g;omega
   ·intro g;simp at g
  have e:=aDe (v:=true) h;have c:vO (m.map Prod.fst) x=false:=by rw [←aDf,h];rfl
  have d:=aDg t (dN x true m);have b:=congrArg length e;simp only [lP,pU,List.length_singleton]at b;rw [c,←e];simp only [Bool.not_false,lE,rY];rw [←d,b];omega
theorem aGJ (l:List bS)(hl:l.length<1000000) :aK PP 137 [.ilst 1 (map cU l) false] (.bool (lV l)) :=by
 refine aH kR0 rfl rfl ((aIO l).ends (Ends.eqv (zI l hl l 0 [] rfl) ?_));have:=aDg l [];simp only [List.length_nil,jS,map_nil]at this;congr 1;cases k:lV l
 case true=>exact decide_eq_true (this.2 k)
 exact decide_eq_false fun g=>by have:=this.1 g;unfold lV at k;rw [k]at this;cases this
theorem aEZ (l:List Con)(hl:l.length<1000000) :∀ (t:List Con) (i:Nat),l.drop i=t→Ends PP 0 (aBE l (i:Int)).as (.ret (.bool (t.all fN))) (aA [] 0)
 | [],i,h=>by
  have:=bJ h;exact Ends.eqv (aRa l i sd) (by simp)
 | c::t,i,h=>by
  obtain⟨e,b,d⟩ :=bH h;have a:=aOS c;cases k:fN c
  case false=>rw [k]at a;exact Ends.eqv (aQ8 l i c false sd sd sd a rfl) (by simp [k])
  rw [k]at a;refine(aQ9 l i c true sd sd sd a rfl sd).ends ?_;exact Ends.eqv (aEZ l hl t (i+1) b) (by simp [k])
theorem aOW (l:List Con)(hl:l.length<1000000) :aK PP 135 [.ilst 2 (map Con.av l) false,.func 136 [] []] (.bool (l.all fN)) :=
 aH kR0 rfl rfl ((aQ7 l).ends (aEZ l hl l 0 rfl))
theorem aE0 (l:List Node)(p:Prog)(hl:l.length<1000000)(b:∀x∈l,aK PP 141 [Prog.av p,Node.av x] (.bool (aW p x))) :∀ (t:List Node) (i:Nat),l.drop i=t→Ends PP 0 (aBD l p (i:Int)).as (.ret (.bool (t.all (aW p)))) (aA [] 0)
 | [],i,h=>by
  have:=bJ h;exact Ends.eqv (aQ6 l p i sd) (by simp)
 | c::t,i,h=>by
  obtain⟨d,e,f⟩ :=bH h;have a:=b c (oG d);cases k:aW p c
  case false=>rw [k]at a;exact Ends.eqv (aQ4 l p i c false sd sd sd a rfl) (by simp [k])
  rw [k]at a;refine(aQ5 l p i c true sd sd sd a rfl sd).ends ?_;exact Ends.eqv (aE0 l p hl b t (i+1) e) (by simp [k])
theorem aOX (l:List Node)(p:Prog)(hl:l.length<1000000)(a:∀x∈l,aK PP 141 [Prog.av p,Node.av x] (.bool (aW p x))) :aK PP 140 [.ilst 4 (map Node.av l) false,.func 141 [Prog.av p] []] (.bool (l.all (aW p))) :=
 aH kR0 rfl rfl ((aQ3 l p).ends (aE0 l p hl a l 0 rfl))
def one (k:Int) :Bool:=decide (k=1)
theorem aE1 (l:List Int)(hl:l.length<1000000) :∀ (t:List Int) (i:Nat),l.drop i=t→Ends PP 0 (aBF l (i:Int)).as (.ret (.bool (t.all one))) (aA [] 0)
 | [],i,h=>by
  have:=bJ h;exact Ends.eqv (aRe l i sd) (by simp)
 | c ::t,i,h=>by
  obtain⟨d,a,b⟩ :=bH h;by_cases k:c=1
  · refine(aRd l i c sd sd sd (by simp [k]) sd).ends ?_;exact Ends.eqv (aE1 l hl t (i+1) a) (by simp [k,one])
  ·exact Ends.eqv (aRc l i c sd sd sd (by simp [k])) (by simp [k,one])
theorem aOY (l:List Int)(hl:l.length<1000000) :aK PP 142 [.ilst 1 (map aY l) true,.func 143 [] []] (.bool (l.all one)) :=
 aH kR0 rfl rfl ((aRb l).ends (aE1 l hl l 0 rfl))
theorem aE2 (l:List Con)(hl:l.length<100000) :∀ (t:List Con) (i:Nat),l.drop i=t→Ends PP 0 (aBG l (i:Int) (aT (l.take i))).as (.ret (.ilst 1 (map cU (aT l)) false)) (aA [] 0)
 | [],i,h=>by
  have b:=bJ h;have e:aT (l.take i) =aT l:=by rw [aBg b]
  rw [e];exact aRh l i _ sd
 | c::t,i,h=>by
  obtain⟨a,d,f⟩ :=bH h;have e:aT (l.take i) ++ [c.name] =aT (l.take (i+1)) :=by
   rw [List.take_add_one,a];simp [aT]
  refine(aRg l i (aT (l.take i)) c sd sd sd (by simp [aT];omega) sd).ends ?_;rw [e];exact aE2 l hl t (i+1) d
theorem aOZ (l:List Con)(hl:l.length<100000) :aK PP 138 [.ilst 2 (map Con.av l) false,.func 139 [] []] (.ilst 1 (map cU (aT l)) false) :=
 aH kR0 rfl rfl ((aRf l).ends (aE2 l hl l 0 rfl))
def lL (lo n:Int) :List Int→List Int→Option (List Int)
 | [],c=>some c
 |k::ks,c=>if cZ k lo (n-1) =true then lL lo n ks (c.set k.toNat (c.getD k.toNat 0+1))else none
def kC (p:Prog) :Nat→List Node→List Int→Option (List Int)
 |_,[],c=>some c
 | i,x::t,c=>match lL ((i:Int) +1) (p.nodes.length:Int) x.kids c with
   |some d=>kC p (i+1) t d
   |none=>none
def nT :Option (List Int) →Bool
 |some c=>c.all one
 |none=>false
def below (b:Int)(c:List Int) :Prop:=∀k∈c,0≤k∧k≤b
theorem aAx {b:Int}{c:List Int}(h:below b c){i:Nat}{z:Int}(hz:c[i]?=some z) :0≤z∧z≤b:=h z (oG hz)
theorem aE3 {b:Int}{c:List Int}(h:below b c){i:Nat}{z:Int}(hz:c[i]?=some z) :below (b+1) (c.set i (z+1)) :=fun k hk=>by
 rcases List.mem_or_eq_of_mem_set hk with g|g
 ·have:=h k g;omega
 ·have:=aAx h hz;omega
theorem bF2 (p:Prog)(i:Nat)(l:i<p.nodes.length)(o:p.nodes.length≤1000)(ks:List Int)(hk:ks.length≤1000)(K:List Int→Bool)(B:Int)(hB:0≤B)(g:B≤1000000)
  (hb:∀v:List Int,v.length=p.nodes.length→below (B+ks.length) v→Ends PP 0 (mV p v ((i:Int) +1)).as (.ret (.bool (K v))) (aA [] 0)) :
  ∀ (t:List Int) (k:Nat) (c:List Int),c.length=p.nodes.length→k≤ks.length→below (B+k) c→ks.drop k=t→Ends PP 0 (rH p ks (ks.length:Int) c (k:Int) (i:Int) (i:Int)).as (.ret (.bool (match lL ((i:Int) +1) p.nodes.length t c with|some v=>K v|none=>false))) (aA [] 0)
 | [],k,c,hc,f,b,h=>by
  have:=bJ h;have e:k=ks.length:=by omega
  subst e;refine(aI7 p ks ks.length c ks.length i i sd sd).ends ?_;exact hb c hc b
 | y::t,k,c,hc,f,b,h=>by
  obtain⟨u,n,s⟩ :=bH h;have a:=dZ y ((i:Int) +1) ((p.nodes.length:Int) -1);cases d:cZ y ((i:Int) +1) ((p.nodes.length:Int) -1)
  case false=>
   rw [d]at a;exact Ends.eqv (aI5 p ks ks.length c k i i y false sd sd sd sd sd a rfl) (by simp [lL,d])
  rw [d]at a;have w:=inB_iff.1 d;obtain⟨z,hz⟩ :∃z,c[y.toNat]?=some z:= ⟨_,lZ (by omega)⟩;have j:=aAx b hz;refine(aI6 p ks ks.length c k i i y true z sd sd sd sd sd a rfl (by omega) (by omega) hz sd sd).ends ?_;have e:c.getD y.toNat 0=z:=by rw [pV,hz];rfl
  have r:lL ((i:Int) +1) p.nodes.length (y::t) c=lL ((i:Int) +1) p.nodes.length t (c.set y.toNat (z+1)) :=by
   rw [lL,if_pos d,e]
  rw [r];refine bF2 p i l o ks hk K B hB g hb t (k+1) (c.set y.toNat (z+1)) (by simpa using hc) (by omega) ?_ n;have:=aE3 b hz;intro q m;have:=this q m
  push_cast
  omega
def rI :List Node→Nat
 | [] =>0
 |x::t=>x.kids.length+rI t
theorem aDh :∀ (t:List Node),(∀x∈t,x.kids.length≤10) →rI t≤10*t.length
 | [],_=>by simp [rI]
 | x::t,h=>by
  have a:=aDh t (fun y c=>h y (dR _ c));have b:=h x (dJ ..);simp only [rI,rY];omega
theorem bF1 (p:Prog)(b:aE p=true)(e:p.nodes.length≤1000) :∀ (t:List Node) (i:Nat) (c:List Int) (B:Int),0≤B→B+rI t≤100000→c.length=p.nodes.length→below B c→p.nodes.drop i=t →
  Ends PP 0 (mV p c (i:Int)).as (.ret (.bool (nT (kC p i t c)))) (aA [] 0)
 | [],i,c,B,f,d,hc,hb,h=>by
  have:=bJ h;exact Ends.eqv (aI4 p c i _ sd (aOY c (by omega))) rfl
 | x::t,i,c,B,f,d,hc,hb,h=>by
  obtain⟨j,m,g⟩ :=bH h;have l:bA x=true:=by
   simp only [aE,dC]at b;exact zq27.1 b.2 x (oG j)
  simp only [bA,dC,decide_eq_true_eq]at l;simp only [rI]at d;refine(aI3 p c i x sd sd sd).ends ?_;refine Ends.eqv (bF2 p i g e x.kids (by omega) (fun v=>nT (kC p (i+1) t v)) B f (by omega) (fun v k a=>bF1 p b e t (i+1) v (B+x.kids.length) (by omega) (by omega) k a m) x.kids 0 c hc (by omega) (by simpa using hb) rfl) ?_;rw [kC];cases lL ((i:Int) +1) (p.nodes.length:Int) x.kids c<;>rfl
theorem bF0 (p:Prog)(g:aE p=true)(f:p.nodes.length≤1000)(d:rI p.nodes≤10000)(k:p.funs.length≤1000) :∀ (t:List Int) (i:Nat) (c:List Int),i≤p.funs.length→c.length=p.nodes.length→below (i:Int) c→p.funs.drop i=t →
  Ends PP 0 (rG p (i:Int) c).as (.ret (.bool (match lL 0 p.nodes.length t c with|some v=>nT (kC p 0 p.nodes v) |none=>false))) (aA [] 0)
 | [],i,c,m,hc,hb,h=>by
  have:=bJ h;refine(aI2 p i c sd).ends ?_;exact bF1 p g f p.nodes 0 c i (by omega) (by omega) hc hb rfl
 | y::t,i,c,m,hc,hb,h=>by
  obtain⟨s,o,r⟩ :=bH h;have a:=dZ y 0 ((p.nodes.length:Int) -1);cases b:cZ y 0 ((p.nodes.length:Int) -1)
  case false=>
   rw [b]at a;exact Ends.eqv (aI0 p i c y false sd sd sd sd a rfl) (by simp [lL,b])
  rw [b]at a;have u:=inB_iff.1 b;obtain⟨z,hz⟩ :∃z,c[y.toNat]?=some z:= ⟨_,lZ (by omega)⟩;have j:=aAx hb hz;refine(aI1 p i c y true z sd sd sd sd a rfl (by omega) (by omega) hz sd sd).ends ?_;have e:c.getD y.toNat 0=z:=by rw [pV,hz];rfl
  have l:lL 0 p.nodes.length (y::t) c=lL 0 p.nodes.length t (c.set y.toNat (z+1)) :=by
   rw [lL,if_pos b,e]
  rw [l];refine bF0 p g f d k t (i+1) (c.set y.toNat (z+1)) (by omega) (by simpa using hc) ?_ o;have:=aE3 hb hz;intro q n;have:=this q n
  push_cast
  omega
def cH (p:Prog) :Bool:=
 dI p&&decide (p.cons.length≤20) &&p.cons.all fN&&lV (aT p.cons) &&p.nodes.all (aW p) &&
  (match lL 0 (p.nodes.length:Int) p.funs (replicate p.nodes.length 0)with
  |some v=>nT (kC p 0 p.nodes v)
  |none=>false)
theorem aJd {p:Prog}(a:aE p=true) :∀x∈p.nodes,x.kids.length≤10∧x.pats.length≤10:=fun x b=>by
 simp only [aE,dC]at a;have:=zq27.1 a.2 x b;simp only [bA,dC,decide_eq_true_eq]at this;exact this.1
theorem aGK (p:Prog)(i:aE p=true) :aK PP 94 [Prog.av p] (.bool (cH p)) :=by
 refine aH kR0 rfl rfl ?_;have j:=i;simp only [aE,dC,decide_eq_true_eq]at j;obtain⟨⟨⟨⟨r,v⟩,t⟩,_⟩,_⟩ :=j;have a:=aJd i;by_cases k:p.nodes.length≤300
 · by_cases u:1≤p.funs.length
   · by_cases s:p.funs.length≤p.nodes.length
     · have kk:cZ (p.funs.length:Int) 1 (p.nodes.length:Int) =true:=inB_iff.2 ⟨by omega,by omega⟩;by_cases l:p.cons.length≤20
       · have b:=dZ p.main 0 ((p.funs.length:Int) -1);cases h:cZ p.main 0 ((p.funs.length:Int) -1)
         case false=>
          rw [h]at b;exact Ends.eqv (aIV p false sd sd sd sd sd b rfl) (by simp [cH,dI,h])
         rw [h]at b;have o:dI p=true:=by simp [dI,k,kk,h]
         have hc:=aOW p.cons (by omega);cases d:p.cons.all fN
         case false=>
          rw [d]at hc;exact Ends.eqv (aIW p true false sd sd sd sd sd b rfl hc rfl) (by simp only [cH,d,Bool.and_false,sA])
         rw [d]at hc;have hm:=aOZ p.cons (by omega);have hd:=aGJ (aT p.cons) (by simp [aT];omega);cases g:lV (aT p.cons)
         case false=>
          rw [g]at hd;exact Ends.eqv (aIX p true true (aT p.cons) false sd sd sd sd sd b rfl hc rfl hm hd rfl) (by simp only [cH,g,Bool.and_false,sA])
         rw [g]at hd;have f:=aOX p.nodes p (by omega) (fun x e=>aLQ p x (by omega) (by omega) (a x e).2 (a x e).1);cases c:p.nodes.all (aW p)
         case false=>
          rw [c]at f;exact Ends.eqv (aIY p true true (aT p.cons) true false sd sd sd sd sd b rfl hc rfl hm hd rfl f rfl) (by simp only [cH,c,Bool.and_false,sA])
         rw [c]at f;refine(aIZ p true true (aT p.cons) true true sd sd sd sd sd b rfl hc rfl hm hd rfl f rfl (by omega)).ends ?_;have m:=aDh p.nodes (fun x e=> (a x e).1);refine Ends.eqv (bF0 p i (by omega) (by omega) (by omega) p.funs 0 _ (by omega) (by simp) ?_ rfl) ?_
         · intro q n;have:= (List.mem_replicate.1 n).2;omega
         ·simp only [cH,o,decide_eq_true l,d,g,c,lE] <;>rfl
       ·exact Ends.eqv (aIU p sd sd sd sd) (by simp [cH,l])
     · have kk:cZ (p.funs.length:Int) 1 (p.nodes.length:Int) =false:=inB_not.2 (by omega);exact Ends.eqv (aIT p sd sd sd) (by simp [cH,dI,kk])
   · have kk:cZ (p.funs.length:Int) 1 (p.nodes.length:Int) =false:=inB_not.2 (by omega);exact Ends.eqv (aIS p sd sd) (by simp [cH,dI,kk])
 ·exact Ends.eqv (aIR p sd) (by simp [cH,dI,k])
theorem aJe (p:Prog)(a:aE p=true) :aK PP 56 [Prog.av p] (.int .i64 (checkN (cH p))) :=by
 refine aH kR0 rfl rfl ?_;have h:=aGK p a;cases k:cH p
 case false=>rw [k]at h;exact aLM p false h rfl
 rw [k]at h;exact aLN p true h rfl
def cnt (b:Bool) :Int:=if b=true then 1 else 0
def rJ (u:List Bool) :List Int:=u.map cnt
def xB (c:List Int) :Prop:= (∃ (i:Nat) (z:Int),c[i]?=some z∧2≤z) ∧∀z∈c,0≤z
theorem aJf {c:List Int}(h:xB c) :c.all one=false:=by
 obtain⟨⟨i,z,a,b⟩,_⟩ :=h;cases k:c.all one
 case false=>rfl
 have:=zq27.1 k z (oG a);simp only [one,decide_eq_true_eq]at this;omega
theorem aLR {c:List Int}{j:Nat}(h:xB c) :xB (c.set j (c.getD j 0+1)) :=by
 obtain⟨⟨i,z,a,l⟩,b⟩ :=h;have d:= (zq0.1 a).1;refine⟨⟨i,if j=i then z+1 else z,?_,by split<;>omega⟩,fun q f=>?_⟩
 · rw [List.getElem?_set];by_cases e:j=i
   · subst e;rw [if_pos rfl,if_pos d,if_pos rfl,pV,a];rfl
   ·rw [if_neg e,if_neg e];exact a
 · rcases List.mem_or_eq_of_mem_set f with g|g
   ·exact b q g
   · rw [g,pV];cases k:c[j]? with
     |none=>simp
     |some w=>have:=b w (oG k);simp;omega
theorem uB {lo n:Int}:∀ {a c:List Int} {d:List Int},xB c→lL lo n a c=some d→xB d
 | [],c,d,h,e=>by simp only [lL,Option.some.injEq]at e;rw [←e];exact h
 | k::a,c,d,h,e=>by
  simp only [lL]at e;split at e
  ·exact uB (aLR h) e
  ·cases e
theorem aJg (u:List Bool) :∀z∈rJ u,0≤z:=fun z hz=>by
 obtain⟨b,_,rfl⟩ :=zq24.1 hz;cases b<;>simp [cnt]
theorem xC {lo n:Int}(h:0≤lo) :∀ (b:List Int) (u:List Bool),n≤u.length →
  (∀v,marks lo n b u=some v→lL lo n b (rJ u) =some (rJ v)) ∧ (marks lo n b u=none→∀d,lL lo n b (rJ u) =some d→xB d)
 | [],u,i=>by
  simp only [marks,lL,Option.some.injEq];exact⟨fun v e=>by rw [e],fun e=>by cases e⟩
 | k ::b,u,i=>by
  simp only [marks,lL];by_cases f:cZ k lo (n-1) =true
  · have hk:=inB_iff.1 f;have c:k.toNat<u.length:=by omega
    have a:u[k.toNat]?=some u[k.toNat] :=lZ c;have hc: (rJ u).getD k.toNat 0=cnt u[k.toNat] :=by
     rw [pV,rJ,aT2,a];rfl
    rw [if_pos f];cases hb:u[k.toNat]
    case false=>
     rw [hb]at a hc;rw [if_pos ⟨f,a⟩];have e: (rJ u).set k.toNat ((rJ u).getD k.toNat 0+1) =rJ (u.set k.toNat true) :=by
      rw [hc,rJ,rJ,map_set];rfl
     rw [e];exact xC h b (u.set k.toNat true) (by simpa using i)
    rw [hb]at a hc;rw [if_neg (by rw [a];simp)];refine And.intro (fun v e=>nomatch e) (fun _ d e=>uB (And.intro ⟨k.toNat,2,?_,by omega⟩ ?_) e)
    ·rw [hc,List.getElem?_set_self (by simp [rJ];exact c)];rfl
    · intro z hz;rcases List.mem_or_eq_of_mem_set hz with g|g
      ·exact aJg u z g
      ·rw [g,hc];simp [cnt]
  · rw [if_neg f,if_neg (fun g=>f g.1)];exact And.intro (fun v e=>nomatch e) (fun _ d e=>nomatch e)
theorem oS (p:Prog) :∀ (t:List Node) (i:Nat) (c:List Int),xB c→nT (kC p i t c) =false
 | [],i,c,h=>by rw [kC];exact aJf h
 | x::t,i,c,h=>by
  rw [kC];cases e:lL ((i:Int) +1) (p.nodes.length:Int) x.kids c with
  |none=>rfl
  |some d=>exact oS p t (i+1) d (uB h e)
theorem aE4 :∀ (u:List Bool),(rJ u).all one=u.all fun b=>b
 | [] =>rfl
 | b::u=>by
  have:=aE4 u;simp only [rJ,dS,all_cons]at this ⊢;rw [this];cases b<;>simp [cnt,one]
theorem aJh (p:Prog) :∀ (t:List Node) (i:Nat) (u:List Bool),u.length=p.nodes.length→t.all (aW p) =true→allT (bN p i t u) =nT (kC p i t (rJ u))
 | [],i,u,b,_=>by simp only [bN,kC,allT,nT,aE4]
 | x::t,i,u,b,a=>by
  simp only [all_cons,dC]at a;obtain⟨c,e⟩ :=xC (lo:= (i:Int) +1) (n:= (p.nodes.length:Int)) (by omega) x.kids u (by omega);simp only [bN,kC,if_pos a.1];cases hm:marks ((i:Int) +1) (p.nodes.length:Int) x.kids u
  case some v=>
   rw [c v hm];exact aJh p t (i+1) v (by rw [kA hm,b]) a.2
  cases f:lL ((i:Int) +1) (p.nodes.length:Int) x.kids (rJ u)with
  |none=>rfl
  |some d=>exact(oS p t (i+1) d (e hm d f)).symm
theorem zJ (p:Prog) :∀ (t:List Node) (i:Nat) (u:List Bool),t.all (aW p) =false→allT (bN p i t u) =false
 | [],i,u,h=>by simp at h
 | x ::t,i,u,h=>by
  simp only [bN];by_cases a:aW p x=true
  · rw [if_pos a];have b:t.all (aW p) =false:=by simpa [a]using h
    cases marks ((i:Int) +1) (p.nodes.length:Int) x.kids u with
    |none=>rfl
    |some v=>exact zJ p t (i+1) v b
  ·rw [if_neg a];rfl
theorem aO0 (p:Prog) :cH p=aM p:=by
 have f:cH p= (dI p&&aC7 p.cons&& (p.nodes.all (aW p) && (match lL 0 (p.nodes.length:Int) p.funs (replicate p.nodes.length 0)with
  |some v=>nT (kC p 0 p.nodes v)
  |none=>false))) :=by
  unfold cH aC7;cases dI p<;>cases p.cons.all fN<;>cases lV (aT p.cons) <;>cases p.nodes.all (aW p) <;>cases decide (p.cons.length≤20) <;>simp
 rw [f,aM];congr 1;have b:replicate p.nodes.length (0:Int) =rJ (replicate p.nodes.length false) :=by rw [rJ,List.map_replicate];rfl
 rw [b];obtain⟨c,e⟩ :=xC (lo:=0) (n:= (p.nodes.length:Int)) (by omega) p.funs (replicate p.nodes.length false) (by simp);cases hm:marks 0 (p.nodes.length:Int) p.funs (replicate p.nodes.length false)
 case some v=>
  rw [c v hm];cases a:p.nodes.all (aW p)
  case true=>simp only [lE];exact(aJh p p.nodes 0 v (by rw [kA hm];simp) a).symm
  simp only [sA];exact(zJ p p.nodes 0 v a).symm
 simp only;cases g:lL 0 (p.nodes.length:Int) p.funs (rJ (replicate p.nodes.length false))with
 |none=>simp
 |some d=>simp only [oS p p.nodes 0 d (e hm d g),Bool.and_false]
def vD(d e:Int)(f:bS)(a:List Pat)(b c:Int):TS:=⟨(tf 196 22 [(2,(nI 0)),(3,(nI b)),(10,(iP a)),(11,(nI (a.length:Int))),(12,(nI c))] [kc f196 244,kl f196 244,.inBlock 0,kc f196 31]),[],[],0⟩
def aLS(a:Node)(b:Int):=tT 0 (start PP 146 [(Node.av a),(nI b)])<|.b 13 9 (a.op==5) (gE 21 1 (nI 1))<|.b 5 14 (a.op==27) (gE 16 1 (nI 1))<|.b 4 18 (a.op==7) (.b 6 5 (b==1) (gE 6 1 (nI 1))<|.b 7 27 (a.op==15) (gd 5 23 (b>0) (gw 7 34 (b-1)<|tU 0 a.pats (b-1)<|fun c d e f=>gpI 1 196 [(.agg [(nI c),(nI d),(cU e),(iP f)])]<|fun g=>gE 3 1 (nI g))<|gE 8 1 (nI 0))<|gE 13 1 (nI 0))<|.b 13 27 (a.op==15) (gd 5 23 (b>0) (gw 7 34 (b-1)<|tU 0 a.pats (b-1)<|fun c d e f=>gpI 1 196 [(.agg [(nI c),(nI d),(cU e),(iP f)])]<|fun g=>gE 3 1 (nI g))<|gE 8 1 (nI 0))<|gE 13 1 (nI 0)
def aO1:=fun a b c=>aLS a b|>.t c tv
def aO2:=fun a b c d=>aLS a b|>.f c|>.t d tv
def aO3:=fun a b c d e f=>aLS a b|>.f c|>.f d|>.t e|>.t f tv
def aO4:=fun a b c d e f g=>aLS a b|>.f c|>.f d|>.t e|>.f f|>.f g tv
def aO5:=fun a b c d e f g i j k l m n o p q=>aLS a b|>.f i|>.f j|>.f k|>.t l|>.t m n c d e f o p g q tv
def aO6:=fun a b c d e f g=>aLS a b|>.f c|>.f d|>.f e|>.t f|>.f g tv
def aO7:=fun a b c d e f=>aLS a b|>.f c|>.f d|>.f e|>.f f tv
def aXG(a c:Int)(d:bS)(b:List Pat):=tT 0 (start PP 196 [(.agg [(nI a),(nI c),(cU d),(iP b)])])<|.b 12 8 (a==2) (gE 6 1 (nI 1))<|gm 11 aF b<|.W 4 1 [] (vD a c d b 0 0)
def aLT:=fun a b c d e=>aXG a b c d|>.t e tv
def aLU:=fun a b c d e=>aXG a b c d|>.f e tv
def aXH(d e:Int)(f:bS)(b:List Pat)(c a:Int):=tT 0 (vD d e f b c a)<|gd 5 13 (a< (b.length:Int)) (tU 6 b a<|fun i j k l=>gpI 7 196 [(.agg [(nI i),(nI j),(cU k),(iP l)])]<|fun g=>gw 1 19 (c+g)<|gw 5 20 (a+1)<|.W 3 1 [] (vD d e f b (c+g) (a+1)))<|gE 8 0 (nI c)
def aLV:=fun a b c d e f g i j k l m n o p q r=>aXH a b c d e f|>.t m g i j k n o l p q r tv
def aLW:=fun a b c d e f g=>aXH a b c d e f|>.f g tv
def pR(a b:Int)(c:bS)(d:List Pat)(e f:Int):TS:=⟨(tf 172 24 [kp 1 0,(2,(nI 0)),(3,(nI e)),(4,(nI f))] [kc f172 244,kl f172 244,.inBlock 0,kc f172 31]),[],[oC 0 [(nI a),(nI b),(cU c),(iP d)]],1⟩
def aO8(a:Node)(b:Int):=tT 0 (start PP 116 [(Node.av a),(nI b)])<|.b 18 7 (a.op==5) (gE 8 1 (nI 1))<|.b 5 7 (a.op==27) (gE 6 1 (nI 1))<|.b 6 10 (a.op==7) (gE 7 1 (nI b))<|.b 6 13 (a.op==15) (gd 6 16 (b>0) (gw 7 20 (b-1)<|tU 0 a.pats (b-1)<|fun c d e f=>gpI 1 172 [(.agg [(nI c),(nI d),(cU e),(iP f)])]<|fun g=>gE 3 1 (nI g))<|gE 8 1 (nI 0))<|gE 8 1 (nI 0)
def aE5:=fun a b c=>aO8 a b|>.t c tv
def aE6:=fun a b c d=>aO8 a b|>.f c|>.t d tv
def aAy:=fun a b c d e=>aO8 a b|>.f c|>.f d|>.t e tv
def aE7:=fun a b c d e f g i j k l m n o p q=>aO8 a b|>.f i|>.f j|>.f k|>.t l|>.t m n c d e f o p g q tv
def aE8:=fun a b c d e f g=>aO8 a b|>.f c|>.f d|>.f e|>.t f|>.f g tv
def aE9:=fun a b c d e f=>aO8 a b|>.f c|>.f d|>.f e|>.f f tv
def aXI(a b:Int)(c:bS)(d:List Pat):=tT 0 (start PP 172 [(.agg [(nI a),(nI b),(cU c),(iP d)])])<|.b 16 7 (a==2) (.W 11 1 [0] (pR a b c d 1 0))<|.W 9 1 [0] (pR a b c d 0 0)
def aLX:=fun a b c d e=>aXI a b c d|>.t e tv
def aLY:=fun a b c d e=>aXI a b c d|>.f e tv
def aXJ(d e:Int)(f:bS)(a:List Pat)(c b:Int):=tT 0 (pR d e f a c b)<|gm 6 aF a<|gd 2 12 (b< (a.length:Int)) (tU 9 a b<|fun i j k l=>gpI 1 172 [(.agg [(nI i),(nI j),(cU k),(iP l)])]<|fun g=>gw 1 22 (c+g)<|gw 6 14 (b+1)<|.W 3 1 [0] (pR d e f a (c+g) (b+1)))<|gE 8 1 (nI c)
def aLZ:=fun a b c d e f g i j k l m n o p q r=>aXJ a b c d e f|>.t m g i j k n o l p q r tv
def aL0:=fun a b c d e f g=>aXJ a b c d e f|>.f g tv
theorem Ends.val {P:Program}{m:Nat}{s:AS}{v v':AV}{h':Hp}(h:Ends P m s (.ret v) h')(o:∀E b,VR E v b→VR E v' b) :Ends P m s (.ret v') h':=fun hm E fr c w f fs r n a=>by
 obtain⟨d,l,j,i,⟨b,e,g⟩,k,p⟩ :=h hm E fr c w f fs r n a;exact⟨d,l,j,i,⟨b,e,o _ _ g⟩,k,p⟩
theorem xE {E:Emb}{e:Nat}{xs:List AV}{cv:Value}(h:VR E (.ilst e xs true) cv) :VR E (.ilst e xs false) cv:=by
 simp only [VR]at h ⊢;obtain⟨i,n,g,m⟩ :=h;refine⟨i,n,g,?_⟩;rcases m with⟨f,a,b,d,c,j⟩ | ⟨k,a,b,C,f,d,c,j,l⟩
 ·exact .inl ⟨f,a,b,d,c,fun e=> (by cases e)⟩
 ·exact .inr ⟨k,a,b,C,f,d,c,fun e=> (by cases e),l⟩
mutual
def bnm :Pat→Int
 | .mk f _ _ ps=>if f=2 then 1 else vP ps
def vP :List Pat→Int
 | [] =>0
 |p::ps=>bnm p+vP ps
end
mutual
def rnm :Pat→Int
 | .mk f _ _ ps=> (if f=2 then 1 else 0) +aAz ps
def aAz :List Pat→Int
 | [] =>0
 |p::ps=>rnm p+aAz ps
end
mutual
theorem aDi :∀p,0≤bnm p∧bnm p≤bU p
 | .mk f _ _ a=>by
  have:=vE a;simp only [bnm,bU];split<;>omega
theorem vE :∀a,0≤vP a∧vP a≤bE a
 | [] =>by simp [vP,bE]
 | p::a=>by
  have:=aDi p;have:=vE a;simp only [vP,bE];omega
end
mutual
theorem aRi :∀p,0≤rnm p∧rnm p≤bU p
 | .mk f _ _ a=>by
  have:=aBH a;simp only [rnm,bU];split<;>omega
theorem aBH :∀a,0≤aAz a∧aAz a≤bE a
 | [] =>by simp [aAz,bE]
 | p::a=>by
  have:=aRi p;have:=aBH a;simp only [aAz,bE];omega
end
mutual
theorem aRj (cons:List Con) :∀p,dP cons p=true→bnm p=rnm p
 | .mk f n s a,h=>by
  simp only [dP,dC]at h;have:=aRk cons a h.2;simp only [bnm,rnm];by_cases g:f=2
  · have hk:=h.1;subst g;simp only [dK]at hk;simp at hk;obtain⟨⟨hk,_⟩,_⟩ :=hk;subst hk;simp [aAz]
  ·rw [if_neg g,if_neg g,this];omega
theorem aRk (cons:List Con) :∀a,cT cons a=true→vP a=aAz a
 | [],_=>rfl
 | p::a,h=>by
  simp only [cT,dC]at h;simp only [vP,aAz,aRj cons p h.1,aRk cons a h.2]
end
theorem aA5 (f n:Int)(s:bS)(ps:List Pat)(hl:ps.length<1000000)(j:∀p∈ps,aK PP 196 [Pat.av p] (.int .i64 (bnm p))) :
  ∀ (t:List Pat) (i:Nat) (a:Int),0≤a→a+vP t≤1000000→ps.drop i=t→Ends PP 0 (vD f n s ps a (i:Int)).as (.ret (.int .i64 (a+vP t))) (aA [] 0)
 | [],i,a,_,_,h=>by
  have:=bJ h;exact Ends.eqv (aLW f n s ps a i sd) (by simp [vP])
 | .mk d g c b::t,i,a,q,hb,h=>by
  obtain⟨k,l,m⟩ :=bH h;have e:=j _ (oG k);have r:=aDi (.mk d g c b);have o:=vE t;rw [vP]at hb ⊢;refine(aLV f n s ps a i d g c b _ sd sd sd e sd sd).ends ?_;exact Ends.eqv (aA5 f n s ps hl j t (i+1) (a+bnm (.mk d g c b)) (by omega) (by omega) l) (by rw [Int.add_assoc])
mutual
theorem aA6 :∀ (p:Pat),bU p<100000→aK PP 196 [Pat.av p] (.int .i64 (bnm p))
 | .mk f n s a,h=>by
  refine aH kR0 (by simp [keylessL,lK]) rfl ?_;simp only [bU]at h;have:=eV a;have b:=vE a;by_cases g:f=2
  · subst g;exact Ends.eqv (aLT 2 n s a rfl) (by simp [bnm])
  · refine(aLU f n s a (by simpa using g)).ends ?_;exact Ends.eqv (aA5 f n s a (by omega) (aDj a (by omega)) a 0 0 (by omega) (by omega) rfl) (by simp [bnm,g])
theorem aDj :∀ (b:List Pat),bE b<100000→∀p∈b,aK PP 196 [Pat.av p] (.int .i64 (bnm p))
 | [],_,p,a=>by cases a
 | q::b,h,p,a=>by
  simp only [bE]at h;rcases zq7.1 a with e|a
  ·rw [e];exact aA6 q (by omega)
  ·exact aDj b (by omega) p a
end
theorem uC (f n:Int)(s:bS)(ps:List Pat)(hl:ps.length<1000000)(j:∀p∈ps,aK PP 172 [Pat.av p] (.int .i64 (rnm p))) :
  ∀ (t:List Pat) (i:Nat) (a:Int),0≤a→a+aAz t≤1000000→ps.drop i=t→Ends PP 0 (pR f n s ps a (i:Int)).as (.ret (.int .i64 (a+aAz t))) (aA [] 0)
 | [],i,a,_,_,h=>by
  have:=bJ h;exact Ends.eqv (aL0 f n s ps a i sd) (by simp [aAz])
 | .mk d g c b::t,i,a,q,hb,h=>by
  obtain⟨k,l,m⟩ :=bH h;have e:=j _ (oG k);have r:=aRi (.mk d g c b);have o:=aBH t;rw [aAz]at hb ⊢;refine(aLZ f n s ps a i d g c b _ sd sd sd e sd sd).ends ?_;exact Ends.eqv (uC f n s ps hl j t (i+1) (a+rnm (.mk d g c b)) (by omega) (by omega) l) (by rw [Int.add_assoc])
mutual
theorem uD :∀ (p:Pat),bU p<100000→aK PP 172 [Pat.av p] (.int .i64 (rnm p))
 | .mk f n s a,h=>by
  refine aH kR0 (by simp [keylessL,lK]) rfl ?_;simp only [bU]at h;have:=eV a;have b:=aBH a;by_cases g:f=2
  · subst g;refine(aLX 2 n s a rfl).ends ?_;exact Ends.eqv (uC 2 n s a (by omega) (xF a (by omega)) a 0 1 (by omega) (by omega) rfl) (by simp [rnm])
  · refine(aLY f n s a (by simpa using g)).ends ?_;exact Ends.eqv (uC f n s a (by omega) (xF a (by omega)) a 0 0 (by omega) (by omega) rfl) (by simp [rnm,g])
theorem xF :∀ (b:List Pat),bE b<100000→∀p∈b,aK PP 172 [Pat.av p] (.int .i64 (rnm p))
 | [],_,p,a=>by cases a
 | q::b,h,p,a=>by
  simp only [bE]at h;rcases zq7.1 a with e|a
  ·rw [e];exact uD q (by omega)
  ·exact xF b (by omega) p a
end
def cV (x:Node)(k:Int) :Int:=
 if x.op=5∨x.op=27∨ (x.op=7∧k=1)then 1
 else if x.op=15∧k>0 then(match x.pats[(k-1).toNat]? with|some q=>bnm q|none=>0)else 0
structure FineN (cons:List Con) (x:Node) :Prop where
 pats:∀q∈x.pats,bU q≤12∧dP cons q=true
 mat:x.op=15→x.kids.length=1+x.pats.length
 let2:x.op=7→x.kids.length=2
theorem aM0 {p:Prog}{x:Node}(h:aW p x=true) :FineN p.cons x:=by
 simp only [aW,dC,decide_eq_true_eq]at h;obtain⟨⟨_,b⟩,a⟩ :=h;refine⟨fun q c=>?_,fun e=>?_,fun e=>?_⟩
 · have:=zq27.1 b q c;simpa [gU]using this
 ·rw [e]at a;simp [bY]at a;omega
 ·rw [e]at a;simp [bY]at a;omega
theorem aJi {cons:List Con}{x:Node}(a:FineN cons x)(k:Int) :0≤cV x k∧cV x k≤12:=by
 unfold cV;split
 ·omega
 · split
   · split
     · rename_i q b;have:= (a.pats q (oG b)).1;have:=aDi q;omega
     ·omega
   ·omega
theorem aFa {x:Node}{k:Int}(a:x.op=15)(hk:k>0){q:Pat}(b:x.pats[(k-1).toNat]?=some q) :cV x k=bnm q:=by
 unfold cV;rw [if_neg (by rw [a];omega),if_pos ⟨a,hk⟩,b]
theorem aL2 {cons:List Con}{x:Node}(j:FineN cons x){k:Int}(p:0≤k)(o:k<x.kids.length)(hk:x.kids.length≤10) :aK PP 146 [Node.av x,.int .i64 k] (.int .i64 (cV x k)) :=by
 refine aH kR0 rfl rfl ?_
 have l:x.op=15→k>0→∃f n s h,x.pats[(k-1).toNat]?=some (.mk f n s h) ∧aK PP 196 [Pat.av (.mk f n s h)] (.int .i64 (bnm (.mk f n s h))) :=fun e g=>by
  have hl:=j.mat e;obtain⟨q,i⟩ :∃q,x.pats[(k-1).toNat]?=some q:= ⟨_,lZ (by omega)⟩;obtain⟨f,n,s,h⟩ :=q;have:= (j.pats _ (oG i)).1;exact⟨f,n,s,h,i,aA6 _ (by omega)⟩
 by_cases d:x.op=5
 ·exact Ends.eqv (aO1 x k (by simp [d])) (by simp [cV,d])
 · by_cases a:x.op=27
   ·exact Ends.eqv (aO2 x k (by simp [d]) (by simp [a])) (by simp [cV,a])
   · by_cases c:x.op=7
     · by_cases gk:k=1
       ·exact Ends.eqv (aO3 x k (by simp [d]) (by simp [a]) (by simp [c]) (by simp [gk])) (by simp [cV,c,gk])
       ·exact Ends.eqv (aO4 x k (by simp [d]) (by simp [a]) (by simp [c]) (by simp [gk]) (by simp [c])) (by simp [cV,c,gk])
     · by_cases b:x.op=15
       · by_cases gk:k>0
         · obtain⟨f,n,s,h,i,m⟩ :=l b gk;exact Ends.eqv (aO5 x k f n s h _ (by simp [d]) (by simp [a]) (by simp [c]) (by simp [b]) (by simpa using gk) sd (by omega) i m) (by rw [aFa b gk i])
         ·exact Ends.eqv (aO6 x k (by simp [d]) (by simp [a]) (by simp [c]) (by simp [b]) (by simpa using gk)) (by simp [cV,b,gk])
       ·exact Ends.eqv (aO7 x k (by simp [d]) (by simp [a]) (by simp [c]) (by simp [b])) (by simp [cV,d,a,c,b])
theorem aL3 {cons:List Con}{x:Node}(e:FineN cons x){k:Int}(m:0≤k)(l:k<x.kids.length)(hk:x.kids.length≤10) :aK PP 116 [Node.av x,.int .i64 k] (.int .i64 (cV x k)) :=by
 refine aH kR0 rfl rfl ?_;by_cases d:x.op=5
 ·exact Ends.eqv (aE5 x k (by simp [d])) (by simp [cV,d])
 · by_cases a:x.op=27
   ·exact Ends.eqv (aE6 x k (by simp [d]) (by simp [a])) (by simp [cV,a])
   · by_cases c:x.op=7
     · have:=e.let2 c;refine Ends.eqv (aAy x k (by simp [d]) (by simp [a]) (by simp [c])) ?_;by_cases gk:k=1
       ·simp [cV,c,gk]
       · have:k=0:=by omega
         simp [cV,c,this]
     · by_cases b:x.op=15
       · by_cases gk:k>0
         · have hl:=e.mat b;obtain⟨q,h⟩ :∃q,x.pats[(k-1).toNat]?=some q:= ⟨_,lZ (by omega)⟩;obtain⟨f,n,s,i⟩ :=q;have g:=e.pats _ (oG h);have j:=uD (.mk f n s i) (by omega);rw [←aRj cons _ g.2]at j;exact Ends.eqv (aE7 x k f n s i _ (by simp [d]) (by simp [a]) (by simp [c]) (by simp [b]) (by simpa using gk) sd (by omega) h j) (by rw [aFa b gk h])
         ·exact Ends.eqv (aE8 x k (by simp [d]) (by simp [a]) (by simp [c]) (by simp [b]) (by simpa using gk)) (by simp [cV,b,gk])
       ·exact Ends.eqv (aE9 x k (by simp [d]) (by simp [a]) (by simp [c]) (by simp [b])) (by simp [cV,d,a,c,b])
abbrev aXK:=[oC 1 [(bV false)],oC 2 [(nI 0)],(3,(.loop .ready none 57 (pL [kp 1 7,kp 2 1,kp 3 2]) 32 [15] (kd f57 116) (kd f57 117) 4),false),(4,(.defd false),false),oC 5 [(.yield 3)]]
abbrev aUC (a:Nat)(b:Prog):=oC a [(iN b.nodes),(iI b.funs),(nI b.main),(iC b.cons)]
abbrev aXL (a:Prog)(b c d:Int):=aA [oC 0 [(.func 145 [] [(.ptr 5 0),(.ptr 6 0),(.ptr 0 0)])],oC 1 [(bV false)],oC 2 [(nI 0)],(3,(.loop .done (some .ret) 57 (pL [kp 1 7,kp 2 1,kp 3 2]) 32 [15] (kd f57 116) (kd f57 117) 4),false),(4,(.defd false),false),oC 5 [(.yield 3)],aUC 6 a,aUC 7 a,oC 8 [(nI b),(nI c),(nI d)]] 9
abbrev aUD (a:Prog)(b c d:Int):=aA ([oC 0 [(.func 145 [] [(.ptr 5 0),(.ptr 6 0),(.ptr 0 0)])]]++aXK++[aUC 6 a,aUC 7 a,oC 8 [(nI b),(nI c),(nI d)]]) 9
abbrev aDk (a:Nat):=oC a [(.func 145 [] [(.ptr 5 0),(.ptr 6 0),(.ptr 0 0)])]
abbrev nF (a:Nat)(b:Prog):=oC a [(iN b.nodes),(iI b.funs),(nI b.main),(iC b.cons)]
def aVS(a:Prog):TS:=cJ PP 57 [(Prog.av a)] [] 0
def aGL(a:Prog)(b:Int):TS:=⟨(tf 144 23 [kp 3 0,(9,(iI a.funs)),(10,(nI (a.funs.length:Int))),(11,(nI b))] [kc f144 124,kl f144 124,.inBlock 0]),[(tf 57 32 [kp 2 1,kp 3 2] [.inRF 3,.inBlock 0,kc f57 15] (defers:=[.col 4]))],[aDk 0,oC 1 [(bV false)],oC 2 [(nI 0)],(3,(.loop .ready none 57 (pL [kp 1 7,kp 2 1,kp 3 2]) 32 [15] (kd f57 116) (kd f57 117) 4),false),(4,(.defd false),false),oC 5 [(.yield 3)],nF 6 a,nF 7 a],8⟩
def aZF(a:Prog):List (Nat×AObj×Bool):=[aDk 0,oC 1 [(bV false)],oC 2 [(nI 0)],(3,(.loop .done (some .ret) 57 (pL [kp 1 7,kp 2 1,kp 3 2]) 32 [15] (kd f57 116) (kd f57 117) 4),false),(4,(.defd false),false),oC 5 [(.yield 3)],nF 6 a,nF 7 a]
def aDl(a:Prog)(b c d:Int):TS:=cJ PP 145 [(.agg [(nI b),(nI c),(nI d)]),(.ptr 5 0),(.ptr 6 0),(.ptr 0 0)] [aDk 0,oC 1 [(bV false)],oC 2 [(nI 0)],(3,(.loop .ready none 57 (pL [kp 1 7,kp 2 1,kp 3 2]) 32 [15] (kd f57 116) (kd f57 117) 4),false),(4,(.defd false),false),oC 5 [(.yield 3)],nF 6 a,nF 7 a] 8
def zK(a:Prog)(b c d:Int)(e:List Int)(f g:Int):TS:=⟨(tf 145 46 [kp 2 6,kp 3 0,kp 4 8,(5,(bV false)),(19,(iI e)),(20,(nI f)),(21,(nI g))] [kc f145 116,kl f145 116,.inBlock 0,kc f145 15]),[],([aDk 0]++aXK++[nF 6 a,nF 7 a,oC 8 [(nI b),(nI c),(nI d)]]),9⟩
def aXM(a:Prog):=tT 0 (aVS a)<|gpI 10 56 [(Prog.av a)]<|fun b=>.b 7 10 (b != 0) (gE 8 3 (.tup [(bV false),(nI b)]))<|.i [rn 23,.lkeep 5 [1,2,3]] []<|gl 18 aY a.funs<|.W 4 8 [7,1,2,5,4,6,3,0] (aGL a 0)
def aUE:=fun a b c d=>aXM a b c|>.t d tv
def aUF:=fun a b c d=>aXM a b c|>.f d tv
def aWB(a:Prog)(b:Int):=tT 0 (aGL a b)<|gd 5 12 (b< (a.funs.length:Int)) (gX aY 7 a.funs b<|fun c=>.o (gk 10 (.enter 145 [(.agg [(nI c),(nI b),(nI 1)]),(.ptr 5 0),(.ptr 6 0),(.ptr 0 0)]) [aDk 0,oC 1 [(bV false)],oC 2 [(nI 0)],(3,(.loop .ready none 57 (pL [kp 1 7,kp 2 1,kp 3 2]) 32 [15] (kd f57 116) (kd f57 117) 4),false),(4,(.defd false),false),oC 5 [(.yield 3)],nF 6 a,nF 7 a] 8 (bV false) [aDk 0,oC 1 [(bV false)],oC 2 [(nI 0)],(3,(.loop .done (some .ret) 57 (pL [kp 1 7,kp 2 1,kp 3 2]) 32 [15] (kd f57 116) (kd f57 117) 4),false),(4,(.defd false),false),oC 5 [(.yield 3)],nF 6 a,nF 7 a] 8<|gE 8 8 (.tup [(bV false),(nI 0)]))<|gk 10 (.enter 145 [(.agg [(nI c),(nI b),(nI 1)]),(.ptr 5 0),(.ptr 6 0),(.ptr 0 0)]) [aDk 0,oC 1 [(bV false)],oC 2 [(nI 0)],(3,(.loop .ready none 57 (pL [kp 1 7,kp 2 1,kp 3 2]) 32 [15] (kd f57 116) (kd f57 117) 4),false),(4,(.defd false),false),oC 5 [(.yield 3)],nF 6 a,nF 7 a] 8 (bV true) [aDk 0,oC 1 [(bV false)],oC 2 [(nI 0)],(3,(.loop .ready none 57 (pL [kp 1 7,kp 2 1,kp 3 2]) 32 [15] (kd f57 116) (kd f57 117) 4),false),(4,(.defd false),false),oC 5 [(.yield 3)],nF 6 a,nF 7 a] 8<|gw 7 22 (b+1)<|.W 3 8 [0,1,2,3,4,5,6,7] (aGL a (b+1)))<|gE 13 8 (.tup [(bV true),(nI 0)])
def aUG:=fun a b c d e f g=>aWB a b|>.t d c e f|>.1 g tv
def aUH:=fun a b c d e f g i=>aWB a b|>.t d c e f|>.2 g i tv
def aUI:=fun a b c=>aWB a b|>.f c tv
def aWC(a:Prog)(c e d:Int):=tT 8 (aDl a c e d)<|gX Node.av 23 a.nodes c<|fun b=>.b 10 25 (b.op==4) (gd 7 31 (b.n≥d) (.E 15 11 [] (bV false) [aDk 0,oC 1 [(bV false)],oC 2 [(nI 0)],(3,(.loop .done (some .ret) 57 (pL [kp 1 7,kp 2 1,kp 3 2]) 32 [15] (kd f57 116) (kd f57 117) 4),false),(4,(.defd false),false),oC 5 [(.yield 3)],nF 6 a,nF 7 a] 8)<|gi Node.av 16 a.nodes c b<|gl 2 aY b.kids<|.W 4 11 [8] (zK a c e d b.kids (b.kids.length:Int) 0))<|gi Node.av 23 a.nodes c b<|gl 2 aY b.kids<|.W 4 11 [8] (zK a c e d b.kids (b.kids.length:Int) 0)
def aRl:=fun a b c d e f g i j=>aWC a b c d e f g|>.t i|>.t j tv
def aRm:=fun c d e f g a b i j=>aWC c d e f g a b|>.t i|>.f j a b tv
def aRn:=fun c d e f g a b i=>aWC c d e f g a b|>.f i a b tv
def aWD(a:Prog)(d b c:Int)(i:List Int)(j e:Int):=tT 8 (zK a d b c i j e)<|gd 5 22 (e<j) (gX aY 7 i e<|fun k=>.o (.y fun f:Node=>.y fun g:Int=>.i [rn 5,.reg (rd 11 [.ans (.idx (Node.av f)),.d,.d,.pure (nI g),.d,.d,.call (bV false) (aXL a d b c),.d])] [hA (0≤d),.a (((a.nodes)[d.toNat]?) =some f) (bW (f:=Node.av)),hA (aK PP 146 [(Node.av f),(nI e)] (nI g)),hA (Spec PP (.enter 145 [(.agg [(nI k),(nI b),(nI (IntKind.i64.wrap (c+g)))]),(.ptr 5 0),(.ptr 6 0),(.ptr 0 0)]) (aUD a d b c) (.ret (bV false)) (aXL a d b c)),hr (nI c),hr (nI c),hr (nI b),hr (nI b),hr (func 145 [] [(.ptr 5 0),(.ptr 6 0),(.ptr 0 0)]),hr (func 145 [] [(.ptr 5 0),(.ptr 6 0),(.ptr 0 0)])]<|.E 6 9 [] (bV false) [aDk 0,oC 1 [(bV false)],oC 2 [(nI 0)],(3,(.loop .done (some .ret) 57 (pL [kp 1 7,kp 2 1,kp 3 2]) 32 [15] (kd f57 116) (kd f57 117) 4),false),(4,(.defd false),false),oC 5 [(.yield 3)],nF 6 a,nF 7 a] 8)<|.y fun f:Node=>.y fun g:Int=>.i [rn 5,.reg (rd 11 [.ans (.idx (Node.av f)),.d,.d,.pure (nI g),.d,.d,.call (bV true) (aUD a d b c),.d])] [hA (0≤d),.a (((a.nodes)[d.toNat]?) =some f) (bW (f:=Node.av)),hA (aK PP 146 [(Node.av f),(nI e)] (nI g)),hA (Spec PP (.enter 145 [(.agg [(nI k),(nI b),(nI (IntKind.i64.wrap (c+g)))]),(.ptr 5 0),(.ptr 6 0),(.ptr 0 0)]) (aUD a d b c) (.ret (bV true)) (aUD a d b c)),hr (nI c),hr (nI c),hr (nI b),hr (nI b),hr (func 145 [] [(.ptr 5 0),(.ptr 6 0),(.ptr 0 0)]),hr (func 145 [] [(.ptr 5 0),(.ptr 6 0),(.ptr 0 0)])]<|gw 5 45 (e+1)<|.W 3 9 [8] (zK a d b c i j (e+1)))<|.E 7 9 [] (bV true) [aDk 0,oC 1 [(bV false)],oC 2 [(nI 0)],(3,(.loop .ready none 57 (pL [kp 1 7,kp 2 1,kp 3 2]) 32 [15] (kd f57 116) (kd f57 117) 4),false),(4,(.defd false),false),oC 5 [(.yield 3)],nF 6 a,nF 7 a] 8
def aRo:=fun a b c d e f g i j k l m n o p q r=>aWD a b c d e f g|>.t l i m n|>.1 j k o p q r tv
def aRp:=fun a b c d e f g i j k l m n o p q r s=>aWD a b c d e f g|>.t l i m n|>.2 j k o p q r s tv
def aRq:=fun a b c d e f g i=>aWD a b c d e f g|>.f i tv
structure FineP (p:Prog) :Prop where
 small:p.nodes.length≤320
 fsmall:p.funs.length≤320
 node:∀ (i:Nat) (x:Node),p.nodes[i]?=some x→FineN p.cons x∧x.kids.length≤10∧∀k∈x.kids,(i:Int) <k∧k<p.nodes.length
 funs:∀f∈p.funs,0≤f∧f<p.nodes.length
def aWE (a fn sz:Int) :AV:=.agg [.int .i64 a,.int .i64 fn,.int .i64 sz]
section
variable (p :Prog) (mf mc:List (Int×Int))
variable {p mf mc}
end
theorem aFb {P:Program}{f:Nat}{b args':List AV}{v v':AV}{l l' lc lc':List (Nat×AObj×Bool)}{m nb a n2 n3:Nat}{ks:List Nat}
  (u:kY P m (.enter f b) (aA l nb) (.ret v) (aA l' a)) (w:a-m+n2=n3) (ev:ren (hR m n2 ks) v=v') (c:AV.renL (eU 0 nb n2 ks) b=args') (hm:ble m nb=true) (h:ble m a=true)
  (o:dE 0 ⟨⟨0,0,[],[],[],.run,.normal,none⟩,[],l,nb⟩ ks=true) (hl:sC (aA lc n2) (eU 0 nb n2 ks) l=fW (eU 0 nb n2 ks) l) (i:eG l)
  (j:sC (aA lc' n3) (hR m n2 ks) l'=fW (hR m n2 ks) l') (e:eG l') (g:tR l'=true:=by kernel_rfl) (q:eD a l'=true:=by kernel_rfl)
  (t:eD n2 lc=true:=by kernel_rfl) (s:eD n3 lc'=true:=by kernel_rfl) (r:ks.all (fun k=>blt k n2) =true:=by kernel_rfl) (d:aAX (namesT (hR m n2 ks) l') (l.map fun p=>ks.getD p.1 0) (aA lc n2) lc'=sD lc':=by kernel_rfl) (n:sD l'= (l'.map fun p=> (aA l' a).look p.1) :=by kernel_rfl) :
  Spec P (.enter f args') (aA lc n2) (.ret v') (aA lc' n3) :=by
 subst w ev;exact aP6 u c hm h o hl i j e g q t s r d n
section
variable (p :Prog) (mf mc:List (Int×Int)) (to:List Int)
variable {p mf mc to}
end
section
variable {P :Program}
def aXN (Q:Nat→AObj→Prop) :List (Nat×AObj×Bool) →Prop
 | [] =>True
 | (b,o,_) ::l=>Q b o∧aXN Q l
theorem mX {Q:Nat→AObj→Prop}:∀ {l:List (Nat×AObj×Bool)} {nb:Nat},aXN Q l→∀x o,(aA l nb).look x=some o→Q x o:=fun {l nb} hq x o e=>by
 obtain⟨f,hm⟩ :=hQ e;clear e
 induction l with
 |nil=>cases hm
 | cons p l ih=>
  obtain⟨b,q,g⟩ :=p;rcases zq7.1 hm with h|h
  ·cases h;exact hq.1
  ·exact ih hq.2 h
theorem aM1 {α:Type}{m:Nat}{s:AS}{t:α→AS}{ok:α→Prop}{res:Res}{hf:Hp}(z:aKV s.h ok (fun x=> (t x).h))(hfr:∀x,(t x).fr=s.fr∧ (t x).cs=s.cs)(k:∀x,ok x→Ends P m (t x) res hf) :Ends P m s res hf:=
 aH9 (fr:=s.fr) (cs:=s.cs) (h:=s.h) z (fun x hx=>by
  have h2:=k x hx;obtain⟨e1,e2⟩ :=hfr x;rw [←e1,←e2];exact h2)
theorem aJj {m:Nat}{s t:AS}(z:zE s.h t.h)(hfr:t.fr=s.fr)(hcs:t.cs=s.cs) :LeadsM P m s t:=by
 have:=aH8 (P:=P) (m:=m) (fr:=s.fr) (cs:=s.cs) z;have e:t= ⟨s.fr,s.cs,t.h⟩ :=by rw [←hfr,←hcs]
 rw [e];exact this
theorem aM2 {m:Nat}{s:AS}{v:AV}{h h':Hp}(e:Ends P m s (.ret v) h)(z:zE h h')(hm:m≤h.nb) :Ends P m s (.ret v) h':=fun hm0 E fr ccs w f fs r cl base=>by
 obtain⟨cl',w',E2,s1,⟨cv,rfl,g2⟩,r2,x2⟩ :=e hm0 E fr ccs w f fs r cl base;obtain⟨E3,h1,h2,h3⟩ :=z E2 w' r2;exact⟨_,w',E3,s1,⟨cv,rfl,g2.mono h1⟩,h2,x2.trans (h3 m hm)⟩
theorem mY {m:Nat}{s:AS}{v v0:AV}{lc l:List (Nat×AObj×Bool)}{nb n2:Nat}{ks:List Nat}(e:Ends P m s (.ret v0) (aA lc n2))(hv:ren (eU m nb n2 ks) v=v0)
  (hok:dE m ⟨⟨0,0,[],[],[],.run,.normal,none⟩,[],l,nb⟩ ks=true) (hh:sC (aA lc n2) (eU m nb n2 ks) l=fW (eU m nb n2 ks) l) (hkl:eG l) :Ends P m s (.ret v) (aA l nb) :=fun hm E fr ccs w f fs r cl base=>by
 obtain⟨cl',w',E2,s1,⟨cv,rfl,g2⟩,r2,x2⟩ :=e hm E fr ccs w f fs r cl base;obtain⟨q1,q2⟩ :=mQ hok hh hkl r2;subst hv;exact⟨_,w',_,s1,⟨cv,rfl,(eS _ _ _ _).1 g2⟩,q1,x2.trans q2⟩
mutual
def IsTree (p:Prog) :XT→Int→Prop
 | .mk o n ks ps,at0=>0≤at0∧∃nd,p.nodes[at0.toNat]?=some nd∧nd.op=o∧nd.n=n∧nd.pats=ps∧aO p ks nd.kids
def aO (p:Prog) :List XT→List Int→Prop
 | [],l=>l= []
 |t::ts,l=>∃k l',l=k::l'∧IsTree p t k∧aO p ts l'
end
end
inductive KV where
 |row (l:List Int)
 |nil
 |val (u:Value)
def KV.av :KV→AV
 | .row l=>.ilst 1 (map aY l) false
 | .nil=>.nils
 | .val u=>.val u
structure ONode where
 op:Int
 n:Int
 kv:KV
 pats:List Pat
def ONode.av (x:ONode) :AV:=.agg [.int .i64 x.op,.int .i64 x.n,x.kv.av,.ilst 4 (Pats.av x.pats) false]
def Node.o (x:Node) :ONode:= ⟨x.op,x.n,.row x.kids,x.pats⟩
theorem aUJ (l:List Node) :map ONode.av (map Node.o l) =map Node.av l:=by
 rw [aT3];rfl
theorem aXO :∀k:KV,keyless k.av=true
 | .row l=>by simp only [KV.av,keyless]
 | .nil=>rfl
 | .val u=>rfl
theorem jL (x:ONode) :keyless x.av=true:=by
 simp only [ONode.av,keyless,keylessL,aXO,yZ,Bool.and_true]
theorem aGM {E:Emb}{x y:AV}(j:∀v,VR E x v→VR E y v) :∀ {d:List AV} {i:Nat},d[i]?=some x→∀c,VRs E d c→VRs E (d.set i y) c
 | [],i,h,c,b=>by simp at h
 | a::d,0,h,c,b=>by
  simp only [VRs]at b;obtain⟨u,e,rfl,g,f⟩ :=b;simp at h;subst h;simp only [List.set_cons_zero,VRs];exact⟨u,e,rfl,j u g,f⟩
 | a::d,i+1,h,c,b=>by
  simp only [VRs]at b;obtain⟨u,e,rfl,g,f⟩ :=b;simp only [aDQ]at h;simp only [List.set_cons_succ,VRs];exact⟨u,e,rfl,g,aGM j h e f⟩
theorem aJk {E:Emb}{x:ONode}{k:KV}(hk:∀v,VR E x.kv.av v→VR E k.av v) :∀v,VR E x.av v→VR E (ONode.av ⟨x.op,x.n,k,x.pats⟩) v:=fun v h=>by
 simp only [ONode.av,VR,VRs]at h ⊢;obtain⟨i,rfl,m,l,rfl,c,j,g,rfl,a,e,f,rfl,d,b⟩ :=h;exact⟨_,rfl,_,_,rfl,c,_,_,rfl,a,_,_,rfl,hk _ d,b⟩
theorem aL4 {E:Emb}:∀v,VR E KV.nil.av v→VR E (KV.row []).av v:=fun v h=>by
 simp only [KV.av,VR]at h;simp only [KV.av,VR,map_nil];exact⟨[],VRs.nil _,fun _ a=>by(cases a),.inl ⟨rfl,none,0,h,fun _=>rfl,fun _=>rfl⟩⟩
theorem aWF {l:List ONode}{i:Nat}{y:ONode}(h:l[i]?=some y)(hk:y.kv= .nil) :VW (map ONode.av l) (map ONode.av (l.set i ⟨y.op,y.n,.row [],y.pats⟩)) :=fun E b a=>by
 have c: (map ONode.av l)[i]?=some y.av:=by rw [aT2,h];rfl
 rw [map_set];exact aGM (aJk (by rw [hk];exact aL4)) c b a
theorem aWG {l:List ONode}{i:Nat}{y:ONode}{u:Value}{ks:List Int}(h:l[i]?=some y)(hk:y.kv= .val u) :VQ u 1 (map aY ks) (map ONode.av l) (map ONode.av (l.set i ⟨y.op,y.n,.row ks,y.pats⟩)) :=fun E c d a=>by
 have e: (map ONode.av l)[i]?=some y.av:=by rw [aT2,h];rfl
 rw [map_set];refine aGM (aJk (fun v b=>?_)) e c a;rw [hk]at b;simp only [KV.av,VR]at b;subst b;exact d
theorem aRr {a:Type}{f:a→AV}{l:List a}{i:Nat}{y:a}(h:l[i]?=some y) :map f l≠ [] :=fun e=>by
 cases l with
 |nil=>simp at h
 |cons _ _=>cases e
abbrev oU (a b:Int)(c:bS)(d:List Pat):AV:=.agg [(nI a),(nI b),(cU c),(iP d)]
def aXP(a b:Int)(c:bS)(d:List Pat):TS:=cJ PP 147 [(oU a b c d)] [] 0
def aGN(d e:Int)(f:bS)(a:List Pat)(b c:Int):TS:=⟨(tf 147 22 [(2,(nI 0)),(3,(nI b)),(10,(iP a)),(11,(nI (a.length:Int))),(12,(nI c))] [kc f147 244,kl f147 244,.inBlock 0,kc f147 31]),[],[],0⟩
def aXQ(a b:Int)(c:List XT)(d:List Pat)(e:Int):TS:=cJ PP 97 [(.iptr [(nI a),(nI b),(.ilst 1 (XTs.av c) false),(iP d)]),(nI e)] [] 0
def aXR(a b:Int)(c:bS)(d:List Pat):TS:=cJ PP 115 [(oU a b c d)] [] 0
def aGO(c d:Int)(e:bS)(a:List Pat)(f:Int)(b:List Pat):TS:=⟨(tf 115 22 [kp 1 0,kp 2 1,(3,(.gl 2 4 0 b.length false)),(7,(iP a)),(8,(nI (a.length:Int))),(9,(nI f))] [kc f115 116,kl f115 116,.inBlock 0,kc f115 15]),[],[oC 0 [(nI c),(nI d),(cU e),(iP a)],oC 1 [(nI 0),(nI 0),(.str 0 0),.nils],oL 2 4 (Pats.av b)],3⟩
def aXS(a:List Pat):TS:=cJ PP 74 [(iP a)] [] 0
def aGP(a:List Pat)(c:Int)(b:List Pat):TS:=⟨(tf 74 19 [(2,.nils),(3,(.gl 0 4 0 b.length false)),(6,(iP a)),(7,(nI (a.length:Int))),(8,(nI c))] [kc f74 116,kl f74 116,.inBlock 0,kc f74 15]),[],[oL 0 4 (Pats.av b)],1⟩
def aRs(a c:Int)(d:bS)(b:List Pat):=tT 0 (aXP a c d b)<|.b 12 8 (a==2) (gE 6 1 (nI 1))<|gm 11 aF b<|.W 4 1 [] (aGN a c d b 0 0)
def aUK:=fun a b c d e=>aRs a b c d|>.t e tv
def aUL:=fun a b c d e=>aRs a b c d|>.f e tv
def aRt(d e:Int)(f:bS)(b:List Pat)(c a:Int):=tT 0 (aGN d e f b c a)<|gd 5 13 (a< (b.length:Int)) (tU 6 b a<|fun i j k l=>gpI 7 147 [(oU i j k l)]<|fun g=>gw 1 19 (c+g)<|gw 5 20 (a+1)<|.W 3 1 [] (aGN d e f b (c+g) (a+1)))<|gE 8 0 (nI c)
def aUM:=fun a b c d e f g i j k l m n o p q r=>aRt a b c d e f|>.t m g i j k n o l p q r tv
def aUN:=fun a b c d e f g=>aRt a b c d e f|>.f g tv
def xG(b j:Int)(k:List XT)(c:List Pat)(a:Int):=tT 0 (aXQ b j k c a)<|.b 14 11 (b==5) (gE 25 0 (nI 1))<|.b 7 18 (b==27) (gE 18 0 (nI 1))<|.b 6 24 (b==7) (.b 6 5 (a==1) (gE 6 0 (nI 1))<|.b 9 35 (b==15) (gd 5 29 (a>0) (gw 9 44 (a-1)<|tU 0 c (a-1)<|fun d e f g=>gpI 1 147 [(oU d e f g)]<|fun i=>gE 3 0 (nI i))<|gE 8 0 (nI 0))<|gE 13 0 (nI 0))<|.b 15 35 (b==15) (gd 5 29 (a>0) (gw 9 44 (a-1)<|tU 0 c (a-1)<|fun d e f g=>gpI 1 147 [(oU d e f g)]<|fun i=>gE 3 0 (nI i))<|gE 8 0 (nI 0))<|gE 13 0 (nI 0)
def aUO:=fun a b c d e f=>xG a b c d e|>.t f tv
def aUP:=fun a b c d e f g=>xG a b c d e|>.f f|>.t g tv
def aUQ:=fun a b c d e f g i j=>xG a b c d e|>.f f|>.f g|>.t i|>.t j tv
def aUR:=fun a b c d e f g i j k=>xG a b c d e|>.f f|>.f g|>.t i|>.f j|>.f k tv
def aUS:=fun a b c d e f g i j k l m n o p q r s t=>xG a b c d e|>.f l|>.f m|>.f n|>.t o|>.t p q f g i j r s k t tv
def aUT:=fun a b c d e f g i j k=>xG a b c d e|>.f f|>.f g|>.f i|>.t j|>.f k tv
def aUU:=fun a b c d e f g i j=>xG a b c d e|>.f f|>.f g|>.f i|>.f j tv
def aUV (b c:Int)(d:bS)(a:List Pat):=(tT 0 (aXR b c d a)<|gm 14 aF a<|.i [rn 4,.nilL 3 4] []<|gu 0 2 (Pats.av ([] :List Pat))<|gs 0 3 (.gl 2 4 0 ([] :List Pat).length false)<|.W 0 3 [0,1,2] (aGO b c d a 0 ([] :List Pat))) ⟨nS,trivial⟩
def aRu(d e:Int)(f:bS)(c:List Pat)(a:Int)(b:List Pat):=tT 0 (aGO d e f c a b)<|gd 5 10 (a< (c.length:Int)) (tU 6 c a<|fun l m n o=>.y fun g:Int=>.y fun i:Int=>.y fun j:bS=>.y fun k:List Pat=>gp 7 115 [(oU l m n o)] (oU g i j k)<|gA 1 aF b [(Pat.mk g i j k)]<|gw 5 18 (a+1)<|.W 3 6 [0,1,5] (aGO d e f c (a+1) (b++ [(Pat.mk g i j k)])))<|gY 14 1 3 2 4 aF nS b false<|gE 0 3 (oU d e f b)
def aUW:=fun a b c d e f g i j k l m n o p q r s t u=>aRu a b c d e f|>.t p g i j k q r l m n o s t u ⟨nS,trivial⟩
def aUX:=fun a b c d e f g=>aRu a b c d e f|>.f g tv
def aUY (a:List Pat):=(tT 0 (aXS a)<|gm 12 aF a<|.i [rn 4,.nilL 3 4] []<|gu 0 0 (Pats.av ([] :List Pat))<|gs 0 3 (.gl 0 4 0 ([] :List Pat).length false)<|.W 0 1 [0] (aGP a 0 ([] :List Pat))) ⟨nS,trivial⟩
def aRv(c:List Pat)(a:Int)(b:List Pat):=tT 0 (aGP c a b)<|gd 5 9 (a< (c.length:Int)) (tU 6 c a<|fun i j k l=>.y fun d:Int=>.y fun e:Int=>.y fun f:bS=>.y fun g:List Pat=>gp 7 115 [(oU i j k l)] (oU d e f g)<|gA 1 aF b [(Pat.mk d e f g)]<|gw 5 17 (a+1)<|.W 3 4 [3] (aGP c (a+1) (b++ [(Pat.mk d e f g)])))<|gZ 8 2 0 4 aF nS b false<|gE 0 1 (iP b)
def aUZ:=fun a b c d e f g i j k l m n o p q r=>aRv a b c|>.t m d e f g n o i j k l p q r ⟨nS,trivial⟩
def aU0:=fun a b c d=>aRv a b c|>.f d tv
theorem take_succ' {a:Type}{l:List a}{i:Nat}{x:a}(h:l[i]?=some x) :l.take i++ [x] =l.take (i+1) :=by
 rw [List.take_add_one,h];rfl
theorem aJl (f n:Int)(s:bS)(ps:List Pat)(hl:ps.length<1000000)(j:∀q∈ps,aK PP 115 [Pat.av q] (Pat.av q)) :∀ (t:List Pat) (i:Nat),ps.drop i=t→Ends PP 0 (aGO f n s ps (i:Int) (ps.take i)).as (.ret (Pat.av (.mk f n s ps))) (aA [] 0)
 | [],i,h=>by
  have l:=bJ h;have:=aUX f n s ps (i:Int) (ps.take i) sd;rw [aBg l]at this ⊢;exact this
 | .mk a b c d::t,i,h=>by
  obtain⟨g,k,m⟩ :=bH h;have e:=take_succ' g;refine(aUW f n s ps (i:Int) (ps.take i) a b c d a b c d sd sd sd (j _ (oG g)) (by rw [e,List.length_take];omega) sd).ends ?_;rw [e];exact aJl f n s ps hl j t (i+1) k
mutual
theorem aRw :∀q:Pat,bU q≤1000000→aK PP 115 [Pat.av q] (Pat.av q)
 | .mk f n s a,h=>by
  have hl:=eV a;simp only [bU]at h;refine aH kR0 (by simp [keylessL,lK]) (lK _) ((aUV f n s a).ends ?_);exact aJl f n s a (by omega) (aGQ a (by omega)) a 0 rfl
theorem aGQ :∀b:List Pat,bE b≤1000000→∀q∈b,aK PP 115 [Pat.av q] (Pat.av q)
 | [],_,q,a=>by cases a
 | p::b,h,q,a=>by
  simp only [bE]at h;rcases zq7.1 a with e|a
  ·rw [e];exact aRw p (by omega)
  ·exact aGQ b (by omega) q a
end
theorem aJm (ps:List Pat)(hl:ps.length<1000000)(g:∀q∈ps,aK PP 115 [Pat.av q] (Pat.av q)) :∀ (t:List Pat) (i:Nat),ps.drop i=t→Ends PP 0 (aGP ps (i:Int) (ps.take i)).as (.ret (.ilst 4 (Pats.av ps) false)) (aA [] 0)
 | [],i,h=>by
  have k:=bJ h;have:=aU0 ps (i:Int) (ps.take i) sd;rw [aBg k]at this ⊢;exact this
 | .mk a b c d::t,i,h=>by
  obtain⟨f,j,l⟩ :=bH h;have e:=take_succ' f;refine(aUZ ps (i:Int) (ps.take i) a b c d a b c d sd sd sd (g _ (oG f)) (by rw [e,List.length_take];omega) sd).ends ?_;rw [e];exact aJm ps hl g t (i+1) j
theorem aRx (ps:List Pat)(h:bE ps<1000000) :aK PP 74 [.ilst 4 (Pats.av ps) false] (.ilst 4 (Pats.av ps) false) :=by
 have hl:=eV ps;exact aH kR0 (by simp [keylessL,keyless,nS]) (by simp [keyless,nS]) ((aUY ps).ends (aJm ps (by omega) (aGQ ps (by omega)) ps 0 rfl))
end
end Go.Hb
