/- A machine on abstract values, its soundness, ways, plain laws. -/
import Derived.Test.YtnljmgihoioocaaGreatHF
import Derived.Test.YtnljmgihoioocaaGreatHG
set_option linter.defProp false
set_option linter.unusedVariables false
set_option linter.unusedSimpArgs false
set_option linter.unusedSectionVars false
set_option maxRecDepth 100000
set_option maxHeartbeats 2000000
namespace Go.Hb
open AV (func ilst int keyless keylessL)
open Bool (and_eq_true)
open List (all_cons drop getD_eq_getElem?_getD getElem?_eq_getElem length length_cons length_set map mem_of_getElem? replicate set)
open Nat (add_zero blt div mod pow)
open Go.Proofs Tryz
noncomputable section
def bO(a:Prog)(b:Node)(c:Bool)(d e:Int):TS:=⟨(tf 64 112 [kp 2 0,kp 3 1,(4,(bV false)),(5,(nI d)),(6,(bV c)),(7,(nI e))] [kc f64 1012,kl f64 1012,.inBlock 1,kc f64 127]),[],[oC 0 [(iN a.nodes),(iI a.funs),(nI a.main),(iC a.cons)],oC 1 [(nI b.op),(nI b.n),(iI b.kids),(iP b.pats)]],2⟩
def aA7(b:List Con)(c:Int)(a:List cA):TS:=⟨(tf 63 42 [(0,(iC b)),(2,(bV false)),(3,(.gl 0 1 0 a.length false)),(4,(nI c))] [kc f63 116,kl f63 116,.inBlock 0,kc f63 15]),[],[oL 0 1 (map dD a)],1⟩
def tK(a:Prog)(c:Int)(b:List Bool):TS:=⟨(tf 27 133 [kp 1 0,(2,(bV false)),(3,(nI (a.nodes.length:Int))),(4,(.gl 1 1 0 b.length true)),(5,(nI c))] [kc f27 500,kl f27 500,.inBlock 0,kc f27 63]),[],[oC 0 [(iN a.nodes),(iI a.funs),(nI a.main),(iC a.cons)],oL 1 1 (map xC b)],2⟩
def oW(a:Prog)(b:List Bool)(c:Int):TS:=⟨(tf 27 133 [kp 1 0,(2,(bV false)),(3,(nI (a.nodes.length:Int))),(4,(.gl 1 1 0 b.length true)),(6,(nI c))] [kc f27 1012,kl f27 1012,.inBlock 2,kc f27 127]),[],[oC 0 [(iN a.nodes),(iI a.funs),(nI a.main),(iC a.cons)],oL 1 1 (map xC b)],2⟩
def tL(a:Prog)(b:List Bool)(c d:Int):TS:=⟨(tf 27 133 [kp 1 0,(2,(bV false)),(3,(nI (a.nodes.length:Int))),(4,(.gl 1 1 0 b.length true)),(6,(nI d)),(7,(nI c))] [kc f27 129612,kl f27 129612,.inBlock 4,.inBlock 3,kc f27 4051,kl f27 1012,.inBlock 2,kc f27 127]),[],[oC 0 [(iN a.nodes),(iI a.funs),(nI a.main),(iC a.cons)],oL 1 1 (map xC b)],2⟩
def tM(b:Prog)(a:List Bool)(c:Int):TS:=⟨(tf 27 133 [(2,(bV false)),(3,(nI (b.nodes.length:Int))),(4,(.gl 0 1 0 a.length true)),(9,(nI c))] [kc f27 2036,kl f27 2036,.inBlock 6,kc f27 255]),[],[oL 0 1 (map xC a)],1⟩
def nO(b:Prog)(a:Node):=tT 0 (start PP 64 [(Prog.av b),(Node.av a)])<|.b 29 13 (a.op==1) (jR 4 62 [(nI a.n),(nI (-1000000000)),(nI 1000000000)]<|fun c=>.b 10 56 (a.op==15) (.b 4 58 c (gm 2 aD a.pats<|jR 0 62 [(nI (a.pats.length:Int)),(nI 1),(nI 5)]<|fun d=>.W 10 2 [0,1] (bO b a d 0 0))<|.W 14 2 [0,1] (bO b a false 0 0))<|.b 4 65 c (gm 2 aD a.pats<|.W 11 2 [0,1] (bO b a ((a.pats.length:Int) ==0) 0 0))<|.W 14 2 [0,1] (bO b a false 0 0))<|.b 6 18 (a.op==2) (jR 4 62 [(nI a.n),(nI 0),(nI 1)]<|fun c=>.b 10 56 (a.op==15) (.b 4 58 c (gm 2 aD a.pats<|jR 0 62 [(nI (a.pats.length:Int)),(nI 1),(nI 5)]<|fun d=>.W 10 2 [0,1] (bO b a d 0 0))<|.W 14 2 [0,1] (bO b a false 0 0))<|.b 4 65 c (gm 2 aD a.pats<|.W 11 2 [0,1] (bO b a ((a.pats.length:Int) ==0) 0 0))<|.W 14 2 [0,1] (bO b a false 0 0))<|.b 6 23 (a.op==4) (gl 6 bU b.funs<|gw 1 30 (0- (b.funs.length:Int))<|jR 0 62 [(nI a.n),(nI (0- (b.funs.length:Int))),(nI 29)]<|fun c=>.b 10 56 (a.op==15) (.b 4 58 c (gm 2 aD a.pats<|jR 0 62 [(nI (a.pats.length:Int)),(nI 1),(nI 5)]<|fun d=>.W 10 2 [0,1] (bO b a d 0 0))<|.W 14 2 [0,1] (bO b a false 0 0))<|.b 4 65 c (gm 2 aD a.pats<|.W 11 2 [0,1] (bO b a ((a.pats.length:Int) ==0) 0 0))<|.W 14 2 [0,1] (bO b a false 0 0))<|.b 6 32 (a.op==24) (jR 4 62 [(nI a.n),(nI 0),(nI 3)]<|fun c=>.b 10 56 (a.op==15) (.b 4 58 c (gm 2 aD a.pats<|jR 0 62 [(nI (a.pats.length:Int)),(nI 1),(nI 5)]<|fun d=>.W 10 2 [0,1] (bO b a d 0 0))<|.W 14 2 [0,1] (bO b a false 0 0))<|.b 4 65 c (gm 2 aD a.pats<|.W 11 2 [0,1] (bO b a ((a.pats.length:Int) ==0) 0 0))<|.W 14 2 [0,1] (bO b a false 0 0))<|.b 6 37 (a.op==14) (gl 7 Con.av b.cons<|gw 1 44 ((b.cons.length:Int) -1)<|jR 0 62 [(nI a.n),(nI 0),(nI ((b.cons.length:Int) -1))]<|fun c=>.b 6 46 c (gX Con.av 6 b.cons a.n<|fun d=>.b 12 56 (a.op==15) (.b 4 58 c (gm 2 aD a.pats<|jR 0 62 [(nI (a.pats.length:Int)),(nI 1),(nI 5)]<|fun e=>.W 10 2 [0,1] (bO b a e d.args 0)) .x)<|.b 4 65 c (gm 2 aD a.pats<|.W 11 2 [0,1] (bO b a ((a.pats.length:Int) ==0) d.args 0)) .x)<|.b 10 56 (a.op==15) (.b 4 58 c .x<|.W 14 2 [0,1] (bO b a false 0 0))<|.b 4 65 c .x<|.W 14 2 [0,1] (bO b a false 0 0))<|.b 10 56 (a.op==15) (.b 4 58 (a.n==0) (gm 2 aD a.pats<|jR 0 62 [(nI (a.pats.length:Int)),(nI 1),(nI 5)]<|fun c=>.W 10 2 [0,1] (bO b a c 0 0))<|.W 14 2 [0,1] (bO b a false 0 0))<|.b 4 65 (a.n==0) (gm 2 aD a.pats<|.W 11 2 [0,1] (bO b a ((a.pats.length:Int) ==0) 0 0))<|.W 14 2 [0,1] (bO b a false 0 0)
def aRr:=fun a b c d e f g i j=>nO a b|>.t e c f|>.t g|>.t i d j tv
def aRs:=fun a b c d e f g=>nO a b|>.t d c e|>.t f|>.f g tv
def aRt:=fun a b c d e f g=>nO a b|>.t d c e|>.f f|>.t g tv
def aRu:=fun a b c d e f g=>nO a b|>.t d c e|>.f f|>.f g tv
def aRv:=fun a b c d e f g i j k=>nO a b|>.f e|>.t f c g|>.t i|>.t j d k tv
def aRw:=fun a b c d e f g i=>nO a b|>.f d|>.t e c f|>.t g|>.f i tv
def aRx:=fun a b c d e f g i=>nO a b|>.f d|>.t e c f|>.f g|>.t i tv
def aRy:=fun a b c d e f g i=>nO a b|>.f d|>.t e c f|>.f g|>.f i tv
def aRz:=fun a b c d e f g i j k l m=>nO a b|>.f e|>.f f|>.t g i c j|>.t k|>.t l d m tv
def aRA:=fun a b c d e f g i j k=>nO a b|>.f d|>.f e|>.t f g c i|>.t j|>.f k tv
def aNM:=fun a b c d e f g i j k=>nO a b|>.f d|>.f e|>.t f g c i|>.f j|>.t k tv
def aNN:=fun a b c d e f g i j k=>nO a b|>.f d|>.f e|>.t f g c i|>.f j|>.f k tv
def aNO:=fun a b c d e f g i j k l m=>nO a b|>.f e|>.f f|>.f g|>.t i c j|>.t k|>.t l d m tv
def aNP:=fun a b c d e f g i j k=>nO a b|>.f d|>.f e|>.f f|>.t g c i|>.t j|>.f k tv
def aNQ:=fun a b c d e f g i j k=>nO a b|>.f d|>.f e|>.f f|>.t g c i|>.f j|>.t k tv
def aNR:=fun a b c d e f g i j k=>nO a b|>.f d|>.f e|>.f f|>.t g c i|>.f j|>.f k tv
def aNS:=fun b c d e f g i j k l m n a o p q r=>nO b c|>.f g|>.f i|>.f j|>.f k|>.t l m d n|>.t a e o p|>.t q|>.t a f r tv
def aNT:=fun b c d e f g i j k l m a n o p=>nO b c|>.f f|>.f g|>.f i|>.f j|>.t k l d m|>.t a e n o|>.f p|>.t a tv
def aNU:=fun b c d e f g i j k l a m=>nO b c|>.f e|>.f f|>.f g|>.f i|>.t j k d l|>.f a|>.t m|>.f a tv
def aNV:=fun b c d e f g i j k l a m=>nO b c|>.f e|>.f f|>.f g|>.f i|>.t j k d l|>.f a|>.f m|>.f a tv
def aNW:=fun a b c d e f g i j k l=>nO a b|>.f d|>.f e|>.f f|>.f g|>.f i|>.t j|>.t k c l tv
def aNX:=fun a b c d e f g i j=>nO a b|>.f c|>.f d|>.f e|>.f f|>.f g|>.t i|>.f j tv
def aNY:=fun a b c d e f g i j=>nO a b|>.f c|>.f d|>.f e|>.f f|>.f g|>.f i|>.t j tv
def aNZ:=fun a b c d e f g i j=>nO a b|>.f c|>.f d|>.f e|>.f f|>.f g|>.f i|>.f j tv
def aUk(j:Prog)(a:Node)(i:Bool)(k b:Int):=tT 0 (bO j a i k b)<|gm 6 aD a.pats<|gd 2 76 (b< (a.pats.length:Int)) (.b 3 78 i (.o (.y fun c:Int=>.y fun d:Int=>.y fun e:cA=>.y fun f:List Pat=>.y fun g:Int=>.y fun l:Bool=>.i [rn 4,.reg (rd 3 (.ans (.idx (Pat.av (Pat.mk c d e f)))::.d::.pure (nI g)::.d::.d::.b 88 true::rd 3 (.ans (.idx (Pat.av (Pat.mk c d e f)))::rd 3 [.pure (bV l),.d,.d])))] [hA (0≤b),.a (((a.pats)[b.toNat]?) =some (Pat.mk c d e f)) (eM aD),hA (aJ PP 69 [(.agg [(nI c),(nI d),(dD e),(iP f)]),(nI 12)] (nI g)),hA (decide (g≥0) =true),hA (0≤b),.a (((a.pats)[b.toNat]?) =some (Pat.mk c d e f)) (eM aD),hA (aJ PP 104 [(.agg [(nI c),(nI d),(dD e),(iP f)]),(iC j.cons)] (bV l))]<|gw 4 80 (b+1)<|.W 3 2 [0,1] (bO j a l k (b+1)))<|.y fun c:Int=>.y fun d:Int=>.y fun e:cA=>.y fun f:List Pat=>.y fun g:Int=>.i [rn 4,.reg (rd 3 (.ans (.idx (Pat.av (Pat.mk c d e f)))::.d::.pure (nI g)::.d::.d::.b 88 false::rd 10 []))] [hA (0≤b),.a (((a.pats)[b.toNat]?) =some (Pat.mk c d e f)) (eM aD),hA (aJ PP 69 [(.agg [(nI c),(nI d),(dD e),(iP f)]),(nI 12)] (nI g)),hA (decide (g≥0) =false)]<|gw 4 80 (b+1)<|.W 3 2 [0,1] (bO j a false k (b+1)))<|.i [rn 3,.reg (.d::.d::.b 99 false::rd 13 [])] [hA (i=false)]<|gE 1 2 (bV false))<|.o (.y fun m:Int=>.i [rn 6,.reg (.d::.d::.b 99 true::.d::.d::.ans (.len (a.kids.length:Int))::rd 4 (.ans (.len (a.pats.length:Int))::.d::.pure (nI m)::rd 3 []))] [hA (i=true),hl bU a.kids,hm aD a.pats,hA (aJ PP 105 [(nI a.op),(nI (a.pats.length:Int)),(nI k)] (nI m)),.q (p:=(nI ((jI a.kids).length:Int)) = (nI (a.kids.length:Int))) (congrArg (int .i64) (aTO _ _)),.q (p:=(nI ((jI a.kids).length:Int)) = (nI (a.kids.length:Int))) (congrArg (int .i64) (aTO _ _)),hr (ilst 1 (jI a.kids) false),hr (ilst 1 (jI a.kids) false)]<|gE 1 2 (bV ((a.kids.length:Int) ==m)))<|.i [rn 6,.reg (.d::.d::.b 99 false::rd 13 [])] [hA (i=false)]<|gE 1 2 (bV false)
def aRB:=fun c d e f g i j k l m n o p a b q r s t=>aUk c d e f g|>.t o|>.t p|>.1 i j k l m n a b q r a b s t tv
def aRC:=fun a b c d e f g i j k l m n o p q r=>aUk a b c d e|>.t l|>.t m|>.2 f g i j k n o p q r tv
def aRD:=fun b c d e f g a=>aUk b c d e f|>.t g|>.f a a tv
def aRE:=fun a b c d e f g i j=>aUk a b c d e|>.f g|>.1 f i j tv
def aRF:=fun a b c d e f g=>aUk a b c d e|>.f f|>.2 g tv
def aRG (a:List Con):=(tT 0 (start PP 63 [(iC a)])<|.i [rn 15,.nilL 3 1] []<|gu 0 0 (map dD ([] :List cA))<|gs 0 3 (.gl 0 1 0 ([] :List cA).length false)<|.W 0 1 [0] (aA7 a 0 ([] :List cA))) ⟨kk,trivial⟩
def aUl(a:List Con)(c:Int)(d:List cA):=tT 0 (aA7 a c d)<|gl 5 Con.av a<|gd 2 8 (c< (a.length:Int)) (gX Con.av 9 a c<|fun b=>jR 2 102 [(dD b.name)]<|fun e=>.b 2 18 (!e) (gE 15 1 (bV false))<|gi Con.av 2 a c b<|jR 2 62 [(nI b.args),(nI 0),(nI 3)]<|fun f=>.b 3 26 (!f) (gE 6 1 (bV false))<|gi Con.av 6 a c b<|ga 3 dD d [b.name]<|gw 6 10 (c+1)<|.W 3 3 [2] (aA7 a (c+1) (d++ [b.name])))<|gl 5 Con.av a<|gd 2 38 ((a.length:Int) ≤20) (gz 1 39 0 1 dD d false<|jR 0 103 [(iS d)]<|fun b=>gE 4 1 (bV b))<|gE 6 1 (bV false)
def aRH:=fun a b c d e f g i j k=>aUl a b c|>.t f d g i e j|>.t k tv
def aRI:=fun c d e f g i j a b k l m n=>aUl c d e|>.t j f a b g k|>.f l a b i m|>.t n tv
def aRJ:=fun c d e f g i j a b k l m n o p=>aUl c d e|>.t j f a b g k|>.f l a b i m|>.f n a b o p ⟨kk,trivial⟩
def aRK:=fun a b c d e f g=>aUl a b c|>.f e|>.t f d g tv
def aRL:=fun a b c d e=>aUl a b c|>.f d|>.f e tv
def aUm(a:Prog):=tT 0 (start PP 27 [(Prog.av a)])<|gl 9 Node.av a.nodes<|gd 8 15 ((a.nodes.length:Int) >300) (gE 30 1 (bV false))<|gl 2 bU a.funs<|jR 1 62 [(nI (a.funs.length:Int)),(nI 1),(nI (a.nodes.length:Int))]<|fun b=>.b 3 23 (!b) (gE 22 1 (bV false))<|gl 4 bU a.funs<|gw 1 29 ((a.funs.length:Int) -1)<|jR 0 62 [(nI a.main),(nI 0),(nI ((a.funs.length:Int) -1))]<|fun c=>.b 3 33 (!c) (gE 12 1 (bV false))<|jR 2 63 [(iC a.cons)]<|fun d=>.b 3 38 (!d) (gE 6 1 (bV false))<|.i [rn 5,.mk a.nodes.length] [hr (a.nodes.length:Int),hr (a.nodes.length:Int),hA (a.nodes.length<100000)]<|.i [.lset 1 (map xC (replicate a.nodes.length false))] [.q (p:=replicate a.nodes.length (xC false) = (map xC (replicate a.nodes.length false))) (aDi _ _ _)]<|.i [.set 40 (.gl 1 1 0 (replicate a.nodes.length false).length true)] [.q (p:=(AV.gl 1 1 0 a.nodes.length true) = (.gl 1 1 0 (replicate a.nodes.length false).length true)) (bG (List.length_replicate ..).symm)]<|.W 9 2 [0,1] (tK a 0 (replicate a.nodes.length false))
def aKz:=fun a b=>aUm a|>.t b tv
def aKA:=fun a b c d e=>aUm a|>.f c b d|>.t e tv
def aKB:=fun a b c d e f g i j=>aUm a|>.f d b e|>.f f g c i|>.t j tv
def aKC:=fun a b c d e f g i j k l m=>aUm a|>.f e b f|>.f g i c j|>.f k d l|>.t m tv
def aKD:=fun a b c d e f g i j k l m n=>aUm a|>.f e b f|>.f g i c j|>.f k d l|>.f m n ⟨kk,trivial⟩
def aZh(c:Prog)(d:Int)(a:List Bool):=tT 0 (tK c d a)<|gl 6 bU c.funs<|gd 2 45 (d< (c.funs.length:Int)) (gX bU 10 c.funs d<|fun b=>gw 3 54 ((c.nodes.length:Int) -1)<|jR 0 62 [(nI b),(nI 0),(nI ((c.nodes.length:Int) -1))]<|fun f=>.b 2 57 (!f) (gE 16 2 (bV false))<|gi bU 4 c.funs d b<|.i [rn 1,.ans (.ix)] [hA (0≤b),hA (b< (a.length:Int))]<|.y fun e:Bool=>gj xC 0 a b.toNat e<|.b 2 66 e (gE 6 2 (bV false))<|gi bU 7 c.funs d b<|.i [rn 1,.ans (.ix)] [hA (0≤b),hA (b< (a.length:Int))]<|.i [.st (xC e) (xC true)] [.a (((a)[b.toNat]?) =some e) (cB (f:=xC)),hr (some (xC true))]<|.i [.lset 1 (map xC (set a b.toNat true))] [.q (p:=(map xC a).set (0+b.toNat) (xC true) = (map xC (set a b.toNat true))) (mX _ _ _ _)]<|.i [.set 4 (.gl 1 1 0 (set a b.toNat true).length true)] [.q (p:=(AV.gl 1 1 0 a.length true) = (.gl 1 1 0 (set a b.toNat true).length true)) (bG (length_set ..).symm)]<|.i [.set 58 (.gl 1 1 0 (set a b.toNat true).length true)] [.q (p:=(AV.gl 1 1 0 a.length true) = (.gl 1 1 0 (set a b.toNat true).length true)) (bG (length_set ..).symm)]<|.i [.set 67 (.gl 1 1 0 (set a b.toNat true).length true)] [.q (p:=(AV.gl 1 1 0 a.length true) = (.gl 1 1 0 (set a b.toNat true).length true)) (bG (length_set ..).symm)]<|gw 5 47 (d+1)<|.W 3 2 [0,1] (tK c (d+1) (set a b.toNat true)))<|.W 9 2 [0,1] (oW c a 0)
def aKE:=fun a b c d e f g i j k l=>aZh a b c|>.t f d g i j e k|>.t l tv
def aKF:=fun c d e f g i j a b k l m n o p q=>aZh c d e|>.t j f a b k g l|>.f m a b n o i p|>.t q tv
def aKG:=fun f g i j k l m a b n o p c d e q r=>aZh f g i|>.t m j a b n k o|>.f p a b c d l e|>.f q a b c d e r ⟨kk,trivial⟩
def aKH:=fun a b c d=>aZh a b c|>.f d ⟨kk,trivial⟩
def bDm(a:Prog)(c:List Bool)(b:Int):=tT 0 (oW a c b)<|gd 7 76 (b< (a.nodes.length:Int)) (.y fun d:Node=>.y fun e:Bool=>.i [rn 6,.reg (rd 4 [.ans (.idx (Node.av d)),.d,.pure (bV e),.d])] [hA (0≤b),.a (((a.nodes)[b.toNat]?) =some d) (aZ (f:=Node.av)),hA (aJ PP 64 [(Prog.av a),(Node.av d)] (bV e))]<|.b 0 86 (!e) (gE 6 2 (bV false))<|.W 8 2 [0,1] (tL a c 0 b))<|.W 9 2 [1] (tM a c 0)
def aKI:=fun a b c d e f g i j k=>bDm a b c|>.t f d e g i j|>.t k tv
def aKJ:=fun a b c d e f g i j k=>bDm a b c|>.t f d e g i j|>.f k ⟨kk,trivial⟩
def aKK:=fun a b c d=>bDm a b c|>.f d ⟨kk,trivial⟩
def aZi(d:Prog)(a:List Bool)(e c:Int):=tT 0 (tL d a e c)<|gX Node.av 7 d.nodes c<|fun f=>gl 2 bU f.kids<|gd 2 95 (e< (f.kids.length:Int)) (gi Node.av 9 d.nodes c f<|gX bU 3 f.kids e<|fun b=>gw 9 109 (c+1)<|gw 2 111 ((d.nodes.length:Int) -1)<|jR 0 62 [(nI b),(nI (c+1)),(nI ((d.nodes.length:Int) -1))]<|fun i=>.b 2 114 (!i) (gE 12 2 (bV false))<|.i [rn 2,.ans (.ix)] [hA (0≤b),hA (b< (a.length:Int))]<|.y fun g:Bool=>gj xC 0 a b.toNat g<|.b 2 119 g (gE 6 2 (bV false))<|.i [rn 5,.ans (.ix)] [hA (0≤b),hA (b< (a.length:Int))]<|.i [.st (xC g) (xC true)] [.a (((a)[b.toNat]?) =some g) (cB (f:=xC)),hr (some (xC true))]<|.i [.lset 1 (map xC (set a b.toNat true))] [.q (p:=(map xC a).set (0+b.toNat) (xC true) = (map xC (set a b.toNat true))) (mX _ _ _ _)]<|.i [.set 4 (.gl 1 1 0 (set a b.toNat true).length true)] [.q (p:=(AV.gl 1 1 0 a.length true) = (.gl 1 1 0 (set a b.toNat true).length true)) (bG (length_set ..).symm)]<|.i [.set 115 (.gl 1 1 0 (set a b.toNat true).length true)] [.q (p:=(AV.gl 1 1 0 a.length true) = (.gl 1 1 0 (set a b.toNat true).length true)) (bG (length_set ..).symm)]<|.i [.set 120 (.gl 1 1 0 (set a b.toNat true).length true)] [.q (p:=(AV.gl 1 1 0 a.length true) = (.gl 1 1 0 (set a b.toNat true).length true)) (bG (length_set ..).symm)]<|gw 5 97 (e+1)<|.W 3 2 [0,1] (tL d (set a b.toNat true) (e+1) c))<|gw 6 78 (c+1)<|.W 3 2 [0,1] (oW d a (c+1))
def aKL:=fun c d e f g i j a b k l m n o p q=>aZi c d e f g a b|>.t k a b i l m n o j p|>.t q tv
def aKM:=fun c d e f g i j k a b l m n o p q r s t u v=>aZi c d e f g a b|>.t l a b i m n o p j q|>.f r s t k u|>.t v tv
def aKN:=fun f g i j k l m n a b o p q r s t u c d e v w=>aZi f g i j k a b|>.t o a b l p q r s m t|>.f u c d n e|>.f v c d e w ⟨kk,trivial⟩
def aKO:=fun a b c d e f g i j=>aZi a b c d e f g|>.f i j ⟨kk,trivial⟩
def bDn(c:Prog)(b:List Bool)(a:Int):=tT 0 (tM c b a)<|gd 7 125 (a< (c.nodes.length:Int)) (.i [rn 8,.ans (.ix)] [hA (0≤a),hA (a< (b.length:Int))]<|.y fun d:Bool=>gj xC 0 b a.toNat d<|.b 2 132 (!d) (gE 6 1 (bV false))<|gw 6 127 (a+1)<|.W 3 1 [0] (tM c b (a+1)))<|gE 7 1 (bV true)
def aKP:=fun a b c d e f g i j=>bDn a b c|>.t e f g d i|>.t j tv
def aKQ:=fun a b c d e f g i j k=>bDn a b c|>.t e f g d i|>.f j k ⟨kk,trivial⟩
def aKR:=fun a b c d=>bDn a b c|>.f d tv
def hO (c:Con) :Bool:=iF c.name&&dR c.args 0 3
def bA (l:List Con) :List cA:=l.map Con.name
def aB4 (l:List Con) :Bool:=l.all hO&&decide (l.length≤20) &&nN (bA l)
def fO (p:Prog)(op n:Int) :Bool:=
 if op=1 then dR n (-1000000000) 1000000000
 else if op=2 then dR n 0 1
 else if op=4 then dR n (0- (p.funs.length:Int)) 29
 else if op=24 then dR n 0 3
 else if op=14 then dR n 0 ((p.cons.length:Int) -1)
 else decide (n=0)
def mY (p:Prog)(x:Node) :Bool:=
 fO p x.op x.n&& (if x.op=15 then dR (x.pats.length:Int) 1 5 else decide (x.pats.length=0))
def iH (p:Prog)(x:Node) :Int:=if x.op=14∧dR x.n 0 ((p.cons.length:Int) -1) =true then fN p.cons x.n else 0
def jS (cons:List Con)(q:Pat) :Bool:=decide (bW q≤12) &&eG cons q
def bT (p:Prog)(x:Node) :Bool:=
 mY p x&&x.pats.all (jS p.cons) &&decide ((x.kids.length:Int) =cQ x.op x.pats.length (iH p x))
theorem fH {α:Type}(l:List α) : ((l.length:Int) ==0) =decide (l= []) :=by cases l<;>simp;omega
theorem nW {p:Prop}(h:p:=by simp_all [mY,fO,iH,fN,fH]) :p:=h
theorem aZj (p:Prog)(x:Node)(hc:p.cons.length≤1000)(hf:p.funs.length≤1000)(b:Bool)(hk:∀ (i:Bool) (a:Int),i=mY p x→a=iH p x→Ends PP 0 (bO p x i a 0).as (.ret (.bool b)) (aA [] 0)) :
  Ends PP 0 (start PP 64 [Prog.av p,Node.av x]).as (.ret (.bool b)) (aA [] 0) :=by
 cases hb1: (x.op== (1:Int))
 case true=>
  cases hb2: (x.op== (15:Int))
  case true=>
   cases hb3: (dR (x.n) (-1000000000) 1000000000)
   case true=>exact LeadsM.ends (aRr p x  (dR (x.n) (-1000000000) 1000000000) (dR ((length x.pats:Nat) :Int) 1 5) hb1 (aV (x.n) (-1000000000) 1000000000) hb2 hb3 (aV ((length x.pats:Nat) :Int) 1 5)) (hk _ _ (by clear hk;exact nW) (by clear hk;exact nW))
   exact LeadsM.ends (aRs p x  (dR (x.n) (-1000000000) 1000000000) hb1 (aV (x.n) (-1000000000) 1000000000) hb2 hb3) (hk _ _ (by clear hk;exact nW) (by clear hk;exact nW))
  cases hb4: (dR (x.n) (-1000000000) 1000000000)
  case true=>exact LeadsM.ends (aRt p x  (dR (x.n) (-1000000000) 1000000000) hb1 (aV (x.n) (-1000000000) 1000000000) hb2 hb4) (hk _ _ (by clear hk;exact nW) (by clear hk;exact nW))
  exact LeadsM.ends (aRu p x  (dR (x.n) (-1000000000) 1000000000) hb1 (aV (x.n) (-1000000000) 1000000000) hb2 hb4) (hk _ _ (by clear hk;exact nW) (by clear hk;exact nW))
 cases hb5: (x.op== (2:Int))
 case true=>
  cases hb6: (x.op== (15:Int))
  case true=>
   cases hb7: (dR (x.n) 0 1)
   case true=>exact LeadsM.ends (aRv p x  (dR (x.n) 0 1) (dR ((length x.pats:Nat) :Int) 1 5) hb1 hb5 (aV (x.n) 0 1) hb6 hb7 (aV ((length x.pats:Nat) :Int) 1 5)) (hk _ _ (by clear hk;exact nW) (by clear hk;exact nW))
   exact LeadsM.ends (aRw p x  (dR (x.n) 0 1) hb1 hb5 (aV (x.n) 0 1) hb6 hb7) (hk _ _ (by clear hk;exact nW) (by clear hk;exact nW))
  cases hb8: (dR (x.n) 0 1)
  case true=>exact LeadsM.ends (aRx p x  (dR (x.n) 0 1) hb1 hb5 (aV (x.n) 0 1) hb6 hb8) (hk _ _ (by clear hk;exact nW) (by clear hk;exact nW))
  exact LeadsM.ends (aRy p x  (dR (x.n) 0 1) hb1 hb5 (aV (x.n) 0 1) hb6 hb8) (hk _ _ (by clear hk;exact nW) (by clear hk;exact nW))
 cases hb9: (x.op== (4:Int))
 case true=>
  cases hb10: (x.op== (15:Int))
  case true=>
   cases hb11: (dR (x.n) (0- ((length p.funs:Nat) :Int)) 29)
   case true=>exact LeadsM.ends (aRz p x  (dR (x.n) (0- ((length p.funs:Nat) :Int)) 29) (dR ((length x.pats:Nat) :Int) 1 5) hb1 hb5 hb9 sdI (aV (x.n) (0- ((length p.funs:Nat) :Int)) 29) hb10 hb11 (aV ((length x.pats:Nat) :Int) 1 5)) (hk _ _ (by clear hk;exact nW) (by clear hk;exact nW))
   exact LeadsM.ends (aRA p x  (dR (x.n) (0- ((length p.funs:Nat) :Int)) 29) hb1 hb5 hb9 sdI (aV (x.n) (0- ((length p.funs:Nat) :Int)) 29) hb10 hb11) (hk _ _ (by clear hk;exact nW) (by clear hk;exact nW))
  cases hb12: (dR (x.n) (0- ((length p.funs:Nat) :Int)) 29)
  case true=>exact LeadsM.ends (aNM p x  (dR (x.n) (0- ((length p.funs:Nat) :Int)) 29) hb1 hb5 hb9 sdI (aV (x.n) (0- ((length p.funs:Nat) :Int)) 29) hb10 hb12) (hk _ _ (by clear hk;exact nW) (by clear hk;exact nW))
  exact LeadsM.ends (aNN p x  (dR (x.n) (0- ((length p.funs:Nat) :Int)) 29) hb1 hb5 hb9 sdI (aV (x.n) (0- ((length p.funs:Nat) :Int)) 29) hb10 hb12) (hk _ _ (by clear hk;exact nW) (by clear hk;exact nW))
 cases hb13: (x.op== (24:Int))
 case true=>
  cases hb14: (x.op== (15:Int))
  case true=>
   cases hb15: (dR (x.n) 0 3)
   case true=>exact LeadsM.ends (aNO p x  (dR (x.n) 0 3) (dR ((length x.pats:Nat) :Int) 1 5) hb1 hb5 hb9 hb13 (aV (x.n) 0 3) hb14 hb15 (aV ((length x.pats:Nat) :Int) 1 5)) (hk _ _ (by clear hk;exact nW) (by clear hk;exact nW))
   exact LeadsM.ends (aNP p x  (dR (x.n) 0 3) hb1 hb5 hb9 hb13 (aV (x.n) 0 3) hb14 hb15) (hk _ _ (by clear hk;exact nW) (by clear hk;exact nW))
  cases hb16: (dR (x.n) 0 3)
  case true=>exact LeadsM.ends (aNQ p x  (dR (x.n) 0 3) hb1 hb5 hb9 hb13 (aV (x.n) 0 3) hb14 hb16) (hk _ _ (by clear hk;exact nW) (by clear hk;exact nW))
  exact LeadsM.ends (aNR p x  (dR (x.n) 0 3) hb1 hb5 hb9 hb13 (aV (x.n) 0 3) hb14 hb16) (hk _ _ (by clear hk;exact nW) (by clear hk;exact nW))
 cases hb17: (x.op== (14:Int))
 case true=>
  cases hb18: (dR (x.n) 0 (((length p.cons:Nat) :Int) - (1:Int)))
  case true=>
   obtain⟨y1,hx19⟩ :∃y,((p.cons)[x.n.toNat]?) =some y:=idT;cases hb20: (x.op== (15:Int))
   case true=>exact LeadsM.ends (aNS p x  (dR (x.n) 0 (((length p.cons:Nat) :Int) - (1:Int))) y1 (dR ((length x.pats:Nat) :Int) 1 5) hb1 hb5 hb9 hb13 hb17 sdI (aV (x.n) 0 (((length p.cons:Nat) :Int) - (1:Int))) hb18 sdI hx19 hb20 (aV ((length x.pats:Nat) :Int) 1 5)) (hk _ _ (by clear hk;exact nW) (by clear hk;exact nW))
   exact LeadsM.ends (aNT p x  (dR (x.n) 0 (((length p.cons:Nat) :Int) - (1:Int))) y1 hb1 hb5 hb9 hb13 hb17 sdI (aV (x.n) 0 (((length p.cons:Nat) :Int) - (1:Int))) hb18 sdI hx19 hb20) (hk _ _ (by clear hk;exact nW) (by clear hk;exact nW))
  cases hb21: (x.op== (15:Int))
  case true=>exact LeadsM.ends (aNU p x  (dR (x.n) 0 (((length p.cons:Nat) :Int) - (1:Int))) hb1 hb5 hb9 hb13 hb17 sdI (aV (x.n) 0 (((length p.cons:Nat) :Int) - (1:Int))) hb18 hb21) (hk _ _ (by clear hk;exact nW) (by clear hk;exact nW))
  exact LeadsM.ends (aNV p x  (dR (x.n) 0 (((length p.cons:Nat) :Int) - (1:Int))) hb1 hb5 hb9 hb13 hb17 sdI (aV (x.n) 0 (((length p.cons:Nat) :Int) - (1:Int))) hb18 hb21) (hk _ _ (by clear hk;exact nW) (by clear hk;exact nW))
 cases hb22: (x.op== (15:Int))
 case true=>
  cases hb23: (x.n== (0:Int))
  case true=>exact LeadsM.ends (aNW p x  (dR ((length x.pats:Nat) :Int) 1 5) hb1 hb5 hb9 hb13 hb17 hb22 hb23 (aV ((length x.pats:Nat) :Int) 1 5)) (hk _ _ (by clear hk;exact nW) (by clear hk;exact nW))
  exact LeadsM.ends (aNX p x   hb1 hb5 hb9 hb13 hb17 hb22 hb23) (hk _ _ (by clear hk;exact nW) (by clear hk;exact nW))
 cases hb24: (x.n== (0:Int))
 case true=>exact LeadsM.ends (aNY p x   hb1 hb5 hb9 hb13 hb17 hb22 hb24) (hk _ _ (by clear hk;exact nW) (by clear hk;exact nW))
 exact LeadsM.ends (aNZ p x   hb1 hb5 hb9 hb13 hb17 hb22 hb24) (hk _ _ (by clear hk;exact nW) (by clear hk;exact nW))
theorem aAc (p:Prog)(x:Node)(hc:p.cons.length≤1000)(hl:x.pats.length≤10)(a:Int) :
  ∀ (t:List Pat) (i:Nat) (b:Bool),x.pats.drop i=t→Ends PP 0 (bO p x b a (i:Int)).as (.ret (.bool (b&&t.all (jS p.cons) &&decide ((x.kids.length:Int) =cQ x.op x.pats.length a)))) (aA [] 0)
 | [],i,b,h=>by
  have:=bE h;cases b
  case false=>exact Ends.eqv (aRF p x false a i sd rfl) (by simp)
  refine Ends.eqv (aRE p x true a i _ sd rfl (aNL x.op x.pats.length a (by omega) (by omega))) ?_;simp only [List.all_nil,Bool.true_and,AV.bool.injEq];rfl
 | .mk f' n' s' ps'::t,i,b,h=>by
  obtain⟨g1,g2,g3⟩ :=bB h;cases b
  case false=>exact Ends.eqv (aRD p x false a i sd rfl) (by simp)
  have hw:=vW (.mk f' n' s' ps') 12 (by omega) (by omega);by_cases k:bW (.mk f' n' s' ps') ≤12
  · have hg:0≤lM (.mk f' n' s' ps') 12:= (xM (.mk f' n' s' ps') 12).2 (by omega);refine(aRB p x true a i f' n' s' ps' _ _ sd rfl sd sd hw (decide_eq_true hg) (aGB p.cons hc (.mk f' n' s' ps') (by omega)) sd).ends ?_;exact Ends.eqv (aAc p x hc hl a t (i+1) _ g2) (by simp [jS,k])
  · have hg:¬lM (.mk f' n' s' ps') 12≥0:=fun g=>k (by have:= (xM (.mk f' n' s' ps') 12).1 g;omega);refine(aRC p x true a i f' n' s' ps' _ sd rfl sd sd hw (decide_eq_false hg) sd).ends ?_;exact Ends.eqv (aAc p x hc hl a t (i+1) _ g2) (by simp [jS,k])
theorem aN0 (p:Prog)(x:Node)(hc:p.cons.length≤1000)(hf:p.funs.length≤1000)(hl:x.pats.length≤10) :aJ PP 64 [Prog.av p,Node.av x] (.bool (bT p x)) :=by
 refine aF (by kernel_rfl) rfl rfl (aZj p x hc hf _ fun i a hi ha=>?_);subst hi ha;exact aAc p x hc hl _ x.pats 0 _ rfl
theorem aEV (l:List Con)(hl:l.length≤1000) :∀ (t:List Con) (i:Nat),l.drop i=t→Ends PP 0 (aA7 l (i:Int) (bA (l.take i))).as (.ret (.bool (t.all hO&&decide (l.length≤20) &&nN (bA l)))) (aA [] 0)
 | [],i,h=>by
  have hi:=bE h;have e:bA (l.take i) =bA l:=by rw [List.take_of_length_le hi]
  rw [e];by_cases k:l.length≤20
  ·exact Ends.eqv (aRK l i _ _ sd sd (aH3 (bA l) (by simp [bA];omega))) (by simp [k])
  ·exact Ends.eqv (aRL l i _ sd sd) (by simp [k])
 | c::t,i,h=>by
  obtain⟨g1,g2,g3⟩ :=bB h;have hg:=aKm c.name;cases k1:iF c.name
  case false=>
   rw [k1]at hg;exact Ends.eqv (aRH l i _ c false sd sd sd hg rfl) (by simp [hO,k1])
  rw [k1]at hg;have hi:=aV c.args 0 3;cases k2:dR c.args 0 3
  case false=>
   rw [k2]at hi;exact Ends.eqv (aRI l i _ c true false sd sd sd hg rfl hi rfl) (by simp [hO,k1,k2])
  rw [k2]at hi;have e:bA (l.take i) ++ [c.name] =bA (l.take (i+1)) :=by
   rw [List.take_add_one,g1];simp [bA]
  refine(aRJ l i (bA (l.take i)) c true true sd sd sd hg rfl hi rfl (by simp [bA];omega) sd).ends ?_;rw [e];exact Ends.eqv (aEV l hl t (i+1) g2) (by simp [hO,k1,k2])
theorem aN1 (l:List Con)(hl:l.length≤1000) :aJ PP 63 [.ilst 2 (map Con.av l) false] (.bool (aB4 l)) :=
 aF (by kernel_rfl) rfl rfl ((aRG l).ends (aEV l hl l 0 rfl))
def marks (lo n:Int) :List Int→List Bool→Option (List Bool)
 | [],u=>some u
 |k::ks,u=>if dR k lo (n-1) =true∧u[k.toNat]?=some false then marks lo n ks (u.set k.toNat true)else none
theorem lX {lo n:Int}:∀ {ks:List Int} {u v:List Bool},marks lo n ks u=some v→v.length=u.length
 | [],u,v,h=>by simp only [marks,Option.some.injEq]at h;rw [h]
 | k::ks,u,v,h=>by
  simp only [marks]at h;split at h
  ·have:=lX h;simpa using this
  ·cases h
def bX (p:Prog) :Nat→List Node→List Bool→Option (List Bool)
 |_,[],u=>some u
 | i,x::t,u=>if bT p x=true then match marks ((i:Int) +1) (p.nodes.length:Int) x.kids u with
   |some v=>bX p (i+1) t v
   |none=>none
  else none
def allT :Option (List Bool) →Bool
 |some u=>u.all fun b=>b
 |none=>false
def dZ (p:Prog) :Bool:=decide (p.nodes.length≤300) &&dR (p.funs.length:Int) 1 (p.nodes.length:Int) &&dR p.main 0 ((p.funs.length:Int) -1)
def aH (p:Prog) :Bool:=
 dZ p&&aB4 p.cons&& (match marks 0 (p.nodes.length:Int) p.funs (replicate p.nodes.length false)with
  |some u=>allT (bX p 0 p.nodes u)
  |none=>false)
theorem rF3 (p:Prog)(u:List Bool)(hn:p.nodes.length≤1000)(hu:u.length=p.nodes.length) :∀ (t:List Bool) (i:Nat),u.drop i=t→Ends PP 0 (tM p u (i:Int)).as (.ret (.bool (t.all fun b=>b))) (aA [] 0)
 | [],i,h=>by
  have:=bE h;exact aKR p u i sd
 | b::t,i,h=>by
  obtain⟨g1,g2,g3⟩ :=bB h;cases b
  case false=>exact Ends.eqv (aKP p u i false sd sd sd sd rfl) (by simp)
  refine(aKQ p u i true sd sd sd sd rfl sd).ends ?_;exact Ends.eqv (rF3 p u hn hu t (i+1) g2) (by simp)
theorem bEN (p:Prog)(x:Node)(i:Nat)(hx:p.nodes[i]?=some x)(hn:p.nodes.length≤1000)(hk:x.kids.length≤1000)(K:List Bool→Bool)
  (hb:∀v:List Bool,v.length=p.nodes.length→Ends PP 0 (oW p v ((i:Int) +1)).as (.ret (.bool (K v))) (aA [] 0)) :
  ∀ (t:List Int) (k:Nat) (u:List Bool),u.length=p.nodes.length→x.kids.drop k=t→Ends PP 0 (tL p u (k:Int) (i:Int)).as (.ret (.bool (match marks ((i:Int) +1) p.nodes.length t u with|some v=>K v|none=>false))) (aA [] 0)
 | [],k,u,hu,h=>by
  have:=bE h;have hi:= (List.getElem?_eq_some_iff.1 hx).1;refine(aKO p u k i x sd sd sd sd).ends ?_;exact hb u hu
 | y::t,k,u,hu,h=>by
  obtain⟨g1,g2,g3⟩ :=bB h;have hi:= (List.getElem?_eq_some_iff.1 hx).1;have hin:=aV y ((i:Int) +1) ((p.nodes.length:Int) -1);cases k1:dR y ((i:Int) +1) ((p.nodes.length:Int) -1)
  case false=>
   rw [k1]at hin;exact Ends.eqv (aKL p u k i x y false sd sd sd sd sd sd sd hin rfl) (by simp [marks,k1])
  rw [k1]at hin;have hy:=inB_iff.1 k1;obtain⟨z,hz⟩ :∃z,u[y.toNat]?=some z:= ⟨_,getElem?_eq_getElem (by omega)⟩;cases z
  case true=>exact Ends.eqv (aKM p u k i x y true true sd sd sd sd sd sd sd hin rfl (by omega) (by omega) hz rfl) (by simp [marks,hz])
  refine(aKN p u k i x y true false sd sd sd sd sd sd sd hin rfl (by omega) (by omega) hz rfl sd).ends ?_;exact Ends.eqv (bEN p x i hx hn hk K hb t (k+1) (u.set y.toNat true) (by simpa using hu) g2) (by simp [marks,k1,hz])
theorem rF1 (p:Prog)(hp:aE p=true)(hn:p.nodes.length≤1000)(hc:p.cons.length≤1000)(hf:p.funs.length≤1000) :∀ (t:List Node) (i:Nat) (u:List Bool),u.length=p.nodes.length→p.nodes.drop i=t →
  Ends PP 0 (oW p u (i:Int)).as (.ret (.bool (allT (bX p i t u)))) (aA [] 0)
 | [],i,u,hu,h=>by
  have:=bE h;refine(aKK p u i sd).ends ?_;exact rF3 p u hn hu u 0 rfl
 | x::t,i,u,hu,h=>by
  obtain⟨g1,g2,g3⟩ :=bB h;have hx:bJ x=true:=by
   simp only [aE,and_eq_true]at hp;exact List.all_eq_true.1 hp.2 x (mem_of_getElem? g1)
  simp only [bJ,and_eq_true,decide_eq_true_eq]at hx;have ho:=aN0 p x hc hf hx.1.2;cases k:bT p x
  case false=>
   rw [k]at ho;exact Ends.eqv (aKI p u i x false sd sd sd ho rfl) (by simp [bX,k,allT])
  rw [k]at ho;refine(aKJ p u i x true sd sd sd ho rfl).ends ?_;refine Ends.eqv (bEN p x i g1 hn (by omega) (fun v=>allT (bX p (i+1) t v)) (fun v hv=>rF1 p hp hn hc hf t (i+1) v hv g2) x.kids 0 u hu rfl) ?_;simp only [bX,k,if_true];cases marks ((i:Int) +1) (p.nodes.length:Int) x.kids u<;>rfl
theorem rF0 (p:Prog)(hp:aE p=true)(hn:p.nodes.length≤1000)(hc:p.cons.length≤1000)(hf:p.funs.length≤1000) :∀ (t:List Int) (i:Nat) (u:List Bool),u.length=p.nodes.length→p.funs.drop i=t →
  Ends PP 0 (tK p (i:Int) u).as (.ret (.bool (match marks 0 p.nodes.length t u with|some v=>allT (bX p 0 p.nodes v) |none=>false))) (aA [] 0)
 | [],i,u,hu,h=>by
  have:=bE h;refine(aKH p i u sd).ends ?_;exact rF1 p hp hn hc hf p.nodes 0 u hu rfl
 | y::t,i,u,hu,h=>by
  obtain⟨g1,g2,g3⟩ :=bB h;have hin:=aV y 0 ((p.nodes.length:Int) -1);cases k1:dR y 0 ((p.nodes.length:Int) -1)
  case false=>
   rw [k1]at hin;exact Ends.eqv (aKE p i u y false sd sd sd sd hin rfl) (by simp [marks,k1])
  rw [k1]at hin;have hy:=inB_iff.1 k1;obtain⟨z,hz⟩ :∃z,u[y.toNat]?=some z:= ⟨_,getElem?_eq_getElem (by omega)⟩;cases z
  case true=>exact Ends.eqv (aKF p i u y true true sd sd sd sd hin rfl (by omega) (by omega) hz rfl) (by simp [marks,hz])
  refine(aKG p i u y true false sd sd sd sd hin rfl (by omega) (by omega) hz rfl sd).ends ?_;exact Ends.eqv (rF0 p hp hn hc hf t (i+1) (u.set y.toNat true) (by simpa using hu) g2) (by simp [marks,k1,hz])
theorem aIe (p:Prog)(hp:aE p=true) :aJ PP 27 [Prog.av p] (.bool (aH p)) :=by
 refine aF (by kernel_rfl) rfl rfl ?_;have hs:=hp;simp only [aE,and_eq_true,decide_eq_true_eq]at hs;obtain⟨⟨⟨⟨s1,s2⟩,s3⟩,_⟩,_⟩ :=hs;by_cases k0:p.nodes.length≤300
 · have hi1:=aV (p.funs.length:Int) 1 (p.nodes.length:Int);cases k1:dR (p.funs.length:Int) 1 (p.nodes.length:Int)
   case false=>
    rw [k1]at hi1;exact Ends.eqv (aKA p false sd hi1 rfl) (by simp [aH,dZ,k1])
   rw [k1]at hi1;have hi2:=aV p.main 0 ((p.funs.length:Int) -1);cases k2:dR p.main 0 ((p.funs.length:Int) -1)
   case false=>
    rw [k2]at hi2;exact Ends.eqv (aKB p true false sd hi1 rfl sd hi2 rfl) (by simp [aH,dZ,k2])
   rw [k2]at hi2;have hco:=aN1 p.cons (by omega);cases k3:aB4 p.cons
   case false=>
    rw [k3]at hco;exact Ends.eqv (aKC p true true false sd hi1 rfl sd hi2 rfl hco rfl) (by simp [aH,k3])
   rw [k3]at hco;refine(aKD p true true true sd hi1 rfl sd hi2 rfl hco rfl (by omega)).ends ?_;refine Ends.eqv (rF0 p hp (by omega) (by omega) (by omega) p.funs 0 _ (by simp) rfl) ?_;have e:dZ p=true:=by simp [dZ,k0,k1,k2]
   simp only [aH,e,k3,Bool.true_and]
 ·exact Ends.eqv (aKz p sd) (by simp [aH,dZ,k0])
def checkN (b:Bool) :Int:=if b=true then 0 else 2
def xN(a:cA)(b:Nat):TS:=⟨(tf 195 16 [(2,(bV false)),kp 6 0] [kc f195 52,kl f195 52,.inBlock 0,kc f195 7]),[],[(0,(.siter a.length (aC a) b),false)],1⟩
def aA8(e f:Int)(g:cA)(a:List Pat)(b c d:Int):TS:=⟨(tf 171 27 [(1,(nI b)),(4,(nI 0)),(5,(nI c)),(9,(iP a)),(10,(nI (a.length:Int))),(11,(nI d))] [kc f171 116,kl f171 116,.inBlock 0,kc f171 15]),[],[],0⟩
def bEO(a b c:Int):=tT 0 (start PP 122 [(nI a),(nI b),(nI c)])<|gd 10 10 (a≥b) (gE 7 0 (bV (decide (a≤c))))<|gE 7 0 (bV false)
def aZk:=fun a b c d=>bEO a b c|>.t d tv
def aZl:=fun a b c d=>bEO a b c|>.f d tv
def aUn (b:Int):=fun a c=>(tT 0 (start PP 197 [(nI b)])<|jR 7 122 [(nI b),(nI (-1000000000)),(nI 1000000000)]<|fun a=>gE 3 0 (bV a)) a c tv
def aN2 (a:cA):=(tT 0 (start PP 195 [(dD a)])<|.W 12 1 [0] (xN a 0)) tv
def aZm(a:cA)(b:Nat):=tT 0 (xN a b)<|.o (.y fun c:Nat=>.y fun d:Nat=>.i [rn 2,.nxt c d] [hA (b<a.length),hA (aMF a.length (aC a) b=some (c,d))]<|gd 16 12 (((c:Nat) :Int) <97) (gE 10 1 (bV false))<|gd 4 15 (((c:Nat) :Int) >122) (gE 6 1 (bV false))<|.W 4 1 [0] (xN a (Nat.add b d)))<|.i [rn 2,.nxtE] [hA (a.length≤b)]<|gE 10 1 (bV true)
def aN3:=fun a b c d e f g=>aZm a b|>.1 c d e f|>.t g tv
def aN4:=fun a b c d e f g i=>aZm a b|>.1 c d e f|>.f g|>.t i tv
def aN5:=fun a b c d e f g i=>aZm a b|>.1 c d e f|>.f g|>.f i tv
def aN6:=fun a b c=>aZm a b|>.2 c tv
def aUo(a:cA):=tT 0 (start PP 166 [(dD a)])<|.b 9 5 (!(iZ a.length (aC a) 0 0)) (gd 5 10 ((a.length:Int) ≤8) (.y fun b:UInt8=>.i [rn 1,.ans (.ev (.int .u8 ((b.toNat:Nat) :Int)))] [.q (p:=0≤ (0:Int)) (by decide),.a ((a)[0]?=some b) (p':=(0:Int) < (a.length:Int)) (fun h=>(aBX (k:= (0:Int)) (by decide) h)),.a ((a)[0]?=some b) (p':=int .u8 ((mod (div (aC a) (pow 256 (0:Int).toNat)) 256:Nat) :Int) = (.int .u8 ((b.toNat:Nat) :Int))) (fun h=>(aBY (k:= (0:Int)) h))]<|gd 3 15 (((b.toNat:Nat) :Int) ≥65) (.i [rn 1,.ans (.ev (.int .u8 ((b.toNat:Nat) :Int)))] [.q (p:=0≤ (0:Int)) (by decide),.a ((a)[0]?=some b) (p':=(0:Int) < (a.length:Int)) (fun h=>(aBX (k:= (0:Int)) (by decide) h)),.a ((a)[0]?=some b) (p':=int .u8 ((mod (div (aC a) (pow 256 (0:Int).toNat)) 256:Nat) :Int) = (.int .u8 ((b.toNat:Nat) :Int))) (fun h=>(aBY (k:= (0:Int)) h))]<|gd 3 20 (((b.toNat:Nat) :Int) ≤90) (.i [rn 1,.ans (.ev (dD (drop 1 a)))] [.a (1≤length a) (p':=aQZ PP 9 (dD a) (some (nI 1)) none (dD (drop 1 a))) (fun h=>(aCH (k:= (1:Int)) (by kernel_rfl) (by decide) h))]<|jR 0 195 [(dD (drop 1 a))]<|fun c=>gE 4 0 (bV c))<|gE 7 0 (bV false))<|gE 12 0 (bV false))<|gE 17 0 (bV false))<|gE 22 0 (bV false)
def aN7:=fun b c d e f a g i j k=>aUo b|>.t e|>.t f c a a|>.t g a a|>.t i j d k tv
def aN8:=fun b c d e a f g=>aUo b|>.t d|>.t e c a a|>.t f a a|>.f g tv
def aN9:=fun b c d e a f=>aUo b|>.t d|>.t e c a a|>.f f tv
def aOa:=fun a b c=>aUo a|>.t b|>.f c tv
def aOb:=fun a b=>aUo a|>.f b tv
def bEP(a:Con):=tT 0 (start PP 124 [(.agg [(dD a.name),(nI a.args)])])<|jR 9 166 [(dD a.name)]<|fun b=>.b 1 6 b (jR 2 122 [(nI a.args),(nI 0),(nI 3)]<|fun c=>gE 4 1 (bV c))<|gE 7 1 (bV false)
def aUp:=fun a b c d e f=>bEP a b d|>.t e c f tv
def aUq:=fun a b c d=>bEP a b c|>.f d tv
def aRM(c:Prog)(a:Node):=tT 0 (start PP 173 [(Prog.av c),(Node.av a)])<|.b 18 7 (a.op==1) (jR 5 197 [(nI a.n)]<|fun b=>gE 3 2 (bV b))<|.b 6 12 (a.op==2) (jR 5 122 [(nI a.n),(nI 0),(nI 1)]<|fun b=>gE 3 2 (bV b))<|.b 6 17 (a.op==24) (jR 5 122 [(nI a.n),(nI 0),(nI 3)]<|fun b=>gE 3 2 (bV b))<|.b 6 22 (a.op==4) (gl 8 bU c.funs<|gw 1 30 (0- (c.funs.length:Int))<|jR 0 122 [(nI a.n),(nI (0- (c.funs.length:Int))),(nI 29)]<|fun b=>gE 3 2 (bV b))<|.b 6 32 (a.op==14) (gE 6 2 (bV true))<|gE 11 2 (bV (a.n==0))
def aKS:=fun a b c d e=>aRM a b|>.t d c e tv
def aKT:=fun a b c d e f=>aRM a b|>.f d|>.t e c f tv
def aKU:=fun a b c d e f g=>aRM a b|>.f d|>.f e|>.t f c g tv
def aKV:=fun a b c d e f g i j=>aRM a b|>.f d|>.f e|>.f f|>.t g i c j tv
def aKW:=fun a b c d e f g=>aRM a b|>.f c|>.f d|>.f e|>.f f|>.t g tv
def aKX:=fun a b c d e f g=>aRM a b|>.f c|>.f d|>.f e|>.f f|>.f g tv
def aRN (b c:Int)(d:cA)(a:List Pat)(e:Int):=(tT 0 (start PP 171 [(.agg [(nI b),(nI c),(dD d),(iP a)]),(nI e)])<|gm 14 aD a<|.W 4 1 [] (aA8 b c d a e 1 0)) tv
def bDo(e f:Int)(g:cA)(d:List Pat)(b a c:Int):=tT 0 (aA8 e f g d b a c)<|gd 5 12 (c< (d.length:Int)) (tC 6 d c<|fun j k l m=>gd 11 17 (a>b) (gE 8 1 (nI a))<|gw 8 22 (b-a)<|gpI 0 171 [(.agg [(nI j),(nI k),(dD l),(iP m)]),(nI (b-a))]<|fun i=>gw 1 24 (a+i)<|gw 5 25 (c+1)<|.W 3 1 [] (aA8 e f g d b (a+i) (c+1)))<|gE 8 0 (nI a)
def aRO:=fun a b c d e f g i j k l m n o p=>bDo a b c d e f g|>.t m i j k l n o|>.t p tv
def aRP:=fun a b c d e f g i j k l m n o p q r s t u=>bDo a b c d e f g|>.t n i j k l o p|>.f q r m s t u tv
def aRQ:=fun a b c d e f g i=>bDo a b c d e f g|>.f i tv
def aAd(d:Prog)(e c:Int)(f:cA)(a:List Pat):=tT 0 (start PP 172 [(Prog.av d),(.agg [(nI e),(nI c),(dD f),(iP a)])])<|.b 13 8 (!(iZ f.length (aC f) 0 0)) (gE 14 2 (bV false))<|jR 4 174 [(iP a),(.func 172 [(Prog.av d)] [])]<|fun i=>.b 3 15 (!i) (gE 6 2 (bV false))<|.b 15 18 (e==1) (.b 9 25 (c==0) (gm 2 aD a<|gE 5 2 (bV ((a.length:Int) ==0)))<|gE 8 2 (bV false))<|.b 6 18 (e==2) (.b 9 25 (c==0) (gm 2 aD a<|gE 5 2 (bV ((a.length:Int) ==0)))<|gE 8 2 (bV false))<|.b 5 18 (e==5) (.b 7 25 (c==0) (gm 2 aD a<|gE 5 2 (bV ((a.length:Int) ==0)))<|gE 8 2 (bV false))<|.b 6 31 (e==3) (jR 5 197 [(nI c)]<|fun b=>.b 1 36 b (gm 2 aD a<|gE 5 2 (bV ((a.length:Int) ==0)))<|gE 8 2 (bV false))<|.b 6 42 (e==4) (jR 5 122 [(nI c),(nI 0),(nI 1)]<|fun b=>.b 1 47 b (gm 2 aD a<|gE 5 2 (bV ((a.length:Int) ==0)))<|gE 8 2 (bV false))<|.b 6 53 (e==6) (.o (.y fun b:Bool=>.y fun g:Con=>.i [rn 2,.reg (rd 5 (.ans (.len (d.cons.length:Int))::.d::.pure (bV b)::.d::.b 63 true::.d::.d::.ans (.len (a.length:Int))::rd 5 (.ans (.idx (Con.av g))::rd 5 [])))] [hl Con.av d.cons,hA (aJ PP 122 [(nI c),(nI 0),(nI (IntKind.i64.wrap ((d.cons.length:Int) -1)))] (bV b)),hA (b=true),hm aD a,hA (0≤c),.a (((d.cons)[c.toNat]?) =some g) (aZ (f:=Con.av))]<|gE 1 2 (bV ((a.length:Int) ==g.args)))<|.y fun b:Bool=>.i [rn 2,.reg (rd 5 (.ans (.len (d.cons.length:Int))::.d::.pure (bV b)::.d::.b 63 false::rd 14 []))] [hl Con.av d.cons,hA (aJ PP 122 [(nI c),(nI 0),(nI (IntKind.i64.wrap ((d.cons.length:Int) -1)))] (bV b)),hA (b=false)]<|gE 1 2 (bV false))<|gE 8 2 (bV false)
def aUr:=fun a b c d e f=>aAd a b c d e|>.t f tv
def aUs:=fun a b c d e f g i j=>aAd a b c d e|>.f g f i|>.t j tv
def aUt:=fun a b c d e f g i j k l=>aAd a b c d e|>.f g f i|>.f j|>.t k|>.t l tv
def aUu:=fun a b c d e f g i j k l=>aAd a b c d e|>.f g f i|>.f j|>.t k|>.f l tv
def aUv:=fun a b c d e f g i j k l m=>aAd a b c d e|>.f g f i|>.f j|>.f k|>.t l|>.t m tv
def aUw:=fun a b c d e f g i j k l m=>aAd a b c d e|>.f g f i|>.f j|>.f k|>.t l|>.f m tv
def aUx:=fun a b c d e f g i j k l m n=>aAd a b c d e|>.f g f i|>.f j|>.f k|>.f l|>.t m|>.t n tv
def aUy:=fun a b c d e f g i j k l m n=>aAd a b c d e|>.f g f i|>.f j|>.f k|>.f l|>.t m|>.f n tv
def aUz:=fun a b c d e f g i j k l m n o p q=>aAd a b c d e|>.f i f j|>.f k|>.f l|>.f m|>.f n|>.t o g p|>.t q tv
def aUA:=fun a b c d e f g i j k l m n o p q=>aAd a b c d e|>.f i f j|>.f k|>.f l|>.f m|>.f n|>.t o g p|>.f q tv
def aRR:=fun a b c d e f g i j k l m n o p q r=>aAd a b c d e|>.f i f j|>.f k|>.f l|>.f m|>.f n|>.f o|>.t p g q|>.t r tv
def aRS:=fun a b c d e f g i j k l m n o p q r=>aAd a b c d e|>.f i f j|>.f k|>.f l|>.f m|>.f n|>.f o|>.t p g q|>.f r tv
def aRT:=fun a b c d e f g i j k l m n o p q r s t u v=>aAd a b c d e|>.f j f k|>.f l|>.f m|>.f n|>.f o|>.f p|>.f q|>.t r|>.1 g i s t u v tv
def aRU:=fun a b c d e f g i j k l m n o p q r s=>aAd a b c d e|>.f i f j|>.f k|>.f l|>.f m|>.f n|>.f o|>.f p|>.t q|>.2 g r s tv
def aRV:=fun a b c d e f g i j k l m n o p=>aAd a b c d e|>.f g f i|>.f j|>.f k|>.f l|>.f m|>.f n|>.f o|>.f p tv
def lD(a:Int):=tT 0 (start PP 169 [(nI a)])<|.b 16 4 (a==1) (gE 9 0 (.iface 242 (nI 0)))<|.b 6 4 (a==2) (gE 9 0 (.iface 242 (nI 0)))<|.b 6 4 (a==3) (gE 9 0 (.iface 242 (nI 0)))<|.b 6 4 (a==4) (gE 9 0 (.iface 242 (nI 0)))<|.b 6 4 (a==21) (gE 9 0 (.iface 242 (nI 0)))<|.b 6 4 (a==25) (gE 9 0 (.iface 242 (nI 0)))<|.b 5 4 (a==28) (gE 7 0 (.iface 242 (nI 0)))<|.b 7 13 (a==5) (gE 9 0 (.iface 242 (nI 1)))<|.b 6 13 (a==27) (gE 9 0 (.iface 242 (nI 1)))<|.b 6 13 (a==16) (gE 9 0 (.iface 242 (nI 1)))<|.b 6 13 (a==17) (gE 9 0 (.iface 242 (nI 1)))<|.b 6 13 (a==19) (gE 9 0 (.iface 242 (nI 1)))<|.b 6 13 (a==20) (gE 9 0 (.iface 242 (nI 1)))<|.b 6 13 (a==23) (gE 9 0 (.iface 242 (nI 1)))<|.b 6 13 (a==24) (gE 9 0 (.iface 242 (nI 1)))<|.b 5 13 (a==26) (gE 7 0 (.iface 242 (nI 1)))<|.b 7 24 (a==6) (gE 9 0 (.iface 242 (nI 2)))<|.b 6 24 (a==7) (gE 9 0 (.iface 242 (nI 2)))<|.b 6 24 (a==9) (gE 9 0 (.iface 242 (nI 2)))<|.b 6 24 (a==10) (gE 9 0 (.iface 242 (nI 2)))<|.b 6 24 (a==11) (gE 9 0 (.iface 242 (nI 2)))<|.b 6 24 (a==12) (gE 9 0 (.iface 242 (nI 2)))<|.b 6 24 (a==13) (gE 9 0 (.iface 242 (nI 2)))<|.b 6 24 (a==18) (gE 9 0 (.iface 242 (nI 2)))<|.b 5 24 (a==22) (gE 7 0 (.iface 242 (nI 2)))<|.b 6 35 (a==8) (gE 7 0 (.iface 242 (nI 3)))<|.b 6 38 (a==14) (gE 8 0 (.iface 243 (.agg [])))<|.b 6 42 (a==15) (gE 8 0 (.iface 225 (.agg [])))<|gE 8 0 .nili
def aKY:=fun a b=>lD a|>.t b tv
def aKZ:=fun a b c=>lD a|>.f b|>.t c tv
def aK0:=fun a b c d=>lD a|>.f b|>.f c|>.t d tv
def aK1:=fun a b c d e=>lD a|>.f b|>.f c|>.f d|>.t e tv
def aK2:=fun a b c d e f=>lD a|>.f b|>.f c|>.f d|>.f e|>.t f tv
def aK3:=fun a b c d e f g=>lD a|>.f b|>.f c|>.f d|>.f e|>.f f|>.t g tv
def aK4:=fun a b c d e f g i=>lD a|>.f b|>.f c|>.f d|>.f e|>.f f|>.f g|>.t i tv
def aK5:=fun a b c d e f g i j=>lD a|>.f b|>.f c|>.f d|>.f e|>.f f|>.f g|>.f i|>.t j tv
def aK6:=fun a b c d e f g i j k=>lD a|>.f b|>.f c|>.f d|>.f e|>.f f|>.f g|>.f i|>.f j|>.t k tv
def aK7:=fun a b c d e f g i j k l=>lD a|>.f b|>.f c|>.f d|>.f e|>.f f|>.f g|>.f i|>.f j|>.f k|>.t l tv
def aIf:=fun a b c d e f g i j k l m=>lD a|>.f b|>.f c|>.f d|>.f e|>.f f|>.f g|>.f i|>.f j|>.f k|>.f l|>.t m tv
def aIg:=fun a b c d e f g i j k l m n=>lD a|>.f b|>.f c|>.f d|>.f e|>.f f|>.f g|>.f i|>.f j|>.f k|>.f l|>.f m|>.t n tv
def aIh:=fun a b c d e f g i j k l m n o=>lD a|>.f b|>.f c|>.f d|>.f e|>.f f|>.f g|>.f i|>.f j|>.f k|>.f l|>.f m|>.f n|>.t o tv
def aIi:=fun a b c d e f g i j k l m n o p=>lD a|>.f b|>.f c|>.f d|>.f e|>.f f|>.f g|>.f i|>.f j|>.f k|>.f l|>.f m|>.f n|>.f o|>.t p tv
def aIj:=fun a b c d e f g i j k l m n o p q=>lD a|>.f b|>.f c|>.f d|>.f e|>.f f|>.f g|>.f i|>.f j|>.f k|>.f l|>.f m|>.f n|>.f o|>.f p|>.t q tv
def aIk:=fun a b c d e f g i j k l m n o p q r=>lD a|>.f b|>.f c|>.f d|>.f e|>.f f|>.f g|>.f i|>.f j|>.f k|>.f l|>.f m|>.f n|>.f o|>.f p|>.f q|>.t r tv
def aIl:=fun a b c d e f g i j k l m n o p q r s=>lD a|>.f b|>.f c|>.f d|>.f e|>.f f|>.f g|>.f i|>.f j|>.f k|>.f l|>.f m|>.f n|>.f o|>.f p|>.f q|>.f r|>.t s tv
def aIm:=fun a b c d e f g i j k l m n o p q r s t=>lD a|>.f b|>.f c|>.f d|>.f e|>.f f|>.f g|>.f i|>.f j|>.f k|>.f l|>.f m|>.f n|>.f o|>.f p|>.f q|>.f r|>.f s|>.t t tv
def aIn:=fun a b c d e f g i j k l m n o p q r s t u=>lD a|>.f b|>.f c|>.f d|>.f e|>.f f|>.f g|>.f i|>.f j|>.f k|>.f l|>.f m|>.f n|>.f o|>.f p|>.f q|>.f r|>.f s|>.f t|>.t u tv
def aIo:=fun a b c d e f g i j k l m n o p q r s t u v=>lD a|>.f b|>.f c|>.f d|>.f e|>.f f|>.f g|>.f i|>.f j|>.f k|>.f l|>.f m|>.f n|>.f o|>.f p|>.f q|>.f r|>.f s|>.f t|>.f u|>.t v tv
def aIp:=fun a b c d e f g i j k l m n o p q r s t u v w=>lD a|>.f b|>.f c|>.f d|>.f e|>.f f|>.f g|>.f i|>.f j|>.f k|>.f l|>.f m|>.f n|>.f o|>.f p|>.f q|>.f r|>.f s|>.f t|>.f u|>.f v|>.t w tv
def aIq:=fun a b c d e f g i j k l m n o p q r s t u v w x=>lD a|>.f b|>.f c|>.f d|>.f e|>.f f|>.f g|>.f i|>.f j|>.f k|>.f l|>.f m|>.f n|>.f o|>.f p|>.f q|>.f r|>.f s|>.f t|>.f u|>.f v|>.f w|>.t x tv
def aIr:=fun a b c d e f g i j k l m n o p q r s t u v w x y=>lD a|>.f b|>.f c|>.f d|>.f e|>.f f|>.f g|>.f i|>.f j|>.f k|>.f l|>.f m|>.f n|>.f o|>.f p|>.f q|>.f r|>.f s|>.f t|>.f u|>.f v|>.f w|>.f x|>.t y tv
def aIs:=fun a b c d e f g i j k l m n o p q r s t u v w x y z=>lD a|>.f b|>.f c|>.f d|>.f e|>.f f|>.f g|>.f i|>.f j|>.f k|>.f l|>.f m|>.f n|>.f o|>.f p|>.f q|>.f r|>.f s|>.f t|>.f u|>.f v|>.f w|>.f x|>.f y|>.t z tv
def aIt:=fun a b c d e f g i j k l m n o p q r s t u v w x y z A=>lD a|>.f b|>.f c|>.f d|>.f e|>.f f|>.f g|>.f i|>.f j|>.f k|>.f l|>.f m|>.f n|>.f o|>.f p|>.f q|>.f r|>.f s|>.f t|>.f u|>.f v|>.f w|>.f x|>.f y|>.f z|>.t A tv
def aIu:=fun a b c d e f g i j k l m n o p q r s t u v w x y z A B=>lD a|>.f b|>.f c|>.f d|>.f e|>.f f|>.f g|>.f i|>.f j|>.f k|>.f l|>.f m|>.f n|>.f o|>.f p|>.f q|>.f r|>.f s|>.f t|>.f u|>.f v|>.f w|>.f x|>.f y|>.f z|>.f A|>.t B tv
def aIv:=fun a b c d e f g i j k l m n o p q r s t u v w x y z A B C=>lD a|>.f b|>.f c|>.f d|>.f e|>.f f|>.f g|>.f i|>.f j|>.f k|>.f l|>.f m|>.f n|>.f o|>.f p|>.f q|>.f r|>.f s|>.f t|>.f u|>.f v|>.f w|>.f x|>.f y|>.f z|>.f A|>.f B|>.t C tv
def aIw:=fun a b c d e f g i j k l m n o p q r s t u v w x y z A B C D=>lD a|>.f b|>.f c|>.f d|>.f e|>.f f|>.f g|>.f i|>.f j|>.f k|>.f l|>.f m|>.f n|>.f o|>.f p|>.f q|>.f r|>.f s|>.f t|>.f u|>.f v|>.f w|>.f x|>.f y|>.f z|>.f A|>.f B|>.f C|>.t D tv
def aIx:=fun a b c d e f g i j k l m n o p q r s t u v w x y z A B C D=>lD a|>.f b|>.f c|>.f d|>.f e|>.f f|>.f g|>.f i|>.f j|>.f k|>.f l|>.f m|>.f n|>.f o|>.f p|>.f q|>.f r|>.f s|>.f t|>.f u|>.f v|>.f w|>.f x|>.f y|>.f z|>.f A|>.f B|>.f C|>.f D tv
def aDm(a:List Pat)(b:Prog)(c:Int):TS:=⟨(tf 211 19 [(0,(iP a)),(1,(.func 199 [] [(.ptr 0 0)])),(4,(nI 0)),(7,(nI (a.length:Int))),(8,(nI c))] [kc f211 52,kl f211 52,.inBlock 0,kc f211 7]),[(tf 198 9 [(4,(bV false)),(5,(iP a)),(6,(.func 199 [] [(.ptr 0 0)]))] [ko f198 6 2,kc f198 7]),(tf 174 9 [(4,(bV false)),(5,(iP a)),(6,(.func 199 [] [(.ptr 0 0)]))] [ko f174 6 2,kc f174 7])],[oC 0 [(.func 172 [(Prog.av b)] [])]],1⟩
def rM(b:Prog)(a:Node)(c:Int):TS:=⟨(tf 211 19 [(0,(iP a.pats)),(1,(.func 199 [] [(.ptr 0 0)])),(4,(nI 0)),(7,(nI (a.pats.length:Int))),(8,(nI c))] [kc f211 52,kl f211 52,.inBlock 0,kc f211 7]),[(tf 198 9 [(4,(bV false)),(5,(iP a.pats)),(6,(.func 199 [] [(.ptr 0 0)]))] [ko f198 6 2,kc f198 7]),(tf 174 9 [(4,(bV false)),(5,(iP a.pats)),(6,(.func 199 [] [(.ptr 0 0)]))] [ko f174 6 2,kc f174 7]),(tf 129 35 [(4,(bV false)),(29,(bV true)),(31,(iP a.pats)),(32,(.func 170 [] [(.ptr 1 0)]))] [ko f129 62 13,kc f129 63])],[oC 0 [(.func 170 [] [(.ptr 1 0)])],oC 1 [(iN b.nodes),(iI b.funs),(nI b.main),(iC b.cons)]],2⟩
def tN(a:List cA)(c:Int)(b:List (cA×Bool)):TS:=⟨(tf 125 21 [(0,(iS a)),(2,(bV false)),(3,(.map 0)),(7,(iS a)),(8,(nI (a.length:Int))),(9,(nI c))] [kc f125 116,kl f125 116,.inBlock 0,kc f125 15]),[],[(0,(.map (eX dD xC 0 b) b.length),true)],1⟩
def aUB (a:List Pat)(b:Prog):=(tT 0 (start PP 174 [(iP a),(.func 172 [(Prog.av b)] [])])<|gm 27 aD a<|.W 4 1 [0] (aDm a b 0)) tv
def bDp(b:List Pat)(c:Prog)(a:Int):=tT 0 (aDm b c a)<|gd 5 9 (a< (b.length:Int)) (tC 14 b a<|fun d e f g=>jR 11 172 [(Prog.av c),(.agg [(nI d),(nI e),(dD f),(iP g)])]<|fun i=>.b 6 16 (!i) (gE 17 2 (bV (!(decide (a≥0)))))<|gw 5 18 (a+1)<|.W 3 2 [0] (aDm b c (a+1)))<|gE 17 1 (bV true)
def aUC:=fun a b c d e f g i j k l m n=>bDp a b c|>.t j d e f g k l i m|>.t n tv
def aUD:=fun a b c d e f g i j k l m n o=>bDp a b c|>.t j d e f g k l i m|>.f n o tv
def aUE:=fun a b c d=>bDp a b c|>.f d tv
def aB5(b:Prog)(a:Node):=tT 0 (start PP 129 [(Prog.av b),(Node.av a)])<|.o (gp 10 169 [(nI a.op)] (.iface 225 (.agg []))<|gm 44 aD a.pats<|jR 0 122 [(nI (a.pats.length:Int)),(nI 1),(nI 5)]<|fun c=>.b 1 11 c (gl 2 bU a.kids<|gm 2 aD a.pats<|gw 1 18 (1+ (a.pats.length:Int))<|.b 7 24 ((a.kids.length:Int) == (1+ (a.pats.length:Int))) (jR 2 173 [(Prog.av b),(Node.av a)]<|fun d=>.b 2 29 d (gm 31 aD a.pats<|.W 4 6 [5,0] (rM b a 0))<|gE 8 5 (bV false))<|gE 13 5 (bV false))<|gE 27 5 (bV false))<|.o (gp 10 169 [(nI a.op)] (.iface 243 (.agg []))<|gm 24 aD a.pats<|gd 2 14 ((a.pats.length:Int) >0) (gE 6 2 (bV false))<|.o (.y fun c:Bool=>.y fun d:Con=>.i [rn 22,.reg (rd 5 (.ans (.len (b.cons.length:Int))::.d::.pure (bV c)::.d::.b 15 true::.d::.d::.ans (.len (a.kids.length:Int))::rd 5 (.ans (.idx (Con.av d))::rd 5 [])))] [hl Con.av b.cons,hA (aJ PP 122 [(nI a.n),(nI 0),(nI (IntKind.i64.wrap ((b.cons.length:Int) -1)))] (bV c)),hA (c=true),hl bU a.kids,hA (0≤a.n),.a (((b.cons)[a.n.toNat]?) =some d) (aZ (f:=Con.av))]<|.b 3 24 ((a.kids.length:Int) ==d.args) (jR 2 173 [(Prog.av b),(Node.av a)]<|fun f=>.b 2 29 f (gm 31 aD a.pats<|.W 4 6 [5,0] (rM b a 0)) .x)<|gE 13 5 (bV false))<|.y fun c:Bool=>.i [rn 22,.reg (rd 5 (.ans (.len (b.cons.length:Int))::.d::.pure (bV c)::.d::.b 15 false::rd 14 []))] [hl Con.av b.cons,hA (aJ PP 122 [(nI a.n),(nI 0),(nI (IntKind.i64.wrap ((b.cons.length:Int) -1)))] (bV c)),hA (c=false)]<|gE 16 5 (bV false))<|.o (.y fun e:Int=>gp 10 169 [(nI a.op)] (.iface 242 (nI e))<|gm 24 aD a.pats<|gd 2 14 ((a.pats.length:Int) >0) (gE 6 2 (bV false))<|gl 24 bU a.kids<|.b 7 24 ((a.kids.length:Int) ==e) (jR 2 173 [(Prog.av b),(Node.av a)]<|fun d=>.b 2 29 d (gm 31 aD a.pats<|.W 4 5 [4,0] (rM b a 0))<|gE 8 4 (bV false))<|gE 13 4 (bV false))<|gp 10 169 [(nI a.op)] (.nili)<|gE 18 2 (bV false)
def aRW:=fun a b c d e f g i j k l=>aB5 a b|>.1 e c f|>.t g i|>.t j d k|>.t l tv
def aRX:=fun a b c d e f g i j k l=>aB5 a b|>.1 e c f|>.t g i|>.t j d k|>.f l tv
def aRY:=fun a b c d e f g i=>aB5 a b|>.1 d c e|>.t f g|>.f i tv
def aRZ:=fun a b c d e f=>aB5 a b|>.1 d c e|>.f f tv
def aR0:=fun a b c d=>aB5 a b|>.2|>.1 c|>.t d tv
def aR1:=fun a b c d e f g i j k l m n o=>aB5 a b|>.2|>.1 f|>.f g|>.1 c d i j k l|>.t m e n|>.t o tv
def aR2:=fun a b c d e f g i j k l=>aB5 a b|>.2|>.1 e|>.f f|>.1 c d g i j k|>.f l tv
def aR3:=fun a b c d e f g=>aB5 a b|>.2|>.1 d|>.f e|>.2 c f g tv
def aR4:=fun a b c d e=>aB5 a b|>.2|>.2|>.1 c d|>.t e tv
def aOc:=fun a b c d e f g i j=>aB5 a b|>.2|>.2|>.1 c e|>.f f|>.t g d i|>.t j tv
def aOd:=fun a b c d e f g i j=>aB5 a b|>.2|>.2|>.1 c e|>.f f|>.t g d i|>.f j tv
def aOe:=fun a b c d e f=>aB5 a b|>.2|>.2|>.1 c d|>.f e|>.f f tv
def aOf:=fun a b c=>aB5 a b|>.2|>.2|>.2 c tv
def aZn(c:Prog)(b:Node)(a:Int):=tT 0 (rM c b a)<|gd 5 9 (a< (b.pats.length:Int)) (tC 14 b.pats a<|fun d e f g=>gpI 20 171 [(.agg [(nI d),(nI e),(dD f),(iP g)]),(nI 12)]<|fun i=>gd 2 7 (i≤12) (jR 2 172 [(Prog.av c),(.agg [(nI d),(nI e),(dD f),(iP g)])]<|fun j=>.b 11 16 (!j) (gE 22 4 (bV (!(decide (a≥0)))))<|gw 5 18 (a+1)<|.W 3 4 [0,1] (rM c b (a+1)))<|gE 36 4 (bV (!(decide (a≥0)))))<|gE 22 2 (bV true)
def aR5:=fun a b c d e f g i j k l m n o p q=>aZn a b c|>.t k d e f g l m i n|>.t o j p|>.t q tv
def aR6:=fun a b c d e f g i j k l m n o p q r=>aZn a b c|>.t k d e f g l m i n|>.t o j p|>.f q r tv
def aR7:=fun a b c d e f g i j k l m n=>aZn a b c|>.t j d e f g k l i m|>.f n tv
def aR8:=fun a b c d=>aZn a b c|>.f d tv
def aK8 (a:List cA):=(tT 0 (start PP 125 [(iS a)])<|.i [rn 7,.mset 0 (eX dD xC 0 ([] :List (cA×Bool))) ([] :List (cA×Bool)).length] [hr (eX dD xC 0 ([] :List (cA×Bool))),hr (length ([] :List (cA×Bool)))]<|gl 6 dD a<|.W 4 1 [0] (tN a 0 ([] :List (cA×Bool)))) ⟨aTQ (fun _=>rfl) (fun _=>rfl) _ _ _,trivial⟩
def bEQ(b:List cA)(d:Int)(a:List (cA×Bool)):=tT 0 (tN b d a)<|gd 5 10 (d< (b.length:Int)) (gX dD 6 b d<|fun c=>.i [rn 6,.mput (eX dD xC 0 (lW c true a)) (lW c true a).length] [.q (p:=zX (eX dD xC 0 a) a.length (dD c) (xC true) =some ((eX dD xC 0 (lW c true a)),length (lW c true a))) (aY3 aY2 _ _ _)]<|gw 4 15 (d+1)<|.W 3 1 [0] (tN b (d+1) (lW c true a)))<|.i [rn 6,sI 17 (a.length:Int)] [.q (p:=(nI ((eX dD xC 0 a).length:Int)) = (nI (a.length:Int))) (aTP _ _ _)]<|gl 1 dD b<|gE 4 1 (bV ((a.length:Int) == (b.length:Int)))
def aK9:=fun a b c d e f g i=>bEQ a b c|>.t e d f g i ⟨aTQ (fun _=>rfl) (fun _=>rfl) _ _ _,trivial⟩
def aLa:=fun a b c d=>bEQ a b c|>.f d tv
def aDn(a:List Node)(b:Prog)(c:Int):TS:=⟨(tf 196 19 [(0,(iN a)),(1,(.func 168 [] [(.ptr 0 0)])),(4,(nI 0)),(7,(nI (a.length:Int))),(8,(nI c))] [kc f196 52,kl f196 52,.inBlock 0,kc f196 7]),[(tf 167 9 [(4,(bV false)),(5,(iN a)),(6,(.func 168 [] [(.ptr 0 0)]))] [ko f167 6 2,kc f167 7]),(tf 128 9 [(4,(bV false)),(5,(iN a)),(6,(.func 168 [] [(.ptr 0 0)]))] [ko f128 6 2,kc f128 7])],[oC 0 [(.func 129 [(Prog.av b)] [])]],1⟩
def aDo(a:List Con)(b:Int):TS:=⟨(tf 194 19 [(0,(iC a)),(1,(.func 165 [] [(.ptr 0 0)])),(4,(nI 0)),(7,(nI (a.length:Int))),(8,(nI b))] [kc f194 52,kl f194 52,.inBlock 0,kc f194 7]),[(tf 164 9 [(4,(bV false)),(5,(iC a)),(6,(.func 165 [] [(.ptr 0 0)]))] [ko f164 6 2,kc f164 7]),(tf 123 9 [(4,(bV false)),(5,(iC a)),(6,(.func 165 [] [(.ptr 0 0)]))] [ko f123 6 2,kc f123 7])],[oC 0 [(.func 124 [] [])]],1⟩
def aDp(a:List Int)(b:Int):TS:=⟨(tf 200 19 [(0,(.ilst 1 (jI a) true)),(1,(.func 176 [] [(.ptr 0 0)])),(4,(nI 0)),(7,(nI (a.length:Int))),(8,(nI b))] [kc f200 52,kl f200 52,.inBlock 0,kc f200 7]),[(tf 175 9 [(4,(bV false)),(5,(.ilst 1 (jI a) true)),(6,(.func 176 [] [(.ptr 0 0)]))] [ko f175 6 2,kc f175 7]),(tf 130 9 [(4,(bV false)),(5,(.ilst 1 (jI a) true)),(6,(.func 176 [] [(.ptr 0 0)]))] [ko f130 6 2,kc f130 7])],[oC 0 [(.func 131 [] [])]],1⟩
def aDq(a:List Con)(c:Int)(b:List cA):TS:=⟨(tf 126 22 [(1,(.func 127 [] [])),(4,.nils),(5,(.gl 0 1 0 b.length false)),(8,(iC a)),(9,(nI (a.length:Int))),(10,(nI c))] [kc f126 116,kl f126 116,.inBlock 0,kc f126 15]),[],[oL 0 1 (map dD b)],1⟩
def tO(a:Prog)(c:Int)(b:List Int):TS:=⟨(tf 88 128 [kp 1 0,(2,(bV false)),(3,(nI (a.nodes.length:Int))),(4,(.gl 1 1 0 b.length true)),(77,(iI a.funs)),(78,(nI (a.funs.length:Int))),(79,(nI c))] [kc f88 1012,kl f88 1012,.inBlock 0,kc f88 127]),[],[oC 0 [(iN a.nodes),(iI a.funs),(nI a.main),(iC a.cons)],oL 1 1 (jI b)],2⟩
def oY(a:Prog)(b:List Int)(c:Int):TS:=⟨(tf 88 128 [(2,(bV false)),(3,(nI (a.nodes.length:Int))),(4,(.gl 0 1 0 b.length true)),(97,(iN a.nodes)),(98,(nI (a.nodes.length:Int))),(99,(nI c))] [kc f88 2036,kl f88 2036,.inBlock 2,kc f88 255]),[],[oL 0 1 (jI b)],1⟩
def tP(a:Prog)(c:List Int)(d:Int)(b:List Int)(e f g:Int):TS:=⟨(tf 88 128 [(2,(bV false)),(3,(nI (a.nodes.length:Int))),(4,(.gl 0 1 0 b.length true)),(7,(nI f)),(97,(iN a.nodes)),(98,(nI (a.nodes.length:Int))),(99,(nI g)),(105,(iI c)),(106,(nI d)),(107,(nI e))] [kc f88 521420,kl f88 521420,.inBlock 4,.inBlock 3,kc f88 16295,kl f88 2036,.inBlock 2,kc f88 255]),[],[oL 0 1 (jI b)],1⟩
def aUF (a:List Node)(b:Prog):=(tT 0 (start PP 128 [(iN a),(.func 129 [(Prog.av b)] [])])<|gl 27 Node.av a<|.W 4 1 [0] (aDn a b 0)) tv
def bDq(b:List Node)(c:Prog)(a:Int):=tT 0 (aDn b c a)<|gd 5 9 (a< (b.length:Int)) (gX Node.av 14 b a<|fun d=>jR 11 129 [(Prog.av c),(Node.av d)]<|fun e=>.b 6 16 (!e) (gE 17 2 (bV (!(decide (a≥0)))))<|gw 5 18 (a+1)<|.W 3 2 [0] (aDn b c (a+1)))<|gE 17 1 (bV true)
def aUG:=fun a b c d e f g i j k=>bDq a b c|>.t f d g i e j|>.t k tv
def aUH:=fun a b c d e f g i j k l=>bDq a b c|>.t f d g i e j|>.f k l tv
def aUI:=fun a b c d=>bDq a b c|>.f d tv
def aUJ (a:List Con):=(tT 0 (start PP 123 [(iC a),(.func 124 [] [])])<|gl 27 Con.av a<|.W 4 1 [0] (aDo a 0)) tv
def bDr(b:List Con)(a:Int):=tT 0 (aDo b a)<|gd 5 9 (a< (b.length:Int)) (gX Con.av 14 b a<|fun c=>jR 11 124 [(.agg [(dD c.name),(nI c.args)])]<|fun d=>.b 6 16 (!d) (gE 17 2 (bV (!(decide (a≥0)))))<|gw 5 18 (a+1)<|.W 3 2 [0] (aDo b (a+1)))<|gE 17 1 (bV true)
def aUK:=fun a b c d e f g i j=>bDr a b|>.t e c f g d i|>.t j tv
def aUL:=fun a b c d e f g i j k=>bDr a b|>.t e c f g d i|>.f j k tv
def aUM:=fun a b c=>bDr a b|>.f c tv
def aUN (a:List Int):=(tT 0 (start PP 130 [(.ilst 1 (jI a) true),(.func 131 [] [])])<|gl 27 bU a<|.W 4 1 [0] (aDp a 0)) tv
def bDs(b:List Int)(a:Int):=tT 0 (aDp b a)<|gd 5 9 (a< (b.length:Int)) (gX bU 14 b a<|fun c=>.b 29 16 (!(c==1)) (gE 17 1 (bV (!(decide (a≥0)))))<|gw 5 18 (a+1)<|.W 3 1 [0] (aDp b (a+1)))<|gE 17 1 (bV true)
def aUO:=fun a b c d e f g=>bDs a b|>.t d c e f|>.t g tv
def aUP:=fun a b c d e f g i=>bDs a b|>.t d c e f|>.f g i tv
def aUQ:=fun a b c=>bDs a b|>.f c tv
def aUR (a:List Con):=(tT 0 (start PP 126 [(iC a),(.func 127 [] [])])<|gl 12 Con.av a<|.i [rn 4,.nilL 5 1] []<|gu 0 0 (map dD ([] :List cA))<|gs 0 5 (.gl 0 1 0 ([] :List cA).length false)<|.W 0 1 [0] (aDq a 0 ([] :List cA))) ⟨kk,trivial⟩
def bER(c:List Con)(a:Int)(b:List cA):=tT 0 (aDq c a b)<|gd 5 11 (a< (c.length:Int)) (gX Con.av 6 c a<|fun d=>ga 23 dD b [d.name]<|gw 5 20 (a+1)<|.W 3 5 [4] (aDq c (a+1) (b++ [d.name])))<|gz 8 4 0 1 dD b false<|gE 0 1 (iS b)
def aUS:=fun a b c d e f g i j=>bER a b c|>.t e d f g i j ⟨kk,trivial⟩
def aUT:=fun a b c d=>bER a b c|>.f d tv
def aIy(a:Prog):=tT 0 (start PP 88 [(Prog.av a)])<|gl 10 Node.av a.nodes<|gd 8 17 ((a.nodes.length:Int) >300) (gE 40 1 (bV false))<|gl 3 bU a.funs<|gd 3 24 ((a.funs.length:Int) <1) (gE 33 1 (bV false))<|gl 3 bU a.funs<|gd 4 32 ((a.funs.length:Int) > (a.nodes.length:Int)) (gE 25 1 (bV false))<|gl 3 Con.av a.cons<|gd 3 39 ((a.cons.length:Int) >20) (gE 18 1 (bV false))<|gl 6 bU a.funs<|gw 1 47 ((a.funs.length:Int) - (1:Int))<|jR 0 122 [(nI a.main),(nI 0),(nI ((a.funs.length:Int) - (1:Int)))]<|fun c=>.b 3 50 (!c) (gE 6 1 (bV false))<|jR 8 123 [(iC a.cons),(.func 124 [] [])]<|fun d=>.b 2 56 (!d) (gE 23 1 (bV false))<|.y fun b:List cA=>gp 3 126 [(iC a.cons),(.func 127 [] [])] (iS b)<|jR 0 125 [(iS b)]<|fun e=>.b 3 64 (!e) (gE 15 1 (bV false))<|jR 5 128 [(iN a.nodes),(.func 129 [(Prog.av a)] [])]<|fun f=>.b 3 72 (!f) (gE 6 1 (bV false))<|.i [rn 5,.mk a.nodes.length] [hr ((a.nodes.length:Nat) :Int),hr ((a.nodes.length:Nat) :Int),hA (a.nodes.length<100000)]<|.i [.lset 1 (jI (replicate a.nodes.length (0:Int)))] [.q (p:=replicate a.nodes.length (bU (0:Int)) = (jI (replicate a.nodes.length (0:Int)))) (aDi _ _ _)]<|.i [.set 74 (.gl 1 1 0 (replicate a.nodes.length (0:Int)).length true)] [.q (p:=(AV.gl 1 1 0 a.nodes.length true) = (.gl 1 1 0 (replicate a.nodes.length (0:Int)).length true)) (bG (List.length_replicate ..).symm)]<|gl 8 bU a.funs<|.W 4 2 [0,1] (tO a 0 (replicate a.nodes.length (0:Int)))
def aLb:=fun a b=>aIy a|>.t b tv
def aLc:=fun a b c=>aIy a|>.f b|>.t c tv
def aLd:=fun a b c d=>aIy a|>.f b|>.f c|>.t d tv
def aLe:=fun a b c d e=>aIy a|>.f b|>.f c|>.f d|>.t e tv
def aLf:=fun a b c d e f g i j=>aIy a|>.f c|>.f d|>.f e|>.f f g b i|>.t j tv
def aLg:=fun a b c d e f g i j k l m=>aIy a|>.f d|>.f e|>.f f|>.f g i b j|>.f k c l|>.t m tv
def aLh:=fun a b c d e f g i j k l m n o p q r=>aIy a|>.f f|>.f g|>.f i|>.f j k b l|>.f m c n|>.f o d p e q|>.t r tv
def aLi:=fun a b c d e f g i j k l m n o p q r s t u=>aIy a|>.f g|>.f i|>.f j|>.f k l b m|>.f n c o|>.f p d q e r|>.f s f t|>.t u tv
def aLj:=fun a b c d e f g i j k l m n o p q r s t u v=>aIy a|>.f g|>.f i|>.f j|>.f k l b m|>.f n c o|>.f p d q e r|>.f s f t|>.f u v ⟨kk,trivial⟩
def bDt(d:Prog)(e:Int)(a:List Int):=tT 0 (tO d e a)<|gd 5 80 (e< (d.funs.length:Int)) (gX bU 6 d.funs e<|fun b=>gw 9 85 ((d.nodes.length:Int) -1)<|jR 0 122 [(nI b),(nI 0),(nI ((d.nodes.length:Int) -1))]<|fun f=>.b 2 87 (!f) (gE 6 2 (bV false))<|.i [rn 5,.ans (.ix)] [hA (0≤b),hA (b< (a.length:Int))]<|.y fun c:Int=>gj bU 0 a b.toNat c<|gw 1 92 (c+1)<|.i [.ans (.ix)] [hA (0≤b),hA (b< (a.length:Int))]<|.i [.st (bU c) (bU (c+1))] [.a (((a)[b.toNat]?) =some c) (cB (f:=bU)),hr (some (bU (c+1)))]<|.i [.lset 1 (jI (set a b.toNat (c+1)))] [.q (p:=(jI a).set (0+b.toNat) (bU (c+1)) = (jI (set a b.toNat (c+1)))) (mX _ _ _ _)]<|.i [.set 4 (.gl 1 1 0 (set a b.toNat (c+1)).length true)] [.q (p:=(AV.gl 1 1 0 a.length true) = (.gl 1 1 0 (set a b.toNat (c+1)).length true)) (bG (length_set ..).symm)]<|.i [.set 88 (.gl 1 1 0 (set a b.toNat (c+1)).length true)] [.q (p:=(AV.gl 1 1 0 a.length true) = (.gl 1 1 0 (set a b.toNat (c+1)).length true)) (bG (length_set ..).symm)]<|gw 4 94 (e+1)<|.W 3 2 [0,1] (tO d (e+1) (set a b.toNat (c+1))))<|gl 8 Node.av d.nodes<|.W 4 2 [1] (oY d a 0)
def aLk:=fun a b c d e f g i j k l=>bDt a b c|>.t f d g i j e k|>.t l tv
def aLl:=fun d e f g i j k l m n o p a b c q r=>bDt d e f|>.t k g l m n i o|>.f p a b j c q a b c r ⟨kk,trivial⟩
def aLm:=fun a b c d=>bDt a b c|>.f d ⟨kk,trivial⟩
def bES(c:Prog)(d:List Int)(a:Int):=tT 0 (oY c d a)<|gd 5 100 (a< (c.nodes.length:Int)) (gX Node.av 7 c.nodes a<|fun b=>gl 9 bU b.kids<|.W 4 2 [0] (tP c b.kids (b.kids.length:Int) d 0 a a))<|gz 5 126 0 1 bU d true<|jR 0 130 [(.ilst 1 (jI d) true),(.func 131 [] [])]<|fun b=>gE 3 1 (bV b)
def aLn:=fun a b c d e f g=>bES a b c|>.t e d f g ⟨kk,trivial⟩
def aLo:=fun a b c d e f=>bES a b c|>.f e d f tv
def bDu(d:Prog)(i:List Int)(j:Int)(a:List Int)(e f g:Int):=tT 0 (tP d i j a e f g)<|gd 5 108 (e<j) (gX bU 6 i e<|fun b=>gw 9 113 (f+1)<|gw 2 115 ((d.nodes.length:Int) -1)<|jR 0 122 [(nI b),(nI (f+1)),(nI ((d.nodes.length:Int) -1))]<|fun k=>.b 2 117 (!k) (gE 6 1 (bV false))<|.i [rn 5,.ans (.ix)] [hA (0≤b),hA (b< (a.length:Int))]<|.y fun c:Int=>gj bU 0 a b.toNat c<|gw 1 122 (c+1)<|.i [.ans (.ix)] [hA (0≤b),hA (b< (a.length:Int))]<|.i [.st (bU c) (bU (c+1))] [.a (((a)[b.toNat]?) =some c) (cB (f:=bU)),hr (some (bU (c+1)))]<|.i [.lset 0 (jI (set a b.toNat (c+1)))] [.q (p:=(jI a).set (0+b.toNat) (bU (c+1)) = (jI (set a b.toNat (c+1)))) (mX _ _ _ _)]<|.i [.set 4 (.gl 0 1 0 (set a b.toNat (c+1)).length true)] [.q (p:=(AV.gl 0 1 0 a.length true) = (.gl 0 1 0 (set a b.toNat (c+1)).length true)) (bG (length_set ..).symm)]<|.i [.set 118 (.gl 0 1 0 (set a b.toNat (c+1)).length true)] [.q (p:=(AV.gl 0 1 0 a.length true) = (.gl 0 1 0 (set a b.toNat (c+1)).length true)) (bG (length_set ..).symm)]<|gw 4 124 (e+1)<|.W 3 1 [0] (tP d i j (set a b.toNat (c+1)) (e+1) f g))<|gw 5 125 (g+1)<|.W 3 1 [0] (oY d a (g+1))
def aLp:=fun a b c d e f g i j k l m n o p q=>bDu a b c d e f g|>.t k i l m n o j p|>.t q tv
def aLq:=fun d e f g i j k l m n o p q r s t u a b c v w=>bDu d e f g i j k|>.t o l p q r s m t|>.f u a b n c v a b c w ⟨kk,trivial⟩
def aLr:=fun a b c d e f g i j=>bDu a b c d e f g|>.f i j ⟨kk,trivial⟩
def bET(a:Prog):=tT 0 (start PP 45 [(Prog.av a)])<|jR 10 88 [(Prog.av a)]<|fun b=>.b 2 6 (!b) (gE 6 1 (nI 2))<|gE 7 1 (nI 0)
def aOg:=fun a b c d=>bET a b c|>.t d tv
def aOh:=fun a b c d=>bET a b c|>.f d tv
theorem eZ (n lo hi:Int) :aJ PP 122 [.int .i64 n,.int .i64 lo,.int .i64 hi] (.bool (dR n lo hi)) :=by
 refine aF (by kernel_rfl) rfl rfl ?_;by_cases h:n≥lo
 · have e:dR n lo hi=decide (n≤hi) :=by unfold dR;rw [decide_eq_true (show lo≤n from h),Bool.true_and]
   rw [e];exact aZk n lo hi (decide_eq_true h)
 · have e:dR n lo hi=false:=by unfold dR;rw [decide_eq_false (show ¬lo≤n from h),Bool.false_and]
   rw [e];exact aZl n lo hi (decide_eq_false h)
theorem aB6 (n:Int) :aJ PP 197 [.int .i64 n] (.bool (dR n (-1000000000) 1000000000)) :=
 aF (by kernel_rfl) rfl rfl (aUn n _ (eZ n _ _))
theorem aR9 (b:ByteArray)(i:Nat)(h:128≤ (b.get! i).toNat) :128≤ (Utf8.decode b i).1:=by
 unfold Utf8.decode Utf8.runeError;simp only [add_zero];rw [if_neg (show ¬ (b.get! i).toNat<0x80 by omega)]
 repeat' split
 all_goals first
  |assumption
  | (simp_all;done)
  | (rename_i q;simp only [and_eq_true,decide_eq_true_eq,ge_iff_le]at q;simp only;omega)
theorem aZo {s:cA}{i:Nat}{c:UInt8}(h:s[i]?=some c) :∃r d,aMF (length s) (aC s) i=some (r,d) ∧ (c.toNat<128→r=c.toNat∧d=1) ∧ (128≤c.toNat→128≤r) :=by
 have hi:= (List.getElem?_eq_some_iff.1 h).1;have hb:=byte_at h;unfold aMF;have e1:blt i (length s) =true:=by rw [cO];exact decide_eq_true hi
 have e2:mod (div (aC s) (pow 256 i)) 256=c.toNat:=hb;rw [e1,e2];simp only [cond];by_cases k:c.toNat<128
 · have e3:blt c.toNat 128=true:=by rw [cO];exact decide_eq_true k
   rw [e3];exact⟨_,_,rfl,fun _=> ⟨rfl,rfl⟩,fun g=>by omega⟩
 · have e3:blt c.toNat 128=false:=by rw [cO];exact decide_eq_false k
   rw [e3];refine⟨_,_,rfl,fun g=>by omega,fun _=>?_⟩;have hn:aN (length s) (aC s) =s:=eU s;rw [hn];have hg: ((⟨⟨s⟩⟩ :ByteArray).get! (i+0)).toNat=c.toNat:=by
    simp only [add_zero,ByteArray.get!];have: (⟨s⟩ :Array UInt8)[i]! =c:=by
     rw [Array.getElem!_eq_getD,Array.getD_eq_getD_getElem?,show(⟨s⟩ :Array UInt8) =s.toArray from rfl,List.getElem?_toArray,h];rfl
    rw [this]
   exact aR9 _ _ (by rw [add_zero]at hg;rw [hg];omega)
theorem aCO (s:cA) :∀ (t:cA) (i:Nat),s.drop i=t→Ends PP 0 (xN s i).as (.ret (.bool (jB t))) (aA [] 0)
 | [],i,h=>aN6 s i (bE h)
 | c :: t,i,h=>by
  obtain⟨h1,h2,h3⟩ :=bB h;obtain⟨r,d,q1,q2,q3⟩ :=aZo h1;by_cases g1:c.toNat<97
  · have:= (q2 (by omega)).1;exact Ends.eqv (aN3 s i r d h3 q1 sd) (by simp [jB,tH];omega)
  · by_cases g2:122<c.toNat
    · have hr:122<r:=by
       by_cases k:c.toNat<128
       ·have:= (q2 k).1;omega
       ·have:=q3 (by omega);omega
      exact Ends.eqv (aN4 s i r d h3 q1 sd sd) (by simp [jB,tH];omega)
    · obtain⟨rfl,rfl⟩ :=q2 (by omega);refine(aN5 s i _ _ h3 q1 sd sd).ends ?_;have e:tH c=true:=by simp [tH];omega
      exact Ends.eqv (aCO s t (i+1) h2) (by simp [jB,e])
theorem aLs (s:cA) :aJ PP 195 [dD s] (.bool (jB s)) :=
 aF (by kernel_rfl) rfl rfl ((aN2 s).ends (aCO s s 0 rfl))
theorem aLt (s:cA) :aJ PP 166 [dD s] (.bool (iF s)) :=by
 refine aF (by kernel_rfl) rfl rfl ?_
 match s with
 | [] =>exact aOb [] rfl
 | c ::t=>
  have h0: (!(iZ (length (c::t)) (aC (c::t)) 0 0)) =true:=by rw [cY];rfl
  by_cases g0: (c::t).length≤8
  · have g0': (decide (((length (c::t) :Nat) :Int) ≤ (8:Int))) =true:=sd;by_cases g1:65≤c.toNat
    · by_cases g2:c.toNat≤90
      ·exact Ends.eqv (aN7 (c::t) c _ h0 g0' rfl sd sd (by simp) (aLs t)) (by simp only [iF,decide_eq_true g0,decide_eq_true g1,decide_eq_true g2,Bool.true_and])
      ·exact Ends.eqv (aN8 (c::t) c h0 g0' rfl sd sd) (by simp only [iF,decide_eq_false g2,Bool.and_false,Bool.false_and])
    ·exact Ends.eqv (aN9 (c::t) c h0 g0' rfl sd) (by simp only [iF,decide_eq_false g1,Bool.and_false,Bool.false_and])
  ·exact Ends.eqv (aOa (c::t) h0 sd) (by simp only [iF,decide_eq_false g0,Bool.false_and])
theorem aSa (c:Con) :aJ PP 124 [Con.av c] (.bool (hO c)) :=by
 refine aF (by kernel_rfl) rfl rfl ?_;have hg:=aLt c.name;cases k:iF c.name
 case false=>rw [k]at hg;exact Ends.eqv (aUq c false hg rfl) (by simp [hO,k])
 rw [k]at hg;exact Ends.eqv (aUp c true _ hg rfl (eZ _ _ _)) (by simp [hO,k])
def nG (p:Prog)(x:Node) :Bool:=if x.op=14 then true else fO p x.op x.n
theorem aSb (p:Prog)(x:Node)(hf:p.funs.length≤1000) :Ends PP 0 (start PP 173 [Prog.av p,Node.av x]).as (.ret (.bool (nG p x))) (aA [] 0) :=by
 cases hb1: (x.op== (1:Int))
 case true=>exact Ends.eqv (aKS p x  (dR (x.n) (-1000000000) 1000000000) hb1 (aB6 (x.n))) (by simp_all [nG,fO] <;>rfl)
 cases hb2: (x.op== (2:Int))
 case true=>exact Ends.eqv (aKT p x  (dR (x.n) 0 1) hb1 hb2 (eZ (x.n) 0 1)) (by simp_all [nG,fO] <;>rfl)
 cases hb3: (x.op== (24:Int))
 case true=>exact Ends.eqv (aKU p x  (dR (x.n) 0 3) hb1 hb2 hb3 (eZ (x.n) 0 3)) (by simp_all [nG,fO] <;>rfl)
 cases hb4: (x.op== (4:Int))
 case true=>exact Ends.eqv (aKV p x  (dR (x.n) (0- ((length p.funs:Nat) :Int)) 29) hb1 hb2 hb3 hb4 sdI (eZ (x.n) (0- ((length p.funs:Nat) :Int)) 29)) (by simp_all [nG,fO] <;>rfl)
 cases hb5: (x.op== (14:Int))
 case true=>exact Ends.eqv (aKW p x   hb1 hb2 hb3 hb4 hb5) (by simp_all [nG,fO] <;>rfl)
 exact Ends.eqv (aKX p x   hb1 hb2 hb3 hb4 hb5) (by simp_all [nG,fO] <;>rfl)
theorem aIz (p:Prog)(x:Node)(hf:p.funs.length≤1000) :aJ PP 173 [Prog.av p,Node.av x] (.bool (nG p x)) :=
 aF (by kernel_rfl) rfl rfl (aSb p x hf)
mutual
def oZ :Pat→Int→Int
 | .mk _ _ _ ps,most=>lY ps most 1
def lY :List Pat→Int→Int→Int
 | [],_,n=>n
 |p::ps,most,n=>if n>most then n else lY ps most (n+oZ p (most-n))
end
mutual
theorem aEW :∀ (p:Pat) (m:Int),0≤m→1≤oZ p m∧oZ p m≤m+1
 | .mk _ _ _ ps,m,h=>by rw [oZ];exact aGC ps m 1 (by omega) (by omega)
theorem aGC :∀ (ps:List Pat) (m n:Int),1≤n→n≤m+1→1≤lY ps m n∧lY ps m n≤m+1
 | [],m,n,h1,h2=>by rw [lY];omega
 | p ::ps,m,n,h1,h2=>by
  rw [lY];split
  ·omega
  · have a:=aEW p (m-n) (by omega);exact aGC ps m _ (by omega) (by omega)
end
mutual
theorem aLu :∀ (p:Pat) (m:Int),0≤m→ ((bW p:Int) ≤m→oZ p m=bW p) ∧ (m<bW p→m<oZ p m)
 | .mk _ _ _ ps,m,h=>by
  have:=aGD ps m 1 (by omega);simp only [oZ,bW];constructor
  ·intro g;have:=this.1 (by omega);omega
  ·intro g;exact this.2 (by omega)
theorem aGD :∀ (ps:List Pat) (m n:Int),n≤m+1→ (n+bF ps≤m→lY ps m n=n+bF ps) ∧ (m<n+bF ps→m<lY ps m n)
 | [],m,n,h=>by simp only [lY,bF];omega
 | p ::ps,m,n,h=>by
  simp only [lY,bF];split
  ·omega
  · rename_i k;have a:=aLu p (m-n) (by omega);have l:=aEW p (m-n) (by omega);have b:=aGD ps m (n+oZ p (m-n)) (by omega);constructor
    · intro g;have:=a.1 (by omega);have:=b.1 (by omega);omega
    · intro g;refine b.2 ?_;by_cases q: (bW p:Int) ≤m-n
      ·have:=a.1 q;omega
      ·have:=a.2 (by omega);omega
end
theorem aGE (p:Pat)(m:Int)(h:0≤m) :oZ p m≤m↔ (bW p:Int) ≤m:=by
 have:=aLu p m h;constructor
 · intro g;by_cases k: (bW p:Int) ≤m
   ·exact k
   ·have:=this.2 (by omega);omega
 ·intro g;have:=this.1 g;omega
theorem aEX (f n:Int)(s:cA)(ps:List Pat)(m:Int)(hm:m≤1000)(ih:∀p∈ps,∀m:Int,0≤m→m≤1000→aJ PP 171 [Pat.av p,.int .i64 m] (.int .i64 (oZ p m))) :
  ∀ (t:List Pat) (i:Nat) (k:Int),ps.drop i=t→ (i:Int) +1≤k→k≤m+1→Ends PP 0 (aA8 f n s ps m k (i:Int)).as (.ret (.int .i64 (lY t m k))) (aA [] 0)
 | [],i,k,h,h1,h2=>by
  have:=bE h;rw [lY];exact aRQ f n s ps m k i sd
 | .mk f' n' s' ps'::t,i,k,h,h1,h2=>by
  obtain⟨g1,g2,g3⟩ :=bB h;rw [lY];split
  ·exact aRO f n s ps m k i f' n' s' ps' sd sd sd sd
  · rename_i hk;have l:=aEW (.mk f' n' s' ps') (m-k) (by omega);refine(aRP f n s ps m k i f' n' s' ps' _ sd sd sd sd sd (ih (.mk f' n' s' ps') (mem_of_getElem? g1) (m-k) (by omega) (by omega)) sd sd).ends ?_;exact aEX f n s ps m hm ih t (i+1) _ g2 (by omega) (by omega)
mutual
theorem aEY :∀ (p:Pat) (m:Int),0≤m→m≤1000→aJ PP 171 [Pat.av p,.int .i64 m] (.int .i64 (oZ p m))
 | .mk f n s ps,m,h0,h1=>by
  refine aF (by kernel_rfl) (by simp [keylessL,lV,keyless]) rfl ?_;rw [oZ];refine(aRN f n s ps m).ends ?_;exact aEX f n s ps m h1 (aGF ps) ps 0 1 rfl (by omega) (by omega)
theorem aGF :∀ (ps:List Pat),∀p∈ps,∀m:Int,0≤m→m≤1000→aJ PP 171 [Pat.av p,.int .i64 m] (.int .i64 (oZ p m))
 | [],p,hp,_,_,_=>by cases hp
 | q::ps,p,hp,m,h0,h1=>by
  rcases List.mem_cons.1 hp with e|hp
  ·rw [e];exact aEY q m h0 h1
  ·exact aGF ps p hp m h0 h1
end
theorem sdW {p:Prop}(h:p:=by simp_all only [inB_iff,inB_not,beq_iff_eq,decide_eq_true_eq,decide_eq_false_iff_not] <;>omega) :p:=h
theorem idW {p:Prop}(h:p:=by exact⟨_,getElem?_eq_getElem (by simp_all only [inB_iff,inB_not,beq_iff_eq,decide_eq_true_eq,decide_eq_false_iff_not] <;>omega)⟩) :p:=h
theorem aGG (l:List Pat)(p:Prog)(hl:l.length<1000000)(ih:∀q∈l,aJ PP 172 [Prog.av p,Pat.av q] (.bool (eG p.cons q))) :
  ∀ (t:List Pat) (i:Nat),l.drop i=t→Ends PP 0 (aDm l p (i:Int)).as (.ret (.bool (dH p.cons t))) (aA [] 0)
 | [],i,h=>by
  have:=bE h;exact Ends.eqv (aUE l p i sd) (by simp [dH])
 | .mk f n s ps::t,i,h=>by
  obtain⟨g1,g2,g3⟩ :=bB h;have hq:=ih (.mk f n s ps) (mem_of_getElem? g1);cases k:eG p.cons (.mk f n s ps)
  case false=>
   rw [k]at hq;exact Ends.eqv (aUC l p i f n s ps false sd sd sd hq rfl) (by simp [dH,k])
  rw [k]at hq;refine(aUD l p i f n s ps true sd sd sd hq rfl sd).ends ?_;exact Ends.eqv (aGG l p hl ih t (i+1) g2) (by simp [dH,k])
theorem aSc (l:List Pat)(p:Prog)(hl:l.length<1000000)(ih:∀q∈l,aJ PP 172 [Prog.av p,Pat.av q] (.bool (eG p.cons q))) :
  aJ PP 174 [.ilst 4 (Pats.av l) false,.func 172 [Prog.av p] []] (.bool (dH p.cons l)) :=
 aF (by kernel_rfl) (by simp [keylessL,keyless,Prog.av]) rfl ((aUB l p).ends (aGG l p hl ih l 0 rfl))
theorem bDv (p:Prog)(q_form q_n:Int)(q_text:cA)(q_parts:List Pat)(hc:p.cons.length≤1000)(hev:aJ PP 174 [.ilst 4 (Pats.av q_parts) false,.func 172 [Prog.av p] []] (.bool (dH p.cons q_parts))) :
  Ends PP 0 (start PP 172 [Prog.av p,Pat.av (.mk q_form q_n q_text q_parts)]).as (.ret (.bool (eG p.cons (.mk q_form q_n q_text q_parts)))) (aA [] 0) :=by
 have hw:IntKind.i64.wrap ((p.cons.length:Int) -1) = (p.cons.length:Int) -1:=by apply wrap64<;>omega
 cases hb1: (!(iZ (length q_text) (aC q_text) 0 0))
 case true=>exact Ends.eqv (aUr p q_form q_n q_text q_parts   hb1) (by clear hev;simp_all [eG,eD,fN,cY,fH] <;>rfl)
 cases hb2: (!(dH p.cons q_parts))
 case true=>exact Ends.eqv (aUs p q_form q_n q_text q_parts  (dH p.cons q_parts) hb1 hev hb2) (by clear hev;simp_all [eG,eD,fN,cY,fH] <;>rfl)
 cases hb3: (q_form== (1:Int))
 case true=>
  cases hb4: (q_n== (0:Int))
  case true=>exact Ends.eqv (aUt p q_form q_n q_text q_parts  (dH p.cons q_parts) hb1 hev hb2 hb3 hb4) (by clear hev;simp_all [eG,eD,fN,cY,fH] <;>rfl)
  exact Ends.eqv (aUu p q_form q_n q_text q_parts  (dH p.cons q_parts) hb1 hev hb2 hb3 hb4) (by clear hev;simp_all [eG,eD,fN,cY,fH] <;>rfl)
 cases hb5: (q_form== (2:Int))
 case true=>
  cases hb6: (q_n== (0:Int))
  case true=>exact Ends.eqv (aUv p q_form q_n q_text q_parts  (dH p.cons q_parts) hb1 hev hb2 hb3 hb5 hb6) (by clear hev;simp_all [eG,eD,fN,cY,fH] <;>rfl)
  exact Ends.eqv (aUw p q_form q_n q_text q_parts  (dH p.cons q_parts) hb1 hev hb2 hb3 hb5 hb6) (by clear hev;simp_all [eG,eD,fN,cY,fH] <;>rfl)
 cases hb7: (q_form== (5:Int))
 case true=>
  cases hb8: (q_n== (0:Int))
  case true=>exact Ends.eqv (aUx p q_form q_n q_text q_parts  (dH p.cons q_parts) hb1 hev hb2 hb3 hb5 hb7 hb8) (by clear hev;simp_all [eG,eD,fN,cY,fH] <;>rfl)
  exact Ends.eqv (aUy p q_form q_n q_text q_parts  (dH p.cons q_parts) hb1 hev hb2 hb3 hb5 hb7 hb8) (by clear hev;simp_all [eG,eD,fN,cY,fH] <;>rfl)
 cases hb9: (q_form== (3:Int))
 case true=>
  cases hb10: (dR q_n (-1000000000) 1000000000)
  case true=>exact Ends.eqv (aUz p q_form q_n q_text q_parts  (dH p.cons q_parts) (dR q_n (-1000000000) 1000000000) hb1 hev hb2 hb3 hb5 hb7 hb9 (aB6 q_n) hb10) (by clear hev;simp_all [eG,eD,fN,cY,fH] <;>rfl)
  exact Ends.eqv (aUA p q_form q_n q_text q_parts  (dH p.cons q_parts) (dR q_n (-1000000000) 1000000000) hb1 hev hb2 hb3 hb5 hb7 hb9 (aB6 q_n) hb10) (by clear hev;simp_all [eG,eD,fN,cY,fH] <;>rfl)
 cases hb11: (q_form== (4:Int))
 case true=>
  cases hb12: (dR q_n 0 1)
  case true=>exact Ends.eqv (aRR p q_form q_n q_text q_parts  (dH p.cons q_parts) (dR q_n 0 1) hb1 hev hb2 hb3 hb5 hb7 hb9 hb11 (eZ q_n 0 1) hb12) (by clear hev;simp_all [eG,eD,fN,cY,fH] <;>rfl)
  exact Ends.eqv (aRS p q_form q_n q_text q_parts  (dH p.cons q_parts) (dR q_n 0 1) hb1 hev hb2 hb3 hb5 hb7 hb9 hb11 (eZ q_n 0 1) hb12) (by clear hev;simp_all [eG,eD,fN,cY,fH] <;>rfl)
 cases hb13: (q_form== (6:Int))
 case true=>
  cases hb14: (dR q_n 0 (IntKind.i64.wrap (((length p.cons:Nat) :Int) - (1:Int))))
  case true=>
   obtain⟨y2,hx15⟩ :∃y,((p.cons)[q_n.toNat]?) =some y:=idW;exact Ends.eqv (aRT p q_form q_n q_text q_parts  (dH p.cons q_parts) (dR q_n 0 (IntKind.i64.wrap (((length p.cons:Nat) :Int) - (1:Int)))) y2 hb1 hev hb2 hb3 hb5 hb7 hb9 hb11 hb13 (eZ q_n 0 (IntKind.i64.wrap (((length p.cons:Nat) :Int) - (1:Int)))) hb14 sdW hx15) (by clear hev;simp_all [eG,eD,fN,cY,fH] <;>rfl)
  exact Ends.eqv (aRU p q_form q_n q_text q_parts  (dH p.cons q_parts) (dR q_n 0 (IntKind.i64.wrap (((length p.cons:Nat) :Int) - (1:Int)))) hb1 hev hb2 hb3 hb5 hb7 hb9 hb11 hb13 (eZ q_n 0 (IntKind.i64.wrap (((length p.cons:Nat) :Int) - (1:Int)))) hb14) (by clear hev;simp_all [eG,eD,fN,cY,fH] <;>rfl)
 exact Ends.eqv (aRV p q_form q_n q_text q_parts  (dH p.cons q_parts) hb1 hev hb2 hb3 hb5 hb7 hb9 hb11 hb13) (by clear hev;simp_all [eG,eD,fN,cY,fH] <;>rfl)
mutual
theorem aGH (p:Prog)(hc:p.cons.length≤1000) :∀ (q:Pat),bW q<1000000→aJ PP 172 [Prog.av p,Pat.av q] (.bool (eG p.cons q))
 | .mk f n s ps,h=>by
  refine aF (by kernel_rfl) (by simp [keylessL,lV,keyless,Prog.av]) rfl ?_;simp only [bW]at h;have:=eP ps;exact bDv p f n s ps hc (aSc ps p (by omega) (aLv p hc ps (by omega)))
theorem aLv (p:Prog)(hc:p.cons.length≤1000) :∀ (ps:List Pat),bF ps<1000000→∀q∈ps,aJ PP 172 [Prog.av p,Pat.av q] (.bool (eG p.cons q))
 | [],_,q,hq=>by cases hq
 | r::ps,h,q,hq=>by
  simp only [bF]at h;rcases List.mem_cons.1 hq with e|hq
  ·rw [e];exact aGH p hc r (by omega)
  ·exact aLv p hc ps (by omega) q hq
end
def cE (op:Int) :Option Int:=
 if op=1∨op=2∨op=3∨op=4∨op=21∨op=25∨op=28 then some 0
 else if op=5∨op=27∨op=16∨op=17∨op=19∨op=20∨op=23∨op=26∨op=24 then some 1
 else if op=6∨op=7∨op=9∨op=10∨op=11∨op=12∨op=13∨op=18∨op=22 then some 2
 else if op=8 then some 3 else none
def bD (op:Int) :AV:=
 match cE op with
 |some k=>.iface 242 (.int .i64 k)
 |none=>if op=15 then .iface 225 (.agg [])else if op=14 then .iface 243 (.agg [])else .nili
theorem aLw {op k:Int}(h:cE op=some k)(pats args:Int) :cQ op pats args=k∧op≠15∧op≠14:=by
 unfold cE at h;unfold cQ;split at h
 ·rename_i g;rw [if_pos g];simp only [Option.some.injEq]at h;refine⟨h,?_,?_⟩ <;>omega
 · rename_i g0;rw [if_neg g0];split at h
   ·rename_i g;rw [if_pos g];simp only [Option.some.injEq]at h;refine⟨h,?_,?_⟩ <;>omega
   · rename_i g1;rw [if_neg g1];split at h
     ·rename_i g;rw [if_pos g];simp only [Option.some.injEq]at h;refine⟨h,?_,?_⟩ <;>omega
     · rename_i g2;rw [if_neg g2];split at h
       ·rename_i g;rw [if_pos g];simp only [Option.some.injEq]at h;refine⟨h,?_,?_⟩ <;>omega
       ·cases h
theorem aOi {op:Int}(h:cE op=none)(pats args:Int) :cQ op pats args=if op=15 then 1+pats else if op=14 then args else -1:=by
 unfold cE at h;unfold cQ;split at h
 ·cases h
 · rename_i g0;rw [if_neg g0];split at h
   ·cases h
   · rename_i g1;rw [if_neg g1];split at h
     ·cases h
     · rename_i g2;rw [if_neg g2];split at h
       ·cases h
       ·rename_i g;rw [if_neg g]
theorem aSd (op:Int) :Ends PP 0 (start PP 169 [.int .i64 op]).as (.ret (bD op)) (aA [] 0) :=by
 cases hb1: (op== (1:Int))
 case true=>exact Ends.eqv (aKY op   hb1) (by simp_all [bD,cE])
 cases hb2: (op== (2:Int))
 case true=>exact Ends.eqv (aKZ op   hb1 hb2) (by simp_all [bD,cE])
 cases hb3: (op== (3:Int))
 case true=>exact Ends.eqv (aK0 op   hb1 hb2 hb3) (by simp_all [bD,cE])
 cases hb4: (op== (4:Int))
 case true=>exact Ends.eqv (aK1 op   hb1 hb2 hb3 hb4) (by simp_all [bD,cE])
 cases hb5: (op== (21:Int))
 case true=>exact Ends.eqv (aK2 op   hb1 hb2 hb3 hb4 hb5) (by simp_all [bD,cE])
 cases hb6: (op== (25:Int))
 case true=>exact Ends.eqv (aK3 op   hb1 hb2 hb3 hb4 hb5 hb6) (by simp_all [bD,cE])
 cases hb7: (op== (28:Int))
 case true=>exact Ends.eqv (aK4 op   hb1 hb2 hb3 hb4 hb5 hb6 hb7) (by simp_all [bD,cE])
 cases hb8: (op== (5:Int))
 case true=>exact Ends.eqv (aK5 op   hb1 hb2 hb3 hb4 hb5 hb6 hb7 hb8) (by simp_all [bD,cE])
 cases hb9: (op== (27:Int))
 case true=>exact Ends.eqv (aK6 op   hb1 hb2 hb3 hb4 hb5 hb6 hb7 hb8 hb9) (by simp_all [bD,cE])
 cases hb10: (op== (16:Int))
 case true=>exact Ends.eqv (aK7 op   hb1 hb2 hb3 hb4 hb5 hb6 hb7 hb8 hb9 hb10) (by simp_all [bD,cE])
 cases hb11: (op== (17:Int))
 case true=>exact Ends.eqv (aIf op   hb1 hb2 hb3 hb4 hb5 hb6 hb7 hb8 hb9 hb10 hb11) (by simp_all [bD,cE])
 cases hb12: (op== (19:Int))
 case true=>exact Ends.eqv (aIg op   hb1 hb2 hb3 hb4 hb5 hb6 hb7 hb8 hb9 hb10 hb11 hb12) (by simp_all [bD,cE])
 cases hb13: (op== (20:Int))
 case true=>exact Ends.eqv (aIh op   hb1 hb2 hb3 hb4 hb5 hb6 hb7 hb8 hb9 hb10 hb11 hb12 hb13) (by simp_all [bD,cE])
 cases hb14: (op== (23:Int))
 case true=>exact Ends.eqv (aIi op   hb1 hb2 hb3 hb4 hb5 hb6 hb7 hb8 hb9 hb10 hb11 hb12 hb13 hb14) (by simp_all [bD,cE])
 cases hb15: (op== (24:Int))
 case true=>exact Ends.eqv (aIj op   hb1 hb2 hb3 hb4 hb5 hb6 hb7 hb8 hb9 hb10 hb11 hb12 hb13 hb14 hb15) (by simp_all [bD,cE])
 cases hb16: (op== (26:Int))
 case true=>exact Ends.eqv (aIk op   hb1 hb2 hb3 hb4 hb5 hb6 hb7 hb8 hb9 hb10 hb11 hb12 hb13 hb14 hb15 hb16) (by simp_all [bD,cE])
 cases hb17: (op== (6:Int))
 case true=>exact Ends.eqv (aIl op   hb1 hb2 hb3 hb4 hb5 hb6 hb7 hb8 hb9 hb10 hb11 hb12 hb13 hb14 hb15 hb16 hb17) (by simp_all [bD,cE])
 cases hb18: (op== (7:Int))
 case true=>exact Ends.eqv (aIm op   hb1 hb2 hb3 hb4 hb5 hb6 hb7 hb8 hb9 hb10 hb11 hb12 hb13 hb14 hb15 hb16 hb17 hb18) (by simp_all [bD,cE])
 cases hb19: (op== (9:Int))
 case true=>exact Ends.eqv (aIn op   hb1 hb2 hb3 hb4 hb5 hb6 hb7 hb8 hb9 hb10 hb11 hb12 hb13 hb14 hb15 hb16 hb17 hb18 hb19) (by simp_all [bD,cE])
 cases hb20: (op== (10:Int))
 case true=>exact Ends.eqv (aIo op   hb1 hb2 hb3 hb4 hb5 hb6 hb7 hb8 hb9 hb10 hb11 hb12 hb13 hb14 hb15 hb16 hb17 hb18 hb19 hb20) (by simp_all [bD,cE])
 cases hb21: (op== (11:Int))
 case true=>exact Ends.eqv (aIp op   hb1 hb2 hb3 hb4 hb5 hb6 hb7 hb8 hb9 hb10 hb11 hb12 hb13 hb14 hb15 hb16 hb17 hb18 hb19 hb20 hb21) (by simp_all [bD,cE])
 cases hb22: (op== (12:Int))
 case true=>exact Ends.eqv (aIq op   hb1 hb2 hb3 hb4 hb5 hb6 hb7 hb8 hb9 hb10 hb11 hb12 hb13 hb14 hb15 hb16 hb17 hb18 hb19 hb20 hb21 hb22) (by simp_all [bD,cE])
 cases hb23: (op== (13:Int))
 case true=>exact Ends.eqv (aIr op   hb1 hb2 hb3 hb4 hb5 hb6 hb7 hb8 hb9 hb10 hb11 hb12 hb13 hb14 hb15 hb16 hb17 hb18 hb19 hb20 hb21 hb22 hb23) (by simp_all [bD,cE])
 cases hb24: (op== (18:Int))
 case true=>exact Ends.eqv (aIs op   hb1 hb2 hb3 hb4 hb5 hb6 hb7 hb8 hb9 hb10 hb11 hb12 hb13 hb14 hb15 hb16 hb17 hb18 hb19 hb20 hb21 hb22 hb23 hb24) (by simp_all [bD,cE])
 cases hb25: (op== (22:Int))
 case true=>exact Ends.eqv (aIt op   hb1 hb2 hb3 hb4 hb5 hb6 hb7 hb8 hb9 hb10 hb11 hb12 hb13 hb14 hb15 hb16 hb17 hb18 hb19 hb20 hb21 hb22 hb23 hb24 hb25) (by simp_all [bD,cE])
 cases hb26: (op== (8:Int))
 case true=>exact Ends.eqv (aIu op   hb1 hb2 hb3 hb4 hb5 hb6 hb7 hb8 hb9 hb10 hb11 hb12 hb13 hb14 hb15 hb16 hb17 hb18 hb19 hb20 hb21 hb22 hb23 hb24 hb25 hb26) (by simp_all [bD,cE])
 cases hb27: (op== (14:Int))
 case true=>exact Ends.eqv (aIv op   hb1 hb2 hb3 hb4 hb5 hb6 hb7 hb8 hb9 hb10 hb11 hb12 hb13 hb14 hb15 hb16 hb17 hb18 hb19 hb20 hb21 hb22 hb23 hb24 hb25 hb26 hb27) (by simp_all [bD,cE])
 cases hb28: (op== (15:Int))
 case true=>exact Ends.eqv (aIw op   hb1 hb2 hb3 hb4 hb5 hb6 hb7 hb8 hb9 hb10 hb11 hb12 hb13 hb14 hb15 hb16 hb17 hb18 hb19 hb20 hb21 hb22 hb23 hb24 hb25 hb26 hb27 hb28) (by simp_all [bD,cE])
 exact Ends.eqv (aIx op   hb1 hb2 hb3 hb4 hb5 hb6 hb7 hb8 hb9 hb10 hb11 hb12 hb13 hb14 hb15 hb16 hb17 hb18 hb19 hb20 hb21 hb22 hb23 hb24 hb25 hb26 hb27 hb28) (by simp_all [bD,cE])
theorem aOj (op:Int) :keyless (bD op) =true:=by
 unfold bD;split
 ·rfl
 · split
   ·rfl
   ·split<;>rfl
theorem aIA (op:Int) :aJ PP 169 [.int .i64 op] (bD op) :=
 aF (by kernel_rfl) rfl (aOj op) (aSd op)
theorem aEZ (p:Prog)(x:Node)(hc:p.cons.length≤1000)(hx:x.pats.length≤10) :
  ∀ (t:List Pat) (i:Nat),x.pats.drop i=t→Ends PP 0 (rM p x (i:Int)).as (.ret (.bool (t.all (jS p.cons)))) (aA [] 0)
 | [],i,h=>by
  have:=bE h;exact Ends.eqv (aR8 p x i sd) (by simp)
 | .mk f n s ps::t,i,h=>by
  obtain⟨g1,g2,g3⟩ :=bB h;have hs:=aEY (.mk f n s ps) 12 (by omega) (by omega);by_cases k:bW (.mk f n s ps) ≤12
  · have hg:oZ (.mk f n s ps) 12≤12:= (aGE (.mk f n s ps) 12 (by omega)).2 (by omega);have hq:=aGH p hc (.mk f n s ps) (by omega);cases kq:eG p.cons (.mk f n s ps)
    case false=>
     rw [kq]at hq;exact Ends.eqv (aR5 p x i f n s ps _ false sd sd sd hs (decide_eq_true hg) hq rfl) (by simp [jS,kq])
    rw [kq]at hq;refine(aR6 p x i f n s ps _ true sd sd sd hs (decide_eq_true hg) hq rfl sd).ends ?_;exact Ends.eqv (aEZ p x hc hx t (i+1) g2) (by simp [jS,k,kq])
  · have hg:¬oZ (.mk f n s ps) 12≤12:=fun g=>k (by have:= (aGE (.mk f n s ps) 12 (by omega)).1 g;omega);exact Ends.eqv (aR7 p x i f n s ps _ sd sd sd hs (decide_eq_false hg)) (by simp [jS,k])
theorem aOk (p:Prog)(x:Node)(hc:p.cons.length≤1000)(hf:p.funs.length≤1000)(hx:x.pats.length≤10)(hk:x.kids.length≤10) :aJ PP 129 [Prog.av p,Node.av x] (.bool (bT p x)) :=by
 refine aF (by kernel_rfl) rfl rfl ?_;have hw:IntKind.i64.wrap ((p.cons.length:Int) -1) = (p.cons.length:Int) -1:=by apply wrap64<;>omega
 have hko:=aIA x.op;have hn:=aIz p x hf;have hl:=aEZ p x hc hx x.pats 0 rfl;cases kf:cE x.op
 case some k=>
  obtain⟨e1,e2,e3⟩ :=aLw kf (x.pats.length:Int) (iH p x);have ev:bD x.op= .iface 242 (.int .i64 k) :=by unfold bD;rw [kf]
  rw [ev]at hko;have en:bT p x= (nG p x&&decide (x.pats.length=0) &&x.pats.all (jS p.cons) &&decide ((x.kids.length:Int) =k)) :=by
   simp only [bT,mY,nG,e1,if_neg e2,if_neg e3]
  rw [en];by_cases g0:x.pats.length=0
  · by_cases g1: (x.kids.length:Int) =k
    · have b1: (((length x.kids:Nat) :Int) ==k) =true:=by simp [g1]
      cases g2:nG p x
      case false=>
       rw [g2]at hn;exact Ends.eqv (aOd p x k false hko sd b1 hn rfl) (by simp)
      rw [g2]at hn;refine(aOc p x k true hko sd b1 hn rfl).ends ?_;exact Ends.eqv hl (by simp [g0,g1])
    · have b1: (((length x.kids:Nat) :Int) ==k) =false:=by simp [g1]
      exact Ends.eqv (aOe p x k hko sd b1) (by simp [g1])
  ·exact Ends.eqv (aR4 p x k hko sd) (by simp [g0])
 have e1:=aOi kf (x.pats.length:Int) (iH p x);by_cases h15:x.op=15
 · have ev:bD x.op= .iface 225 (.agg []) :=by unfold bD;rw [kf];simp only [h15,if_true]
   rw [ev]at hko;have en:bT p x= (nG p x&&dR (x.pats.length:Int) 1 5&&x.pats.all (jS p.cons) &&decide ((x.kids.length:Int) =1+ (x.pats.length:Int))) :=by
    simp only [bT,mY,nG,e1,if_pos h15,if_neg (show ¬x.op=14 by omega)]
   rw [en];have hi:=eZ (x.pats.length:Int) 1 5;cases g0:dR (x.pats.length:Int) 1 5
   case false=>
    rw [g0]at hi;exact Ends.eqv (aRZ p x false hko hi rfl) (by simp)
   rw [g0]at hi;by_cases g1: (x.kids.length:Int) =1+ (x.pats.length:Int)
   · have b1: (((length x.kids:Nat) :Int) == ((1:Int) + ((length x.pats:Nat) :Int))) =true:=by simp [g1]
     cases g2:nG p x
     case false=>
      rw [g2]at hn;exact Ends.eqv (aRX p x true false hko hi rfl sd b1 hn rfl) (by simp)
     rw [g2]at hn;refine(aRW p x true true hko hi rfl sd b1 hn rfl).ends ?_;exact Ends.eqv hl (by simp [g1])
   · have b1: (((length x.kids:Nat) :Int) == ((1:Int) + ((length x.pats:Nat) :Int))) =false:=by simp [g1]
     exact Ends.eqv (aRY p x true hko hi rfl sd b1) (by simp [g1])
 · by_cases h14:x.op=14
   · have ev:bD x.op= .iface 243 (.agg []) :=by unfold bD;rw [kf];simp [h14]
     rw [ev]at hko;have en:bT p x= (dR x.n 0 ((p.cons.length:Int) -1) &&decide (x.pats.length=0) &&x.pats.all (jS p.cons) &&decide ((x.kids.length:Int) =iH p x)) :=by
      simp only [bT,mY,fO,e1,if_neg h15,if_pos h14,if_neg (show ¬x.op=1 by omega),if_neg (show ¬x.op=2 by omega),if_neg (show ¬x.op=4 by omega),if_neg (show ¬x.op=24 by omega)]
     rw [en];by_cases g0:x.pats.length=0
     · have hi:=eZ x.n 0 ((p.cons.length:Int) -1);rw [←hw]at hi;cases g1:dR x.n 0 ((p.cons.length:Int) -1)
       case false=>
        rw [hw,g1,←hw]at hi;exact Ends.eqv (aR3 p x false hko sd hi rfl) (by simp)
       rw [hw,g1,←hw]at hi;have hb:=inB_iff.1 g1;obtain⟨c,hcx⟩ :∃c,p.cons[x.n.toNat]?=some c:= ⟨_,getElem?_eq_getElem (by omega)⟩;have ea:iH p x=c.args:=by simp [iH,h14,g1,fN,hcx]
       rw [ea];by_cases g2: (x.kids.length:Int) =c.args
       · have b1: (((length x.kids:Nat) :Int) ==c.args) =true:=by simp [g2]
         have hnn:nG p x=true:=by simp [nG,h14]
         rw [hnn]at hn;refine(aR1 p x true c true hko sd hi rfl (by omega) hcx b1 hn rfl).ends ?_;exact Ends.eqv hl (by simp [g0,g2])
       · have b1: (((length x.kids:Nat) :Int) ==c.args) =false:=by simp [g2]
         exact Ends.eqv (aR2 p x true c hko sd hi rfl (by omega) hcx b1) (by simp [g2])
     ·exact Ends.eqv (aR0 p x hko sd) (by simp [g0])
   · have ev:bD x.op= .nili:=by unfold bD;rw [kf];simp [h15,h14]
     rw [ev]at hko;have en:bT p x=false:=by
      have:cQ x.op x.pats.length (iH p x) = -1:=by rw [e1,if_neg h15,if_neg h14]
      have h2:¬ (x.kids.length:Int) = -1:=by omega
      simp [bT,this,h2]
     rw [en];exact aOf p x hko
def wB :List cA→List (cA×Bool) →List (cA×Bool)
 | [],m=>m
 |x::t,m=>wB t (lW x true m)
theorem aA9 (l:List cA)(hl:l.length<1000000) :∀ (t:List cA) (i:Nat) (m:List (cA×Bool)),l.drop i=t→Ends PP 0 (tN l (i:Int) m).as (.ret (.bool (decide ((wB t m).length=l.length)))) (aA [] 0)
 | [],i,m,h=>by
  have:=bE h;refine Ends.eqv (aLa l i m sd) ?_;have: (((length m:Nat) :Int) == ((length l:Nat) :Int)) =decide (m.length=l.length) :=by
   by_cases k:m.length=l.length<;>simp [k] <;>omega
  rw [this];rfl
 | x::t,i,m,h=>by
  obtain⟨g1,g2,g3⟩ :=bB h;refine(aK9 l i m x sd sd sd sd).ends ?_;exact aA9 l hl t (i+1) _ g2
theorem aE0 {k:cA}{v w:Bool}:∀ {m:List (cA×Bool)},yP k m=some w→ (lW k v m).map Prod.fst=m.map Prod.fst
 | [],h=>by cases h
 | e::m,h=>by
  unfold yP at h;unfold lW;split at h
  ·rename_i hk;rw [if_pos hk];simp [hk]
  ·rename_i hk;rw [if_neg hk];simp [aE0 h]
theorem aE1 {k:cA}{v:Bool}:∀ {m:List (cA×Bool)},yP k m=none→ (lW k v m).map Prod.fst=m.map Prod.fst++ [k]
 | [],_=>rfl
 | e::m,h=>by
  unfold yP at h;unfold lW;split at h
  ·cases h
  ·rename_i hk;rw [if_neg hk];simp [aE1 h]
theorem aE2 {k:cA}:∀ {m:List (cA×Bool)},(yP k m).isSome=yQ (m.map Prod.fst) k
 | [] =>rfl
 | e ::m=>by
  unfold yP;split
  ·rename_i hk;simp [yQ,hk]
  · rename_i hk;have:¬e.1=k:=fun h=>hk h.symm;rw [aE2];simp [yQ,this]
theorem aGI :∀ (t:List cA) (m:List (cA×Bool)),(wB t m).length≤m.length+t.length
 | [],m=>by simp [wB]
 | x::t,m=>by
  have a:=aGI t (lW x true m);have b: (lW x true m).length≤m.length+1:=by
   cases h:yP x m with
   |none=>have:=congrArg length (aE1 (v:=true) h);simp at this;omega
   |some w=>have:=congrArg length (aE0 (v:=true) h);simp at this;omega
  simp only [wB,length_cons];omega
theorem aE3 :∀ (t:List cA) (m:List (cA×Bool)),(wB t m).length=m.length+t.length↔eO (m.map Prod.fst) t=true
 | [],m=>by simp [wB,eO]
 | x::t,m=>by
  simp only [wB,eO];cases h:yP x m
  case some w=>
   have e:=aE0 (v:=true) h;have hs:yQ (m.map Prod.fst) x=true:=by rw [←aE2,h];rfl
   have a:=aGI t (lW x true m);have b:=congrArg length e;simp only [List.length_map]at b;rw [hs];constructor
   ·intro g;simp only [length_cons]at g;omega
   ·intro g;simp at g
  have e:=aE1 (v:=true) h;have hs:yQ (m.map Prod.fst) x=false:=by rw [←aE2,h];rfl
  have ih:=aE3 t (lW x true m);have b:=congrArg length e;simp only [List.length_map,List.length_append,List.length_singleton]at b;rw [hs,←e];simp only [Bool.not_false,Bool.true_and,length_cons];rw [←ih,b];omega
theorem aIB (l:List cA)(hl:l.length<1000000) :aJ PP 125 [.ilst 1 (map dD l) false] (.bool (nN l)) :=by
 refine aF (by kernel_rfl) rfl rfl ((aK8 l).ends (Ends.eqv (aA9 l hl l 0 [] rfl) ?_));have:=aE3 l [];simp only [List.length_nil,Nat.zero_add,List.map_nil]at this;congr 1;cases k:nN l
 case true=>exact decide_eq_true (this.2 k)
 exact decide_eq_false fun g=>by have:=this.1 g;unfold nN at k;rw [k]at this;cases this
theorem aGJ (l:List Con)(hl:l.length<1000000) :∀ (t:List Con) (i:Nat),l.drop i=t→Ends PP 0 (aDo l (i:Int)).as (.ret (.bool (t.all hO))) (aA [] 0)
 | [],i,h=>by
  have:=bE h;exact Ends.eqv (aUM l i sd) (by simp)
 | c::t,i,h=>by
  obtain⟨g1,g2,g3⟩ :=bB h;have hq:=aSa c;cases k:hO c
  case false=>rw [k]at hq;exact Ends.eqv (aUK l i c false sd sd sd hq rfl) (by simp [k])
  rw [k]at hq;refine(aUL l i c true sd sd sd hq rfl sd).ends ?_;exact Ends.eqv (aGJ l hl t (i+1) g2) (by simp [k])
theorem aSe (l:List Con)(hl:l.length<1000000) :aJ PP 123 [.ilst 2 (map Con.av l) false,.func 124 [] []] (.bool (l.all hO)) :=
 aF (by kernel_rfl) rfl rfl ((aUJ l).ends (aGJ l hl l 0 rfl))
theorem aGK (l:List Node)(p:Prog)(hl:l.length<1000000)(ih:∀x∈l,aJ PP 129 [Prog.av p,Node.av x] (.bool (bT p x))) :∀ (t:List Node) (i:Nat),l.drop i=t→Ends PP 0 (aDn l p (i:Int)).as (.ret (.bool (t.all (bT p)))) (aA [] 0)
 | [],i,h=>by
  have:=bE h;exact Ends.eqv (aUI l p i sd) (by simp)
 | c::t,i,h=>by
  obtain⟨g1,g2,g3⟩ :=bB h;have hq:=ih c (mem_of_getElem? g1);cases k:bT p c
  case false=>rw [k]at hq;exact Ends.eqv (aUG l p i c false sd sd sd hq rfl) (by simp [k])
  rw [k]at hq;refine(aUH l p i c true sd sd sd hq rfl sd).ends ?_;exact Ends.eqv (aGK l p hl ih t (i+1) g2) (by simp [k])
theorem aSf (l:List Node)(p:Prog)(hl:l.length<1000000)(ih:∀x∈l,aJ PP 129 [Prog.av p,Node.av x] (.bool (bT p x))) :aJ PP 128 [.ilst 4 (map Node.av l) false,.func 129 [Prog.av p] []] (.bool (l.all (bT p))) :=
 aF (by kernel_rfl) rfl rfl ((aUF l p).ends (aGK l p hl ih l 0 rfl))
def one (k:Int) :Bool:=decide (k=1)
theorem aGL (l:List Int)(hl:l.length<1000000) :∀ (t:List Int) (i:Nat),l.drop i=t→Ends PP 0 (aDp l (i:Int)).as (.ret (.bool (t.all one))) (aA [] 0)
 | [],i,h=>by
  have:=bE h;exact Ends.eqv (aUQ l i sd) (by simp)
 | c ::t,i,h=>by
  obtain⟨g1,g2,g3⟩ :=bB h;by_cases k:c=1
  · refine(aUP l i c sd sd sd (by simp [k]) sd).ends ?_;exact Ends.eqv (aGL l hl t (i+1) g2) (by simp [k,one])
  ·exact Ends.eqv (aUO l i c sd sd sd (by simp [k])) (by simp [k,one])
theorem aSg (l:List Int)(hl:l.length<1000000) :aJ PP 130 [.ilst 1 (map bU l) true,.func 131 [] []] (.bool (l.all one)) :=
 aF (by kernel_rfl) rfl rfl ((aUN l).ends (aGL l hl l 0 rfl))
theorem aGM (l:List Con)(hl:l.length<100000) :∀ (t:List Con) (i:Nat),l.drop i=t→Ends PP 0 (aDq l (i:Int) (bA (l.take i))).as (.ret (.ilst 1 (map dD (bA l)) false)) (aA [] 0)
 | [],i,h=>by
  have hi:=bE h;have e:bA (l.take i) =bA l:=by rw [List.take_of_length_le hi]
  rw [e];exact aUT l i _ sd
 | c::t,i,h=>by
  obtain⟨g1,g2,g3⟩ :=bB h;have e:bA (l.take i) ++ [c.name] =bA (l.take (i+1)) :=by
   rw [List.take_add_one,g1];simp [bA]
  refine(aUS l i (bA (l.take i)) c sd sd sd (by simp [bA];omega) sd).ends ?_;rw [e];exact aGM l hl t (i+1) g2
theorem aSh (l:List Con)(hl:l.length<100000) :aJ PP 126 [.ilst 2 (map Con.av l) false,.func 127 [] []] (.ilst 1 (map dD (bA l)) false) :=
 aF (by kernel_rfl) rfl rfl ((aUR l).ends (aGM l hl l 0 rfl))
def nF (lo n:Int) :List Int→List Int→Option (List Int)
 | [],c=>some c
 |k::ks,c=>if dR k lo (n-1) =true then nF lo n ks (c.set k.toNat (c.getD k.toNat 0+1))else none
def lZ (p:Prog) :Nat→List Node→List Int→Option (List Int)
 |_,[],c=>some c
 | i,x::t,c=>match nF ((i:Int) +1) (p.nodes.length:Int) x.kids c with
   |some d=>lZ p (i+1) t d
   |none=>none
def pZ :Option (List Int) →Bool
 |some c=>c.all one
 |none=>false
def below (b:Int)(c:List Int) :Prop:=∀k∈c,0≤k∧k≤b
theorem aB7 {b:Int}{c:List Int}(h:below b c){i:Nat}{z:Int}(hz:c[i]?=some z) :0≤z∧z≤b:=h z (mem_of_getElem? hz)
theorem aGN {b:Int}{c:List Int}(h:below b c){i:Nat}{z:Int}(hz:c[i]?=some z) :below (b+1) (c.set i (z+1)) :=fun k hk=>by
 rcases List.mem_or_eq_of_mem_set hk with g|g
 ·have:=h k g;omega
 ·have:=aB7 h hz;omega
theorem bF2 (p:Prog)(i:Nat)(hi:i<p.nodes.length)(hn:p.nodes.length≤1000)(ks:List Int)(hk:ks.length≤1000)(K:List Int→Bool)(B:Int)(hB:0≤B)(hB2:B≤1000000)
  (hb:∀v:List Int,v.length=p.nodes.length→below (B+ks.length) v→Ends PP 0 (oY p v ((i:Int) +1)).as (.ret (.bool (K v))) (aA [] 0)) :
  ∀ (t:List Int) (k:Nat) (c:List Int),c.length=p.nodes.length→k≤ks.length→below (B+k) c→ks.drop k=t→Ends PP 0 (tP p ks (ks.length:Int) c (k:Int) (i:Int) (i:Int)).as (.ret (.bool (match nF ((i:Int) +1) p.nodes.length t c with|some v=>K v|none=>false))) (aA [] 0)
 | [],k,c,hc,hkl,hbl,h=>by
  have:=bE h;have e:k=ks.length:=by omega
  subst e;refine(aLr p ks ks.length c ks.length i i sd sd).ends ?_;exact hb c hc hbl
 | y::t,k,c,hc,hkl,hbl,h=>by
  obtain⟨g1,g2,g3⟩ :=bB h;have hin:=eZ y ((i:Int) +1) ((p.nodes.length:Int) -1);cases k1:dR y ((i:Int) +1) ((p.nodes.length:Int) -1)
  case false=>
   rw [k1]at hin;exact Ends.eqv (aLp p ks ks.length c k i i y false sd sd sd sd sd hin rfl) (by simp [nF,k1])
  rw [k1]at hin;have hy:=inB_iff.1 k1;obtain⟨z,hz⟩ :∃z,c[y.toNat]?=some z:= ⟨_,getElem?_eq_getElem (by omega)⟩;have hzb:=aB7 hbl hz;refine(aLq p ks ks.length c k i i y true z sd sd sd sd sd hin rfl (by omega) (by omega) hz sd sd).ends ?_;have e:c.getD y.toNat 0=z:=by rw [getD_eq_getElem?_getD,hz];rfl
  have ei:nF ((i:Int) +1) p.nodes.length (y::t) c=nF ((i:Int) +1) p.nodes.length t (c.set y.toNat (z+1)) :=by
   rw [nF,if_pos k1,e]
  rw [ei];refine bF2 p i hi hn ks hk K B hB hB2 hb t (k+1) (c.set y.toNat (z+1)) (by simpa using hc) (by omega) ?_ g2;have:=aGN hbl hz;intro q hq;have:=this q hq
  push_cast
  omega
def tQ :List Node→Nat
 | [] =>0
 |x::t=>x.kids.length+tQ t
theorem aE4 :∀ (t:List Node),(∀x∈t,x.kids.length≤10) →tQ t≤10*t.length
 | [],_=>by simp [tQ]
 | x::t,h=>by
  have a:=aE4 t (fun y hy=>h y (List.mem_cons_of_mem _ hy));have b:=h x (List.mem_cons_self ..);simp only [tQ,length_cons];omega
theorem bF1 (p:Prog)(hp:aE p=true)(hn:p.nodes.length≤1000) :∀ (t:List Node) (i:Nat) (c:List Int) (B:Int),0≤B→B+tQ t≤100000→c.length=p.nodes.length→below B c→p.nodes.drop i=t →
  Ends PP 0 (oY p c (i:Int)).as (.ret (.bool (pZ (lZ p i t c)))) (aA [] 0)
 | [],i,c,B,h0,h1,hc,hb,h=>by
  have:=bE h;exact Ends.eqv (aLo p c i _ sd (aSg c (by omega))) rfl
 | x::t,i,c,B,h0,h1,hc,hb,h=>by
  obtain⟨g1,g2,g3⟩ :=bB h;have hx:bJ x=true:=by
   simp only [aE,and_eq_true]at hp;exact List.all_eq_true.1 hp.2 x (mem_of_getElem? g1)
  simp only [bJ,and_eq_true,decide_eq_true_eq]at hx;simp only [tQ]at h1;refine(aLn p c i x sd sd sd).ends ?_;refine Ends.eqv (bF2 p i g3 hn x.kids (by omega) (fun v=>pZ (lZ p (i+1) t v)) B h0 (by omega) (fun v hv hbv=>bF1 p hp hn t (i+1) v (B+x.kids.length) (by omega) (by omega) hv hbv g2) x.kids 0 c hc (by omega) (by simpa using hb) rfl) ?_;rw [lZ];cases nF ((i:Int) +1) (p.nodes.length:Int) x.kids c<;>rfl
theorem bF0 (p:Prog)(hp:aE p=true)(hn:p.nodes.length≤1000)(hks:tQ p.nodes≤10000)(hf:p.funs.length≤1000) :∀ (t:List Int) (i:Nat) (c:List Int),i≤p.funs.length→c.length=p.nodes.length→below (i:Int) c→p.funs.drop i=t →
  Ends PP 0 (tO p (i:Int) c).as (.ret (.bool (match nF 0 p.nodes.length t c with|some v=>pZ (lZ p 0 p.nodes v) |none=>false))) (aA [] 0)
 | [],i,c,hi,hc,hb,h=>by
  have:=bE h;refine(aLm p i c sd).ends ?_;exact bF1 p hp hn p.nodes 0 c i (by omega) (by omega) hc hb rfl
 | y::t,i,c,hi,hc,hb,h=>by
  obtain⟨g1,g2,g3⟩ :=bB h;have hin:=eZ y 0 ((p.nodes.length:Int) -1);cases k1:dR y 0 ((p.nodes.length:Int) -1)
  case false=>
   rw [k1]at hin;exact Ends.eqv (aLk p i c y false sd sd sd sd hin rfl) (by simp [nF,k1])
  rw [k1]at hin;have hy:=inB_iff.1 k1;obtain⟨z,hz⟩ :∃z,c[y.toNat]?=some z:= ⟨_,getElem?_eq_getElem (by omega)⟩;have hzb:=aB7 hb hz;refine(aLl p i c y true z sd sd sd sd hin rfl (by omega) (by omega) hz sd sd).ends ?_;have e:c.getD y.toNat 0=z:=by rw [getD_eq_getElem?_getD,hz];rfl
  have ei:nF 0 p.nodes.length (y::t) c=nF 0 p.nodes.length t (c.set y.toNat (z+1)) :=by
   rw [nF,if_pos k1,e]
  rw [ei];refine bF0 p hp hn hks hf t (i+1) (c.set y.toNat (z+1)) (by omega) (by simpa using hc) ?_ g2;have:=aGN hb hz;intro q hq;have:=this q hq
  push_cast
  omega
def cX (p:Prog) :Bool:=
 dZ p&&decide (p.cons.length≤20) &&p.cons.all hO&&nN (bA p.cons) &&p.nodes.all (bT p) &&
  (match nF 0 (p.nodes.length:Int) p.funs (replicate p.nodes.length 0)with
  |some v=>pZ (lZ p 0 p.nodes v)
  |none=>false)
theorem aLx {p:Prog}(hp:aE p=true) :∀x∈p.nodes,x.kids.length≤10∧x.pats.length≤10:=fun x hx=>by
 simp only [aE,and_eq_true]at hp;have:=List.all_eq_true.1 hp.2 x hx;simp only [bJ,and_eq_true,decide_eq_true_eq]at this;exact this.1
theorem aIC (p:Prog)(hp:aE p=true) :aJ PP 88 [Prog.av p] (.bool (cX p)) :=by
 refine aF (by kernel_rfl) rfl rfl ?_;have hs:=hp;simp only [aE,and_eq_true,decide_eq_true_eq]at hs;obtain⟨⟨⟨⟨s1,s2⟩,s3⟩,_⟩,_⟩ :=hs;have hno:=aLx hp;by_cases k0:p.nodes.length≤300
 · by_cases k1:1≤p.funs.length
   · by_cases k2:p.funs.length≤p.nodes.length
     · have kk:dR (p.funs.length:Int) 1 (p.nodes.length:Int) =true:=inB_iff.2 ⟨by omega,by omega⟩;by_cases k3:p.cons.length≤20
       · have hi:=eZ p.main 0 ((p.funs.length:Int) -1);cases k4:dR p.main 0 ((p.funs.length:Int) -1)
         case false=>
          rw [k4]at hi;exact Ends.eqv (aLf p false sd sd sd sd sd hi rfl) (by simp [cX,dZ,k4])
         rw [k4]at hi;have hh:dZ p=true:=by simp [dZ,k0,kk,k4]
         have hc:=aSe p.cons (by omega);cases k5:p.cons.all hO
         case false=>
          rw [k5]at hc;exact Ends.eqv (aLg p true false sd sd sd sd sd hi rfl hc rfl) (by simp only [cX,k5,Bool.and_false,Bool.false_and])
         rw [k5]at hc;have hm:=aSh p.cons (by omega);have hd:=aIB (bA p.cons) (by simp [bA];omega);cases k6:nN (bA p.cons)
         case false=>
          rw [k6]at hd;exact Ends.eqv (aLh p true true (bA p.cons) false sd sd sd sd sd hi rfl hc rfl hm hd rfl) (by simp only [cX,k6,Bool.and_false,Bool.false_and])
         rw [k6]at hd;have hn:=aSf p.nodes p (by omega) (fun x hx=>aOk p x (by omega) (by omega) (hno x hx).2 (hno x hx).1);cases k7:p.nodes.all (bT p)
         case false=>
          rw [k7]at hn;exact Ends.eqv (aLi p true true (bA p.cons) true false sd sd sd sd sd hi rfl hc rfl hm hd rfl hn rfl) (by simp only [cX,k7,Bool.and_false,Bool.false_and])
         rw [k7]at hn;refine(aLj p true true (bA p.cons) true true sd sd sd sd sd hi rfl hc rfl hm hd rfl hn rfl (by omega)).ends ?_;have hks:=aE4 p.nodes (fun x hx=> (hno x hx).1);refine Ends.eqv (bF0 p hp (by omega) (by omega) (by omega) p.funs 0 _ (by omega) (by simp) ?_ rfl) ?_
         · intro q hq;have:= (List.mem_replicate.1 hq).2;omega
         ·simp only [cX,hh,decide_eq_true k3,k5,k6,k7,Bool.true_and] <;>rfl
       ·exact Ends.eqv (aLe p sd sd sd sd) (by simp [cX,k3])
     · have kk:dR (p.funs.length:Int) 1 (p.nodes.length:Int) =false:=inB_not.2 (by omega);exact Ends.eqv (aLd p sd sd sd) (by simp [cX,dZ,kk])
   · have kk:dR (p.funs.length:Int) 1 (p.nodes.length:Int) =false:=inB_not.2 (by omega);exact Ends.eqv (aLc p sd sd) (by simp [cX,dZ,kk])
 ·exact Ends.eqv (aLb p sd) (by simp [cX,dZ,k0])
theorem aLy (p:Prog)(hp:aE p=true) :aJ PP 45 [Prog.av p] (.int .i64 (checkN (cX p))) :=by
 refine aF (by kernel_rfl) rfl rfl ?_;have h:=aIC p hp;cases k:cX p
 case false=>rw [k]at h;exact aOg p false h rfl
 rw [k]at h;exact aOh p true h rfl
def cnt (b:Bool) :Int:=if b=true then 1 else 0
def tR (u:List Bool) :List Int:=u.map cnt
def aAe (c:List Int) :Prop:= (∃ (i:Nat) (z:Int),c[i]?=some z∧2≤z) ∧∀z∈c,0≤z
theorem aLz {c:List Int}(h:aAe c) :c.all one=false:=by
 obtain⟨⟨i,z,h1,h2⟩,_⟩ :=h;cases k:c.all one
 case false=>rfl
 have:=List.all_eq_true.1 k z (mem_of_getElem? h1);simp only [one,decide_eq_true_eq]at this;omega
theorem aOl {c:List Int}{j:Nat}(h:aAe c) :aAe (c.set j (c.getD j 0+1)) :=by
 obtain⟨⟨i,z,h1,h2⟩,h3⟩ :=h;have hi:= (List.getElem?_eq_some_iff.1 h1).1;refine⟨⟨i,if j=i then z+1 else z,?_,by split<;>omega⟩,fun q hq=>?_⟩
 · rw [List.getElem?_set];by_cases e:j=i
   · subst e;rw [if_pos rfl,if_pos hi,if_pos rfl,getD_eq_getElem?_getD,h1];rfl
   ·rw [if_neg e,if_neg e];exact h1
 · rcases List.mem_or_eq_of_mem_set hq with g|g
   ·exact h3 q g
   · rw [g,getD_eq_getElem?_getD];cases k:c[j]? with
     |none=>simp
     |some w=>have:=h3 w (mem_of_getElem? k);simp;omega
theorem wC {lo n:Int}:∀ {ks c:List Int} {d:List Int},aAe c→nF lo n ks c=some d→aAe d
 | [],c,d,h,e=>by simp only [nF,Option.some.injEq]at e;rw [←e];exact h
 | k::ks,c,d,h,e=>by
  simp only [nF]at e;split at e
  ·exact wC (aOl h) e
  ·cases e
theorem aLA (u:List Bool) :∀z∈tR u,0≤z:=fun z hz=>by
 obtain⟨b,_,rfl⟩ :=List.mem_map.1 hz;cases b<;>simp [cnt]
theorem aAf {lo n:Int}(hlo:0≤lo) :∀ (ks:List Int) (u:List Bool),n≤u.length →
  (∀v,marks lo n ks u=some v→nF lo n ks (tR u) =some (tR v)) ∧ (marks lo n ks u=none→∀d,nF lo n ks (tR u) =some d→aAe d)
 | [],u,hn=>by
  simp only [marks,nF,Option.some.injEq];exact⟨fun v e=>by rw [e],fun e=>by cases e⟩
 | k ::ks,u,hn=>by
  simp only [marks,nF];by_cases h1:dR k lo (n-1) =true
  · have hk:=inB_iff.1 h1;have hlt:k.toNat<u.length:=by omega
    have hget:u[k.toNat]?=some u[k.toNat] :=getElem?_eq_getElem hlt;have hc: (tR u).getD k.toNat 0=cnt u[k.toNat] :=by
     rw [getD_eq_getElem?_getD,tR,List.getElem?_map,hget];rfl
    rw [if_pos h1];cases hb:u[k.toNat]
    case false=>
     rw [hb]at hget hc;rw [if_pos ⟨h1,hget⟩];have e: (tR u).set k.toNat ((tR u).getD k.toNat 0+1) =tR (u.set k.toNat true) :=by
      rw [hc,tR,tR,List.map_set];rfl
     rw [e];exact aAf hlo ks (u.set k.toNat true) (by simpa using hn)
    rw [hb]at hget hc;rw [if_neg (by rw [hget];simp)];refine And.intro (fun v e=>nomatch e) (fun _ d e=>wC (And.intro ⟨k.toNat,2,?_,by omega⟩ ?_) e)
    ·rw [hc,List.getElem?_set_self (by simp [tR];exact hlt)];rfl
    · intro z hz;rcases List.mem_or_eq_of_mem_set hz with g|g
      ·exact aLA u z g
      ·rw [g,hc];simp [cnt]
  · rw [if_neg h1,if_neg (fun g=>h1 g.1)];exact And.intro (fun v e=>nomatch e) (fun _ d e=>nomatch e)
theorem qQ (p:Prog) :∀ (t:List Node) (i:Nat) (c:List Int),aAe c→pZ (lZ p i t c) =false
 | [],i,c,h=>by rw [lZ];exact aLz h
 | x::t,i,c,h=>by
  rw [lZ];cases e:nF ((i:Int) +1) (p.nodes.length:Int) x.kids c with
  |none=>rfl
  |some d=>exact qQ p t (i+1) d (wC h e)
theorem aGO :∀ (u:List Bool),(tR u).all one=u.all fun b=>b
 | [] =>rfl
 | b::u=>by
  have:=aGO u;simp only [tR,List.map_cons,all_cons]at this ⊢;rw [this];cases b<;>simp [cnt,one]
theorem aLB (p:Prog) :∀ (t:List Node) (i:Nat) (u:List Bool),u.length=p.nodes.length→t.all (bT p) =true→allT (bX p i t u) =pZ (lZ p i t (tR u))
 | [],i,u,hu,_=>by simp only [bX,lZ,allT,pZ,aGO]
 | x::t,i,u,hu,ha=>by
  simp only [all_cons,and_eq_true]at ha;obtain⟨m1,m2⟩ :=aAf (lo:= (i:Int) +1) (n:= (p.nodes.length:Int)) (by omega) x.kids u (by omega);simp only [bX,lZ,if_pos ha.1];cases hm:marks ((i:Int) +1) (p.nodes.length:Int) x.kids u
  case some v=>
   rw [m1 v hm];exact aLB p t (i+1) v (by rw [lX hm,hu]) ha.2
  cases hi:nF ((i:Int) +1) (p.nodes.length:Int) x.kids (tR u)with
  |none=>rfl
  |some d=>exact(qQ p t (i+1) d (m2 hm d hi)).symm
theorem aBa (p:Prog) :∀ (t:List Node) (i:Nat) (u:List Bool),t.all (bT p) =false→allT (bX p i t u) =false
 | [],i,u,h=>by simp at h
 | x ::t,i,u,h=>by
  simp only [bX];by_cases hx:bT p x=true
  · rw [if_pos hx];have ht:t.all (bT p) =false:=by simpa [hx]using h
    cases marks ((i:Int) +1) (p.nodes.length:Int) x.kids u with
    |none=>rfl
    |some v=>exact aBa p t (i+1) v ht
  ·rw [if_neg hx];rfl
theorem aSi (p:Prog) :cX p=aH p:=by
 have e1:cX p= (dZ p&&aB4 p.cons&& (p.nodes.all (bT p) && (match nF 0 (p.nodes.length:Int) p.funs (replicate p.nodes.length 0)with
  |some v=>pZ (lZ p 0 p.nodes v)
  |none=>false))) :=by
  unfold cX aB4;cases dZ p<;>cases p.cons.all hO<;>cases nN (bA p.cons) <;>cases p.nodes.all (bT p) <;>cases decide (p.cons.length≤20) <;>simp
 rw [e1,aH];congr 1;have ez:replicate p.nodes.length (0:Int) =tR (replicate p.nodes.length false) :=by rw [tR,List.map_replicate];rfl
 rw [ez];obtain⟨m1,m2⟩ :=aAf (lo:=0) (n:= (p.nodes.length:Int)) (by omega) p.funs (replicate p.nodes.length false) (by simp);cases hm:marks 0 (p.nodes.length:Int) p.funs (replicate p.nodes.length false)
 case some v=>
  rw [m1 v hm];cases ha:p.nodes.all (bT p)
  case true=>simp only [Bool.true_and];exact(aLB p p.nodes 0 v (by rw [lX hm];simp) ha).symm
  simp only [Bool.false_and];exact(aBa p p.nodes 0 v ha).symm
 simp only;cases hi:nF 0 (p.nodes.length:Int) p.funs (tR (replicate p.nodes.length false))with
 |none=>simp
 |some d=>simp only [qQ p p.nodes 0 d (m2 hm d hi),Bool.and_false]
def xO(d e:Int)(f:cA)(a:List Pat)(b c:Int):TS:=⟨(tf 177 22 [(2,(nI 0)),(3,(nI b)),(10,(iP a)),(11,(nI (a.length:Int))),(12,(nI c))] [kc f177 244,kl f177 244,.inBlock 0,kc f177 31]),[],[],0⟩
def aOm(a:Node)(b:Int):=tT 0 (start PP 134 [(Node.av a),(nI b)])<|.b 13 9 (a.op==5) (gE 21 1 (nI 1))<|.b 5 14 (a.op==27) (gE 16 1 (nI 1))<|.b 4 18 (a.op==7) (.b 6 5 (b==1) (gE 6 1 (nI 1))<|.b 7 27 (a.op==15) (gd 5 23 (b>0) (gw 7 34 (b-1)<|tC 0 a.pats (b-1)<|fun c d e f=>gpI 1 177 [(.agg [(nI c),(nI d),(dD e),(iP f)])]<|fun g=>gE 3 1 (nI g))<|gE 8 1 (nI 0))<|gE 13 1 (nI 0))<|.b 13 27 (a.op==15) (gd 5 23 (b>0) (gw 7 34 (b-1)<|tC 0 a.pats (b-1)<|fun c d e f=>gpI 1 177 [(.agg [(nI c),(nI d),(dD e),(iP f)])]<|fun g=>gE 3 1 (nI g))<|gE 8 1 (nI 0))<|gE 13 1 (nI 0)
def aSj:=fun a b c=>aOm a b|>.t c tv
def aSk:=fun a b c d=>aOm a b|>.f c|>.t d tv
def aSl:=fun a b c d e f=>aOm a b|>.f c|>.f d|>.t e|>.t f tv
def aSm:=fun a b c d e f g=>aOm a b|>.f c|>.f d|>.t e|>.f f|>.f g tv
def aSn:=fun a b c d e f g i j k l m n o p q=>aOm a b|>.f i|>.f j|>.f k|>.t l|>.t m n c d e f o p g q tv
def aSo:=fun a b c d e f g=>aOm a b|>.f c|>.f d|>.f e|>.t f|>.f g tv
def aSp:=fun a b c d e f=>aOm a b|>.f c|>.f d|>.f e|>.f f tv
def bEU(a c:Int)(d:cA)(b:List Pat):=tT 0 (start PP 177 [(.agg [(nI a),(nI c),(dD d),(iP b)])])<|.b 12 8 (a==2) (gE 6 1 (nI 1))<|gm 11 aD b<|.W 4 1 [] (xO a c d b 0 0)
def aOn:=fun a b c d e=>bEU a b c d|>.t e tv
def aOo:=fun a b c d e=>bEU a b c d|>.f e tv
def bEV(d e:Int)(f:cA)(b:List Pat)(c a:Int):=tT 0 (xO d e f b c a)<|gd 5 13 (a< (b.length:Int)) (tC 6 b a<|fun i j k l=>gpI 7 177 [(.agg [(nI i),(nI j),(dD k),(iP l)])]<|fun g=>gw 1 19 (c+g)<|gw 5 20 (a+1)<|.W 3 1 [] (xO d e f b (c+g) (a+1)))<|gE 8 0 (nI c)
def aOp:=fun a b c d e f g i j k l m n o p q r=>bEV a b c d e f|>.t m g i j k n o l p q r tv
def aOq:=fun a b c d e f g=>bEV a b c d e f|>.f g tv
def rN(a b:Int)(c:cA)(d:List Pat)(e f:Int):TS:=⟨(tf 163 24 [kp 1 0,(2,(nI 0)),(3,(nI e)),(4,(nI f))] [kc f163 244,kl f163 244,.inBlock 0,kc f163 31]),[],[oC 0 [(nI a),(nI b),(dD c),(iP d)]],1⟩
def aSq(a:Node)(b:Int):=tT 0 (start PP 121 [(Node.av a),(nI b)])<|.b 18 7 (a.op==5) (gE 8 1 (nI 1))<|.b 5 7 (a.op==27) (gE 6 1 (nI 1))<|.b 6 10 (a.op==7) (gE 7 1 (nI b))<|.b 6 13 (a.op==15) (gd 6 16 (b>0) (gw 7 20 (b-1)<|tC 0 a.pats (b-1)<|fun c d e f=>gpI 1 163 [(.agg [(nI c),(nI d),(dD e),(iP f)])]<|fun g=>gE 3 1 (nI g))<|gE 8 1 (nI 0))<|gE 8 1 (nI 0)
def aGP:=fun a b c=>aSq a b|>.t c tv
def aGQ:=fun a b c d=>aSq a b|>.f c|>.t d tv
def aB8:=fun a b c d e=>aSq a b|>.f c|>.f d|>.t e tv
def aGR:=fun a b c d e f g i j k l m n o p q=>aSq a b|>.f i|>.f j|>.f k|>.t l|>.t m n c d e f o p g q tv
def aGS:=fun a b c d e f g=>aSq a b|>.f c|>.f d|>.f e|>.t f|>.f g tv
def aGT:=fun a b c d e f=>aSq a b|>.f c|>.f d|>.f e|>.f f tv
def bEW(a b:Int)(c:cA)(d:List Pat):=tT 0 (start PP 163 [(.agg [(nI a),(nI b),(dD c),(iP d)])])<|.b 16 7 (a==2) (.W 11 1 [0] (rN a b c d 1 0))<|.W 9 1 [0] (rN a b c d 0 0)
def aOr:=fun a b c d e=>bEW a b c d|>.t e tv
def aOs:=fun a b c d e=>bEW a b c d|>.f e tv
def bEX(d e:Int)(f:cA)(a:List Pat)(c b:Int):=tT 0 (rN d e f a c b)<|gm 6 aD a<|gd 2 12 (b< (a.length:Int)) (tC 9 a b<|fun i j k l=>gpI 1 163 [(.agg [(nI i),(nI j),(dD k),(iP l)])]<|fun g=>gw 1 22 (c+g)<|gw 6 14 (b+1)<|.W 3 1 [0] (rN d e f a (c+g) (b+1)))<|gE 8 1 (nI c)
def aOt:=fun a b c d e f g i j k l m n o p q r=>bEX a b c d e f|>.t m g i j k n o l p q r tv
def aOu:=fun a b c d e f g=>bEX a b c d e f|>.f g tv
theorem Ends.val {P:Program}{m:Nat}{s:AS}{v v':AV}{h':Hp}(h:Ends P m s (.ret v) h')(hv:∀E cv,VR E v cv→VR E v' cv) :Ends P m s (.ret v') h':=fun hm E fr ccs w f fs r cl base=>by
 obtain⟨cl',w',E',s1,⟨cv,e,g⟩,r2,x2⟩ :=h hm E fr ccs w f fs r cl base;exact⟨cl',w',E',s1,⟨cv,e,hv _ _ g⟩,r2,x2⟩
theorem fX {E:Emb}{e:Nat}{xs:List AV}{cv:Value}(h:VR E (.ilst e xs true) cv) :VR E (.ilst e xs false) cv:=by
 simp only [VR]at h ⊢;obtain⟨vs,h1,h2,h3⟩ :=h;refine⟨vs,h1,h2,?_⟩;rcases h3 with⟨a1,a,cap,a2,a3,a4⟩ | ⟨k,a,cap,C,a1,a2,a3,a4,a5⟩
 ·exact .inl ⟨a1,a,cap,a2,a3,fun e=> (by cases e)⟩
 ·exact .inr ⟨k,a,cap,C,a1,a2,a3,fun e=> (by cases e),a5⟩
mutual
def bnm :Pat→Int
 | .mk f _ _ ps=>if f=2 then 1 else yR ps
def yR :List Pat→Int
 | [] =>0
 |p::ps=>bnm p+yR ps
end
mutual
def rnm :Pat→Int
 | .mk f _ _ ps=> (if f=2 then 1 else 0) +aB9 ps
def aB9 :List Pat→Int
 | [] =>0
 |p::ps=>rnm p+aB9 ps
end
mutual
theorem aE5 :∀p,0≤bnm p∧bnm p≤bW p
 | .mk f _ _ ps=>by
  have:=xP ps;simp only [bnm,bW];split<;>omega
theorem xP :∀ps,0≤yR ps∧yR ps≤bF ps
 | [] =>by simp [yR,bF]
 | p::ps=>by
  have:=aE5 p;have:=xP ps;simp only [yR,bF];omega
end
mutual
theorem aUU :∀p,0≤rnm p∧rnm p≤bW p
 | .mk f _ _ ps=>by
  have:=aDr ps;simp only [rnm,bW];split<;>omega
theorem aDr :∀ps,0≤aB9 ps∧aB9 ps≤bF ps
 | [] =>by simp [aB9,bF]
 | p::ps=>by
  have:=aUU p;have:=aDr ps;simp only [aB9,bF];omega
end
mutual
theorem aUV (cons:List Con) :∀p,eG cons p=true→bnm p=rnm p
 | .mk f n s ps,h=>by
  simp only [eG,and_eq_true]at h;have:=aUW cons ps h.2;simp only [bnm,rnm];by_cases g:f=2
  · have hk:=h.1;subst g;simp only [eD]at hk;simp at hk;obtain⟨⟨hk,_⟩,_⟩ :=hk;subst hk;simp [aB9]
  ·rw [if_neg g,if_neg g,this];omega
theorem aUW (cons:List Con) :∀ps,dH cons ps=true→yR ps=aB9 ps
 | [],_=>rfl
 | p::ps,h=>by
  simp only [dH,and_eq_true]at h;simp only [yR,aB9,aUV cons p h.1,aUW cons ps h.2]
end
theorem aCP (f n:Int)(s:cA)(ps:List Pat)(hl:ps.length<1000000)(ih:∀p∈ps,aJ PP 177 [Pat.av p] (.int .i64 (bnm p))) :
  ∀ (t:List Pat) (i:Nat) (a:Int),0≤a→a+yR t≤1000000→ps.drop i=t→Ends PP 0 (xO f n s ps a (i:Int)).as (.ret (.int .i64 (a+yR t))) (aA [] 0)
 | [],i,a,_,_,h=>by
  have:=bE h;exact Ends.eqv (aOq f n s ps a i sd) (by simp [yR])
 | .mk f' n' s' ps'::t,i,a,ha,hb,h=>by
  obtain⟨g1,g2,g3⟩ :=bB h;have ihp:=ih _ (mem_of_getElem? g1);have b1:=aE5 (.mk f' n' s' ps');have b2:=xP t;rw [yR]at hb ⊢;refine(aOp f n s ps a i f' n' s' ps' _ sd sd sd ihp sd sd).ends ?_;exact Ends.eqv (aCP f n s ps hl ih t (i+1) (a+bnm (.mk f' n' s' ps')) (by omega) (by omega) g2) (by rw [Int.add_assoc])
mutual
theorem aCQ :∀ (p:Pat),bW p<100000→aJ PP 177 [Pat.av p] (.int .i64 (bnm p))
 | .mk f n s ps,h=>by
  refine aF (by kernel_rfl) (by simp [keylessL,lV]) rfl ?_;simp only [bW]at h;have:=eP ps;have b:=xP ps;by_cases g:f=2
  · subst g;exact Ends.eqv (aOn 2 n s ps rfl) (by simp [bnm])
  · refine(aOo f n s ps (by simpa using g)).ends ?_;exact Ends.eqv (aCP f n s ps (by omega) (aE6 ps (by omega)) ps 0 0 (by omega) (by omega) rfl) (by simp [bnm,g])
theorem aE6 :∀ (ps:List Pat),bF ps<100000→∀p∈ps,aJ PP 177 [Pat.av p] (.int .i64 (bnm p))
 | [],_,p,hp=>by cases hp
 | q::ps,h,p,hp=>by
  simp only [bF]at h;rcases List.mem_cons.1 hp with e|hp
  ·rw [e];exact aCQ q (by omega)
  ·exact aE6 ps (by omega) p hp
end
theorem wE (f n:Int)(s:cA)(ps:List Pat)(hl:ps.length<1000000)(ih:∀p∈ps,aJ PP 163 [Pat.av p] (.int .i64 (rnm p))) :
  ∀ (t:List Pat) (i:Nat) (a:Int),0≤a→a+aB9 t≤1000000→ps.drop i=t→Ends PP 0 (rN f n s ps a (i:Int)).as (.ret (.int .i64 (a+aB9 t))) (aA [] 0)
 | [],i,a,_,_,h=>by
  have:=bE h;exact Ends.eqv (aOu f n s ps a i sd) (by simp [aB9])
 | .mk f' n' s' ps'::t,i,a,ha,hb,h=>by
  obtain⟨g1,g2,g3⟩ :=bB h;have ihp:=ih _ (mem_of_getElem? g1);have b1:=aUU (.mk f' n' s' ps');have b2:=aDr t;rw [aB9]at hb ⊢;refine(aOt f n s ps a i f' n' s' ps' _ sd sd sd ihp sd sd).ends ?_;exact Ends.eqv (wE f n s ps hl ih t (i+1) (a+rnm (.mk f' n' s' ps')) (by omega) (by omega) g2) (by rw [Int.add_assoc])
mutual
theorem wF :∀ (p:Pat),bW p<100000→aJ PP 163 [Pat.av p] (.int .i64 (rnm p))
 | .mk f n s ps,h=>by
  refine aF (by kernel_rfl) (by simp [keylessL,lV]) rfl ?_;simp only [bW]at h;have:=eP ps;have b:=aDr ps;by_cases g:f=2
  · subst g;refine(aOr 2 n s ps rfl).ends ?_;exact Ends.eqv (wE 2 n s ps (by omega) (aAg ps (by omega)) ps 0 1 (by omega) (by omega) rfl) (by simp [rnm])
  · refine(aOs f n s ps (by simpa using g)).ends ?_;exact Ends.eqv (wE f n s ps (by omega) (aAg ps (by omega)) ps 0 0 (by omega) (by omega) rfl) (by simp [rnm,g])
theorem aAg :∀ (ps:List Pat),bF ps<100000→∀p∈ps,aJ PP 163 [Pat.av p] (.int .i64 (rnm p))
 | [],_,p,hp=>by cases hp
 | q::ps,h,p,hp=>by
  simp only [bF]at h;rcases List.mem_cons.1 hp with e|hp
  ·rw [e];exact wF q (by omega)
  ·exact aAg ps (by omega) p hp
end
def cZ (x:Node)(k:Int) :Int:=
 if x.op=5∨x.op=27∨ (x.op=7∧k=1)then 1
 else if x.op=15∧k>0 then(match x.pats[(k-1).toNat]? with|some q=>bnm q|none=>0)else 0
structure FineN (cons:List Con) (x:Node) :Prop where
 pats:∀q∈x.pats,bW q≤12∧eG cons q=true
 mat:x.op=15→x.kids.length=1+x.pats.length
 let2:x.op=7→x.kids.length=2
theorem aPX {p:Prog}{x:Node}(h:bT p x=true) :FineN p.cons x:=by
 simp only [bT,and_eq_true,decide_eq_true_eq]at h;obtain⟨⟨_,h2⟩,h3⟩ :=h;refine⟨fun q hq=>?_,fun e=>?_,fun e=>?_⟩
 · have:=List.all_eq_true.1 h2 q hq;simpa [jS]using this
 ·rw [e]at h3;simp [cQ]at h3;omega
 ·rw [e]at h3;simp [cQ]at h3;omega
theorem aLC {cons:List Con}{x:Node}(hf:FineN cons x)(k:Int) :0≤cZ x k∧cZ x k≤12:=by
 unfold cZ;split
 ·omega
 · split
   · split
     · rename_i q hq;have:= (hf.pats q (mem_of_getElem? hq)).1;have:=aE5 q;omega
     ·omega
   ·omega
theorem aGU {x:Node}{k:Int}(h15:x.op=15)(hk:k>0){q:Pat}(hq:x.pats[(k-1).toNat]?=some q) :cZ x k=bnm q:=by
 unfold cZ;rw [if_neg (by rw [h15];omega),if_pos ⟨h15,hk⟩,hq]
theorem aOw {cons:List Con}{x:Node}(hf:FineN cons x){k:Int}(h0:0≤k)(h1:k<x.kids.length)(hk:x.kids.length≤10) :aJ PP 134 [Node.av x,.int .i64 k] (.int .i64 (cZ x k)) :=by
 refine aF (by kernel_rfl) rfl rfl ?_
 have mt:x.op=15→k>0→∃f n s ps,x.pats[(k-1).toNat]?=some (.mk f n s ps) ∧aJ PP 177 [Pat.av (.mk f n s ps)] (.int .i64 (bnm (.mk f n s ps))) :=fun e g=>by
  have hl:=hf.mat e;obtain⟨q,hq⟩ :∃q,x.pats[(k-1).toNat]?=some q:= ⟨_,getElem?_eq_getElem (by omega)⟩;obtain⟨f,n,s,ps⟩ :=q;have:= (hf.pats _ (mem_of_getElem? hq)).1;exact⟨f,n,s,ps,hq,aCQ _ (by omega)⟩
 by_cases g5:x.op=5
 ·exact Ends.eqv (aSj x k (by simp [g5])) (by simp [cZ,g5])
 · by_cases g27:x.op=27
   ·exact Ends.eqv (aSk x k (by simp [g5]) (by simp [g27])) (by simp [cZ,g27])
   · by_cases g7:x.op=7
     · by_cases gk:k=1
       ·exact Ends.eqv (aSl x k (by simp [g5]) (by simp [g27]) (by simp [g7]) (by simp [gk])) (by simp [cZ,g7,gk])
       ·exact Ends.eqv (aSm x k (by simp [g5]) (by simp [g27]) (by simp [g7]) (by simp [gk]) (by simp [g7])) (by simp [cZ,g7,gk])
     · by_cases g15:x.op=15
       · by_cases gk:k>0
         · obtain⟨f,n,s,ps,hq,hp⟩ :=mt g15 gk;exact Ends.eqv (aSn x k f n s ps _ (by simp [g5]) (by simp [g27]) (by simp [g7]) (by simp [g15]) (by simpa using gk) sd (by omega) hq hp) (by rw [aGU g15 gk hq])
         ·exact Ends.eqv (aSo x k (by simp [g5]) (by simp [g27]) (by simp [g7]) (by simp [g15]) (by simpa using gk)) (by simp [cZ,g15,gk])
       ·exact Ends.eqv (aSp x k (by simp [g5]) (by simp [g27]) (by simp [g7]) (by simp [g15])) (by simp [cZ,g5,g27,g7,g15])
theorem aOx {cons:List Con}{x:Node}(hf:FineN cons x){k:Int}(h0:0≤k)(h1:k<x.kids.length)(hk:x.kids.length≤10) :aJ PP 121 [Node.av x,.int .i64 k] (.int .i64 (cZ x k)) :=by
 refine aF (by kernel_rfl) rfl rfl ?_;by_cases g5:x.op=5
 ·exact Ends.eqv (aGP x k (by simp [g5])) (by simp [cZ,g5])
 · by_cases g27:x.op=27
   ·exact Ends.eqv (aGQ x k (by simp [g5]) (by simp [g27])) (by simp [cZ,g27])
   · by_cases g7:x.op=7
     · have:=hf.let2 g7;refine Ends.eqv (aB8 x k (by simp [g5]) (by simp [g27]) (by simp [g7])) ?_;by_cases gk:k=1
       ·simp [cZ,g7,gk]
       · have:k=0:=by omega
         simp [cZ,g7,this]
     · by_cases g15:x.op=15
       · by_cases gk:k>0
         · have hl:=hf.mat g15;obtain⟨q,hq⟩ :∃q,x.pats[(k-1).toNat]?=some q:= ⟨_,getElem?_eq_getElem (by omega)⟩;obtain⟨f,n,s,ps⟩ :=q;have hpo:=hf.pats _ (mem_of_getElem? hq);have hp:=wF (.mk f n s ps) (by omega);rw [←aUV cons _ hpo.2]at hp;exact Ends.eqv (aGR x k f n s ps _ (by simp [g5]) (by simp [g27]) (by simp [g7]) (by simp [g15]) (by simpa using gk) sd (by omega) hq hp) (by rw [aGU g15 gk hq])
         ·exact Ends.eqv (aGS x k (by simp [g5]) (by simp [g27]) (by simp [g7]) (by simp [g15]) (by simpa using gk)) (by simp [cZ,g15,gk])
       ·exact Ends.eqv (aGT x k (by simp [g5]) (by simp [g27]) (by simp [g7]) (by simp [g15])) (by simp [cZ,g5,g27,g7,g15])
abbrev bEY:=[oC 1 [(bV false)],oC 2 [(nI 0)],(3,(.loop .ready none 46 (cP [kp 1 7,kp 2 1,kp 3 2]) 32 [15] (kd f46 116) (kd f46 117) 4),false),(4,(.defd false),false),oC 5 [(.yield 3)]]
abbrev aZp (a:Nat)(b:Prog):=oC a [(iN b.nodes),(iI b.funs),(nI b.main),(iC b.cons)]
abbrev bEZ (a:Prog)(b c d:Int):=aA [oC 0 [(.func 133 [] [(.ptr 5 0),(.ptr 6 0),(.ptr 0 0)])],oC 1 [(bV false)],oC 2 [(nI 0)],(3,(.loop .done (some .ret) 46 (cP [kp 1 7,kp 2 1,kp 3 2]) 32 [15] (kd f46 116) (kd f46 117) 4),false),(4,(.defd false),false),oC 5 [(.yield 3)],aZp 6 a,aZp 7 a,oC 8 [(nI b),(nI c),(nI d)]] 9
abbrev aZq (a:Prog)(b c d:Int):=aA ([oC 0 [(.func 133 [] [(.ptr 5 0),(.ptr 6 0),(.ptr 0 0)])]]++bEY++[aZp 6 a,aZp 7 a,oC 8 [(nI b),(nI c),(nI d)]]) 9
abbrev aE7 (a:Nat):=oC a [(.func 133 [] [(.ptr 5 0),(.ptr 6 0),(.ptr 0 0)])]
abbrev pK (a:Nat)(b:Prog):=oC a [(iN b.nodes),(iI b.funs),(nI b.main),(iC b.cons)]
def bCg(a:Prog):TS:=bC PP 46 [(Prog.av a)] [] 0
def aID(a:Prog)(b:Int):TS:=⟨(tf 132 23 [kp 3 0,(9,(iI a.funs)),(10,(nI (a.funs.length:Int))),(11,(nI b))] [kc f132 124,kl f132 124,.inBlock 0]),[(tf 46 32 [kp 2 1,kp 3 2] [.inRF 3,.inBlock 0,kc f46 15] (defers:=[.col 4]))],[aE7 0,oC 1 [(bV false)],oC 2 [(nI 0)],(3,(.loop .ready none 46 (cP [kp 1 7,kp 2 1,kp 3 2]) 32 [15] (kd f46 116) (kd f46 117) 4),false),(4,(.defd false),false),oC 5 [(.yield 3)],pK 6 a,pK 7 a],8⟩
def bGg(a:Prog):List (Nat×AObj×Bool):=[aE7 0,oC 1 [(bV false)],oC 2 [(nI 0)],(3,(.loop .done (some .ret) 46 (cP [kp 1 7,kp 2 1,kp 3 2]) 32 [15] (kd f46 116) (kd f46 117) 4),false),(4,(.defd false),false),oC 5 [(.yield 3)],pK 6 a,pK 7 a]
def aE8(a:Prog)(b c d:Int):TS:=bC PP 133 [(.agg [(nI b),(nI c),(nI d)]),(.ptr 5 0),(.ptr 6 0),(.ptr 0 0)] [aE7 0,oC 1 [(bV false)],oC 2 [(nI 0)],(3,(.loop .ready none 46 (cP [kp 1 7,kp 2 1,kp 3 2]) 32 [15] (kd f46 116) (kd f46 117) 4),false),(4,(.defd false),false),oC 5 [(.yield 3)],pK 6 a,pK 7 a] 8
def aBb(a:Prog)(b c d:Int)(e:List Int)(f g:Int):TS:=⟨(tf 133 46 [kp 2 6,kp 3 0,kp 4 8,(5,(bV false)),(19,(iI e)),(20,(nI f)),(21,(nI g))] [kc f133 116,kl f133 116,.inBlock 0,kc f133 15]),[],([aE7 0]++bEY++[pK 6 a,pK 7 a,oC 8 [(nI b),(nI c),(nI d)]]),9⟩
def bE0(a:Prog):=tT 0 (bCg a)<|gpI 10 45 [(Prog.av a)]<|fun b=>.b 7 10 (b != 0) (gE 8 3 (.tup [(bV false),(nI b)]))<|.i [rn 23,.lkeep 5 [1,2,3]] []<|gl 18 bU a.funs<|.W 4 8 [7,1,2,5,4,6,3,0] (aID a 0)
def aZr:=fun a b c d=>bE0 a b c|>.t d tv
def aZs:=fun a b c d=>bE0 a b c|>.f d tv
def bDw(a:Prog)(b:Int):=tT 0 (aID a b)<|gd 5 12 (b< (a.funs.length:Int)) (gX bU 7 a.funs b<|fun c=>.o (gk 10 (.enter 133 [(.agg [(nI c),(nI b),(nI 1)]),(.ptr 5 0),(.ptr 6 0),(.ptr 0 0)]) [aE7 0,oC 1 [(bV false)],oC 2 [(nI 0)],(3,(.loop .ready none 46 (cP [kp 1 7,kp 2 1,kp 3 2]) 32 [15] (kd f46 116) (kd f46 117) 4),false),(4,(.defd false),false),oC 5 [(.yield 3)],pK 6 a,pK 7 a] 8 (bV false) [aE7 0,oC 1 [(bV false)],oC 2 [(nI 0)],(3,(.loop .done (some .ret) 46 (cP [kp 1 7,kp 2 1,kp 3 2]) 32 [15] (kd f46 116) (kd f46 117) 4),false),(4,(.defd false),false),oC 5 [(.yield 3)],pK 6 a,pK 7 a] 8<|gE 8 8 (.tup [(bV false),(nI 0)]))<|gk 10 (.enter 133 [(.agg [(nI c),(nI b),(nI 1)]),(.ptr 5 0),(.ptr 6 0),(.ptr 0 0)]) [aE7 0,oC 1 [(bV false)],oC 2 [(nI 0)],(3,(.loop .ready none 46 (cP [kp 1 7,kp 2 1,kp 3 2]) 32 [15] (kd f46 116) (kd f46 117) 4),false),(4,(.defd false),false),oC 5 [(.yield 3)],pK 6 a,pK 7 a] 8 (bV true) [aE7 0,oC 1 [(bV false)],oC 2 [(nI 0)],(3,(.loop .ready none 46 (cP [kp 1 7,kp 2 1,kp 3 2]) 32 [15] (kd f46 116) (kd f46 117) 4),false),(4,(.defd false),false),oC 5 [(.yield 3)],pK 6 a,pK 7 a] 8<|gw 7 22 (b+1)<|.W 3 8 [0,1,2,3,4,5,6,7] (aID a (b+1)))<|gE 13 8 (.tup [(bV true),(nI 0)])
def aZt:=fun a b c d e f g=>bDw a b|>.t d c e f|>.1 g tv
def aZu:=fun a b c d e f g i=>bDw a b|>.t d c e f|>.2 g i tv
def aZv:=fun a b c=>bDw a b|>.f c tv
def bDx(a:Prog)(c e d:Int):=tT 8 (aE8 a c e d)<|gX Node.av 23 a.nodes c<|fun b=>.b 10 25 (b.op==4) (gd 7 31 (b.n≥d) (.E 15 11 [] (bV false) [aE7 0,oC 1 [(bV false)],oC 2 [(nI 0)],(3,(.loop .done (some .ret) 46 (cP [kp 1 7,kp 2 1,kp 3 2]) 32 [15] (kd f46 116) (kd f46 117) 4),false),(4,(.defd false),false),oC 5 [(.yield 3)],pK 6 a,pK 7 a] 8)<|gi Node.av 16 a.nodes c b<|gl 2 bU b.kids<|.W 4 11 [8] (aBb a c e d b.kids (b.kids.length:Int) 0))<|gi Node.av 23 a.nodes c b<|gl 2 bU b.kids<|.W 4 11 [8] (aBb a c e d b.kids (b.kids.length:Int) 0)
def aUX:=fun a b c d e f g i j=>bDx a b c d e f g|>.t i|>.t j tv
def aUY:=fun c d e f g a b i j=>bDx c d e f g a b|>.t i|>.f j a b tv
def aUZ:=fun c d e f g a b i=>bDx c d e f g a b|>.f i a b tv
def bDy(a:Prog)(d b c:Int)(i:List Int)(j e:Int):=tT 8 (aBb a d b c i j e)<|gd 5 22 (e<j) (gX bU 7 i e<|fun k=>.o (.y fun f:Node=>.y fun g:Int=>.i [rn 5,.reg (rd 11 [.ans (.idx (Node.av f)),.d,.d,.pure (nI g),.d,.d,.call (bV false) (bEZ a d b c),.d])] [hA (0≤d),.a (((a.nodes)[d.toNat]?) =some f) (aZ (f:=Node.av)),hA (aJ PP 134 [(Node.av f),(nI e)] (nI g)),hA (Spec PP (.enter 133 [(.agg [(nI k),(nI b),(nI (IntKind.i64.wrap (c+g)))]),(.ptr 5 0),(.ptr 6 0),(.ptr 0 0)]) (aZq a d b c) (.ret (bV false)) (bEZ a d b c)),hr (nI c),hr (nI c),hr (nI b),hr (nI b),hr (func 133 [] [(.ptr 5 0),(.ptr 6 0),(.ptr 0 0)]),hr (func 133 [] [(.ptr 5 0),(.ptr 6 0),(.ptr 0 0)])]<|.E 6 9 [] (bV false) [aE7 0,oC 1 [(bV false)],oC 2 [(nI 0)],(3,(.loop .done (some .ret) 46 (cP [kp 1 7,kp 2 1,kp 3 2]) 32 [15] (kd f46 116) (kd f46 117) 4),false),(4,(.defd false),false),oC 5 [(.yield 3)],pK 6 a,pK 7 a] 8)<|.y fun f:Node=>.y fun g:Int=>.i [rn 5,.reg (rd 11 [.ans (.idx (Node.av f)),.d,.d,.pure (nI g),.d,.d,.call (bV true) (aZq a d b c),.d])] [hA (0≤d),.a (((a.nodes)[d.toNat]?) =some f) (aZ (f:=Node.av)),hA (aJ PP 134 [(Node.av f),(nI e)] (nI g)),hA (Spec PP (.enter 133 [(.agg [(nI k),(nI b),(nI (IntKind.i64.wrap (c+g)))]),(.ptr 5 0),(.ptr 6 0),(.ptr 0 0)]) (aZq a d b c) (.ret (bV true)) (aZq a d b c)),hr (nI c),hr (nI c),hr (nI b),hr (nI b),hr (func 133 [] [(.ptr 5 0),(.ptr 6 0),(.ptr 0 0)]),hr (func 133 [] [(.ptr 5 0),(.ptr 6 0),(.ptr 0 0)])]<|gw 5 45 (e+1)<|.W 3 9 [8] (aBb a d b c i j (e+1)))<|.E 7 9 [] (bV true) [aE7 0,oC 1 [(bV false)],oC 2 [(nI 0)],(3,(.loop .ready none 46 (cP [kp 1 7,kp 2 1,kp 3 2]) 32 [15] (kd f46 116) (kd f46 117) 4),false),(4,(.defd false),false),oC 5 [(.yield 3)],pK 6 a,pK 7 a] 8
def aU0:=fun a b c d e f g i j k l m n o p q r=>bDy a b c d e f g|>.t l i m n|>.1 j k o p q r tv
def aU1:=fun a b c d e f g i j k l m n o p q r s=>bDy a b c d e f g|>.t l i m n|>.2 j k o p q r s tv
def aU2:=fun a b c d e f g i=>bDy a b c d e f g|>.f i tv
structure FineP (p:Prog) :Prop where
 small:p.nodes.length≤320
 fsmall:p.funs.length≤320
 node:∀ (i:Nat) (x:Node),p.nodes[i]?=some x→FineN p.cons x∧x.kids.length≤10∧∀k∈x.kids,(i:Int) <k∧k<p.nodes.length
 funs:∀f∈p.funs,0≤f∧f<p.nodes.length
def bDz (a fn sz:Int) :AV:=.agg [.int .i64 a,.int .i64 fn,.int .i64 sz]
end
end Go.Hb
