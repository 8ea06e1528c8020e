/- A machine on abstract values, its soundness, ways, plain laws. -/
import Derived.Test.YtfaikcecgpcimaaGreatHF
import Derived.Test.YtfaikcecgpcimaaGreatHG
set_option linter.defProp false
set_option linter.unusedVariables false
set_option linter.unusedSimpArgs false
set_option linter.unusedSectionVars false
set_option maxRecDepth 100000
set_option maxHeartbeats 4000000
namespace Go.Hb
open AV (ilst int keyless keylessL)
open List (append_nil length length_append length_map length_set map mem_of_getElem? set)
open Pats (av)
open Go.Proofs Tryz
noncomputable section
abbrev aDD(a:Prog):Nat ×AObj×Bool:=oC 1 [(iN a.nodes),(iI a.funs),(nI a.main),(iC a.cons)]
abbrev aPV(a:Option Addr)(b c:Nat)(d:List Int):Nat×AObj×Bool:=(2,(.lstv (Value.slice a b c) 1 (jI d)),true)
def aUB(b:Prog)(a:List ONode)(c:Int)(d e:List Int):TS:=cI PP 133 [(.gl 0 4 0 a.length false),(Prog.av b),(nI c),(iI d),(iI e)] [oL 0 4 (map ONode.av a)] 1
def aAU(c:Prog)(a:List ONode)(l:Int)(d e:List Int)(f g:Int)(i:List Int)(j:List Pat)(k:Int)(b:List Pat):TS:=⟨(tf 133 104 [(0,(.gl 0 4 0 a.length false)),(3,(iI d)),(4,(iI e)),kp 6 1,(10,.nils),kp 11 2,(12,(nI (a.length:Int))),(13,(.gl 3 4 0 b.length false)),(14,(nI k))] [kc f133 2036,kl f133 2036,.inBlock 0,kc f133 255]),[],[oL 0 4 (map ONode.av a),aDD c,oC 2 [(nI f),(nI g),(iI i),(iP j)],oL 3 4 (av b)],4⟩
def aJk(b:Prog)(c:List ONode)(g:Int)(d e f:List Int)(a:List ONode):TS:=⟨(tf 133 104 [(0,(.gl 0 4 0 a.length false)),(3,(iI d)),(4,(iI e)),kp 6 1,(10,.nils),(12,(nI (c.length:Int))),(15,(iI f)),(16,(nI 0))] [kc f133 65524,kl f133 65524,.inBlock 2,kc f133 8191]),[],[oL 0 4 (map ONode.av a),aDD b],2⟩
def xK(d:Prog)(a:List ONode)(j:Int)(e f g:List Int)(b:List ONode)(c:List Int)(i:Int):TS:=⟨(tf 133 104 [(0,(.gl 0 4 0 b.length false)),(3,(iI e)),(4,(iI f)),kp 6 1,(10,.nils),(12,(nI (a.length:Int))),(15,(iI g)),(16,(nI i)),(91,(.gl 2 1 0 c.length false)),(93,(.ep 0 4 (0+ (a.length:Int).toNat) 2))] [ko f133 1048392 13,kc f133 1048393,.inBlock 3,kc f133 262099,kl f133 65524,.inBlock 2,kc f133 8191]),[],[oL 0 4 (map ONode.av b),aDD d,oL 2 1 (jI c)],3⟩
def aJl(f:Prog)(a:List ONode)(m:Int)(g i j:List Int)(b:List ONode)(k:List Int)(l:Int)(c:Option Addr)(d e:Nat):TS:=⟨(tf 133 104 [(0,(.gl 0 4 0 b.length false)),(3,(iI g)),(4,(iI i)),kp 6 1,(10,.nils),(12,(nI (a.length:Int))),(15,(iI j)),(16,(nI l)),(91,(.val (Value.slice c d e))),(93,(.ep 0 4 (0+ (a.length:Int).toNat) 2))] [ko f133 1048392 13,kc f133 1048393,.inBlock 3,kc f133 262099,kl f133 65524,.inBlock 2,kc f133 8191]),[],[oL 0 4 (map ONode.av b),aDD f,aPV c d e k],3⟩
def aJm(b:Prog)(c:List ONode)(k:Int)(d e f:List Int)(a:List ONode)(g:List Int)(i:Value)(j:Int):TS:=⟨(tf 133 104 [(0,(.gl 0 4 0 a.length false)),(3,(iI d)),(4,(iI e)),kp 6 1,(10,.nils),(12,(nI (c.length:Int))),(15,(iI f)),(16,(nI j))] [kc f133 65524,kl f133 65524,.inBlock 2,kc f133 8191]),[],[oL 0 4 (map ONode.av a),aDD b,(2,(.lstv i 1 (jI g)),true)],3⟩
def aXN(b:Prog)(f:List ONode)(c:Int)(d e:List Int):=tT 0 (aUB b f c d e)<|gX Node.av 10 b.nodes c<|fun a=>.b 17 27 (a.op==4) (gd 5 31 (a.n<0) (gw 6 35 ((-1:Int) -a.n)<|gX aP 0 d ((-1:Int) -a.n)<|fun g=>gw 2 38 ((-1:Int) -g)<|.b 10 42 (a.op==14) .x<|.i [rn 13,.nilL 13 4] []<|gu 0 3 (av ([] :List Pat))<|gs 0 13 (.gl 3 4 0 ([] :List Pat).length false)<|.W 0 4 [0,1,2,3] (aAU b f c d e a.op ((-1:Int) -g) a.kids a.pats 0 ([] :List Pat)))<|.b 9 42 (a.op==14) .x<|.i [rn 13,.nilL 13 4] []<|gu 0 3 (av ([] :List Pat))<|gs 0 13 (.gl 3 4 0 ([] :List Pat).length false)<|.W 0 4 [0,1,2,3] (aAU b f c d e a.op a.n a.kids a.pats 0 ([] :List Pat)))<|.b 14 42 (a.op==14) (gX aP 5 e a.n<|fun g=>.i [rn 15,.nilL 13 4] []<|gu 0 3 (av ([] :List Pat))<|gs 0 13 (.gl 3 4 0 ([] :List Pat).length false)<|.W 0 4 [0,1,2,3] (aAU b f c d e a.op g a.kids a.pats 0 ([] :List Pat)))<|.i [rn 13,.nilL 13 4] []<|gu 0 3 (av ([] :List Pat))<|gs 0 13 (.gl 3 4 0 ([] :List Pat).length false)<|.W 0 4 [0,1,2,3] (aAU b f c d e a.op a.n a.kids a.pats 0 ([] :List Pat))
def aXO:=fun a b c d e f g i j k l m n o p q=>aXN a b c d e f i j|>.t k|>.t l m g n o p|>.f q ⟨(aE _ (fun _=>aQ _) _),⟨eE,trivial⟩⟩
def aXP:=fun a b c d e f g i j k l=>aXN a b c d e f g i|>.t j|>.f k|>.f l ⟨(aE _ (fun _=>aQ _) _),⟨eE,trivial⟩⟩
def aXQ:=fun a b c d e f g i j k l m n=>aXN a b c d e f i j|>.f k|>.t l g m n ⟨(aE _ (fun _=>aQ _) _),⟨eE,trivial⟩⟩
def aXR:=fun a b c d e f g i j k=>aXN a b c d e f g i|>.f j|>.f k ⟨(aE _ (fun _=>aQ _) _),⟨eE,trivial⟩⟩
def bEa(i:Prog)(b:List ONode)(j:Int)(k e:List Int)(f g:Int)(l:List Int)(c:List Pat)(d:Int)(a:List Pat):=tT 0 (aAU i b j k e f g l c d a)<|gm 6 aK c<|gd 2 53 (d< (c.length:Int)) (aEZ 9 c d<|fun q r s t=>.y fun m:Int=>.y fun n:Int=>.y fun o:aB=>.y fun p:List Pat=>gp 2 198 [(.agg [(nI q),(nI r),(aA s),(iP t)]),(iI e)] (.agg [(nI m),(nI n),(aA o),(iP p)])<|gA 1 aK a [(Pat.mk m n o p)]<|gw 6 55 (d+1)<|.W 3 6 [0,1,2,5] (aAU i b j k e f g l c (d+1) (a++ [(Pat.mk m n o p)])))<|gZ 6 66 3 4 aK eE a false<|ga 18 ONode.av b [(ONode.mk f g KV.nil a)]<|.W 9 6 [5,1] (aJk i b j k e l (b++ [(ONode.mk f g KV.nil a)]))
def aXS:=fun a b c d e f g i j k l m n o p q r s t u v w x y z=>bEa a b c d e f g i j k l|>.t u m n o p v w q r s t x y z ⟨(aE _ (fun _=>aQ _) _),⟨eE,trivial⟩⟩
def aXT:=fun a b c d e f g i j k l m n=>bEa a b c d e f g i j k l|>.f m n ⟨(aE _ (fun _=>aQ _) _),trivial⟩
def bEb(e:Prog)(c:List ONode)(f:Int)(g i d:List Int)(b:List ONode):=tT 0 (aJk e c f g i d b)<|gl 5 aP d<|gd 2 78 (0< (d.length:Int)) (.i [rn 10,.ans (.ix)] [hA (0≤ (c.length:Int)),hA ((c.length:Int) < (b.length:Int))]<|.y fun a:ONode=>gj ONode.av 1 b ((c.length:Int).toNat) a<|.i [.set 87 .nils] [.a (a.kv=KV.nil) (congrArg KV.av)]<|.i [rn 3,.nilL 87 1] []<|gu 0 3 (jI ([] :List Int))<|gs 0 87 (.gl 3 1 0 ([] :List Int).length false)<|ga 0 aP ([] :List Int) [(b.length:Int)]<|.i [.ans (.ix)] [hA (0≤ (c.length:Int)),hA ((c.length:Int) < (b.length:Int))]<|.W 1 5 [0,1,4] (xK e c f g i d b (([] :List Int) ++ [(b.length:Int)]) 0))<|.y fun a:ONode=>.i [rn 8,.lw 0 (map ONode.av (set b c.length (ONode.mk a.op a.n (KV.row []) a.pats)))] [.a (b[c.length]?=some a) (p':=(map ONode.av b) ≠ []) aIW,.a (b[c.length]?=some a∧a.kv=KV.nil) (p':=VW (map ONode.av b) (map ONode.av (set b c.length (ONode.mk a.op a.n (KV.row []) a.pats)))) fun⟨ha,hb⟩=>(aTs ha hb)]<|.i [.set 0 (.gl 0 4 0 (set b c.length (ONode.mk a.op a.n (KV.row []) a.pats)).length false)] [.q (p:=(AV.gl 0 4 0 b.length false) = (.gl 0 4 0 (set b c.length (ONode.mk a.op a.n (KV.row []) a.pats)).length false)) (cB (length_set ..).symm)]<|.i [.set 10 (.gl 0 4 0 (set b c.length (ONode.mk a.op a.n (KV.row []) a.pats)).length false)] [.q (p:=(AV.gl 0 4 0 b.length false) = (.gl 0 4 0 (set b c.length (ONode.mk a.op a.n (KV.row []) a.pats)).length false)) (cB (length_set ..).symm)]<|.i [.set 103 (.gl 0 4 0 (set b c.length (ONode.mk a.op a.n (KV.row []) a.pats)).length false)] [.q (p:=(AV.gl 0 4 0 b.length false) = (.gl 0 4 0 (set b c.length (ONode.mk a.op a.n (KV.row []) a.pats)).length false)) (cB (length_set ..).symm)]<|.E 0 2 [0] (.gl 0 4 0 (set b c.length (ONode.mk a.op a.n (KV.row []) a.pats)).length false) [oL 0 4 (map ONode.av (set b c.length (ONode.mk a.op a.n (KV.row []) a.pats)))] 1
def aXU:=fun c d e f g i j k l a b m n o=>bEb c d e f g i j|>.t l a b k m n o a b ⟨(aE _ (fun _=>aQ _) _),⟨kk,trivial⟩⟩
def aXV:=fun b c d e f g i j k a l=>bEb b c d e f g i|>.f k j a ⟨a,l⟩ ⟨(aE _ (fun _=>aQ _) _),trivial⟩
def aXW (i:Prog)(e:List ONode)(p:Int)(m n o:List Int)(f:List ONode)(j:List Int)(k:Int)(b:Option Addr)(c d:Nat):=fun a l g q r s t u=>(tT 0 (aJl i e p m n o f j k b c d)<|.y fun a:ONode=>.i [.st (ONode.av a) (ONode.av (ONode.mk a.op a.n (KV.val (Value.slice b c d)) a.pats))] [.a (((f)[(e.length:Int).toNat]?) =some a) (iL (f:=ONode.av)),hr (some (ONode.av (ONode.mk a.op a.n (KV.val (Value.slice b c d)) a.pats)))]<|.i [.lset 0 (map ONode.av (set f ((e.length:Int).toNat) (ONode.mk a.op a.n (KV.val (Value.slice b c d)) a.pats)))] [.q (p:=(map ONode.av f).set (0+ (e.length:Int).toNat) (ONode.av (ONode.mk a.op a.n (KV.val (Value.slice b c d)) a.pats)) = (map ONode.av (set f ((e.length:Int).toNat) (ONode.mk a.op a.n (KV.val (Value.slice b c d)) a.pats)))) (mV _ _ _ _)]<|.i [.set 0 (.gl 0 4 0 (set f ((e.length:Int).toNat) (ONode.mk a.op a.n (KV.val (Value.slice b c d)) a.pats)).length false)] [.q (p:=(AV.gl 0 4 0 f.length false) = (.gl 0 4 0 (set f ((e.length:Int).toNat) (ONode.mk a.op a.n (KV.val (Value.slice b c d)) a.pats)).length false)) (cB (length_set ..).symm)]<|.y fun l:Int=>.y fun g:List Node=>.i [rn 1,.reg (rd 4 (.ans (.idx (aP l))::rd 3 [.call (.gl 3 4 0 ((set f ((e.length:Int).toNat) (ONode.mk a.op a.n (KV.val (Value.slice b c d)) a.pats)) ++map Node.o g).length false) (aD [aDD i,aPV b c d j,oL 3 4 (map ONode.av ((set f ((e.length:Int).toNat) (ONode.mk a.op a.n (KV.val (Value.slice b c d)) a.pats)) ++map Node.o g))] 4),.d]))] [hA (0≤k),.a (((o)[k.toNat]?) =some l) (bF (f:=aP)),hA (Spec PP (.enter 133 [(.gl 0 4 0 (set f ((e.length:Int).toNat) (ONode.mk a.op a.n (KV.val (Value.slice b c d)) a.pats)).length false),(Prog.av i),(nI l),(iI m),(iI n)]) (aD [oL 0 4 (map ONode.av (set f ((e.length:Int).toNat) (ONode.mk a.op a.n (KV.val (Value.slice b c d)) a.pats))),aDD i,aPV b c d j] 3) (.ret (.gl 3 4 0 ((set f ((e.length:Int).toNat) (ONode.mk a.op a.n (KV.val (Value.slice b c d)) a.pats)) ++map Node.o g).length false)) (aD [aDD i,aPV b c d j,oL 3 4 (map ONode.av ((set f ((e.length:Int).toNat) (ONode.mk a.op a.n (KV.val (Value.slice b c d)) a.pats)) ++map Node.o g))] 4))]<|gw 4 80 (k+1)<|.W 3 4 [3,1,2] (aJm i e p m n o ((set f ((e.length:Int).toNat) (ONode.mk a.op a.n (KV.val (Value.slice b c d)) a.pats)) ++map Node.o g) j (Value.slice b c d) (k+1))) a q l g r s t u ⟨(aE _ (fun _=>aQ _) _),⟨kk,trivial⟩⟩
def bEc(i:Prog)(c:List ONode)(j:Int)(k l f:List Int)(b:List ONode)(d:List Int)(e:Value)(g:Int):=tT 0 (aJm i c j k l f b d e g)<|gl 5 aP f<|gd 2 78 (g< (f.length:Int)) (.i [rn 10,.ans (.ix)] [hA (0≤ (c.length:Int)),hA ((c.length:Int) < (b.length:Int))]<|.y fun a:ONode=>gj ONode.av 1 b ((c.length:Int).toNat) a<|.i [.set 87 (.val e)] [.a (a.kv=KV.val e) (congrArg KV.av)]<|.i [.unname 87 2] [hr e]<|.i [.set 87 (.gl 2 1 0 d.length false)] [.q (p:=(AV.gl 2 1 0 (jI d).length false) = (.gl 2 1 0 d.length false)) (cB (length_map ..))]<|ga 3 aP d [(b.length:Int)]<|.i [.ans (.ix)] [hA (0≤ (c.length:Int)),hA ((c.length:Int) < (b.length:Int))]<|.W 1 5 [0,1,4] (xK i c j k l f b (d++ [(b.length:Int)]) g))<|.y fun a:ONode=>.i [rn 8,.vfrz 2 0 (map ONode.av (set b c.length (ONode.mk a.op a.n (KV.row d) a.pats)))] [.a (b[c.length]?=some a) (p':=(map ONode.av b) ≠ []) aIW,hk aP d,.a (b[c.length]?=some a∧a.kv=KV.val e) (p':=VQ e 1 (jI d) (map ONode.av b) (map ONode.av (set b c.length (ONode.mk a.op a.n (KV.row d) a.pats)))) fun⟨ha,hb⟩=>(aTt ha hb)]<|.i [.set 0 (.gl 0 4 0 (set b c.length (ONode.mk a.op a.n (KV.row d) a.pats)).length false)] [.q (p:=(AV.gl 0 4 0 b.length false) = (.gl 0 4 0 (set b c.length (ONode.mk a.op a.n (KV.row d) a.pats)).length false)) (cB (length_set ..).symm)]<|.i [.set 10 (.gl 0 4 0 (set b c.length (ONode.mk a.op a.n (KV.row d) a.pats)).length false)] [.q (p:=(AV.gl 0 4 0 b.length false) = (.gl 0 4 0 (set b c.length (ONode.mk a.op a.n (KV.row d) a.pats)).length false)) (cB (length_set ..).symm)]<|.i [.set 103 (.gl 0 4 0 (set b c.length (ONode.mk a.op a.n (KV.row d) a.pats)).length false)] [.q (p:=(AV.gl 0 4 0 b.length false) = (.gl 0 4 0 (set b c.length (ONode.mk a.op a.n (KV.row d) a.pats)).length false)) (cB (length_set ..).symm)]<|.E 0 3 [0] (.gl 0 4 0 (set b c.length (ONode.mk a.op a.n (KV.row d) a.pats)).length false) [oL 0 4 (map ONode.av (set b c.length (ONode.mk a.op a.n (KV.row d) a.pats)))] 1
def aXX:=fun c d e f g i j k l m n o a b p q r=>bEc c d e f g i j k l m|>.t o a b n p q r a b ⟨(aE _ (fun _=>aQ _) _),⟨kk,trivial⟩⟩
def aXY:=fun b c d e f g i j k l m n a o=>bEc b c d e f g i j k l|>.f n m a ⟨a,o⟩ ⟨(aE _ (fun _=>aQ _) _),trivial⟩
def aBQ(b i:Int)(c:aB)(d:List Pat)(e:List Int)(f g:Int)(a:List Pat):TS:=⟨(tf 198 36 [(1,(iI e)),kp 2 0,kp 4 1,(5,(.gl 2 4 0 a.length false)),(6,(nI g))] [kc f198 244,kl f198 244,.inBlock 0,kc f198 31]),[],[oC 0 [(nI b),(nI f),(aA c),(iP d)],oC 1 [(nI 0),(nI 0),(.str 0 0),.nils],oL 2 4 (av a)],3⟩
def aEb(b c d:Int)(a:List Int):TS:=⟨(tf 134 19 [(0,(nI b)),(1,(nI c)),(4,.nils),(5,(.gl 0 1 0 a.length false)),(6,(nI d))] [kc f134 116,kl f134 116,.inBlock 0,kc f134 15]),[],[oL 0 1 (jI a)],1⟩
def bEd(b a:Int)(d:aB)(e:List Pat)(c:List Int):=tT 0 (start PP 198 [(.agg [(nI b),(nI a),(aA d),(iP e)]),(iI c)])<|.b 12 9 (b==6) (gX aP 5 c a<|fun f=>.i [rn 15,.nilL 5 4] []<|gu 0 2 (av ([] :List Pat))<|gs 0 5 (.gl 2 4 0 ([] :List Pat).length false)<|.W 0 3 [0,1,2] (aBQ b a d e c f 0 ([] :List Pat)))<|.i [rn 13,.nilL 5 4] []<|gu 0 2 (av ([] :List Pat))<|gs 0 5 (.gl 2 4 0 ([] :List Pat).length false)<|.W 0 3 [0,1,2] (aBQ b a d e c a 0 ([] :List Pat))
def aUC:=fun a b c d e f g i j=>bEd a b c d e|>.t g f i j ⟨eE,trivial⟩
def aUD:=fun a b c d e f=>bEd a b c d e|>.f f ⟨eE,trivial⟩
def bEe(d m:Int)(e:aB)(a:List Pat)(f:List Int)(g b:Int)(c:List Pat):=tT 0 (aBQ d m e a f g b c)<|gm 6 aK a<|gd 2 20 (b< (a.length:Int)) (aEZ 9 a b<|fun n o p q=>.y fun i:Int=>.y fun j:Int=>.y fun k:aB=>.y fun l:List Pat=>gp 2 198 [(.agg [(nI n),(nI o),(aA p),(iP q)]),(iI f)] (.agg [(nI i),(nI j),(aA k),(iP l)])<|gA 1 aK c [(Pat.mk i j k l)]<|gw 6 22 (b+1)<|.W 3 5 [0,1,4] (aBQ d m e a f g (b+1) (c++ [(Pat.mk i j k l)])))<|gZ 6 33 2 4 aK eE c false<|gE 8 3 (.agg [(nI d),(nI g),(aA e),(iP c)])
def aUE:=fun a b c d e f g i j k l m n o p q r s t u v w=>bEe a b c d e f g i|>.t r j k l m s t n o p q u v w ⟨eE,trivial⟩
def aUF:=fun a b c d e f g i j=>bEe a b c d e f g i|>.f j tv
def aUG (a b:Int):=(tT 0 (start PP 134 [(nI a),(nI b)])<|.i [rn 15,.nilL 5 1] []<|gu 0 0 (jI ([] :List Int))<|gs 0 5 (.gl 0 1 0 ([] :List Int).length false)<|.W 0 1 [0] (aEb a b 0 ([] :List Int))) ⟨kk,trivial⟩
def bEf(b d a:Int)(c:List Int):=tT 0 (aEb b d a c)<|gd 7 9 (a<d) (gw 9 15 (b+a)<|ga 1 aP c [(b+a)]<|gw 6 11 (a+1)<|.W 3 3 [2] (aEb b d (a+1) (c++ [(b+a)])))<|gz 8 4 0 1 aP c false<|gE 0 1 (iI c)
def aUH:=fun a b c d e f g i=>bEf a b c d|>.t e f g i ⟨kk,trivial⟩
def aUI:=fun a b c d e=>bEf a b c d|>.f e tv
def aFm (cons:List Int)(f n:Int) :Option Int:=if f=6 then(if 0≤n then cons[n.toNat]? else none)else some n
mutual
def aFn (cons:List Int) :Pat→Option Pat
 | .mk f n t ps=>match aFm cons f n with
  | some n'=>match lE cons ps with
   |some ps'=>some (.mk f n' t ps')
   |none=>none
  |none=>none
def lE (cons:List Int) :List Pat→Option (List Pat)
 | [] =>some []
 | p::ps=>match aFn cons p with
  | some p'=>match lE cons ps with
   |some ps'=>some (p'::ps')
   |none=>none
  |none=>none
end
theorem aHh (f n:Int)(s:aB)(ps:List Pat)(cons:List Int)(n':Int)(hl:ps.length<1000000)(ih:∀p∈ps,∀p',aFn cons p=some p'→Pure PP 198 [Pat.av p,.ilst 1 (map aP cons) false] (Pat.av p')) :
  ∀ (t:List Pat) (i:Nat) (acc t':List Pat),ps.drop i=t→acc.length=i→lE cons t=some t'→Ends PP 0 (aBQ f n s ps cons n' (i:Int) acc).as (.ret (Pat.av (.mk f n' s (acc++t')))) (aD [] 0)
 | [],i,acc,t',h,ha,ht=>by
  have:=bA h;cases ht;rw [append_nil];exact aUF f n s ps cons n' i acc sd
 | .mk f1 n1 s1 ps1::t,i,acc,t',h,ha,ht=>by
  obtain⟨g1,g2,g3⟩ :=aY h;simp only [lE]at ht;split at ht
  · rename_i p' hp';split at ht
    · rename_i t1 ht1;cases ht;obtain⟨f2,n2,s2,ps2⟩ :=p';refine(aUE f n s ps cons n' i acc f1 n1 s1 ps1 f2 n2 s2 ps2 sd sd sd (ih (.mk f1 n1 s1 ps1) (mem_of_getElem? g1) _ hp') (by simp;omega) sd).ends ?_;have:=aHh f n s ps cons n' hl ih t (i+1) (acc++ [.mk f2 n2 s2 ps2]) t1 g2 (by simp [ha]) ht1;rw [List.append_assoc]at this;exact this
    ·cases ht
  ·cases ht
mutual
theorem aRU (cons:List Int) :∀ (p:Pat),cU p<1000000→∀p',aFn cons p=some p'→Pure PP 198 [Pat.av p,.ilst 1 (map aP cons) false] (Pat.av p')
 | .mk f n s ps,h,p',hp'=>by
  refine aU (by kernel_rfl) (by simp [keylessL,pD,keyless]) (pD _) ?_;simp only [cU]at h;have:=gC ps;simp only [aFn]at hp';split at hp'
  · rename_i n' hn';split at hp'
    · rename_i ps' hps';cases hp';have hloop:=aHh f n s ps cons n' (by omega) (aFo cons ps (by omega)) ps 0 [] ps' rfl rfl hps';unfold aFm at hn';split at hn'
      · rename_i hf;split at hn'
        · rename_i h0;exact(aUC f n s ps cons n' (by simp [hf]) h0 hn').ends hloop
        ·cases hn'
      · rename_i hf;cases hn';exact(aUD f n s ps cons (by simp [hf])).ends hloop
    ·cases hp'
  ·cases hp'
theorem aFo (cons:List Int) :∀ (ps:List Pat),bE ps<1000000→∀p∈ps,∀p',aFn cons p=some p'→Pure PP 198 [Pat.av p,.ilst 1 (map aP cons) false] (Pat.av p')
 | [],_,p,hp=>by cases hp
 | q::ps,h,p,hp=>by
  simp only [bE]at h;rcases List.mem_cons.1 hp with e|hp
  ·rw [e];exact aRU cons q (by omega)
  ·exact aFo cons ps (by omega) p hp
end
def mN (funs cons:List Int)(op n:Int) :Option Int:=
 if op=4∧n<0 then
  match funs[(-1-n).toNat]? with
  |some g=>if -1000000000≤n∧ -1000000000≤g∧g≤1000000000 then some (-1-g)else none
  |none=>none
 else if op=14 then(if 0≤n then cons[n.toNat]? else none)else some n
def iR (f:Nat→Int→Option (List Node)) :Nat→List Int→Option (List Int×List Node)
 |_,[] =>some ([],[])
 | len,c::cs=>match f len c with
  | some ns=>match iR f (len+ns.length) cs with
   |some (ks,r) =>some ((len:Int) ::ks,ns++r)
   |none=>none
  |none=>none
def cN (p:Prog)(funs cons:List Int) :Nat→Nat→Int→Option (List Node)
 |0,_,_=>none
 | k+1, len,at0=>if 0≤at0∧len<1000000 then
   match p.nodes[at0.toNat]? with
   | some y=>if y.kids.length<1000000∧bE y.pats<1000000 then
     match mN funs cons y.op y.n with
     | some n'=>match lE cons y.pats with
      | some ps'=>match iR (cN p funs cons k) (len+1) y.kids with
       |some (ks,r) =>some (⟨y.op,n',ks,ps'⟩ ::r)
       |none=>none
      |none=>none
     |none=>none
    else none
   |none=>none
  else none
abbrev PA (p:Prog) :AV:=.agg [(.ilst 4 (map Node.av p.nodes) false),(.ilst 1 (map aP p.funs) false),(.int .i64 p.main),(.ilst 2 (map Con.av p.cons) false)]
abbrev aDE (p:Prog) :AObj:=.cells (putCells .leaf 0 [(.ilst 4 (map Node.av p.nodes) false),(.ilst 1 (map aP p.funs) false),(.int .i64 p.main),(.ilst 2 (map Con.av p.cons) false)]) 4 [] false
abbrev OL (L:List ONode) :AObj:=.lst 4 (map ONode.av L)
abbrev EndsL (s:TS)(L:List ONode) :Prop:=Ends PP 0 s.as (.ret (.gl 0 4 0 (length L) false)) (aD [(0,OL L,true)] 1)
def aBR (p:Prog)(funs cons:List Int)(c:Int)(L:List ONode)(ns:List Node) :Prop:=
 aAo PP (.enter 133 [.gl 0 4 0 (length L) false,PA p,.int .i64 c,.ilst 1 (map aP funs) false,.ilst 1 (map aP cons) false]) (aD [(0,OL L,true)] 1)
  (.ret (.gl 0 4 0 (length (L++map Node.o ns)) false)) (aD [(0,OL (L++map Node.o ns),true)] 1)
theorem qJ (L:List ONode) : (OL L).kl:=aE _ (fun _=>aQ _) _
theorem aUJ {p:Prog}{funs cons:List Int}{c:Int}{L:List ONode}{ns:List Node}(h:aBR p funs cons c L ns)(u:Value)(l2:List Int) :
  Spec PP (.enter 133 [.gl 0 4 0 (length L) false,PA p,.int .i64 c,.ilst 1 (map aP funs) false,.ilst 1 (map aP cons) false])
   (aD [(0,OL L,true),(1,aDE p,false),(2,.lstv u 1 (map aP l2),true)] 3)
   (.ret (.gl 3 4 0 (length (L++map Node.o ns)) false))
   (aD [(1,aDE p,false),(2,.lstv u 1 (map aP l2),true),(3,OL (L++map Node.o ns),true)] 4) :=
 Eq.mp (by kernel_rfl) (xB (ks:=[0]) (n2:=3) (lc:=[(0,OL L,true),(1,aDE p,false),(2,.lstv u 1 (map aP l2),true)])
  (x:=[(1,aDE p,false),(2,.lstv u 1 (map aP l2),true)])
  (args':=[.gl 0 4 0 (length L) false,PA p,.int .i64 c,.ilst 1 (map aP funs) false,.ilst 1 (map aP cons) false])
  h (by kernel_rfl) (by kernel_rfl) (by kernel_rfl) ⟨qJ L,trivial⟩ (by kernel_rfl) (by kernel_rfl) (by kernel_rfl) (by kernel_rfl) ⟨qJ _,trivial⟩ (by kernel_rfl))
theorem aRV (p:Prog)(l:List ONode)(at0:Int)(funs cons c2_2:List Int)(vl0:List ONode)(l2:List Int)(i16:Int)(ua:Option Addr)(un uc:Nat) :
  (⟨{(xK p l at0 funs cons c2_2 vl0 l2 i16).as.fr with tm:= (xK p l at0 funs cons c2_2 vl0 l2 i16).as.fr.tm.put 91 (.val (.slice ua un uc))},(xK p l at0 funs cons c2_2 vl0 l2 i16).as.cs,(xK p l at0 funs cons c2_2 vl0 l2 i16).as.h.set 2 (.lstv (.slice ua un uc) 1 (map aP l2))⟩ :AS) = (aJl p l at0 funs cons c2_2 vl0 l2 i16 ua un uc).as:=by kernel_rfl
theorem aUK {p:Prog}{l:List ONode}{at0:Int}{funs cons c2_2:List Int}{vl0:List ONode}{l2:List Int}{i16:Int}{L:List ONode}(h0:0<l2.length)
  (hk:∀ua un uc,EndsL (aJl p l at0 funs cons c2_2 vl0 l2 i16 ua un uc) L) :EndsL (xK p l at0 funs cons c2_2 vl0 l2 i16) L:=by
 refine aQJ (j:=91) (b:=2) (e:=1) (n:=length l2) (ex:=false) (xs:=map aP l2) (by kernel_rfl) (by kernel_rfl) (length_map ..) h0 (fun ua un uc=>?_);have:=hk ua un uc;unfold EndsL at this;rw [←aRV]at this;exact this
theorem aJn (l:List ONode)(y:ONode)(r:List ONode) : (l++y::r)[((length l:Nat) :Int).toNat]?=some y:=by simp
theorem rN (l:List ONode)(y:ONode)(r:List ONode) : (l++y::r)[length l]?=some y:=by simp
theorem aPW (l:List ONode)(y z:ONode)(r:List ONode) :set (l++y::r) (((length l:Nat) :Int).toNat) z=l++z::r:=by simp
theorem rO (l:List ONode)(y z:ONode)(r:List ONode) :set (l++y::r) (length l) z=l++z::r:=by simp
theorem EndsL.of {s:TS}{L L':List ONode}(h:EndsL s L)(e:L=L') :EndsL s L':=e ▸ h
section
variable (p :Prog) (funs cons:List Int) (k:Nat) (ih:∀ (L:List ONode) (c:Int) (ns:List Node),cN p funs cons k L.length c=some ns→aBR p funs cons c L ns)
 (l:List ONode) (at0 op n':Int) (ps':List Pat) (kids:List Int) (hkids:kids.length<1000000)
include ih hkids
theorem aPX (c:Int)(i:Nat)(kv:KV)(r0:List Node)(l2:List Int)(ns:List Node)(L:List ONode)(hc:kids[i]?=some c)(h0:0<l2.length)(hns:cN p funs cons k (l++ ⟨op,n',kv,ps'⟩ ::map Node.o r0).length c=some ns)
  (hk:∀u,EndsL (aJm p l at0 funs cons kids (l++ ⟨op,n',.val u,ps'⟩ ::map Node.o (r0++ns)) l2 u ((i+1:Nat) :Int)) L) :
  EndsL (xK p l at0 funs cons kids (l++ ⟨op,n',kv,ps'⟩ ::map Node.o r0) l2 (i:Int)) L:=by
 have hi:= (List.getElem?_eq_some_iff.1 hc).1;refine aUK h0 (fun ua un uc=>?_);have hs:=ih (l++ ⟨op,n',.val (.slice ua un uc),ps'⟩ ::map Node.o r0) c ns (by rw [←hns];simp);have hcall:=aUJ hs (.slice ua un uc) l2;have h1:=aXW p l at0 funs cons kids (l++ ⟨op,n',kv,ps'⟩ ::map Node.o r0) l2 i ua un uc ⟨op,n',kv,ps'⟩ c ns (aJn ..) sd (by simpa using hc) (by rw [aPW];exact hcall) sd;rw [aPW]at h1;refine h1.ends ?_;have:=hk (.slice ua un uc);rw [List.map_append]at this;rw [show(l++ ⟨op,n',.val (.slice ua un uc),ps'⟩ ::map Node.o r0) ++map Node.o ns=l++ ⟨op,n',.val (.slice ua un uc),ps'⟩ :: (map Node.o r0++map Node.o ns)by simp];exact this
theorem aLU :∀ (cs:List Int) (i:Nat) (u:Value) (r0:List Node) (ks0 ks:List Int) (r:List Node),kids.drop i=cs→ks0.length=i→0<i →
  iR (cN p funs cons k) (l.length+1+r0.length) cs=some (ks,r) →
  EndsL (aJm p l at0 funs cons kids (l++ ⟨op,n',.val u,ps'⟩ ::map Node.o r0) ks0 u (i:Int)) (l++map Node.o (⟨op,n',ks0++ks,ps'⟩ :: (r0++r)))
 | [],i,u,r0,ks0,ks,r,h,hl,hi,hm=>by
  have:=bA h;cases hm;have h1:=aXY p l at0 funs cons kids (l++ ⟨op,n',.val u,ps'⟩ ::map Node.o r0) ks0 u i ⟨op,n',.val u,ps'⟩ sd (rN ..) rfl;rw [rO]at h1;rw [append_nil,append_nil];exact h1
 | c ::cs,i,u,r0,ks0,ks,r,h,hl,hi,hm=>by
  obtain⟨g1,g2,g3⟩ :=aY h;simp only [iR]at hm;split at hm
  · rename_i ns hns;split at hm
    · rename_i ks1 r1 hm1;cases hm;have hlen: (l++ (⟨op,n',.val u,ps'⟩ :ONode) ::map Node.o r0).length=l.length+1+r0.length:=by simp;omega
      refine(aXX p l at0 funs cons kids (l++ ⟨op,n',.val u,ps'⟩ ::map Node.o r0) ks0 u i ⟨op,n',.val u,ps'⟩ sd (by omega) (by rw [hlen];omega) (aJn ..) rfl (by simp;omega)).ends ?_;refine aPX p funs cons k ih l at0 op n' ps' kids hkids c i (.val u) r0 _ ns _ g1 (by simp) (by rw [hlen];exact hns) (fun u'=>?_);have:=aLU cs (i+1) u' (r0++ns) (ks0++ [((l.length+1+r0.length:Nat) :Int)]) ks1 r1 g2 (by simp [hl]) (by omega) (by rw [length_append,←Nat.add_assoc];exact hm1);rw [hlen];exact this.of (by simp)
    ·cases hm
  ·cases hm
theorem aUL (ks:List Int)(r:List Node)(hm:iR (cN p funs cons k) (l.length+1) kids=some (ks,r)) :
  EndsL (aJk p l at0 funs cons kids (l++ [⟨op,n',.nil,ps'⟩])) (l++map Node.o (⟨op,n',ks,ps'⟩ ::r)) :=by
 cases kids with
 | nil=>
  cases hm;have h1:=aXV p l at0 funs cons [] (l++ [⟨op,n',.nil,ps'⟩]) ⟨op,n',.nil,ps'⟩ sd (rN ..) rfl;rw [rO]at h1;exact h1
 | cons c cs=>
  simp only [iR]at hm;split at hm
  · rename_i ns hns;split at hm
    · rename_i ks1 r1 hm1;cases hm;have hlen: (l++ [(⟨op,n',.nil,ps'⟩ :ONode)]).length=l.length+1:=by simp
      refine(aXU p l at0 funs cons (c::cs) (l++ [⟨op,n',.nil,ps'⟩]) ⟨op,n',.nil,ps'⟩ (by simp<;>omega) (by omega) (by rw [hlen];omega) (aJn ..) rfl (by simp)).ends ?_;refine aPX p funs cons k ih l at0 op n' ps' (c::cs) hkids c 0 .nil [] _ ns _ rfl (by simp) (by simpa using hns) (fun u'=>?_);have:=aLU p funs cons k ih l at0 op n' ps' (c::cs) hkids cs 1 u' ns [((l.length+1:Nat) :Int)] ks1 r1 rfl rfl (by omega) hm1;rw [hlen];exact this.of (by simp)
    ·cases hm
  ·cases hm
end
theorem aLV (p:Prog)(funs cons:List Int)(l:List ONode)(at0 op n':Int)(kids:List Int)(ps:List Pat)(hps:bE ps<1000000)(hl:l.length<1000000)(L:List ONode) :∀ (t:List Pat) (i:Nat) (acc t':List Pat),ps.drop i=t→acc.length=i→lE cons t=some t' →
  EndsL (aJk p l at0 funs cons kids (l++ [⟨op,n',.nil,acc++t'⟩])) L→EndsL (aAU p l at0 funs cons op n' kids ps (i:Int) acc) L
 | [],i,acc,t',h,ha,ht,hk=>by
  have:=bA h;cases ht;rw [append_nil]at hk;exact(aXT p l at0 funs cons op n' kids ps i acc sd (by simp;omega)).ends hk
 | .mk f1 n1 s1 ps1::t,i,acc,t',h,ha,ht,hk=>by
  obtain⟨g1,g2,g3⟩ :=aY h;have:=gC ps;simp only [lE]at ht;split at ht
  · rename_i p' hp';split at ht
    · rename_i t1 ht1;cases ht;obtain⟨f2,n2,s2,ps2⟩ :=p';rw [show acc++ .mk f2 n2 s2 ps2::t1= (acc++ [.mk f2 n2 s2 ps2]) ++t1 by simp]at hk;have h2:=aLV p funs cons l at0 op n' kids ps hps hl L t (i+1) (acc++ [.mk f2 n2 s2 ps2]) t1 g2 (by simp [ha]) ht1 (by exact hk);have h1:=aXS p l at0 funs cons op n' kids ps i acc f1 n1 s1 ps1 f2 n2 s2 ps2 sd sd sd (aFo cons ps hps (.mk f1 n1 s1 ps1) (mem_of_getElem? g1) _ hp') (by simp;omega) sd;exact h1.ends h2
    ·cases ht
  ·cases ht
theorem aRW (p:Prog)(l:List ONode)(at0:Int)(funs cons:List Int){L:List ONode}{ns:List Node}(e:L=l++map Node.o ns)(h:EndsL (aUB p l at0 funs cons) L) :aBR p funs cons at0 l ns:=by
 subst e;exact⟨(aUB p l at0 funs cons).as.fr,by kernel_rfl,Eq.mp (by kernel_rfl) h⟩
theorem aJo {n:Int}(h0: -1000000000≤n)(h1:n≤1000000000) :IntKind.i64.wrap (-1-n) = -1-n:=sd
theorem aFp (p:Prog)(funs cons:List Int) :∀ (k:Nat) (l:List ONode) (at0:Int) (ns:List Node),cN p funs cons k l.length at0=some ns→aBR p funs cons at0 l ns
 |0,l,at0,ns,h=>by cases h
 | k+1, l, at0, ns, h=>by
  simp only [cN]at h;split at h
  · rename_i hh;obtain⟨hat,hlen⟩ :=hh;split at h
    · rename_i y hy;split at h
      · rename_i hb;split at h
        · rename_i n' hn';split at h
          · rename_i ps' hps';split at h
            · rename_i ks r hks;cases h;have hC:=aLV p funs cons l at0 y.op n' y.kids y.pats hb.2 hlen _ y.pats 0 [] ps' rfl rfl hps' (aUL p funs cons k (aFp p funs cons k) l at0 y.op n' ps' y.kids hb.1 ks r hks);refine aRW p l at0 funs cons rfl ?_;unfold mN at hn';split at hn'
              · rename_i h4;have ho: (y.op== (14:Int)) =false:=by rw [h4.1];rfl
                split at hn'
                · rename_i g hg;split at hn'
                  · rename_i hr;cases hn';exact(aXO p l at0 funs cons y g hat hy (by simp [h4.1]) (by simp [h4.2]) (aJo (by omega) (by omega)) (by omega) hg (aJo (by omega) (by omega)) ho).ends hC
                  ·cases hn'
                ·cases hn'
              · rename_i h4;split at hn'
                · rename_i h14;split at hn'
                  · rename_i h0;exact(aXQ p l at0 funs cons y n' hat hy (by simp [h14]) (by simp [h14]) h0 hn').ends hC
                  ·cases hn'
                · rename_i h14;cases hn';by_cases ho:y.op=4
                  ·exact(aXP p l at0 funs cons y hat hy (by simp [ho]) (by simp;omega) (by simp [ho])).ends hC
                  ·exact(aXR p l at0 funs cons y hat hy (by simp [ho]) (by simp [h14])).ends hC
            ·cases h
          ·cases h
        ·cases h
      ·cases h
    ·cases h
  ·cases h
abbrev aFq(a:Prog):Nat ×AObj×Bool:=oC 0 [(iN a.nodes),(iI a.funs),(nI a.main),(iC a.cons)]
abbrev aFr(a:List Node)(b:List Int)(c:Int)(d:List Con):Nat×AObj×Bool:=oC 2 [(.gl 3 4 0 a.length false),(.gl 4 1 0 b.length false),(nI c),(iC d)]
abbrev aFs:Nat ×AObj×Bool:=oC 1 [.nils,.nils,(nI 0),.nils]
def bBW(a:Prog):TS:=cI PP 132 [(Prog.av a)] [] 0
def bBX(a:Prog):TS:=cI PP 54 [(Prog.av a)] [] 0
def aFt(c:Prog)(d:Int)(e:List Con)(f:Int)(a:List Node)(b:List Int):TS:=⟨(tf 54 41 [kp 1 0,kp 2 1,kp 3 2,(4,(nI f))] [kc f54 116,kl f54 116,.inBlock 0,kc f54 15]),[],[aFq c,aFs,aFr a b d e,oL 3 4 (jN a),oL 4 1 (jI b)],5⟩
def aUM(c:Prog)(d:Int)(e:List Con)(f:Int)(a:List Node)(b:List Int):TS:=⟨(tf 54 41 [kp 1 0,kp 2 1,kp 3 2,(4,(nI f))] [kc f54 1865,.inBlock 1,kc f54 467,kl f54 116,.inBlock 0,kc f54 15]),[],[aFq c,aFs,aFr a b d e,oL 3 4 (jN a),oL 4 1 (jI b)],5⟩
def aXZ (a:Prog):=fun b=>(tT 0 (bBW a)<|.i [rn 6,.reg (rd 4 [.app (jC a.cons) a.cons.length,.d,.d])] [hA (length a.cons≤1000000),hr (jC a.cons),.q (p:=length (jC a.cons) =length a.cons) (length_map ..),hr (nI a.main),hr (nI a.main)]<|gy 1 1 3 2 2 Con.av a.cons false<|gE 0 3 (.agg [.nils,.nils,(nI a.main),(iC a.cons)])) b tv
def aX0 (c:Prog):=fun a b d=>(tT 0 (bBX c)<|.y fun a:Int=>.y fun b:List Con=>gp 8 132 [(Prog.av c)] (.agg [.nils,.nils,(nI a),(iC b)])<|.i [rn 10,.cnil 2 0 4] []<|gu 0 3 (jN ([] :List Node))<|gv 0 2 0 (.gl 3 4 0 ([] :List Node).length false)<|.i [.cnil 2 1 1] []<|gu 0 4 (jI ([] :List Int))<|gv 0 2 1 (.gl 4 1 0 ([] :List Int).length false)<|.W 0 5 [0,1,2,3,4] (aFt c a b 0 ([] :List Node) ([] :List Int))) a b d ⟨kk,⟨kk,trivial⟩⟩
def bBY(c:Prog)(d:Int)(e:List Con)(f:Int)(a:List Node)(b:List Int):=tT 0 (aFt c d e f a b)<|gl 6 aP c.funs<|gd 2 11 (f< (c.funs.length:Int)) (ga 12 aP b [(a.length:Int)]<|.W 3 7 [0,1,2,3,6] (aUM c d e f a (b++ [(a.length:Int)])))<|gy 8 1 0 3 4 Node.av a false<|gy 0 1 1 4 1 aP b false<|gE 0 5 (.agg [(iN a),(iI b),(nI d),(iC e)])
def aX1:=fun a b c d e f g i=>bBY a b c d e f|>.t g i ⟨kk,⟨kk,trivial⟩⟩
def aX2:=fun a b c d e f g=>bBY a b c d e f|>.f g tv
def aX3 (a:Prog)(f:Int)(g:List Con)(i:Int)(b:List Node)(c:List Int):=fun d j k e l m n o p q=>(tT 0 (aUM a f g i b c)<|.y fun d:Int=>.y fun j:List Int=>.y fun k:List Int=>.y fun e:List Node=>.i [.reg (rd 6 (.ans (.idx (aP d))::rd 3 [.ans (.len (a.funs.length:Int)),.pure (iI j),.d,.d,.ans (.len (a.cons.length:Int)),.pure (iI k),.call (.gl 5 4 0 (b++e).length false) (aD [aFq a,aFs,aFr b c f g,oL 4 1 (jI c),oL 5 4 (jN (b++e))] 6),.d,.d]))] [hA (0≤i),.a (((a.funs)[i.toNat]?) =some d) (bF (f:=aP)),hl aP a.funs,hA (Pure PP 134 [(nI 0),(nI (a.funs.length:Int))] (iI j)),hl Con.av a.cons,hA (Pure PP 134 [(nI 0),(nI (a.cons.length:Int))] (iI k)),hA (Spec PP (.enter 133 [(.gl 3 4 0 b.length false),(Prog.av a),(nI d),(iI j),(iI k)]) (aD [aFq a,aFs,aFr b c f g,oL 3 4 (jN b),oL 4 1 (jI c)] 5) (.ret (.gl 5 4 0 (b++e).length false)) (aD [aFq a,aFs,aFr b c f g,oL 4 1 (jI c),oL 5 4 (jN (b++e))] 6)),.q (p:=(nI ((jC a.cons).length:Int)) = (nI (a.cons.length:Int))) (congrArg (int .i64) (aG6 _ _)),.q (p:=(nI ((jC a.cons).length:Int)) = (nI (a.cons.length:Int))) (congrArg (int .i64) (aG6 _ _)),hr (ilst 2 (jC a.cons) false),hr (ilst 2 (jC a.cons) false),hr (nI d),hr (nI d),hr (nI d),hr (ilst 1 (jI a.funs) false),hr (ilst 1 (jI a.funs) false),hr (ilst 1 (jI a.funs) false),hr (Prog.av a),hr (Prog.av a),hr (Prog.av a),hr (AV.gl 3 4 0 b.length false),hr (AV.gl 3 4 0 b.length false),hr (AV.gl 3 4 0 b.length false)]<|gw 4 13 (i+1)<|.W 3 6 [0,1,2,5,4] (aFt a f g (i+1) (b++e) c)) d j k e l m n o p q ⟨kk,⟨kk,trivial⟩⟩
def numsL (a:Int) :Nat→List Int
 |0=>[]
 |n+1=>numsL a n++ [a+ (n:Int)]
theorem fL (a:Int) :∀n,(numsL a n).length=n
 |0=>rfl
 |n+1=>by simp [numsL,fL a n]
theorem rP (a:Int) :∀ {n i:Nat},i<n→ (numsL a n)[i]?=some (a+ (i:Int))
 | n+1,i,h=>by
  rw [numsL];by_cases hi:i<n
  ·rw [List.getElem?_append_left (by rw [fL];exact hi),rP a hi]
  · have:i=n:=by omega
    subst this;rw [List.getElem?_append_right (by rw [fL];omega),fL];simp
theorem aHi (a:Int)(n:Nat)(hn:n<1000000)(ha: -1000000000≤a)(hb:a≤1000000000) :∀ (j i:Nat),i+j=n→Ends PP 0 (aEb a (n:Int) (i:Int) (numsL a i)).as (.ret (.ilst 1 (map aP (numsL a n)) false)) (aD [] 0)
 | 0,i,h=>by
  have:i=n:=by omega
  subst this;exact aUI a i i _ sd
 | j+1,i,h=>by
  have h1:=aUH a n i (numsL a i) sd sd (by rw [length_append,fL];simp;omega) sd;exact h1.ends (aHi a n hn ha hb j (i+1) (by omega))
theorem aHj (a:Int)(n:Nat)(hn:n<1000000)(ha: -1000000000≤a)(hb:a≤1000000000) :Pure PP 134 [.int .i64 a,.int .i64 (n:Int)] (.ilst 1 (map aP (numsL a n)) false) :=
 aU (by kernel_rfl) rfl rfl ((aUG a n).ends (aHi a n hn ha hb n 0 (by omega)))
theorem dT {f:Nat}{args:List AV}{v:AV}{s:TS}(e: (start PP f args).as=s.as)(hb:jW PP f=true)(hk:keylessL args=true)(hv:keyless v=true)(he:Ends PP 0 s.as (.ret v) (aD [] 0)) :Pure PP f args v:=
 aU hb hk hv (by rw [e];exact he)
theorem aUN {p:Prog}(h:p.cons.length≤1000000) :Pure PP 132 [PA p] (.agg [.nils,.nils,.int .i64 p.main,.ilst 2 (map Con.av p.cons) false]) :=
 dT (s:=bBW p) (by kernel_rfl) (by kernel_rfl) (by simp [keylessL,keyless]) (by simp [keylessL,keyless]) (aXZ p h)
theorem aRX {p:Prog}{funs cons:List Int}{k:Nat}{l ns:List Node}{c:Int}(h:cN p funs cons k l.length c=some ns) :
  aAo PP (.enter 133 [.gl 0 4 0 (length l) false,PA p,.int .i64 c,.ilst 1 (map aP funs) false,.ilst 1 (map aP cons) false]) (aD [(0,.lst 4 (map Node.av l),true)] 1)
   (.ret (.gl 0 4 0 (length (l++ns)) false)) (aD [(0,.lst 4 (map Node.av (l++ns)),true)] 1) :=by
 have:=aFp p funs cons k (map Node.o l) c ns (by rw [length_map];exact h);unfold aBR OL at this;rw [←List.map_append,aIU,aIU,length_map,length_map]at this;exact this
theorem aUO {p:Prog}{funs cons:List Int}{k:Nat}{l ns:List Node}{c:Int}(h:cN p funs cons k l.length c=some ns)(mn:Int)(cs:List Con)(fs:List Int) :
  Spec PP (.enter 133 [.gl 3 4 0 (length l) false,PA p,.int .i64 c,.ilst 1 (map aP funs) false,.ilst 1 (map aP cons) false])
   (aD [(0,aDE p,false),(1,.cells (putCells .leaf 0 [.nils,.nils,.int .i64 0,.nils]) 4 [] false,false),(2,.cells (putCells .leaf 0 [.gl 3 4 0 (length l) false,.gl 4 1 0 (length fs) false,.int .i64 mn,.ilst 2 (map Con.av cs) false]) 4 [] false,false),(3,.lst 4 (map Node.av l),true),(4,.lst 1 (map aP fs),true)] 5)
   (.ret (.gl 5 4 0 (length (l++ns)) false))
   (aD [(0,aDE p,false),(1,.cells (putCells .leaf 0 [.nils,.nils,.int .i64 0,.nils]) 4 [] false,false),(2,.cells (putCells .leaf 0 [.gl 3 4 0 (length l) false,.gl 4 1 0 (length fs) false,.int .i64 mn,.ilst 2 (map Con.av cs) false]) 4 [] false,false),(4,.lst 1 (map aP fs),true),(5,.lst 4 (map Node.av (l++ns)),true)] 6) :=
 Eq.mp (by kernel_rfl) (xB (ks:=[3]) (n2:=5) (lc:=[(0,aDE p,false),(1,.cells (putCells .leaf 0 [.nils,.nils,.int .i64 0,.nils]) 4 [] false,false),(2,.cells (putCells .leaf 0 [.gl 3 4 0 (length l) false,.gl 4 1 0 (length fs) false,.int .i64 mn,.ilst 2 (map Con.av cs) false]) 4 [] false,false),(3,.lst 4 (map Node.av l),true),(4,.lst 1 (map aP fs),true)])
  (x:=[(0,aDE p,false),(1,.cells (putCells .leaf 0 [.nils,.nils,.int .i64 0,.nils]) 4 [] false,false),(2,.cells (putCells .leaf 0 [.gl 3 4 0 (length l) false,.gl 4 1 0 (length fs) false,.int .i64 mn,.ilst 2 (map Con.av cs) false]) 4 [] false,false),(4,.lst 1 (map aP fs),true)])
  (args':=[.gl 3 4 0 (length l) false,PA p,.int .i64 c,.ilst 1 (map aP funs) false,.ilst 1 (map aP cons) false])
  (aRX h) (by kernel_rfl) (by kernel_rfl) (by kernel_rfl) ⟨aE _ (fun _=>rfl) _,trivial⟩ (by kernel_rfl) (by kernel_rfl) (by kernel_rfl) (by kernel_rfl) ⟨aE _ (fun _=>rfl) _,trivial⟩ (by kernel_rfl))
theorem aLW (p:Prog)(k:Nat)(mn:Int)(cs:List Con)(hf:p.funs.length<1000000)(hc:p.cons.length<1000000) :∀ (t:List Int) (i:Nat) (l:List Node) (fs ks:List Int) (r:List Node),p.funs.drop i=t→fs.length=i→i≤p.funs.length →
  iR (cN p (numsL 0 p.funs.length) (numsL 0 p.cons.length) k) l.length t=some (ks,r) →
  LeadsM PP 0 (aFt p mn cs (i:Int) l fs).as (aFt p mn cs ((p.funs.length:Nat) :Int) (l++r) (fs++ks)).as
 | [],i,l,fs,ks,r,h,hl,hi,hm=>by
  have:=bA h;obtain rfl:i=p.funs.length:=by omega
  cases hm;rw [append_nil,append_nil];exact LeadsM.refl _
 | c ::t,i,l,fs,ks,r,h,hl,hi,hm=>by
  obtain⟨g1,g2,g3⟩ :=aY h;simp only [iR]at hm;split at hm
  · rename_i ns hns;split at hm
    · rename_i ks1 r1 hm1;cases hm;have h1:=aX1 p mn cs i l fs sd (by simp;omega);have h2:=aX3 p mn cs i l (fs++ [((l.length:Nat) :Int)]) c _ _ ns sd (by simpa using g1) (aHj 0 p.funs.length hf (by omega) (by omega)) (aHj 0 p.cons.length hc (by omega) (by omega)) (aUO hns mn cs _) sd;have h3:=aLW p k mn cs hf hc t (i+1) (l++ns) (fs++ [((l.length:Nat) :Int)]) ks1 r1 g2 (by simp [hl]) (by omega) (by rw [length_append];exact hm1);rw [show fs++ ((l.length:Nat) :Int) ::ks1= (fs++ [((l.length:Nat) :Int)]) ++ks1 by simp,←List.append_assoc l ns r1];exact h1.trans (h2.trans h3)
    ·cases hm
  ·cases hm
def aEc (p:Prog)(k:Nat) :Option Prog:=match iR (cN p (numsL 0 p.funs.length) (numsL 0 p.cons.length) k) 0 p.funs with
 |some (ks,r) =>some ⟨r,ks,p.main,p.cons⟩
 |none=>none
theorem aOE {p q:Prog}{k:Nat}(hf:p.funs.length<1000000)(hc:p.cons.length<1000000)(h:aEc p k=some q) :Pure PP 54 [PA p] (PA q) :=by
 unfold aEc at h;split at h
 · rename_i ks r hm;cases h;refine dT (s:=bBX p) (by kernel_rfl) (by kernel_rfl) (by simp [keylessL,keyless]) (by simp [keylessL,keyless]) ?_;exact((aX0 p p.main p.cons (aUN (by omega))).trans (aLW p k p.main p.cons hf hc p.funs 0 [] [] ks r rfl rfl (Nat.zero_le _) hm)).ends (aX2 p p.main p.cons _ _ _ (by simp))
 ·cases h
theorem aUP :Pure PP 226 [] (.ilst 1 (map aA kwL) false) :=
 dT (s:=bBV) (by kernel_rfl) (by kernel_rfl) rfl (by simp [keyless]) aXm
theorem aRY (s:aB) :Pure PP 167 [aA s] (.bool (aV kwL s)) :=
 aU (by kernel_rfl) rfl rfl (aTu s kwL _ aUP (aCJ kwL s (by unfold kwL;simp)))
theorem aUQ (s:aB)(l:List Nat){k n:Nat}(hk: (strOf l).length=k)(hn:aC (strOf l) =n) :bL (length s) (aC s) k n=decide (s=strOf l) :=by
 rw [←hk,←hn];exact dG s (strOf l)
theorem cO {s:aB}(l:List Nat){k n:Nat}(e:s=strOf l)(hk: (strOf l).length=k)(hn:aC (strOf l) =n) :bL (length s) (aC s) k n=true:=by rw [aUQ s l hk hn];simp [e]
theorem dU {s:aB}(l:List Nat){k n:Nat}(e:¬s=strOf l)(hk: (strOf l).length=k)(hn:aC (strOf l) =n) :bL (length s) (aC s) k n=false:=by rw [aUQ s l hk hn];simp [e]
theorem dW {l:List aB}{s:aB}(i:Nat){w:aB}(hi:l[i]?=some w)(e:s=w) :aV l s=true:=by
 unfold aV;exact List.any_eq_true.2 ⟨w,mem_of_getElem? hi,by simp [e]⟩
theorem aUR (s:aB) :Pure PP 165 [aA s] (.bool (aV kwL s)) :=by
 refine aU (by kernel_rfl) rfl rfl ?_;by_cases e0:s=strOf [98,111,111,108]
 ·rw [dW 0 (by kernel_rfl) e0];exact aXr s (cO _ e0 (by kernel_rfl) (by kernel_rfl))
 have n0:=dU (k:=4) (n:=1819242338) _ e0 (by kernel_rfl) (by kernel_rfl);by_cases e1:s=strOf [99,101,108,108]
 ·rw [dW 1 (by kernel_rfl) e1];exact aXs s n0 (cO _ e1 (by kernel_rfl) (by kernel_rfl))
 have n1:=dU (k:=4) (n:=1819043171) _ e1 (by kernel_rfl) (by kernel_rfl);by_cases e2:s=strOf [99,104,97,110]
 ·rw [dW 2 (by kernel_rfl) e2];exact aXt s n0 n1 (cO _ e2 (by kernel_rfl) (by kernel_rfl))
 have n2:=dU (k:=4) (n:=1851877475) _ e2 (by kernel_rfl) (by kernel_rfl);by_cases e3:s=strOf [101,108,115,101]
 ·rw [dW 3 (by kernel_rfl) e3];exact aXu s n0 n1 n2 (cO _ e3 (by kernel_rfl) (by kernel_rfl))
 have n3:=dU (k:=4) (n:=1702063205) _ e3 (by kernel_rfl) (by kernel_rfl);by_cases e4:s=strOf [102,97,108,115,101]
 ·rw [dW 4 (by kernel_rfl) e4];exact aXv s n0 n1 n2 n3 (cO _ e4 (by kernel_rfl) (by kernel_rfl))
 have n4:=dU (k:=5) (n:=435728179558) _ e4 (by kernel_rfl) (by kernel_rfl);by_cases e5:s=strOf [102,117,110]
 ·rw [dW 5 (by kernel_rfl) e5];exact aXw s n0 n1 n2 n3 n4 (cO _ e5 (by kernel_rfl) (by kernel_rfl))
 have n5:=dU (k:=3) (n:=7239014) _ e5 (by kernel_rfl) (by kernel_rfl);by_cases e6:s=strOf [103,101,116]
 ·rw [dW 6 (by kernel_rfl) e6];exact aXx s n0 n1 n2 n3 n4 n5 (cO _ e6 (by kernel_rfl) (by kernel_rfl))
 have n6:=dU (k:=3) (n:=7628135) _ e6 (by kernel_rfl) (by kernel_rfl);by_cases e7:s=strOf [105,102]
 ·rw [dW 7 (by kernel_rfl) e7];exact aXy s n0 n1 n2 n3 n4 n5 n6 (cO _ e7 (by kernel_rfl) (by kernel_rfl))
 have n7:=dU (k:=2) (n:=26217) _ e7 (by kernel_rfl) (by kernel_rfl);by_cases e8:s=strOf [105,110]
 ·rw [dW 8 (by kernel_rfl) e8];exact aXz s n0 n1 n2 n3 n4 n5 n6 n7 (cO _ e8 (by kernel_rfl) (by kernel_rfl))
 have n8:=dU (k:=2) (n:=28265) _ e8 (by kernel_rfl) (by kernel_rfl);by_cases e9:s=strOf [105,110,112,117,116]
 ·rw [dW 9 (by kernel_rfl) e9];exact aXA s n0 n1 n2 n3 n4 n5 n6 n7 n8 (cO _ e9 (by kernel_rfl) (by kernel_rfl))
 have n9:=dU (k:=5) (n:=500186508905) _ e9 (by kernel_rfl) (by kernel_rfl);by_cases e10:s=strOf [105,110,116]
 ·rw [dW 10 (by kernel_rfl) e10];exact aTv s n0 n1 n2 n3 n4 n5 n6 n7 n8 n9 (cO _ e10 (by kernel_rfl) (by kernel_rfl))
 have n10:=dU (k:=3) (n:=7630441) _ e10 (by kernel_rfl) (by kernel_rfl);by_cases e11:s=strOf [106,111,105,110]
 ·rw [dW 11 (by kernel_rfl) e11];exact aTw s n0 n1 n2 n3 n4 n5 n6 n7 n8 n9 n10 (cO _ e11 (by kernel_rfl) (by kernel_rfl))
 have n11:=dU (k:=4) (n:=1852403562) _ e11 (by kernel_rfl) (by kernel_rfl);by_cases e12:s=strOf [108,101,116]
 ·rw [dW 12 (by kernel_rfl) e12];exact aTx s n0 n1 n2 n3 n4 n5 n6 n7 n8 n9 n10 n11 (cO _ e12 (by kernel_rfl) (by kernel_rfl))
 have n12:=dU (k:=3) (n:=7628140) _ e12 (by kernel_rfl) (by kernel_rfl);by_cases e13:s=strOf [109,97,116,99,104]
 ·rw [dW 13 (by kernel_rfl) e13];exact aTy s n0 n1 n2 n3 n4 n5 n6 n7 n8 n9 n10 n11 n12 (cO _ e13 (by kernel_rfl) (by kernel_rfl))
 have n13:=dU (k:=5) (n:=448345170285) _ e13 (by kernel_rfl) (by kernel_rfl);by_cases e14:s=strOf [109,111,100,117,108,101]
 ·rw [dW 14 (by kernel_rfl) e14];exact aTz s n0 n1 n2 n3 n4 n5 n6 n7 n8 n9 n10 n11 n12 n13 (cO _ e14 (by kernel_rfl) (by kernel_rfl))
 have n14:=dU (k:=6) (n:=111516500389741) _ e14 (by kernel_rfl) (by kernel_rfl);by_cases e15:s=strOf [111,117,116]
 ·rw [dW 15 (by kernel_rfl) e15];exact aTA s n0 n1 n2 n3 n4 n5 n6 n7 n8 n9 n10 n11 n12 n13 n14 (cO _ e15 (by kernel_rfl) (by kernel_rfl))
 have n15:=dU (k:=3) (n:=7632239) _ e15 (by kernel_rfl) (by kernel_rfl);by_cases e16:s=strOf [112,97,117,115,101]
 ·rw [dW 16 (by kernel_rfl) e16];exact aTB s n0 n1 n2 n3 n4 n5 n6 n7 n8 n9 n10 n11 n12 n13 n14 n15 (cO _ e16 (by kernel_rfl) (by kernel_rfl))
 have n16:=dU (k:=5) (n:=435728769392) _ e16 (by kernel_rfl) (by kernel_rfl);by_cases e17:s=strOf [112,117,116]
 ·rw [dW 17 (by kernel_rfl) e17];exact aTC s n0 n1 n2 n3 n4 n5 n6 n7 n8 n9 n10 n11 n12 n13 n14 n15 n16 (cO _ e17 (by kernel_rfl) (by kernel_rfl))
 have n17:=dU (k:=3) (n:=7632240) _ e17 (by kernel_rfl) (by kernel_rfl);by_cases e18:s=strOf [114,101,115,101,116]
 ·rw [dW 18 (by kernel_rfl) e18];exact aTD s n0 n1 n2 n3 n4 n5 n6 n7 n8 n9 n10 n11 n12 n13 n14 n15 n16 n17 (cO _ e18 (by kernel_rfl) (by kernel_rfl))
 have n18:=dU (k:=5) (n:=499918267762) _ e18 (by kernel_rfl) (by kernel_rfl);by_cases e19:s=strOf [115,101,110,100]
 ·rw [dW 19 (by kernel_rfl) e19];exact aTE s n0 n1 n2 n3 n4 n5 n6 n7 n8 n9 n10 n11 n12 n13 n14 n15 n16 n17 n18 (cO _ e19 (by kernel_rfl) (by kernel_rfl))
 have n19:=dU (k:=4) (n:=1684956531) _ e19 (by kernel_rfl) (by kernel_rfl);by_cases e20:s=strOf [115,104,105,102,116]
 ·rw [dW 20 (by kernel_rfl) e20];exact aTF s n0 n1 n2 n3 n4 n5 n6 n7 n8 n9 n10 n11 n12 n13 n14 n15 n16 n17 n18 n19 (cO _ e20 (by kernel_rfl) (by kernel_rfl))
 have n20:=dU (k:=5) (n:=499934390387) _ e20 (by kernel_rfl) (by kernel_rfl);by_cases e21:s=strOf [115,112,97,119,110]
 ·rw [dW 21 (by kernel_rfl) e21];exact aTG s n0 n1 n2 n3 n4 n5 n6 n7 n8 n9 n10 n11 n12 n13 n14 n15 n16 n17 n18 n19 n20 (cO _ e21 (by kernel_rfl) (by kernel_rfl))
 have n21:=dU (k:=5) (n:=474449277043) _ e21 (by kernel_rfl) (by kernel_rfl);by_cases e22:s=strOf [116,97,107,101]
 ·rw [dW 22 (by kernel_rfl) e22];exact aTH s n0 n1 n2 n3 n4 n5 n6 n7 n8 n9 n10 n11 n12 n13 n14 n15 n16 n17 n18 n19 n20 n21 (cO _ e22 (by kernel_rfl) (by kernel_rfl))
 have n22:=dU (k:=4) (n:=1701536116) _ e22 (by kernel_rfl) (by kernel_rfl);by_cases e23:s=strOf [116,97,115,107]
 ·rw [dW 23 (by kernel_rfl) e23];exact aTI s n0 n1 n2 n3 n4 n5 n6 n7 n8 n9 n10 n11 n12 n13 n14 n15 n16 n17 n18 n19 n20 n21 n22 (cO _ e23 (by kernel_rfl) (by kernel_rfl))
 have n23:=dU (k:=4) (n:=1802723700) _ e23 (by kernel_rfl) (by kernel_rfl);by_cases e24:s=strOf [116,104,101,110]
 ·rw [dW 24 (by kernel_rfl) e24];exact aTJ s n0 n1 n2 n3 n4 n5 n6 n7 n8 n9 n10 n11 n12 n13 n14 n15 n16 n17 n18 n19 n20 n21 n22 n23 (cO _ e24 (by kernel_rfl) (by kernel_rfl))
 have n24:=dU (k:=4) (n:=1852139636) _ e24 (by kernel_rfl) (by kernel_rfl);by_cases e25:s=strOf [116,114,117,101]
 ·rw [dW 25 (by kernel_rfl) e25];exact aTK s n0 n1 n2 n3 n4 n5 n6 n7 n8 n9 n10 n11 n12 n13 n14 n15 n16 n17 n18 n19 n20 n21 n22 n23 n24 (cO _ e25 (by kernel_rfl) (by kernel_rfl))
 have n25:=dU (k:=4) (n:=1702195828) _ e25 (by kernel_rfl) (by kernel_rfl);by_cases e26:s=strOf [116,121,112,101]
 ·rw [dW 26 (by kernel_rfl) e26];exact aTL s n0 n1 n2 n3 n4 n5 n6 n7 n8 n9 n10 n11 n12 n13 n14 n15 n16 n17 n18 n19 n20 n21 n22 n23 n24 n25 (cO _ e26 (by kernel_rfl) (by kernel_rfl))
 have n26:=dU (k:=4) (n:=1701869940) _ e26 (by kernel_rfl) (by kernel_rfl);by_cases e27:s=strOf [117,110,105,116]
 ·rw [dW 27 (by kernel_rfl) e27];exact aTM s n0 n1 n2 n3 n4 n5 n6 n7 n8 n9 n10 n11 n12 n13 n14 n15 n16 n17 n18 n19 n20 n21 n22 n23 n24 n25 n26 (cO _ e27 (by kernel_rfl) (by kernel_rfl))
 have n27:=dU (k:=4) (n:=1953066613) _ e27 (by kernel_rfl) (by kernel_rfl);have hno:aV kwL s=false:=by
  unfold aV kwL;simp only [List.any_cons,List.any_nil,Bool.or_false,Bool.or_eq_false_iff,decide_eq_false_iff_not];exact⟨fun h=>e0 h.symm,fun h=>e1 h.symm,fun h=>e2 h.symm,fun h=>e3 h.symm,fun h=>e4 h.symm,fun h=>e5 h.symm,fun h=>e6 h.symm,fun h=>e7 h.symm,fun h=>e8 h.symm,fun h=>e9 h.symm,fun h=>e10 h.symm,fun h=>e11 h.symm,fun h=>e12 h.symm,fun h=>e13 h.symm,fun h=>e14 h.symm,fun h=>e15 h.symm,fun h=>e16 h.symm,fun h=>e17 h.symm,fun h=>e18 h.symm,fun h=>e19 h.symm,fun h=>e20 h.symm,fun h=>e21 h.symm,fun h=>e22 h.symm,fun h=>e23 h.symm,fun h=>e24 h.symm,fun h=>e25 h.symm,fun h=>e26 h.symm,fun h=>e27 h.symm⟩
 rw [hno];exact aTN s n0 n1 n2 n3 n4 n5 n6 n7 n8 n9 n10 n11 n12 n13 n14 n15 n16 n17 n18 n19 n20 n21 n22 n23 n24 n25 n26 n27
def lF (s:aB) :Bool:=decide (1≤s.length) &&decide (s.length≤8) &&hY s&& !aV kwL s
theorem aBS (s:aB) :Pure PP 86 [aA s] (.bool (lF s)) :=by
 refine aU (by kernel_rfl) rfl rfl ?_;unfold lF;by_cases h1:1≤s.length
 · by_cases h2:s.length≤8
   · have hS:=aDx s (by omega);cases h3:hY s with
     | true=>
      rw [h3]at hS;have:=aXn s true _ sd sd hS rfl (aRY s);simpa [h1,h2]using this
     | false=>
      rw [h3]at hS;have:=aXo s false sd sd hS rfl;simpa [h1,h2]using this
   · have:=aXp s sd sd;simpa [h1,h2]using this
 · have:=aXq s sd;simpa [h1]using this
theorem aLX (s:aB) :Pure PP 85 [aA s] (.bool (lF s)) :=by
 refine aU (by kernel_rfl) rfl rfl ?_;unfold lF;by_cases h1:s= []
 · subst h1;have:=aXE [] (by rfl);simpa using this
 · have hpos:1≤s.length:=by cases s with
    |nil=>exact absurd rfl h1
    |cons _ _=>simp
   have h0: (!(bL (length s) (aC s) 0 0)) =true:=by
    have:=dU (k:=0) (n:=0) (s:=s) [] h1 rfl rfl;rw [this];rfl
   by_cases h2:s.length≤8
   · have hS:=aDC s;cases h3:hY s with
     | true=>
      rw [h3]at hS;have:=aXB s true _ h0 sd hS rfl (aUR s);simpa [hpos,h2]using this
     | false=>
      rw [h3]at hS;have:=aXC s false h0 sd hS rfl;simpa [hpos,h2]using this
   · have:=aXD s h0 sd;simpa [hpos,h2]using this
theorem sdW {p:Prop}(h:p:=by simp_all only [inB_iff,inB_not,beq_iff_eq,decide_eq_true_eq,decide_eq_false_iff_not] <;>omega) :p:=h
theorem idW {p:Prop}(h:p:=by exact⟨_,List.getElem?_eq_getElem (by simp_all only [inB_iff,inB_not,beq_iff_eq,decide_eq_true_eq,decide_eq_false_iff_not] <;>omega)⟩) :p:=h
theorem aHk (l:List Pat)(p:Prog)(hl:l.length<1000000)(ih:∀q∈l,Pure PP 282 [Prog.av p,Pat.av q] (.bool (dE p.cons q))) :
  ∀ (t:List Pat) (i:Nat),l.drop i=t→Ends PP 0 (aD6 l p (i:Int)).as (.ret (.bool (bW p.cons t))) (aD [] 0)
 | [],i,h=>by
  have:=bA h;exact Ends.eqv (aUl l p i sd) (by simp [bW])
 | .mk f n s ps::t,i,h=>by
  obtain⟨g1,g2,g3⟩ :=aY h;have hq:=ih (.mk f n s ps) (mem_of_getElem? g1);cases k:dE p.cons (.mk f n s ps)with
  | false=>
   rw [k]at hq;exact Ends.eqv (aUj l p i f n s ps false sd sd sd hq rfl) (by simp [bW,k])
  | true=>
   rw [k]at hq;refine(aUk l p i f n s ps true sd sd sd hq rfl sd).ends ?_;exact Ends.eqv (aHk l p hl ih t (i+1) g2) (by simp [bW,k])
theorem aRZ (l:List Pat)(p:Prog)(hl:l.length<1000000)(ih:∀q∈l,Pure PP 282 [Prog.av p,Pat.av q] (.bool (dE p.cons q))) :
  Pure PP 284 [.ilst 4 (av l) false,.func 282 [Prog.av p] []] (.bool (bW p.cons l)) :=
 aU (by kernel_rfl) (by simp [keylessL,keyless,Prog.av]) rfl ((aUi l p).ends (aHk l p hl ih l 0 rfl))
theorem bDi (p:Prog)(q_form q_n:Int)(q_text:aB)(q_parts:List Pat)(hc:p.cons.length≤1000)(hev:Pure PP 284 [.ilst 4 (av q_parts) false,.func 282 [Prog.av p] []] (.bool (bW p.cons q_parts))) :
  Ends PP 0 (start PP 282 [Prog.av p,Pat.av (.mk q_form q_n q_text q_parts)]).as (.ret (.bool (dE p.cons (.mk q_form q_n q_text q_parts)))) (aD [] 0) :=by
 have hw:IntKind.i64.wrap ((p.cons.length:Int) -1) = (p.cons.length:Int) -1:=by apply wrap64<;>omega
 cases hb1: (!(bL (length q_text) (aC q_text) 0 0))with
 | true=>
  exact Ends.eqv (aT8 p q_form q_n q_text q_parts   hb1) (by clear hev;simp_all [dE,dH,fA,dM,gJ] <;>rfl)
 | false =>
  cases hb2: (!(bW p.cons q_parts))with
  | true=>
   exact Ends.eqv (aT9 p q_form q_n q_text q_parts  (bW p.cons q_parts) hb1 hev hb2) (by clear hev;simp_all [dE,dH,fA,dM,gJ] <;>rfl)
  | false =>
   cases hb3: (q_form== (1:Int))with
   | true=>
    cases hb4: (q_n== (0:Int))with
    | true=>
     exact Ends.eqv (aUa p q_form q_n q_text q_parts  (bW p.cons q_parts) hb1 hev hb2 hb3 hb4) (by clear hev;simp_all [dE,dH,fA,dM,gJ] <;>rfl)
    | false=>
     exact Ends.eqv (aUb p q_form q_n q_text q_parts  (bW p.cons q_parts) hb1 hev hb2 hb3 hb4) (by clear hev;simp_all [dE,dH,fA,dM,gJ] <;>rfl)
   | false =>
    cases hb5: (q_form== (2:Int))with
    | true=>
     cases hb6: (q_n== (0:Int))with
     | true=>
      exact Ends.eqv (aUc p q_form q_n q_text q_parts  (bW p.cons q_parts) hb1 hev hb2 hb3 hb5 hb6) (by clear hev;simp_all [dE,dH,fA,dM,gJ] <;>rfl)
     | false=>
      exact Ends.eqv (aUd p q_form q_n q_text q_parts  (bW p.cons q_parts) hb1 hev hb2 hb3 hb5 hb6) (by clear hev;simp_all [dE,dH,fA,dM,gJ] <;>rfl)
    | false=>
     cases hb7: (q_form== (5:Int))with
     | true=>
      cases hb8: (q_n== (0:Int))with
      | true=>
       exact Ends.eqv (aUe p q_form q_n q_text q_parts  (bW p.cons q_parts) hb1 hev hb2 hb3 hb5 hb7 hb8) (by clear hev;simp_all [dE,dH,fA,dM,gJ] <;>rfl)
      | false=>
       exact Ends.eqv (aUf p q_form q_n q_text q_parts  (bW p.cons q_parts) hb1 hev hb2 hb3 hb5 hb7 hb8) (by clear hev;simp_all [dE,dH,fA,dM,gJ] <;>rfl)
     | false=>
      cases hb9: (q_form== (3:Int))with
      | true=>
       cases hb10: (cT q_n (-1000000000) 1000000000)with
       | true=>
        exact Ends.eqv (aUg p q_form q_n q_text q_parts  (bW p.cons q_parts) (cT q_n (-1000000000) 1000000000) hb1 hev hb2 hb3 hb5 hb7 hb9 (aCL q_n) hb10) (by clear hev;simp_all [dE,dH,fA,dM,gJ] <;>rfl)
       | false=>
        exact Ends.eqv (aUh p q_form q_n q_text q_parts  (bW p.cons q_parts) (cT q_n (-1000000000) 1000000000) hb1 hev hb2 hb3 hb5 hb7 hb9 (aCL q_n) hb10) (by clear hev;simp_all [dE,dH,fA,dM,gJ] <;>rfl)
      | false=>
       cases hb11: (q_form== (4:Int))with
       | true=>
        cases hb12: (cT q_n 0 1)with
        | true=>
         exact Ends.eqv (aRz p q_form q_n q_text q_parts  (bW p.cons q_parts) (cT q_n 0 1) hb1 hev hb2 hb3 hb5 hb7 hb9 hb11 (fY q_n 0 1) hb12) (by clear hev;simp_all [dE,dH,fA,dM,gJ] <;>rfl)
        | false=>
         exact Ends.eqv (aRA p q_form q_n q_text q_parts  (bW p.cons q_parts) (cT q_n 0 1) hb1 hev hb2 hb3 hb5 hb7 hb9 hb11 (fY q_n 0 1) hb12) (by clear hev;simp_all [dE,dH,fA,dM,gJ] <;>rfl)
       | false=>
        cases hb13: (q_form== (6:Int))with
        | true=>
         cases hb14: (cT q_n 0 (IntKind.i64.wrap (((length p.cons:Nat) :Int) - (1:Int))))with
         | true=>
          obtain⟨y2,hx15⟩ :∃y,((p.cons)[q_n.toNat]?) =some y:=idW;exact Ends.eqv (aRB p q_form q_n q_text q_parts  (bW p.cons q_parts) (cT q_n 0 (IntKind.i64.wrap (((length p.cons:Nat) :Int) - (1:Int)))) y2 hb1 hev hb2 hb3 hb5 hb7 hb9 hb11 hb13 (fY q_n 0 (IntKind.i64.wrap (((length p.cons:Nat) :Int) - (1:Int)))) hb14 sdW hx15) (by clear hev;simp_all [dE,dH,fA,dM,gJ] <;>rfl)
         | false=>
          exact Ends.eqv (aRC p q_form q_n q_text q_parts  (bW p.cons q_parts) (cT q_n 0 (IntKind.i64.wrap (((length p.cons:Nat) :Int) - (1:Int)))) hb1 hev hb2 hb3 hb5 hb7 hb9 hb11 hb13 (fY q_n 0 (IntKind.i64.wrap (((length p.cons:Nat) :Int) - (1:Int)))) hb14) (by clear hev;simp_all [dE,dH,fA,dM,gJ] <;>rfl)
        | false=>
         exact Ends.eqv (aRD p q_form q_n q_text q_parts  (bW p.cons q_parts) hb1 hev hb2 hb3 hb5 hb7 hb9 hb11 hb13) (by clear hev;simp_all [dE,dH,fA,dM,gJ] <;>rfl)
mutual
theorem aHl (p:Prog)(hc:p.cons.length≤1000) :∀ (q:Pat),cU q<1000000→Pure PP 282 [Prog.av p,Pat.av q] (.bool (dE p.cons q))
 | .mk f n s ps,h=>by
  refine aU (by kernel_rfl) (by simp [keylessL,pD,keyless,Prog.av]) rfl ?_;simp only [cU]at h;have:=gC ps;exact bDi p f n s ps hc (aRZ ps p (by omega) (aLY p hc ps (by omega)))
theorem aLY (p:Prog)(hc:p.cons.length≤1000) :∀ (ps:List Pat),bE ps<1000000→∀q∈ps,Pure PP 282 [Prog.av p,Pat.av q] (.bool (dE p.cons q))
 | [],_,q,hq=>by cases hq
 | r::ps,h,q,hq=>by
  simp only [bE]at h;rcases List.mem_cons.1 hq with e|hq
  ·rw [e];exact aHl p hc r (by omega)
  ·exact aLY p hc ps (by omega) q hq
end
def cS (op:Int) :Option Int:=
 if op=1∨op=2∨op=3∨op=4∨op=21∨op=25∨op=28 then some 0
 else if op=5∨op=27∨op=16∨op=17∨op=19∨op=20∨op=23∨op=26∨op=24 then some 1
 else if op=6∨op=7∨op=9∨op=10∨op=11∨op=12∨op=13∨op=18∨op=22 then some 2
 else if op=8 then some 3 else none
def bJ (op:Int) :AV:=
 match cS op with
 |some k=>.iface 334 (.int .i64 k)
 |none=>if op=15 then .iface 317 (.agg [])else if op=14 then .iface 335 (.agg [])else .nili
theorem aLZ {op k:Int}(h:cS op=some k)(pats args:Int) :dO op pats args=k∧op≠15∧op≠14:=by
 unfold cS at h;unfold dO;split at h
 ·rename_i g;rw [if_pos g];simp only [Option.some.injEq]at h;refine⟨h,?_,?_⟩ <;>omega
 · rename_i g0;rw [if_neg g0];split at h
   ·rename_i g;rw [if_pos g];simp only [Option.some.injEq]at h;refine⟨h,?_,?_⟩ <;>omega
   · rename_i g1;rw [if_neg g1];split at h
     ·rename_i g;rw [if_pos g];simp only [Option.some.injEq]at h;refine⟨h,?_,?_⟩ <;>omega
     · rename_i g2;rw [if_neg g2];split at h
       ·rename_i g;rw [if_pos g];simp only [Option.some.injEq]at h;refine⟨h,?_,?_⟩ <;>omega
       ·cases h
theorem aOF {op:Int}(h:cS op=none)(pats args:Int) :dO op pats args=if op=15 then 1+pats else if op=14 then args else -1:=by
 unfold cS at h;unfold dO;split at h
 ·cases h
 · rename_i g0;rw [if_neg g0];split at h
   ·cases h
   · rename_i g1;rw [if_neg g1];split at h
     ·cases h
     · rename_i g2;rw [if_neg g2];split at h
       ·cases h
       ·rename_i g;rw [if_neg g]
theorem bKidsOf_E (op : Int) :Ends PP 0 (start PP 279 [.int .i64 op]).as (.ret (bJ op)) (aD [] 0) :=by
 cases hb1: (op== (1:Int))with
 | true=>
  exact Ends.eqv (aLo op   hb1) (by simp_all [bJ,cS])
 | false =>
  cases hb2: (op== (2:Int))with
  | true=>
   exact Ends.eqv (aLp op   hb1 hb2) (by simp_all [bJ,cS])
  | false =>
   cases hb3: (op== (3:Int))with
   | true=>
    exact Ends.eqv (aLq op   hb1 hb2 hb3) (by simp_all [bJ,cS])
   | false =>
    cases hb4: (op== (4:Int))with
    | true=>
     exact Ends.eqv (aLr op   hb1 hb2 hb3 hb4) (by simp_all [bJ,cS])
    | false =>
     cases hb5: (op== (21:Int))with
     | true=>
      exact Ends.eqv (aLs op   hb1 hb2 hb3 hb4 hb5) (by simp_all [bJ,cS])
     | false =>
      cases hb6: (op== (25:Int))with
      | true=>
       exact Ends.eqv (aLt op   hb1 hb2 hb3 hb4 hb5 hb6) (by simp_all [bJ,cS])
      | false =>
       cases hb7: (op== (28:Int))with
       | true=>
        exact Ends.eqv (aLu op   hb1 hb2 hb3 hb4 hb5 hb6 hb7) (by simp_all [bJ,cS])
       | false =>
        cases hb8: (op== (5:Int))with
        | true=>
         exact Ends.eqv (aLv op   hb1 hb2 hb3 hb4 hb5 hb6 hb7 hb8) (by simp_all [bJ,cS])
        | false =>
         cases hb9: (op== (27:Int))with
         | true=>
          exact Ends.eqv (aLw op   hb1 hb2 hb3 hb4 hb5 hb6 hb7 hb8 hb9) (by simp_all [bJ,cS])
         | false =>
          cases hb10: (op== (16:Int))with
          | true=>
           exact Ends.eqv (aLx op   hb1 hb2 hb3 hb4 hb5 hb6 hb7 hb8 hb9 hb10) (by simp_all [bJ,cS])
          | false =>
           cases hb11: (op== (17:Int))with
           | true=>
            exact Ends.eqv (aIZ op   hb1 hb2 hb3 hb4 hb5 hb6 hb7 hb8 hb9 hb10 hb11) (by simp_all [bJ,cS])
           | false =>
            cases hb12: (op== (19:Int))with
            | true=>
             exact Ends.eqv (aI0 op   hb1 hb2 hb3 hb4 hb5 hb6 hb7 hb8 hb9 hb10 hb11 hb12) (by simp_all [bJ,cS])
            | false =>
             cases hb13: (op== (20:Int))with
             | true=>
              exact Ends.eqv (aI1 op   hb1 hb2 hb3 hb4 hb5 hb6 hb7 hb8 hb9 hb10 hb11 hb12 hb13) (by simp_all [bJ,cS])
             | false =>
              cases hb14: (op== (23:Int))with
              | true=>
               exact Ends.eqv (aI2 op   hb1 hb2 hb3 hb4 hb5 hb6 hb7 hb8 hb9 hb10 hb11 hb12 hb13 hb14) (by simp_all [bJ,cS])
              | false =>
               cases hb15: (op== (24:Int))with
               | true=>
                exact Ends.eqv (aI3 op   hb1 hb2 hb3 hb4 hb5 hb6 hb7 hb8 hb9 hb10 hb11 hb12 hb13 hb14 hb15) (by simp_all [bJ,cS])
               | false =>
                cases hb16: (op== (26:Int))with
                | true=>
                 exact Ends.eqv (aI4 op   hb1 hb2 hb3 hb4 hb5 hb6 hb7 hb8 hb9 hb10 hb11 hb12 hb13 hb14 hb15 hb16) (by simp_all [bJ,cS])
                | false =>
                 cases hb17: (op== (6:Int))with
                 | true=>
                  exact Ends.eqv (aI5 op   hb1 hb2 hb3 hb4 hb5 hb6 hb7 hb8 hb9 hb10 hb11 hb12 hb13 hb14 hb15 hb16 hb17) (by simp_all [bJ,cS])
                 | false =>
                  cases hb18: (op== (7:Int))with
                  | true=>
                   exact Ends.eqv (aI6 op   hb1 hb2 hb3 hb4 hb5 hb6 hb7 hb8 hb9 hb10 hb11 hb12 hb13 hb14 hb15 hb16 hb17 hb18) (by simp_all [bJ,cS])
                  | false =>
                   cases hb19: (op== (9:Int))with
                   | true=>
                    exact Ends.eqv (aI7 op   hb1 hb2 hb3 hb4 hb5 hb6 hb7 hb8 hb9 hb10 hb11 hb12 hb13 hb14 hb15 hb16 hb17 hb18 hb19) (by simp_all [bJ,cS])
                   | false =>
                    cases hb20: (op== (10:Int))with
                    | true=>
                     exact Ends.eqv (aI8 op   hb1 hb2 hb3 hb4 hb5 hb6 hb7 hb8 hb9 hb10 hb11 hb12 hb13 hb14 hb15 hb16 hb17 hb18 hb19 hb20) (by simp_all [bJ,cS])
                    | false =>
                     cases hb21: (op== (11:Int))with
                     | true=>
                      exact Ends.eqv (aI9 op   hb1 hb2 hb3 hb4 hb5 hb6 hb7 hb8 hb9 hb10 hb11 hb12 hb13 hb14 hb15 hb16 hb17 hb18 hb19 hb20 hb21) (by simp_all [bJ,cS])
                     | false =>
                      cases hb22: (op== (12:Int))with
                      | true=>
                       exact Ends.eqv (aJa op   hb1 hb2 hb3 hb4 hb5 hb6 hb7 hb8 hb9 hb10 hb11 hb12 hb13 hb14 hb15 hb16 hb17 hb18 hb19 hb20 hb21 hb22) (by simp_all [bJ,cS])
                      | false =>
                       cases hb23: (op== (13:Int))with
                       | true=>
                        exact Ends.eqv (aJb op   hb1 hb2 hb3 hb4 hb5 hb6 hb7 hb8 hb9 hb10 hb11 hb12 hb13 hb14 hb15 hb16 hb17 hb18 hb19 hb20 hb21 hb22 hb23) (by simp_all [bJ,cS])
                       | false=>
                        cases hb24: (op== (18:Int))with
                        | true=>
                         exact Ends.eqv (aJc op   hb1 hb2 hb3 hb4 hb5 hb6 hb7 hb8 hb9 hb10 hb11 hb12 hb13 hb14 hb15 hb16 hb17 hb18 hb19 hb20 hb21 hb22 hb23 hb24) (by simp_all [bJ,cS])
                        | false=>
                         cases hb25: (op== (22:Int))with
                         | true=>
                          exact Ends.eqv (aJd op   hb1 hb2 hb3 hb4 hb5 hb6 hb7 hb8 hb9 hb10 hb11 hb12 hb13 hb14 hb15 hb16 hb17 hb18 hb19 hb20 hb21 hb22 hb23 hb24 hb25) (by simp_all [bJ,cS])
                         | false=>
                          cases hb26: (op== (8:Int))with
                          | true=>
                           exact Ends.eqv (aJe op   hb1 hb2 hb3 hb4 hb5 hb6 hb7 hb8 hb9 hb10 hb11 hb12 hb13 hb14 hb15 hb16 hb17 hb18 hb19 hb20 hb21 hb22 hb23 hb24 hb25 hb26) (by simp_all [bJ,cS])
                          | false=>
                           cases hb27: (op== (14:Int))with
                           | true=>
                            exact Ends.eqv (aJf op   hb1 hb2 hb3 hb4 hb5 hb6 hb7 hb8 hb9 hb10 hb11 hb12 hb13 hb14 hb15 hb16 hb17 hb18 hb19 hb20 hb21 hb22 hb23 hb24 hb25 hb26 hb27) (by simp_all [bJ,cS])
                           | false=>
                            cases hb28: (op== (15:Int))with
                            | true=>
                             exact Ends.eqv (aJg op   hb1 hb2 hb3 hb4 hb5 hb6 hb7 hb8 hb9 hb10 hb11 hb12 hb13 hb14 hb15 hb16 hb17 hb18 hb19 hb20 hb21 hb22 hb23 hb24 hb25 hb26 hb27 hb28) (by simp_all [bJ,cS])
                            | false=>
                             exact Ends.eqv (aJh op   hb1 hb2 hb3 hb4 hb5 hb6 hb7 hb8 hb9 hb10 hb11 hb12 hb13 hb14 hb15 hb16 hb17 hb18 hb19 hb20 hb21 hb22 hb23 hb24 hb25 hb26 hb27 hb28) (by simp_all [bJ,cS])
theorem aOG (op:Int) :keyless (bJ op) =true:=by
 unfold bJ;split
 ·rfl
 · split
   ·rfl
   ·split<;>rfl
theorem aJp (op:Int) :Pure PP 279 [.int .i64 op] (bJ op) :=
 aU (by kernel_rfl) rfl (aOG op) (bKidsOf_E op)
theorem aFu (p:Prog)(x:Node)(hc:p.cons.length≤1000)(hx:x.pats.length≤10) :
  ∀ (t:List Pat) (i:Nat),x.pats.drop i=t→Ends PP 0 (rM p x (i:Int)).as (.ret (.bool (t.all (iD p.cons)))) (aD [] 0)
 | [],i,h=>by
  have:=bA h;exact Ends.eqv (aRQ p x i sd) (by simp)
 | .mk f n s ps::t,i,h=>by
  obtain⟨g1,g2,g3⟩ :=aY h;have hs:=aFl (.mk f n s ps) 12 (by omega) (by omega);by_cases k:cU (.mk f n s ps) ≤12
  · have hg:pI (.mk f n s ps) 12≤12:= (aHf (.mk f n s ps) 12 (by omega)).2 (by omega);have hq:=aHl p hc (.mk f n s ps) (by omega);cases kq:dE p.cons (.mk f n s ps)with
    | false=>
     rw [kq]at hq;exact Ends.eqv (aRN p x i f n s ps _ false sd sd sd hs (decide_eq_true hg) hq rfl) (by simp [iD,kq])
    | true=>
     rw [kq]at hq;refine(aRO p x i f n s ps _ true sd sd sd hs (decide_eq_true hg) hq rfl sd).ends ?_;exact Ends.eqv (aFu p x hc hx t (i+1) g2) (by simp [iD,k,kq])
  · have hg:¬pI (.mk f n s ps) 12≤12:=fun g=>k (by have:= (aHf (.mk f n s ps) 12 (by omega)).1 g;omega);exact Ends.eqv (aRP p x i f n s ps _ sd sd sd hs (decide_eq_false hg)) (by simp [iD,k])
theorem aOH (p:Prog)(x:Node)(hc:p.cons.length≤1000)(hf:p.funs.length≤1000)(hx:x.pats.length≤10)(hk:x.kids.length≤10) :Pure PP 248 [Prog.av p,Node.av x] (.bool (bH p x)) :=by
 refine aU (by kernel_rfl) rfl rfl ?_;have hw:IntKind.i64.wrap ((p.cons.length:Int) -1) = (p.cons.length:Int) -1:=by apply wrap64<;>omega
 have hko:=aJp x.op;have hn:=aJj p x hf;have hl:=aFu p x hc hx x.pats 0 rfl;cases kf:cS x.op with
 | some k=>
  obtain⟨e1,e2,e3⟩ :=aLZ kf (x.pats.length:Int) (fX p x);have ev:bJ x.op= .iface 334 (.int .i64 k) :=by unfold bJ;rw [kf]
  rw [ev]at hko;have en:bH p x= (nO p x&&decide (x.pats.length=0) &&x.pats.all (iD p.cons) &&decide ((x.kids.length:Int) =k)) :=by
   simp only [bH,eP,nO,e1,if_neg e2,if_neg e3]
  rw [en];by_cases g0:x.pats.length=0
  · by_cases g1: (x.kids.length:Int) =k
    · have b1: (((length x.kids:Nat) :Int) ==k) =true:=by simp [g1]
      cases g2:nO p x with
      | false=>
       rw [g2]at hn;exact Ends.eqv (aOz p x k false hko sd b1 hn rfl) (by simp)
      | true=>
       rw [g2]at hn;refine(aOy p x k true hko sd b1 hn rfl).ends ?_;exact Ends.eqv hl (by simp [g0,g1])
    · have b1: (((length x.kids:Nat) :Int) ==k) =false:=by simp [g1]
      exact Ends.eqv (aOA p x k hko sd b1) (by simp [g1])
  ·exact Ends.eqv (aRM p x k hko sd) (by simp [g0])
 | none =>
  have e1:=aOF kf (x.pats.length:Int) (fX p x);by_cases h15:x.op=15
  · have ev:bJ x.op= .iface 317 (.agg []) :=by unfold bJ;rw [kf];simp only [h15,if_true]
    rw [ev]at hko;have en:bH p x= (nO p x&&cT (x.pats.length:Int) 1 5&&x.pats.all (iD p.cons) &&decide ((x.kids.length:Int) =1+ (x.pats.length:Int))) :=by
     simp only [bH,eP,nO,e1,if_pos h15,if_neg (show ¬x.op=14 by omega)]
    rw [en];have hi:=fY (x.pats.length:Int) 1 5;cases g0:cT (x.pats.length:Int) 1 5 with
    | false=>
     rw [g0]at hi;exact Ends.eqv (aRH p x false hko hi rfl) (by simp)
    | true=>
     rw [g0]at hi;by_cases g1: (x.kids.length:Int) =1+ (x.pats.length:Int)
     · have b1: (((length x.kids:Nat) :Int) == ((1:Int) + ((length x.pats:Nat) :Int))) =true:=by simp [g1]
       cases g2:nO p x with
       | false=>
        rw [g2]at hn;exact Ends.eqv (aRF p x true false hko hi rfl sd b1 hn rfl) (by simp)
       | true=>
        rw [g2]at hn;refine(aRE p x true true hko hi rfl sd b1 hn rfl).ends ?_;exact Ends.eqv hl (by simp [g1])
     · have b1: (((length x.kids:Nat) :Int) == ((1:Int) + ((length x.pats:Nat) :Int))) =false:=by simp [g1]
       exact Ends.eqv (aRG p x true hko hi rfl sd b1) (by simp [g1])
  · by_cases h14:x.op=14
    · have ev:bJ x.op= .iface 335 (.agg []) :=by unfold bJ;rw [kf];simp [h14]
      rw [ev]at hko;have en:bH p x= (cT x.n 0 ((p.cons.length:Int) -1) &&decide (x.pats.length=0) &&x.pats.all (iD p.cons) &&decide ((x.kids.length:Int) =fX p x)) :=by
       simp only [bH,eP,bI,e1,if_neg h15,if_pos h14,if_neg (show ¬x.op=1 by omega),if_neg (show ¬x.op=2 by omega),if_neg (show ¬x.op=4 by omega),if_neg (show ¬x.op=24 by omega)]
      rw [en];by_cases g0:x.pats.length=0
      · have hi:=fY x.n 0 ((p.cons.length:Int) -1);rw [←hw]at hi;cases g1:cT x.n 0 ((p.cons.length:Int) -1)with
        | false=>
         rw [hw,g1,←hw]at hi;exact Ends.eqv (aRL p x false hko sd hi rfl) (by simp)
        | true=>
         rw [hw,g1,←hw]at hi;have hb:=inB_iff.1 g1;obtain⟨c,hcx⟩ :∃c,p.cons[x.n.toNat]?=some c:= ⟨_,List.getElem?_eq_getElem (by omega)⟩;have ea:fX p x=c.args:=by simp [fX,h14,g1,fA,hcx]
         rw [ea];by_cases g2: (x.kids.length:Int) =c.args
         · have b1: (((length x.kids:Nat) :Int) ==c.args) =true:=by simp [g2]
           have hnn:nO p x=true:=by simp [nO,h14]
           rw [hnn]at hn;refine(aRJ p x true c true hko sd hi rfl (by omega) hcx b1 hn rfl).ends ?_;exact Ends.eqv hl (by simp [g0,g2])
         · have b1: (((length x.kids:Nat) :Int) ==c.args) =false:=by simp [g2]
           exact Ends.eqv (aRK p x true c hko sd hi rfl (by omega) hcx b1) (by simp [g2])
      ·exact Ends.eqv (aRI p x hko sd) (by simp [g0])
    · have ev:bJ x.op= .nili:=by unfold bJ;rw [kf];simp [h15,h14]
      rw [ev]at hko;have en:bH p x=false:=by
       have:dO x.op x.pats.length (fX p x) = -1:=by rw [e1,if_neg h15,if_neg h14]
       have h2:¬ (x.kids.length:Int) = -1:=by omega
       simp [bH,this,h2]
      rw [en];exact aOB p x hko
mutual
def aUS :Pat→List aB
 | .mk f _ t ps=>if f=2 then [t]else aPY ps
def aPY :List Pat→List aB
 | [] =>[]
 |p::ps=>aUS p++aPY ps
end
end
end Go.Hb
