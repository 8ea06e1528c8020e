/- A machine on abstract values, its soundness, ways, plain laws. -/
import Derived.Test.YtfaikcecgpcimaaGreatHF
import Derived.Test.YtfaikcecgpcimaaGreatHG
import Derived.Test.YtfaikcecgpcimaaGreatHK
import Derived.Test.YtfaikcecgpcimaaGreatHL
import Derived.Test.YtfaikcecgpcimaaGreatHM
set_option linter.defProp false
set_option linter.unusedVariables false
set_option linter.unusedSimpArgs false
set_option linter.unusedSectionVars false
set_option maxRecDepth 100000
set_option maxHeartbeats 4000000
namespace Go.Hb
open Bool (and_eq_true)
open List (append_assoc append_nil drop getElem?_eq_getElem getElem?_map length length_append length_cons length_map length_set map map_append map_cons map_map mem_cons_of_mem mem_cons_self mem_of_getElem? range replicate set take zipWith)
open Pats (av)
open Go.Proofs Tryz
noncomputable section
def aVj(b:List Node)(c d:List Int)(a:List ONode)(e f:Int)(g:aB)(i:List Pat):TS:=cI PP 206 [(.ptr 0 0),(.agg [(nI e),(nI f),(aA g),(iP i)])] [oC 0 [(iN b),(.gl 1 4 0 a.length false),(iI c),(iI d)],oL 1 4 (map ONode.av a)] 2
def aFP(d:List Node)(e f:List Int)(a:List ONode)(g k:Int)(l:aB)(b:List Pat)(i j:Int)(c:List Pat):TS:=⟨(tf 206 42 [kp 0 0,kp 4 2,kp 5 3,(26,(iP b)),(27,(nI (b.length:Int))),(28,(nI j))] [kc f206 244,kl f206 244,.inBlock 0,kc f206 31]),[],[oC 0 [(iN d),(.gl 1 4 0 a.length false),(iI e),(iI f)],oL 1 4 (map ONode.av a),oC 2 [(nI 0),(nI 0),(.str 0 0),.nils],oC 3 [(nI g),(nI i),(.str 0 0),(.gl 4 4 0 c.length false)],oL 4 4 (av c)],5⟩
def aVk(b:List Node)(c d:List Int)(a:List ONode)(e:Int):TS:=cI PP 144 [(.ptr 0 0),(nI e)] [oC 0 [(iN b),(.gl 1 4 0 a.length false),(iI c),(iI d)],oL 1 4 (map ONode.av a)] 2
def xW(c:List Node)(d e:List Int)(a:List ONode)(p:Int)(f:List Pat)(g i j:Int)(k:List Int)(l:List Pat)(m n o:Int)(b:List Pat):TS:=⟨(tf 144 94 [kp 0 0,(4,(nI 0)),kp 5 1,kp 6 2,(56,(iP f)),(57,(nI g)),(58,(nI o))] [kc f144 500,kl f144 500,.inBlock 1,kc f144 63]),[],[oC 0 [(iN c),(.gl 3 4 0 a.length false),(iI d),(iI e)],oC 1 [(nI i),(nI j),(iI k),(iP l)],oC 2 [(nI m),(nI n),.nils,(.gl 4 4 0 b.length false)],oL 3 4 (map ONode.av a),oL 4 4 (av b)],5⟩
def aJM(d:List Node)(e f:List Int)(a:List ONode)(i:Int)(b:List Int)(g:Int)(c:List ONode):TS:=⟨(tf 207 39 [kp 0 0,(2,(nI (a.length:Int))),(3,(.func 144 [(.ptr 0 0)] [])),(11,(iI b)),(12,(nI g)),(13,(nI 0))] [kc f207 12,kl f207 12,.inBlock 0]),[(tf 144 94 [(4,(nI 0)),(9,(nI (a.length:Int))),kp 86 0,(88,(iI b)),(89,(nI (a.length:Int))),(91,(.func 144 [(.ptr 0 0)] []))] [ko f144 510 6,kc f144 511])],[oC 0 [(iN d),(.gl 1 4 0 c.length false),(iI e),(iI f)],oL 1 4 (map ONode.av c)],2⟩
def aVl(d:List Node)(e f:List Int)(a:List ONode)(j g:Int)(b:List Int)(i:Int)(c:List ONode):TS:=⟨(tf 207 39 [kp 0 0,(2,(nI (a.length:Int))),(3,(.func 144 [(.ptr 0 0)] [])),(10,(nI g)),(11,(iI b)),(12,(nI i)),(13,(nI 0))] [kc f207 819,.inBlock 1,kc f207 103,kl f207 12,.inBlock 0]),[(tf 144 94 [(4,(nI 0)),(9,(nI (a.length:Int))),kp 86 0,(88,(iI b)),(89,(nI (a.length:Int))),(91,(.func 144 [(.ptr 0 0)] []))] [ko f144 510 6,kc f144 511])],[oC 0 [(iN d),(.gl 1 4 0 c.length false),(iI e),(iI f)],oL 1 4 (map ONode.av c)],2⟩
def aP9(d:List Node)(e f:List Int)(a:List ONode)(n g:Int)(b:List Int)(i:Int)(c:List ONode)(j:Nat)(k l:Int)(m:List Pat):TS:=⟨(tf 207 39 [kp 0 0,(2,(nI (a.length:Int))),(3,(.func 144 [(.ptr 0 0)] [])),(10,(nI g)),(11,(iI b)),(12,(nI i)),(13,(nI 0))] [kc f207 819,.inBlock 1,kc f207 103,kl f207 12,.inBlock 0]),[(tf 144 94 [(4,(nI 0)),(9,(nI (a.length:Int))),kp 86 0,(88,(iI b)),(89,(nI (a.length:Int))),(91,(.func 144 [(.ptr 0 0)] []))] [ko f144 510 6,kc f144 511])],[oC 0 [(iN d),(.gl 1 4 0 c.length false),(iI e),(iI f)],(1,(.lst 4 (set (map ONode.av c) j (.agg [(nI k),(nI l),(.gl 2 1 0 ([] :List Int).length false),(iP m)]))),false),oL 2 1 (jI ([] :List Int))],3⟩
def aCW(d:List Node)(e f:List Int)(a:List ONode)(l:Int)(b:List Int)(g:Int)(c:List ONode)(i:List Int)(j:Value)(k:Int):TS:=⟨(tf 207 39 [kp 0 0,(2,(nI (a.length:Int))),(3,(.func 144 [(.ptr 0 0)] [])),(11,(iI b)),(12,(nI g)),(13,(nI k))] [kc f207 12,kl f207 12,.inBlock 0]),[(tf 144 94 [(4,(nI 0)),(9,(nI (a.length:Int))),kp 86 0,(88,(iI b)),(89,(nI (a.length:Int))),(91,(.func 144 [(.ptr 0 0)] []))] [ko f144 510 6,kc f144 511])],[oC 0 [(iN d),(.gl 1 4 0 c.length false),(iI e),(iI f)],oL 1 4 (map ONode.av c),(2,(.lstv j 1 (jI i)),true)],3⟩
def aVm(d:List Node)(e f:List Int)(a:List ONode)(m g:Int)(b:List Int)(i:Int)(c:List ONode)(j:List Int)(k:Value)(l:Int):TS:=⟨(tf 207 39 [kp 0 0,(2,(nI (a.length:Int))),(3,(.func 144 [(.ptr 0 0)] [])),(10,(nI g)),(11,(iI b)),(12,(nI i)),(13,(nI l))] [kc f207 819,.inBlock 1,kc f207 103,kl f207 12,.inBlock 0]),[(tf 144 94 [(4,(nI 0)),(9,(nI (a.length:Int))),kp 86 0,(88,(iI b)),(89,(nI (a.length:Int))),(91,(.func 144 [(.ptr 0 0)] []))] [ko f144 510 6,kc f144 511])],[oC 0 [(iN d),(.gl 1 4 0 c.length false),(iI e),(iI f)],oL 1 4 (map ONode.av c),(2,(.lstv k 1 (jI j)),true)],3⟩
def aQa(e:List Node)(f g:List Int)(a:List ONode)(p i:Int)(b:List Int)(j:Int)(c:List ONode)(d:List Int)(k:Int)(l:Nat)(m n:Int)(o:List Pat):TS:=⟨(tf 207 39 [kp 0 0,(2,(nI (a.length:Int))),(3,(.func 144 [(.ptr 0 0)] [])),(10,(nI i)),(11,(iI b)),(12,(nI j)),(13,(nI k))] [kc f207 819,.inBlock 1,kc f207 103,kl f207 12,.inBlock 0]),[(tf 144 94 [(4,(nI 0)),(9,(nI (a.length:Int))),kp 86 0,(88,(iI b)),(89,(nI (a.length:Int))),(91,(.func 144 [(.ptr 0 0)] []))] [ko f144 510 6,kc f144 511])],[oC 0 [(iN e),(.gl 1 4 0 c.length false),(iI f),(iI g)],(1,(.lst 4 (set (map ONode.av c) l (.agg [(nI m),(nI n),(.gl 2 1 0 d.length false),(iP o)]))),false),oL 2 1 (jI d)],3⟩
def aVn(e:List Node)(f c:List Int)(g:List ONode)(d a:Int)(i:aB)(b:List Pat):=tT 2 (aVj e f c g d a i b)<|.b 22 15 (d==6) (.y fun j:Int=>.i [rn 1,.reg (rd 6 (.ans (.idx (aP j))::rd 3 []))] [hA (0≤a),.a (((c)[a.toNat]?) =some j) (bF (f:=aP))]<|gm 5 aK b<|.i [rn 4,.cnil 4 3 4] []<|gu 0 5 (av ([] :List Pat))<|gv 0 4 3 (.gl 5 4 0 ([] :List Pat).length false)<|.W 0 6 [3,4,5] (aFP e f c g d a i b j 0 ([] :List Pat)))<|gm 7 aK b<|.i [rn 4,.cnil 4 3 4] []<|gu 0 5 (av ([] :List Pat))<|gv 0 4 3 (.gl 5 4 0 ([] :List Pat).length false)<|.W 0 6 [3,4,5] (aFP e f c g d a i b a 0 ([] :List Pat))
def aYV:=fun a b c d e f g i j k l m=>aVn a b c d e f g i|>.t k j l m ⟨(aE _ (fun _=>aQ _) _),⟨eE,trivial⟩⟩
def aYW:=fun a b c d e f g i j=>aVn a b c d e f g i|>.f j ⟨(aE _ (fun _=>aQ _) _),⟨eE,trivial⟩⟩
def aVo(g:List Node)(i j:List Int)(b:List ONode)(k s:Int)(t:aB)(n:List Pat)(l m:Int)(a:List Pat):=tT 2 (aFP g i j b k s t n l m a)<|gd 5 29 (m< (n.length:Int)) (aEZ 6 n m<|fun o p q r=>.y fun c:Int=>.y fun d:Int=>.y fun e:aB=>.y fun f:List Pat=>.i [rn 4,.reg (rd 4 [.call (.agg [(nI c),(nI d),(aA e),(iP f)]) (aD [oC 0 [(iN g),(.gl 1 4 0 b.length false),(iI i),(iI j)],oL 1 4 (map ONode.av b),oC 2 [(nI 0),(nI 0),(.str 0 0),.nils],oC 3 [(nI k),(nI l),(.str 0 0),(.gl 4 4 0 a.length false)],oL 4 4 (av a),oC 5 [(nI o),(nI p),(aA q),(iP r)]] 7),.d,.app (av (a++ [(Pat.mk c d e f)])) (a++ [(Pat.mk c d e f)]).length,.d,.d])] [hA (Spec PP (.enter 206 [(.ptr 0 0),(.agg [(nI o),(nI p),(aA q),(iP r)])]) (aD [oC 0 [(iN g),(.gl 1 4 0 b.length false),(iI i),(iI j)],oL 1 4 (map ONode.av b),oC 2 [(nI 0),(nI 0),(.str 0 0),.nils],oC 3 [(nI k),(nI l),(.str 0 0),(.gl 4 4 0 a.length false)],oL 4 4 (av a),oC 5 [(nI o),(nI p),(aA q),(iP r)]] 7) (.ret (.agg [(nI c),(nI d),(aA e),(iP f)])) (aD [oC 0 [(iN g),(.gl 1 4 0 b.length false),(iI i),(iI j)],oL 1 4 (map ONode.av b),oC 2 [(nI 0),(nI 0),(.str 0 0),.nils],oC 3 [(nI k),(nI l),(.str 0 0),(.gl 4 4 0 a.length false)],oL 4 4 (av a),oC 5 [(nI o),(nI p),(aA q),(iP r)]] 7)),hB aK a,hA (length (a++ [(Pat.mk c d e f)]) ≤1000000),hC aK a [(Pat.mk c d e f)],hE aK a [(Pat.mk c d e f)],hr (AV.gl 4 4 0 a.length false),hr (AV.gl 4 4 0 a.length false)]<|gw 3 40 (m+1)<|.W 3 8 [2,3,7] (aFP g i j b k s t n l (m+1) (a++ [(Pat.mk c d e f)])))<|gY 8 2 3 4 4 aK eE a false<|.E 0 5 [] (.agg [(nI k),(nI l),(.str 0 0),(iP a)]) [oC 0 [(iN g),(.gl 1 4 0 b.length false),(iI i),(iI j)],oL 1 4 (map ONode.av b)] 2
def aYX:=fun a b c d e f g i j k l m n o p q r s t u v w x y z=>aVo a b c d e f g i j k l|>.t u m n o p v w q r s t x y z ⟨(aE _ (fun _=>aQ _) _),⟨eE,trivial⟩⟩
def aYY:=fun a b c d e f g i j k l m=>aVo a b c d e f g i j k l|>.f m ⟨(aE _ (fun _=>aQ _) _),trivial⟩
def aJN(d:List Node)(e c:List Int)(g:List ONode)(f:Int):=tT 1 (aVk d e c g f)<|gX Node.av 11 d f<|fun a=>.b 22 26 (a.op==4) (gd 6 22 (a.n<0) (.y fun b:Int=>.i [rn 1,.reg (rd 7 (.ans (.idx (aP b))::rd 4 []))] [hA (0≤ (IntKind.i64.wrap ((-1:Int) -a.n))),.a (((e)[(IntKind.i64.wrap ((-1:Int) -a.n)).toNat]?) =some b) (bF (f:=aP))]<|gm 6 aK a.pats<|.i [rn 4,.cnil 3 3 4] []<|gu 0 4 (av ([] :List Pat))<|gv 0 3 3 (.gl 4 4 0 ([] :List Pat).length false)<|.W 0 5 [2,3,1,4] (xW d e c g f a.pats (a.pats.length:Int) a.op a.n a.kids a.pats a.op (IntKind.i64.wrap ((-1:Int) -b)) 0 ([] :List Pat)))<|.b 8 42 (a.op==14) (.y fun b:Int=>.i [rn 1,.reg (rd 6 (.ans (.idx (aP b))::rd 3 []))] [hA (0≤a.n),.a (((c)[a.n.toNat]?) =some b) (bF (f:=aP))]<|gm 6 aK a.pats<|.i [rn 4,.cnil 3 3 4] []<|gu 0 4 (av ([] :List Pat))<|gv 0 3 3 (.gl 4 4 0 ([] :List Pat).length false)<|.W 0 5 [2,3,1,4] (xW d e c g f a.pats (a.pats.length:Int) a.op a.n a.kids a.pats a.op b 0 ([] :List Pat)))<|gm 8 aK a.pats<|.i [rn 4,.cnil 3 3 4] []<|gu 0 4 (av ([] :List Pat))<|gv 0 3 3 (.gl 4 4 0 ([] :List Pat).length false)<|.W 0 5 [2,3,1,4] (xW d e c g f a.pats (a.pats.length:Int) a.op a.n a.kids a.pats a.op a.n 0 ([] :List Pat)))<|.b 14 42 (a.op==14) (.y fun b:Int=>.i [rn 1,.reg (rd 6 (.ans (.idx (aP b))::rd 3 []))] [hA (0≤a.n),.a (((c)[a.n.toNat]?) =some b) (bF (f:=aP))]<|gm 6 aK a.pats<|.i [rn 4,.cnil 3 3 4] []<|gu 0 4 (av ([] :List Pat))<|gv 0 3 3 (.gl 4 4 0 ([] :List Pat).length false)<|.W 0 5 [2,3,1,4] (xW d e c g f a.pats (a.pats.length:Int) a.op a.n a.kids a.pats a.op b 0 ([] :List Pat)))<|gm 8 aK a.pats<|.i [rn 4,.cnil 3 3 4] []<|gu 0 4 (av ([] :List Pat))<|gv 0 3 3 (.gl 4 4 0 ([] :List Pat).length false)<|.W 0 5 [2,3,1,4] (xW d e c g f a.pats (a.pats.length:Int) a.op a.n a.kids a.pats a.op a.n 0 ([] :List Pat))
def aYZ:=fun a b c d e f g i j k l m n=>aJN a b c d e f i j|>.t k|>.t l g m n ⟨(aE _ (fun _=>aQ _) _),⟨eE,trivial⟩⟩
def aY0:=fun a b c d e f g i j k l=>aJN a b c d e f g i|>.t j|>.f k|>.f l ⟨(aE _ (fun _=>aQ _) _),⟨eE,trivial⟩⟩
def aY1:=fun a b c d e f g i j k l m n=>aJN a b c d e f i j|>.f k|>.t l g m n ⟨(aE _ (fun _=>aQ _) _),⟨eE,trivial⟩⟩
def aY2:=fun a b c d e f g i j k=>aJN a b c d e f g i|>.f j|>.f k ⟨(aE _ (fun _=>aQ _) _),⟨eE,trivial⟩⟩
def aVp(k:List Node)(l m:List Int)(b:List ONode)(v:Int)(w:List Pat)(x n o:Int)(e:List Int)(p:List Pat)(c d q:Int)(a:List Pat):=tT 1 (xW k l m b v w x n o e p c d q a)<|gd 5 59 (q<x) (aEZ 6 w q<|fun r s t u=>.y fun f:Int=>.y fun g:Int=>.y fun i:aB=>.y fun j:List Pat=>.i [rn 4,.reg (rd 4 [.call (.agg [(nI f),(nI g),(aA i),(iP j)]) (aD [oC 0 [(iN k),(.gl 3 4 0 b.length false),(iI l),(iI m)],oC 1 [(nI n),(nI o),(iI e),(iP p)],oC 2 [(nI c),(nI d),.nils,(.gl 4 4 0 a.length false)],oL 3 4 (map ONode.av b),oL 4 4 (av a),oC 5 [(nI r),(nI s),(aA t),(iP u)]] 7),.d,.app (av (a++ [(Pat.mk f g i j)])) (a++ [(Pat.mk f g i j)]).length,.d,.d])] [hA (Spec PP (.enter 206 [(.ptr 0 0),(.agg [(nI r),(nI s),(aA t),(iP u)])]) (aD [oC 0 [(iN k),(.gl 3 4 0 b.length false),(iI l),(iI m)],oC 1 [(nI n),(nI o),(iI e),(iP p)],oC 2 [(nI c),(nI d),.nils,(.gl 4 4 0 a.length false)],oL 3 4 (map ONode.av b),oL 4 4 (av a),oC 5 [(nI r),(nI s),(aA t),(iP u)]] 7) (.ret (.agg [(nI f),(nI g),(aA i),(iP j)])) (aD [oC 0 [(iN k),(.gl 3 4 0 b.length false),(iI l),(iI m)],oC 1 [(nI n),(nI o),(iI e),(iP p)],oC 2 [(nI c),(nI d),.nils,(.gl 4 4 0 a.length false)],oL 3 4 (map ONode.av b),oL 4 4 (av a),oC 5 [(nI r),(nI s),(aA t),(iP u)]] 7)),hB aK a,hA (length (a++ [(Pat.mk f g i j)]) ≤1000000),hC aK a [(Pat.mk f g i j)],hE aK a [(Pat.mk f g i j)],hr (AV.gl 4 4 0 a.length false),hr (AV.gl 4 4 0 a.length false)]<|gw 3 70 (q+1)<|.W 3 8 [1,2,3,7] (xW k l m b v w x n o e p c d (q+1) (a++ [(Pat.mk f g i j)])))<|gY 12 2 3 4 4 aK eE a false<|.i [.reg (rd 7 (.app (map ONode.av (b++ [(ONode.mk c d KV.nil a)])) (b++ [(ONode.mk c d KV.nil a)]).length::rd 3 []))] [hb ONode.av b,hA (length (b++ [(ONode.mk c d KV.nil a)]) ≤1000000),hc ONode.av b [(ONode.mk c d KV.nil a)],he ONode.av b [(ONode.mk c d KV.nil a)]]<|gl 12 aP e<|.W 4 7 [6] (aJM k l m b v e (e.length:Int) (b++ [(ONode.mk c d KV.nil a)]))
def aY3:=fun a b c d e f g i j k l m n o p q r s t u v w x y z A B C D=>aVp a b c d e f g i j k l m n o p|>.t y q r s t z A u v w x B C D ⟨(aE _ (fun _=>aQ _) _),⟨eE,trivial⟩⟩
def aY4:=fun a b c d e f g i j k l m n o p q r=>aVp a b c d e f g i j k l m n o p|>.f q r ⟨(aE _ (fun _=>aQ _) _),trivial⟩
def aVq(d:List Node)(e f:List Int)(c:List ONode)(k:Int)(g:List Int)(i:Int)(b:List ONode):=tT 1 (aJM d e f c k g i b)<|gd 5 14 (0<i) (gX aP 6 g 0<|fun a=>.y fun j:List Node=>gk 7 (.enter 144 [(.ptr 0 0),(nI a)]) [oC 0 [(iN d),(.gl 1 4 0 b.length false),(iI e),(iI f)],oL 1 4 (map ONode.av b)] 2 (nI (b.length:Int)) [oC 0 [(iN d),(.gl 2 4 0 (b++map Node.o j).length false),(iI e),(iI f)],oL 2 4 (map ONode.av (b++map Node.o j))] 3<|.W 2 3 [2] (aVl d e f c k (b.length:Int) g i (b++map Node.o j)))<|.y fun a:ONode=>.i [rn 11,.lw 1 (map ONode.av (set b c.length (ONode.mk a.op a.n (KV.row []) a.pats)))] [.a (b[c.length]?=some a) (p':=(map ONode.av b) ≠ []) aIW,.a (b[c.length]?=some a∧a.kv=KV.nil) (p':=VW (map ONode.av b) (map ONode.av (set b c.length (ONode.mk a.op a.n (KV.row []) a.pats)))) fun⟨ha,hb⟩=>(aTs ha hb)]<|.i [.cset 0 1 (.gl 1 4 0 (set b c.length (ONode.mk a.op a.n (KV.row []) a.pats)).length false)] [.q (p:=(AV.gl 1 4 0 b.length false) = (.gl 1 4 0 (set b c.length (ONode.mk a.op a.n (KV.row []) a.pats)).length false)) (cB (length_set ..).symm)]<|.E 0 2 [1] (nI (c.length:Int)) [oC 0 [(iN d),(.gl 1 4 0 (set b c.length (ONode.mk a.op a.n (KV.row []) a.pats)).length false),(iI e),(iI f)],oL 1 4 (map ONode.av (set b c.length (ONode.mk a.op a.n (KV.row []) a.pats)))] 2
def aY5:=fun a b c d e f g i j k l m n o=>aVq a b c d e f g i|>.t l j m n k o ⟨(aE _ (fun _=>aQ _) _),trivial⟩
def aY6:=fun b c d e f g i j k l a m=>aVq b c d e f g i j|>.f l k a ⟨a,m⟩ ⟨(aE _ (fun _=>aQ _) _),trivial⟩
def aVr(f:List Node)(g i:List Int)(d:List ONode)(n:Int)(k:List Int)(l:Int)(b:List ONode)(c:List Int)(e:Value)(j:Int):=tT 1 (aCW f g i d n k l b c e j)<|gd 5 14 (j<l) (gX aP 6 k j<|fun a=>.y fun m:List Node=>gk 7 (.enter 144 [(.ptr 0 0),(nI a)]) [oC 0 [(iN f),(.gl 1 4 0 b.length false),(iI g),(iI i)],oL 1 4 (map ONode.av b),(2,(.lstv e 1 (jI c)),true)] 3 (nI (b.length:Int)) [oC 0 [(iN f),(.gl 3 4 0 (b++map Node.o m).length false),(iI g),(iI i)],(2,(.lstv e 1 (jI c)),true),oL 3 4 (map ONode.av (b++map Node.o m))] 4<|.W 2 4 [3,2] (aVm f g i d n (b.length:Int) k l (b++map Node.o m) c e j))<|.y fun a:ONode=>.i [rn 11,.vfrz 2 1 (map ONode.av (set b d.length (ONode.mk a.op a.n (KV.row c) a.pats)))] [.a (b[d.length]?=some a) (p':=(map ONode.av b) ≠ []) aIW,hk aP c,.a (b[d.length]?=some a∧a.kv=KV.val e) (p':=VQ e 1 (jI c) (map ONode.av b) (map ONode.av (set b d.length (ONode.mk a.op a.n (KV.row c) a.pats)))) fun⟨ha,hb⟩=>(aTt ha hb)]<|.i [.cset 0 1 (.gl 1 4 0 (set b d.length (ONode.mk a.op a.n (KV.row c) a.pats)).length false)] [.q (p:=(AV.gl 1 4 0 b.length false) = (.gl 1 4 0 (set b d.length (ONode.mk a.op a.n (KV.row c) a.pats)).length false)) (cB (length_set ..).symm)]<|.E 0 3 [1] (nI (d.length:Int)) [oC 0 [(iN f),(.gl 1 4 0 (set b d.length (ONode.mk a.op a.n (KV.row c) a.pats)).length false),(iI g),(iI i)],oL 1 4 (map ONode.av (set b d.length (ONode.mk a.op a.n (KV.row c) a.pats)))] 2
def aY7:=fun a b c d e f g i j k l m n o p q r=>aVr a b c d e f g i j k l|>.t o m p q n r ⟨(aE _ (fun _=>aQ _) _),⟨kk,trivial⟩⟩
def aY8:=fun b c d e f g i j k l m n o a p=>aVr b c d e f g i j k l m|>.f o n a ⟨a,p⟩ ⟨(aE _ (fun _=>aQ _) _),trivial⟩
theorem aY9 (fr:List Node)(fs cs:List Int)(L:List ONode)(at0 n10:Int)(c1_2:List Int)(t12:Int)(l1:List ONode)(ix:Nat)(w_op w_n:Int)(w_pats:List Pat)(h0:0≤ ((L.length:Nat) :Int))(h1: ((L.length:Nat) :Int) < ((l1.length:Nat) :Int))(h2: ((L.length:Nat) :Int).toNat=ix)(h3:ix<length l1)(h4:length (([] :List Int) ++ [n10]) ≤1000000){res:Res}{h':Hp}(hk:∀ua un uc,Ends PP 1 (let u:=Value.slice ua un uc; (aCW fr fs cs L at0 c1_2 t12 (set l1 ix (ONode.mk w_op w_n (KV.val u) w_pats)) (([] :List Int) ++ [n10]) u 1)).as res h') :
  Ends PP 1 (aP9 fr fs cs L at0 n10 c1_2 t12 l1 ix w_op w_n w_pats).as res h':=
 aFN (n1:=5) (t:=fun u=> (aCW fr fs cs L at0 c1_2 t12 (set l1 ix (ONode.mk w_op w_n (KV.val u) w_pats)) (([] :List Int) ++ [n10]) u 1)) (k:=1) (b:=4) (i:=ix) (o:=2) (ys:=fun u=> (map ONode.av (set l1 ix (ONode.mk w_op w_n (KV.val u) w_pats)))) (ks:=[1,4]) (ps:=fun u=>[NQ (set (map ONode.av l1) ix (.agg [(nI w_op),(nI w_n),(.gl 4 1 0 (([] :List Int) ++ [n10]).length false),(iP w_pats)])) ix 2 4 1 (jI (([] :List Int) ++ [n10])).length u (map ONode.av (set l1 ix (ONode.mk w_op w_n (KV.val u) w_pats))),0≤ ((L.length:Nat) :Int),((L.length:Nat) :Int) < ((l1.length:Nat) :Int),(set (map ONode.av l1) ix (.agg [(nI w_op),(nI w_n),(.gl 2 1 0 ([] :List Int).length false),(iP w_pats)]))[(0+ ((L.length:Nat) :Int).toNat)]?=some (.agg [(nI w_op),(nI w_n),(.gl 2 1 0 ([] :List Int).length false),(iP w_pats)]),0+ ([] :List Int).length≤length (jI ([] :List Int)),length (([] :List Int) ++ [n10]) ≤1000000,take ([] :List Int).length (drop 0 (jI ([] :List Int))) ++ (jI [n10]) = (jI (([] :List Int) ++ [n10])),([] :List Int).length+length (jI [n10]) =length (([] :List Int) ++ [n10]),0≤ ((L.length:Nat) :Int),((L.length:Nat) :Int) < ((l1.length:Nat) :Int),(set (map ONode.av l1) ix (.agg [(nI w_op),(nI w_n),(.gl 2 1 0 ([] :List Int).length false),(iP w_pats)]))[(0+ ((L.length:Nat) :Int).toNat)]?=some (.agg [(nI w_op),(nI w_n),(.gl 2 1 0 ([] :List Int).length false),(iP w_pats)]),pT (.agg [(nI w_op),(nI w_n),(.gl 2 1 0 ([] :List Int).length false),(iP w_pats)]) 2 [(.gl 4 1 0 (([] :List Int) ++ [n10]).length false)] =some (.agg [(nI w_op),(nI w_n),(.gl 4 1 0 (([] :List Int) ++ [n10]).length false),(iP w_pats)]),(AV.gl 1 4 0 l1.length false) = (AV.gl 1 4 0 l1.length false),(AV.gl 1 4 0 l1.length false) = (AV.gl 1 4 0 l1.length false),(set (map ONode.av l1) ix (.agg [(nI w_op),(nI w_n),(.gl 2 1 0 ([] :List Int).length false),(iP w_pats)])).set (0+ ((L.length:Nat) :Int).toNat) (.agg [(nI w_op),(nI w_n),(.gl 4 1 0 (([] :List Int) ++ [n10]).length false),(iP w_pats)]) = (set (map ONode.av l1) ix (.agg [(nI w_op),(nI w_n),(.gl 4 1 0 (([] :List Int) ++ [n10]).length false),(iP w_pats)])),(AV.gl 1 4 0 l1.length false) = (.gl 1 4 0 (set l1 ix (ONode.mk w_op w_n (KV.val u) w_pats)).length false),(AV.gl 1 4 0 l1.length false) = (.gl 1 4 0 (set l1 ix (ONode.mk w_op w_n (KV.val u) w_pats)).length false),(AV.gl 1 4 0 l1.length false) = (.gl 1 4 0 (set l1 ix (ONode.mk w_op w_n (KV.val u) w_pats)).length false)]) (is:=[.reg [.d,.d,.d,.d,.d,.d,.d,.d,.d,.d,.ans (.ix),.d,.ans (.idx (.agg [(nI w_op),(nI w_n),(.gl 2 1 0 ([] :List Int).length false),(iP w_pats)])),.d,.d,.app (jI (([] :List Int) ++ [n10])) (([] :List Int) ++ [n10]).length,.ans (.ix),.d,.st (.agg [(nI w_op),(nI w_n),(.gl 2 1 0 ([] :List Int).length false),(iP w_pats)]) (.agg [(nI w_op),(nI w_n),(.gl 4 1 0 (([] :List Int) ++ [n10]).length false),(iP w_pats)])],.lset 1 (set (map ONode.av l1) ix (.agg [(nI w_op),(nI w_n),(.gl 4 1 0 (([] :List Int) ++ [n10]).length false),(iP w_pats)])),.run 1]) (is2:=fun u=>[.set 23 (.gl 1 4 0 (set l1 ix (ONode.mk w_op w_n (KV.val u) w_pats)).length false),.set 28 (.gl 1 4 0 (set l1 ix (ONode.mk w_op w_n (KV.val u) w_pats)).length false),.cset 0 1 (.gl 1 4 0 (set l1 ix (ONode.mk w_op w_n (KV.val u) w_pats)).length false),.run 5]) (fun u=>by kernel_rfl) (fun u=>by kernel_rfl) (fun u=> ⟨(aE _ (fun _=>aQ _) _),⟨(aE _ (fun _=>rfl) _),trivial⟩⟩) (fun u=> ⟨(bCh [(nI w_op),(nI w_n)] [(iP w_pats)] h3 (length_map ..) (by simp) rfl),h0,h1,(aJK h2 h3),(aIO _ _),h4,(aIP _ _ _),(aIQ _ _ _),h0,h1,(aJK h2 h3),rfl,rfl,rfl,(aVh h2),(cB (length_set ..).symm),(cB (length_set ..).symm),(cB (length_set ..).symm)⟩) hk
theorem aZa (fr:List Node)(fs cs:List Int)(L:List ONode)(at0 n10:Int)(c1_2:List Int)(t12:Int)(l1:List ONode)(k2:List Int)(t13:Int)(ix:Nat)(w_op w_n:Int)(w_pats:List Pat)(h0:0≤ ((L.length:Nat) :Int))(h1: ((L.length:Nat) :Int) < ((l1.length:Nat) :Int))(h2: ((L.length:Nat) :Int).toNat=ix)(h3:ix<length l1)(h4:length (k2++ [n10]) ≤1000000)(h5: (IntKind.i64.wrap (t13+ (1:Int))) = (t13+ (1:Int))){res:Res}{h':Hp}(hk:∀ua un uc,Ends PP 1 (let u:=Value.slice ua un uc; (aCW fr fs cs L at0 c1_2 t12 (set l1 ix (ONode.mk w_op w_n (KV.val u) w_pats)) (k2++ [n10]) u (t13+ (1:Int)))).as res h') :
  Ends PP 1 (aQa fr fs cs L at0 n10 c1_2 t12 l1 k2 t13 ix w_op w_n w_pats).as res h':=
 aFN (n1:=5) (t:=fun u=> (aCW fr fs cs L at0 c1_2 t12 (set l1 ix (ONode.mk w_op w_n (KV.val u) w_pats)) (k2++ [n10]) u (t13+ (1:Int)))) (k:=1) (b:=4) (i:=ix) (o:=2) (ys:=fun u=> (map ONode.av (set l1 ix (ONode.mk w_op w_n (KV.val u) w_pats)))) (ks:=[1,4]) (ps:=fun u=>[NQ (set (map ONode.av l1) ix (.agg [(nI w_op),(nI w_n),(.gl 4 1 0 (k2++ [n10]).length false),(iP w_pats)])) ix 2 4 1 (jI (k2++ [n10])).length u (map ONode.av (set l1 ix (ONode.mk w_op w_n (KV.val u) w_pats))),0≤ ((L.length:Nat) :Int),((L.length:Nat) :Int) < ((l1.length:Nat) :Int),(set (map ONode.av l1) ix (.agg [(nI w_op),(nI w_n),(.gl 2 1 0 k2.length false),(iP w_pats)]))[(0+ ((L.length:Nat) :Int).toNat)]?=some (.agg [(nI w_op),(nI w_n),(.gl 2 1 0 k2.length false),(iP w_pats)]),0+k2.length≤length (jI k2),length (k2++ [n10]) ≤1000000,take k2.length (drop 0 (jI k2)) ++ (jI [n10]) = (jI (k2++ [n10])),k2.length+length (jI [n10]) =length (k2++ [n10]),0≤ ((L.length:Nat) :Int),((L.length:Nat) :Int) < ((l1.length:Nat) :Int),(set (map ONode.av l1) ix (.agg [(nI w_op),(nI w_n),(.gl 2 1 0 k2.length false),(iP w_pats)]))[(0+ ((L.length:Nat) :Int).toNat)]?=some (.agg [(nI w_op),(nI w_n),(.gl 2 1 0 k2.length false),(iP w_pats)]),pT (.agg [(nI w_op),(nI w_n),(.gl 2 1 0 k2.length false),(iP w_pats)]) 2 [(.gl 4 1 0 (k2++ [n10]).length false)] =some (.agg [(nI w_op),(nI w_n),(.gl 4 1 0 (k2++ [n10]).length false),(iP w_pats)]),(AV.gl 1 4 0 l1.length false) = (AV.gl 1 4 0 l1.length false),(AV.gl 1 4 0 l1.length false) = (AV.gl 1 4 0 l1.length false),(set (map ONode.av l1) ix (.agg [(nI w_op),(nI w_n),(.gl 2 1 0 k2.length false),(iP w_pats)])).set (0+ ((L.length:Nat) :Int).toNat) (.agg [(nI w_op),(nI w_n),(.gl 4 1 0 (k2++ [n10]).length false),(iP w_pats)]) = (set (map ONode.av l1) ix (.agg [(nI w_op),(nI w_n),(.gl 4 1 0 (k2++ [n10]).length false),(iP w_pats)])),(AV.gl 1 4 0 l1.length false) = (.gl 1 4 0 (set l1 ix (ONode.mk w_op w_n (KV.val u) w_pats)).length false),(AV.gl 1 4 0 l1.length false) = (.gl 1 4 0 (set l1 ix (ONode.mk w_op w_n (KV.val u) w_pats)).length false),(AV.gl 1 4 0 l1.length false) = (.gl 1 4 0 (set l1 ix (ONode.mk w_op w_n (KV.val u) w_pats)).length false),(nI (IntKind.i64.wrap (t13+ (1:Int)))) = (nI (t13+ (1:Int)))]) (is:=[.reg [.d,.d,.d,.d,.d,.d,.d,.d,.d,.d,.ans (.ix),.d,.ans (.idx (.agg [(nI w_op),(nI w_n),(.gl 2 1 0 k2.length false),(iP w_pats)])),.d,.d,.app (jI (k2++ [n10])) (k2++ [n10]).length,.ans (.ix),.d,.st (.agg [(nI w_op),(nI w_n),(.gl 2 1 0 k2.length false),(iP w_pats)]) (.agg [(nI w_op),(nI w_n),(.gl 4 1 0 (k2++ [n10]).length false),(iP w_pats)])],.lset 1 (set (map ONode.av l1) ix (.agg [(nI w_op),(nI w_n),(.gl 4 1 0 (k2++ [n10]).length false),(iP w_pats)])),.run 1]) (is2:=fun u=>[.set 23 (.gl 1 4 0 (set l1 ix (ONode.mk w_op w_n (KV.val u) w_pats)).length false),.set 28 (.gl 1 4 0 (set l1 ix (ONode.mk w_op w_n (KV.val u) w_pats)).length false),.cset 0 1 (.gl 1 4 0 (set l1 ix (ONode.mk w_op w_n (KV.val u) w_pats)).length false),.run 2,.set 38 (nI (t13+ (1:Int))),.run 3]) (fun u=>by kernel_rfl) (fun u=>by kernel_rfl) (fun u=> ⟨(aE _ (fun _=>aQ _) _),⟨(aE _ (fun _=>rfl) _),trivial⟩⟩) (fun u=> ⟨(bCh [(nI w_op),(nI w_n)] [(iP w_pats)] h3 (length_map ..) (by simp) rfl),h0,h1,(aJK h2 h3),(aIO _ _),h4,(aIP _ _ _),(aIQ _ _ _),h0,h1,(aJK h2 h3),rfl,rfl,rfl,(aVh h2),(cB (length_set ..).symm),(cB (length_set ..).symm),(cB (length_set ..).symm),(congrArg (AV.int .i64) h5)⟩) hk
abbrev MC (fr:List Node)(fs cs:List Int)(b n:Nat) :AObj:=.cells (putCells .leaf 0 [.ilst 4 (map Node.av fr) false,.gl b 4 0 n false,.ilst 1 (map aP fs) false,.ilst 1 (map aP cs) false]) 4 [] false
abbrev MHp (fr:List Node)(fs cs:List Int)(L:List ONode) :List (Nat×AObj×Bool) :=[(0,MC fr fs cs 1 (length L),false),(1,OL L,true)]
abbrev PtC (f n:Int)(s:aB)(ps:List Pat) :AObj:=.cells (putCells .leaf 0 [.int .i64 f,.int .i64 n,aA s,.ilst 4 (av ps) false]) 4 [] false
abbrev bEn (f v:Int)(b n:Nat) :AObj:=.cells (putCells .leaf 0 [.int .i64 f,.int .i64 v,.str 0 0,.gl b 4 0 n false]) 4 [] false
abbrev XC (o v:Int)(b n:Nat) :AObj:=.cells (putCells .leaf 0 [.int .i64 o,.int .i64 v,.nils,.gl b 4 0 n false]) 4 [] false
abbrev ZPt :AObj:=.cells (putCells .leaf 0 [.int .i64 0,.int .i64 0,.str 0 0,.nils]) 4 [] false
def MPS (fr:List Node)(fs cs:List Int)(L:List ONode)(p:Pat) :Prop:=∀p',aVf p=true→aFn cs p=some p'→Spec PP (.enter 206 [.ptr 0 0,Pat.av p]) (aD (MHp fr fs cs L) 2) (.ret (Pat.av p')) (aD (MHp fr fs cs L) 2)
section
variable (fr :List Node) (fs cs:List Int) (L:List ONode)
theorem aMs (f n:Int)(s:aB)(ps:List Pat)(v:Int)(hpl:ps.length<1000000)(ih:∀p∈ps,MPS fr fs cs L p) :∀ (t:List Pat) (i:Nat) (acc t':List Pat),ps.drop i=t→acc.length=i→pL t=true→lE cs t=some t' →
  Ends PP 2 (aFP fr fs cs L f n s ps v (i:Int) acc).as (.ret (.agg [.int .i64 f,.int .i64 v,.str 0 0,.ilst 4 (av (acc++t')) false])) (aD (MHp fr fs cs L) 2)
 | [],i,acc,t',h,ha,hn,ht=>by
  have:=bA h;cases ht;rw [append_nil];exact aYY fr fs cs L f n s ps v i acc sd
 | .mk f1 n1 s1 ps1::t,i,acc,t',h,ha,hn,ht=>by
  obtain⟨g1,g2,g3⟩ :=aY h;have hi:= (List.getElem?_eq_some_iff.1 g1).1;rw [pL,and_eq_true]at hn;simp only [lE]at ht;split at ht
  · rename_i p' hp';split at ht
    · rename_i t1 ht1;cases ht;obtain⟨f2,n2,s2,ps2⟩ :=p';have hs:=ih (.mk f1 n1 s1 ps1) (mem_of_getElem? g1) _ hn.1 hp'
      have hs':=aEU (ks:=[0,1]) (n2:=7) (args':=[.ptr 0 0,Pat.av (.mk f1 n1 s1 ps1)])
       (lc:=[(0,MC fr fs cs 1 (length L),false),(1,OL L,true),(2,ZPt,false),(3,bEn f v 4 (length acc),false),(4,.lst 4 (av acc),true),(5,PtC f1 n1 s1 ps1,false)])
       (lc':=[(0,MC fr fs cs 1 (length L),false),(1,OL L,true),(2,ZPt,false),(3,bEn f v 4 (length acc),false),(4,.lst 4 (av acc),true),(5,PtC f1 n1 s1 ps1,false)])
       hs (by kernel_rfl) (bCj _) (by kernel_rfl) (by kernel_rfl) ⟨qJ L,trivial⟩ (by kernel_rfl) ⟨qJ L,trivial⟩
      refine(aYX fr fs cs L f n s ps v i acc f1 n1 s1 ps1 f2 n2 s2 ps2 sd sd sd hs' (by simp;omega) sd).ends ?_;have:=aMs f n s ps v hpl ih t (i+1) (acc++ [.mk f2 n2 s2 ps2]) t1 g2 (by simp [ha]) hn.2 ht1;rw [append_assoc]at this;exact this
    ·cases ht
  ·cases ht
mutual
theorem aVs :∀ (p:Pat),cU p<1000000→MPS fr fs cs L p
 | .mk f n s ps,h,p',hn,hp'=>by
  simp only [cU]at h;have:=gC ps;refine⟨(aVj fr fs cs L f n s ps).as.fr,by kernel_rfl,?_⟩;rw [aVf,and_eq_true,decide_eq_true_eq]at hn;simp only [aFn]at hp';split at hp'
  · rename_i n' hn';split at hp'
    · rename_i ps' hps';cases hp';have hloop:=aMs fr fs cs L f n s ps n' (by omega) (aJO ps (by omega)) ps 0 [] ps' rfl rfl hn.2 hps';rw [List.nil_append]at hloop;have E:Ends PP 2 (aVj fr fs cs L f n s ps).as (.ret (Pat.av (.mk f n' s ps'))) (aD (MHp fr fs cs L) 2) :=by
       rw [hn.1]at hloop ⊢;unfold aFm at hn';split at hn'
       · rename_i hf;split at hn'
         · rename_i h0;exact(aYV fr fs cs L f n [] ps n' (by simp [hf]) h0 hn').ends hloop
         ·cases hn'
       · rename_i hf;cases hn';exact(aYW fr fs cs L f n [] ps (by simp [hf])).ends hloop
      exact Eq.mp (by kernel_rfl) E
    ·cases hp'
  ·cases hp'
theorem aJO :∀ (ps:List Pat),bE ps<1000000→∀p∈ps,MPS fr fs cs L p
 | [],_,p,hp=>by cases hp
 | q::ps,h,p,hp=>by
  simp only [bE]at h;rcases List.mem_cons.1 hp with e|hp
  ·rw [e];exact aVs q (by omega)
  ·exact aJO ps (by omega) p hp
end
end
def MNS (p:Prog)(fs cs:List Int)(at0:Int)(L:List ONode)(ns:List Node) :Prop:=
 vL PP 1 (.enter 144 [.ptr 0 0,.int .i64 at0]) (aD (MHp p.nodes fs cs L) 2) (.ret (.int .i64 ((length L:Nat) :Int))) (aD (MHp p.nodes fs cs (L++map Node.o ns)) 2)
def aVt (p:Prog)(fs cs:List Int)(L:List ONode)(s:TS)(ns:List Node) :Prop:=Ends PP 1 s.as (.ret (.int .i64 ((length L:Nat) :Int))) (aD (MHp p.nodes fs cs (L++map Node.o ns)) 2)
section
variable (p :Prog) (fs cs:List Int) (L:List ONode) (at0:Int)
theorem aMt (x:Node)(v:Int)(hps:bE x.pats<1000000)(hl:L.length<1000000) :∀ (t:List Pat) (i:Nat) (acc t':List Pat),x.pats.drop i=t→acc.length=i→pL t=true→lE cs t=some t' →
  LeadsM PP 1 (xW p.nodes fs cs L at0 x.pats ((length x.pats:Nat) :Int) x.op x.n x.kids x.pats x.op v (i:Int) acc).as (aJM p.nodes fs cs L at0 x.kids ((length x.kids:Nat) :Int) (L++ [⟨x.op,v,.nil,acc++t'⟩])).as
 | [],i,acc,t',h,ha,hn,ht=>by
  have:=bA h;cases ht;rw [append_nil];exact aY4 p.nodes fs cs L at0 x.pats _ x.op x.n x.kids x.pats x.op v i acc sd (by simp;omega)
 | .mk f1 n1 s1 ps1::t,i,acc,t',h,ha,hn,ht=>by
  obtain⟨g1,g2,g3⟩ :=aY h;have hi:= (List.getElem?_eq_some_iff.1 g1).1;have:=gC x.pats;rw [pL,and_eq_true]at hn;simp only [lE]at ht;split at ht
  · rename_i p' hp';split at ht
    · rename_i t1 ht1;cases ht;obtain⟨f2,n2,s2,ps2⟩ :=p';have hs:=aJO p.nodes fs cs L x.pats hps (.mk f1 n1 s1 ps1) (mem_of_getElem? g1) _ hn.1 hp'
      have hs':=aEU (ks:=[0,3]) (n2:=7) (args':=[.ptr 0 0,Pat.av (.mk f1 n1 s1 ps1)])
       (lc:=[(0,MC p.nodes fs cs 3 (length L),false),(1,bCg x,false),(2,XC x.op v 4 (length acc),false),(3,OL L,true),(4,.lst 4 (av acc),true),(5,PtC f1 n1 s1 ps1,false)])
       (lc':=[(0,MC p.nodes fs cs 3 (length L),false),(1,bCg x,false),(2,XC x.op v 4 (length acc),false),(3,OL L,true),(4,.lst 4 (av acc),true),(5,PtC f1 n1 s1 ps1,false)])
       hs (by kernel_rfl) (bCj _) (by kernel_rfl) (by kernel_rfl) ⟨qJ L,trivial⟩ (by kernel_rfl) ⟨qJ L,trivial⟩
      have h1:=aY3 p.nodes fs cs L at0 x.pats ((length x.pats:Nat) :Int) x.op x.n x.kids x.pats x.op v i acc f1 n1 s1 ps1 f2 n2 s2 ps2 sd sd sd hs' (by simp;omega) sd;have:=aMt x v hps hl t (i+1) (acc++ [.mk f2 n2 s2 ps2]) t1 g2 (by simp [ha]) hn.2 ht1;rw [append_assoc]at this;exact h1.trans this
    ·cases ht
  ·cases ht
theorem aSi (n10:Int)(ks:List Int)(t12:Int)(l:List ONode){ix:Nat}{a b:Int}{P:List Pat}(h:l[ix]?=some ⟨a,b,.nil,P⟩) :LeadsM PP 1 (aVl p.nodes fs cs L at0 n10 ks t12 l).as (aP9 p.nodes fs cs L at0 n10 ks t12 l ix a b P).as:=
 bDn (k:=1) (e0:=4) (e:=1) (by kernel_rfl) (by kernel_rfl) (bCi (f:=ONode.av) [.int .i64 a,.int .i64 b] [.ilst 4 (av P) false] h rfl) (by kernel_rfl)
theorem aSj (n10:Int)(ks:List Int)(t12:Int)(l:List ONode)(k2:List Int)(w:Value)(i:Int){ix:Nat}{a b:Int}{P:List Pat}(h:l[ix]?=some ⟨a,b,.val w,P⟩) :LeadsM PP 1 (aVm p.nodes fs cs L at0 n10 ks t12 l k2 w i).as (aQa p.nodes fs cs L at0 n10 ks t12 l k2 i ix a b P).as:=
 aYT (k:=1) (b:=2) (e0:=4) (e:=1) (u:=w) (xs:=map aP k2) (n:=length k2) (by kernel_rfl) (by kernel_rfl) (by decide) (length_map ..) (bCi (f:=ONode.av) [.int .i64 a,.int .i64 b] [.ilst 4 (av P) false] h rfl) (by kernel_rfl)
variable (k :Nat) (ih:∀ (M:List ONode) (c:Int) (ns:List Node),cN p fs cs k M.length c=some ns→MNS p fs cs c M ns) (x:Node) (v:Int) (P:List Pat) (hk:x.kids.length<1000000)
include ih hk
theorem aMu :∀ (ts:List Int) (i:Nat) (w:Value) (r0:List Node) (k2 ks:List Int) (r:List Node),x.kids.drop i=ts→k2.length=i→iR (cN p fs cs k) (L.length+1+r0.length) ts=some (ks,r) →
  aVt p fs cs L (aCW p.nodes fs cs L at0 x.kids ((length x.kids:Nat) :Int) (L++ ⟨x.op,v,.val w,P⟩ ::map Node.o r0) k2 w (i:Int)) (⟨x.op,v,k2++ks,P⟩ :: (r0++r))
 | [],i,w,r0,k2,ks,r,h,hl,hm=>by
  have:=bA h;cases hm;have h1:=aY8 p.nodes fs cs L at0 x.kids ((length x.kids:Nat) :Int) (L++ ⟨x.op,v,.val w,P⟩ ::map Node.o r0) k2 w i ⟨x.op,v,.val w,P⟩ sd (rN ..) rfl;rw [rO]at h1;rw [append_nil,append_nil];exact h1
 | c :: ts,i,w,r0,k2,ks,r,h,hl,hm=>by
  obtain⟨g1,g2,g3⟩ :=aY h;have hi:= (List.getElem?_eq_some_iff.1 g1).1;simp only [iR]at hm;split at hm
  · rename_i ns hns;split at hm
    · rename_i ks1 r1 hm1;cases hm;have hlen: (L++ (⟨x.op,v,.val w,P⟩ :ONode) ::map Node.o r0).length=L.length+1+r0.length:=by simp;omega
      have hs:=ih (L++ ⟨x.op,v,.val w,P⟩ ::map Node.o r0) c ns (by rw [hlen];exact hns);unfold MNS at hs
      have hs':=fM (m:=1) (ks:=[0,1]) (n2:=3) (n3:=4) (v':=.int .i64 ((length (L++ (⟨x.op,v,.val w,P⟩ :ONode) ::map Node.o r0) :Nat) :Int)) (args':=[.ptr 0 0,.int .i64 c])
       (lc:=[(0,MC p.nodes fs cs 1 (length (L++ (⟨x.op,v,.val w,P⟩ :ONode) ::map Node.o r0)),false),(1,OL (L++ ⟨x.op,v,.val w,P⟩ ::map Node.o r0),true),(2,.lstv w 1 (map aP k2),true)])
       (lc':=[(0,MC p.nodes fs cs 3 (length ((L++ (⟨x.op,v,.val w,P⟩ :ONode) ::map Node.o r0) ++map Node.o ns)),false),(2,.lstv w 1 (map aP k2),true),(3,OL ((L++ ⟨x.op,v,.val w,P⟩ ::map Node.o r0) ++map Node.o ns),true)])
       hs (by rfl) (by rfl) (by kernel_rfl) (by rfl) (by rfl) (by kernel_rfl) (by kernel_rfl) ⟨qJ _,trivial⟩ (by kernel_rfl) ⟨qJ _,trivial⟩
      have h0:=aY7 p.nodes fs cs L at0 x.kids ((length x.kids:Nat) :Int) (L++ ⟨x.op,v,.val w,P⟩ ::map Node.o r0) k2 w i c ns sd sd sd hs';have e2: (L++ (⟨x.op,v,.val w,P⟩ :ONode) ::map Node.o r0) ++map Node.o ns=L++ ⟨x.op,v,.val w,P⟩ ::map Node.o (r0++ns) :=by simp
      rw [e2,hlen]at h0;refine(h0.trans (aSj p fs cs L at0 _ _ _ _ k2 w i (rN L _ _))).ends ?_;refine aZa p.nodes fs cs L at0 _ x.kids _ _ k2 i (length L) x.op v P (by omega) (by simp;omega) (by omega) (by simp) (by simp;omega) sd (fun ua un uc=>?_);have:=aMu ts (i+1) (.slice ua un uc) (r0++ns) (k2++ [((L.length+1+r0.length:Nat) :Int)]) ks1 r1 g2 (by simp [hl]) (by rw [length_append,←Nat.add_assoc];exact hm1);dsimp only;rw [rO];simp only [append_assoc,List.singleton_append]at this ⊢;exact this
    ·cases hm
  ·cases hm
theorem aVu (ks:List Int)(r:List Node)(hm:iR (cN p fs cs k) (L.length+1) x.kids=some (ks,r)) :
  aVt p fs cs L (aJM p.nodes fs cs L at0 x.kids ((length x.kids:Nat) :Int) (L++ [⟨x.op,v,.nil,P⟩])) (⟨x.op,v,ks,P⟩ ::r) :=by
 cases hx:x.kids with
 | nil=>
  rw [hx]at hm;cases hm;have h1:=aY6 p.nodes fs cs L at0 [] ((length ([] :List Int) :Nat) :Int) (L++ [⟨x.op,v,.nil,P⟩]) ⟨x.op,v,.nil,P⟩ (by simp) (rN ..) rfl;rw [rO]at h1;exact h1
 | cons c ts=>
  have hm0:=hm;rw [hx]at hm;simp only [iR]at hm;split at hm
  · rename_i ns hns;split at hm
    · rename_i ks1 r1 hm1;cases hm;have hlen: (L++ [(⟨x.op,v,.nil,P⟩ :ONode)]).length=L.length+1:=by simp
      have hs:=ih (L++ [⟨x.op,v,.nil,P⟩]) c ns (by rw [hlen];exact hns);unfold MNS at hs
      have hs':=fM (m:=1) (ks:=[0,1]) (n2:=2) (n3:=3) (v':=.int .i64 ((length (L++ [(⟨x.op,v,.nil,P⟩ :ONode)]) :Nat) :Int)) (args':=[.ptr 0 0,.int .i64 c])
       (lc:=[(0,MC p.nodes fs cs 1 (length (L++ [(⟨x.op,v,.nil,P⟩ :ONode)])),false),(1,OL (L++ [⟨x.op,v,.nil,P⟩]),true)])
       (lc':=[(0,MC p.nodes fs cs 2 (length ((L++ [(⟨x.op,v,.nil,P⟩ :ONode)]) ++map Node.o ns)),false),(2,OL ((L++ [⟨x.op,v,.nil,P⟩]) ++map Node.o ns),true)])
       hs (by rfl) (by rfl) (by kernel_rfl) (by rfl) (by rfl) (by kernel_rfl) (by kernel_rfl) ⟨qJ _,trivial⟩ (by kernel_rfl) ⟨qJ _,trivial⟩
      have h0:=aY5 p.nodes fs cs L at0 x.kids ((length x.kids:Nat) :Int) (L++ [(⟨x.op,v,.nil,P⟩ :ONode)]) c ns (by rw [hx];simp) (by omega) (by rw [hx];rfl) hs';have e2: (L++ [(⟨x.op,v,.nil,P⟩ :ONode)]) ++map Node.o ns=L++ ⟨x.op,v,.nil,P⟩ ::map Node.o ns:=by simp
      rw [e2,hlen]at h0;rw [hx]at h0;refine(h0.trans (aSi p fs cs L at0 _ _ _ _ (rN L _ _))).ends ?_;refine aY9 p.nodes fs cs L at0 _ (c::ts) _ _ (length L) x.op v P (by omega) (by simp;omega) (by omega) (by simp) (by simp) (fun ua un uc=>?_);have:=aMu p fs cs L at0 k ih x v P hk ts 1 (.slice ua un uc) ns [((L.length+1:Nat) :Int)] ks1 r1 (by rw [hx];rfl) rfl hm1;rw [hx]at this;dsimp only;rw [rO];exact this
    ·cases hm
  ·cases hm
end
theorem mNd_spec (p :Prog)(fs cs:List Int)(hT:∀x∈p.nodes,pL x.pats=true) :∀ (k:Nat) (L:List ONode) (at0:Int) (ns:List Node),cN p fs cs k L.length at0=some ns→MNS p fs cs at0 L ns
 |0,L,at0,ns,h=>by cases h
 | k+1, L, at0, ns, h=>by
  simp only [cN]at h;split at h
  · rename_i hh;obtain⟨hat,hlen⟩ :=hh;split at h
    · rename_i y hy;split at h
      · rename_i hb;split at h
        · rename_i n' hn';split at h
          · rename_i ps' hps';split at h
            · rename_i ks r hks;cases h;have hC:= (aMt p fs cs L at0 y n' hb.2 hlen y.pats 0 [] ps' rfl rfl (hT y (mem_of_getElem? hy)) hps').ends (aVu p fs cs L at0 k (mNd_spec p fs cs hT k) y n' ps' hb.1 ks r hks)
              suffices hh:aVt p fs cs L (aVk p.nodes fs cs L at0) (⟨y.op,n',ks,ps'⟩ ::r)from⟨(aVk p.nodes fs cs L at0).as.fr,by kernel_rfl,Eq.mp (by kernel_rfl) hh⟩
              unfold mN at hn';split at hn'
              · rename_i h4;split at hn'
                · rename_i g hg;split at hn'
                  · rename_i hr;cases hn';have w1:IntKind.i64.wrap (-1-y.n) = -1-y.n:=aJo (by omega) (by omega);have w2:IntKind.i64.wrap (-1-g) = -1-g:=aJo (by omega) (by omega);have h0:=aYZ p.nodes fs cs L at0 y g hat hy (by simp [h4.1]) (by simp [h4.2]) (by rw [w1];omega) (by rw [w1];exact hg);rw [w2]at h0;exact h0.ends hC
                  ·cases hn'
                ·cases hn'
              · rename_i h4;split at hn'
                · rename_i h14;split at hn'
                  · rename_i h0;exact(aY1 p.nodes fs cs L at0 y n' hat hy (by simp [h14]) (by simp [h14]) h0 hn').ends hC
                  ·cases hn'
                · rename_i h14;cases hn';by_cases ho:y.op=4
                  ·exact(aY0 p.nodes fs cs L at0 y hat hy (by simp [ho]) (by simp;omega) (by simp [ho])).ends hC
                  ·exact(aY2 p.nodes fs cs L at0 y hat hy (by simp [ho]) (by simp [h14])).ends hC
            ·cases h
          ·cases h
        ·cases h
      ·cases h
    ·cases h
  ·cases h
theorem kO (s:aB) :∀ (l:List aB) (i:Nat),cZ s l i= -1∨ ((i:Int) ≤cZ s l i∧cZ s l i<i+l.length∧l[(cZ s l i).toNat-i]?=some s)
 | [],i=>.inl rfl
 | x ::l,i=>by
  rw [cZ];by_cases e:x=s
  · rw [if_pos e];exact .inr ⟨by omega,by simp;omega,by simp [e]⟩
  · rw [if_neg e];rcases kO s l (i+1)with h| ⟨h1,h2,h3⟩
    ·exact .inl h
    · refine .inr ⟨by omega,by simp;omega,?_⟩;rw [show(cZ s l (i+1)).toNat-i= ((cZ s l (i+1)).toNat- (i+1)) +1 by omega];simpa using h3
def vO (T ls:List aB)(s:aB) :Int:=if cZ s T 0<0 then(T.length:Int) +cZ s ls 0 else cZ s T 0
theorem aFQ (T ls:List aB)(s:aB) : -1≤vO T ls s∧vO T ls s≤T.length+ls.length:=by
 unfold vO;have h1:=kO s T 0;have h2:=kO s ls 0;split<;>omega
def rW (T ls:List aB)(u:LUnit) :List Int:= (aH u++u.needs).map (vO T ls)
def uK (cs:List Con)(u:LUnit) :List Int:=u.cons.map (fun c=>gU c.name cs 0)
def aFR (T ls:List aB)(cs:List Con) :List LFun→List Node→List LUnit→Option (List LFun×List Node)
 |fs,ns,[] =>some (fs,ns)
 | fs,ns,u::l=>match iR (cN (lR u) (rW T ls u) (uK cs u) u.nodes.length) ns.length (cG u)with
  |some (ks,r) =>aFR T ls cs (fs++zipWith LFun.mk (aH u) ks) (ns++r) l
  |none=>none
theorem aCX {g:Nat→Int→Option (List Node)}:∀ {cs:List Int} {len:Nat} {ks:List Int} {r:List Node},iR g len cs=some (ks,r) →ks.length=cs.length
 | [],len,ks,r,h=>by cases h;rfl
 | c ::cs,len,ks,r,h=>by
  rw [iR]at h;split at h
  · split at h
    ·rename_i h1;cases h;rw [length_cons,length_cons,aCX h1]
    ·cases h
  ·cases h
section
variable (nm :aB) (cs:List Con) (ls:List aB) (l:List LUnit) (T:List aB) (hT:T.length≤1000) (hls:ls.length≤1000) (hcs:cs.length≤1000)
include hT hls in
include hcs in
include hT hls hcs in
end
mutual
theorem aZb {cons:List Con}{C:List Int}(hC:C.length=cons.length) :∀ (q:Pat),dE cons q=true→∃q',aFn C q=some q'∧cU q'=cU q
 | .mk f n s ps,h=>by
  rw [dE,and_eq_true]at h;obtain⟨ps',hps,hz⟩ :=aB4 hC ps h.2;have hN:∃n',aFm C f n=some n':=by
   unfold aFm;by_cases hf:f=6
   · subst hf;have hh:=h.1;simp only [dH]at hh;simp [cT]at hh;obtain⟨⟨⟨h0,h1⟩,_⟩,_⟩ :=hh;rw [if_pos rfl,if_pos h0];exact⟨_,getElem?_eq_getElem (by omega)⟩
   ·rw [if_neg hf];exact⟨_,rfl⟩
  obtain⟨n',hn⟩ :=hN;refine⟨.mk f n' [] ps',?_,by rw [cU,cU,hz]⟩;have hs:s= [] :=by have:=h.1;rw [dH,and_eq_true]at this;simpa using this.2
  rw [aFn,hn];simp only;rw [hps,hs]
theorem aB4 {cons:List Con}{C:List Int}(hC:C.length=cons.length) :∀ (ps:List Pat),bW cons ps=true→∃ps',lE C ps=some ps'∧bE ps'=bE ps
 | [],_=> ⟨[],rfl,rfl⟩
 | q::ps,h=>by
  rw [bW,and_eq_true]at h;obtain⟨q',h1,z1⟩ :=aZb hC q h.1;obtain⟨ps',h2,z2⟩ :=aB4 hC ps h.2;refine⟨q'::ps',?_,by rw [bE,bE,z1,z2]⟩;rw [lE,h1];simp only;rw [h2]
end
def aJP (x:Node) :Prop:=x.kids.length≤10∧bE x.pats≤120
theorem aFS {g:Nat→Int→Option (List Node)}{q:Int→List Int}:∀ (ks:List Int) (len:Nat),
  (∀k∈ks,∀len:Nat,len+ (q k).length≤1000000→∃ns,g len k=some ns∧ns.length= (q k).length∧∀x∈ns,aJP x) →len+ ((ks.map q).flatten).length≤1000000 →
  ∃ks' r,iR g len ks=some (ks',r) ∧r.length= ((ks.map q).flatten).length∧∀x∈r,aJP x
 | [],len,_,_=> ⟨[],[],rfl,rfl,fun x hx=>by cases hx⟩
 | k ::ks,len,hg,hb=>by
  simp only [map_cons,List.flatten_cons,length_append]at hb ⊢;obtain⟨ns,e,hl,hf⟩ :=hg k (mem_cons_self ..) len (by omega);obtain⟨ks',r,e2,hl2,hf2⟩ :=aFS ks (len+ns.length) (fun c hc=>hg c (mem_cons_of_mem _ hc)) (by omega);refine⟨(len:Int) ::ks',ns++r,?_,by rw [length_append];omega,fun x hx=>?_⟩
  · rw [iR,e];simp only;rw [e2]
  · rcases List.mem_append.1 hx with h|h
    ·exact hf x h
    ·exact hf2 x h
structure MovN (p:Prog) (F C:List Int) (i:Nat) (x:Node) :Prop where
 kl:x.kids.length≤10
 kids:∀k∈x.kids,(i:Int) <k∧k<p.nodes.length
 ps:bE x.pats≤120
 n:∃n',mN F C x.op x.n=some n'
 pats:∃ps',lE C x.pats=some ps'∧bE ps'=bE x.pats
theorem aCY {p:Prog}{F C:List Int}(hN:∀ (i:Nat) (x:Node),p.nodes[i]?=some x→MovN p F C i x) :∀ (k:Nat) (a:Int) (len:Nat),0≤a→a<p.nodes.length→p.nodes.length-a.toNat≤k→len+ (pre p k a).length≤1000000 →
  ∃ns,cN p F C k len a=some ns∧ns.length= (pre p k a).length∧∀x∈ns,aJP x
 |0,a,len,ha,hn,hf,_=>by omega
 | k + 1,a,len,ha,hn,hf,hb=>by
  obtain⟨x,hx⟩ :∃x,p.nodes[a.toNat]?=some x:= ⟨_,getElem?_eq_getElem (by omega)⟩;have hm:=hN _ _ hx;have e:pre p (k+1) a=a:: (x.kids.map (pre p k)).flatten:=by rw [pre,hx]
  rw [e]at hb ⊢;simp only [length_cons]at hb ⊢
  obtain⟨ks,r,e1,e2,e3⟩ :=aFS (g:=cN p F C k) (q:=pre p k) x.kids (len+1) (fun c hc len h1=>by
   have:=hm.kids c hc;exact aCY hN k c len (by omega) (by omega) (by omega) h1) (by omega)
  obtain⟨n',hn'⟩ :=hm.n;obtain⟨ps',hp',hz⟩ :=hm.pats;have h1:=hm.kl;have h2:=hm.ps;refine⟨⟨x.op,n',ks,ps'⟩ ::r,?_,by simp [e2],fun y hy=>?_⟩
  · rw [cN,if_pos ⟨ha,by omega⟩,hx];simp only;rw [if_pos ⟨by omega,by omega⟩,hn'];simp only;rw [hp'];simp only;rw [e1]
  · rcases List.mem_cons.1 hy with h|h
    · rw [h];exact⟨by rw [aCX e1];exact h1,by rw [hz];exact h2⟩
    ·exact e3 y h
theorem aJQ {p p':Prog}{f:Node→Node}(h:p'.nodes=p.nodes.map f)(hf:∀x,(f x).kids=x.kids) :∀ (k:Nat) (a:Int),pre p' k a=pre p k a
 |0,a=>rfl
 | k+1,a=>by
  have ih:pre p' k=pre p k:=funext (aJQ h hf k);rw [pre,pre,h,getElem?_map];cases p.nodes[a.toNat]? with
  |none=>rfl
  |some x=>simp only [Option.map];rw [hf,ih]
theorem mD (a b:Nat)(x:Node) : (eQ a b x).kids=x.kids:=by unfold eQ;split<;>rfl
theorem zB (a b:Nat)(x:Node) : (eQ a b x).pats=x.pats:=by unfold eQ;split<;>rfl
theorem aB5 (a b:Nat)(x:Node) : (eQ a b x).op=x.op:=by unfold eQ;split<;>rfl
structure GoodU (u:LUnit) :Prop where
 few:FewU u
 formed:iT u=true
theorem GoodU.small {u:LUnit}(h:GoodU u) :u.nodes.length≤320∧u.cons.length≤25:=by
 have:=h.few.p;simp only [aJ,and_eq_true,decide_eq_true_eq]at this;exact⟨this.1.1.1.1,this.1.1.2⟩
theorem GoodU.cases {u:LUnit}(h:GoodU u) : (u.funs= [] ∧u.nodes= []) ∨ (u.funs≠ [] ∧aR (fC u) =true) :=by
 have hf:=h.formed;unfold iT at hf;simp only [and_eq_true]at hf;have h2:=hf.2;split at h2
 · rename_i h0;simp only [and_eq_true,decide_eq_true_eq]at h2;exact .inl ⟨List.eq_nil_of_length_eq_zero h0,List.eq_nil_of_length_eq_zero h2.1⟩
 · rename_i h0;exact .inr ⟨fun e=>h0 (by rw [e];rfl),h2⟩
theorem aHG {u:LUnit}(h:GoodU u)(hr:aR (fC u) =true){F C:List Int}(hF:F.length=u.funs.length+u.needs.length)(hB:∀g∈F,-1000000000≤g∧g≤1000000000)(hC:C.length=u.cons.length)(i:Nat)(x:Node)(hx:u.nodes[i]?=some x) :MovN (lR u) F C i x∧pL x.pats=true:=by
 have hs:=kN h.few;have hfn:=mX hs hr;have hx': (fC u).nodes[i]?=some (eQ u.funs.length u.needs.length x) :=by simp [fC,getElem?_map,hx]
 obtain⟨hfi,hk10,hks⟩ :=hfn.node i _ hx';have hok:= (pJ hs hr).2.2.2 i _ hx';rw [mD]at hk10 hks;have hnl: (fC u).nodes.length=u.nodes.length:=by simp [fC]
 rw [hnl]at hks;have hpq:∀q∈x.pats,cU q≤12∧dE u.cons q=true:=fun q hq=>hfi.pats q (by rw [zB];exact hq);have h10:x.pats.length≤10:=by
  have:=h.few.p;simp only [aJ,and_eq_true]at this;have:=List.all_eq_true.1 this.2 x (mem_of_getElem? hx);simp only [aX,and_eq_true,decide_eq_true_eq]at this;exact this.1.2
 have hpsz:bE x.pats≤12*x.pats.length:=yZ (fun q hq=> (hpq q hq).1);have hpk:=kC (fun q hq=> (hpq q hq).2);have hfl:=h.few.f;have hnd:=h.few.n;refine⟨⟨hk10,hks,by omega,?_,aB4 hC x.pats hpk⟩,aBZ x.pats hpk⟩;simp only [bH,and_eq_true,eP]at hok;obtain⟨⟨⟨h1,_⟩,_⟩,_⟩ :=hok;rw [aB5]at h1;have hpf: (fC u).funs.length=u.funs.length:=by simp [fC,cG]
 unfold mN;by_cases h4:x.op=4∧x.n<0
 · rw [if_pos h4];have hr4: -(u.funs.length:Int) -u.needs.length≤x.n:=by
    by_cases hb: -(u.funs.length:Int) -u.needs.length≤x.n∧x.n≤ -(u.funs.length:Int) -1
    ·exact hb.1
    · have:eQ u.funs.length u.needs.length x=x:=by unfold eQ;rw [if_neg (fun g=>hb g.2)]
      rw [this,h4.1]at h1;simp [bI,cT,hpf]at h1;omega
   have hi: (-1-x.n).toNat<F.length:=by omega
   rw [getElem?_eq_getElem hi];have:=hB _ (List.getElem_mem hi);simp only;rw [if_pos ⟨by omega,this⟩];exact⟨_,rfl⟩
 · rw [if_neg h4];by_cases h14:x.op=14
   · rw [if_pos h14];have:eQ u.funs.length u.needs.length x=x:=by unfold eQ;rw [if_neg (fun g=>by have:=g.1;omega)]
     rw [this,h14]at h1;simp [bI,cT,fC]at h1;rw [if_pos h1.1];have h1b:=of_decide_eq_true h1.2;have hi:x.n.toNat<C.length:=by omega
     exact⟨_,getElem?_eq_getElem hi⟩
   ·rw [if_neg h14];exact⟨_,rfl⟩
theorem aZc {u:LUnit}(h:GoodU u) :∀x∈u.nodes,pL x.pats=true:=fun x hx=>by
 rcases h.cases with⟨_,h0⟩ | ⟨_,hr⟩
 ·rw [h0]at hx;cases hx
 · obtain⟨i,hi⟩ :=List.mem_iff_getElem?.1 hx;exact(aHG h hr (F:=replicate (u.funs.length+u.needs.length) 0) (C:=replicate u.cons.length 0) (by simp) (fun g hg=>by rw [(List.mem_replicate.1 hg).2];omega) (by simp) i x hi).2
theorem aVv {u:LUnit}(h:GoodU u){F C:List Int}(hF:F.length=u.funs.length+u.needs.length)(hB:∀g∈F,-1000000000≤g∧g≤1000000000)(hC:C.length=u.cons.length)(len:Nat)(hlen:len≤100000) :
  ∃ks r,iR (cN (lR u) F C u.nodes.length) len (cG u) =some (ks,r) ∧r.length=u.nodes.length∧∀x∈r,aJP x:=by
 rcases h.cases with⟨h0,h1⟩ | ⟨_,hr⟩
 · rw [cG,h0,h1];exact⟨[],[],rfl,rfl,fun x hx=>by cases hx⟩
 · have hs:=kN h.few;obtain⟨_,p2,_,_⟩ :=pJ hs hr;have hfn:=mX hs hr;have hnl: (fC u).nodes.length=u.nodes.length:=by simp [fC]
   have hpre:∀k a,pre (fC u) k a=pre (lR u) k a:=aJQ (f:=eQ u.funs.length u.needs.length) rfl (mD _ _);have hsm:=h.small;have e: ((cG u).map (pre (lR u) u.nodes.length)).flatten= ((fC u).funs.map (pre (fC u) (fC u).nodes.length)).flatten:=by
    rw [hnl];show _= ((cG u).map _).flatten;congr 2;exact(funext (hpre _)).symm
   obtain⟨ks,r,e1,e2,e3⟩ :=aFS (g:=cN (lR u) F C u.nodes.length) (q:=pre (lR u) u.nodes.length) (cG u) len (fun k hk len hl=>by
    have:=hfn.funs k hk;rw [hnl]at this;exact aCY (fun i x hx=> (aHG h hr hF hB hC i x hx).1) _ k len this.1 this.2 (by simp [lR]) hl) (by rw [e,p2,hnl];omega)
   exact⟨ks,r,e1,by rw [e2,e,p2,hnl],e3⟩
def aZ :List LUnit→Nat
 | [] =>0
 |u::l=>u.nodes.length+aZ l
theorem aFT :∀ {l:List LUnit},(∀u∈l,GoodU u) →aZ l≤320*l.length
 | [],_=>by simp [aZ]
 | u::l,h=>by
  have h1:= (h u (mem_cons_self ..)).small;have h2:=aFT (l:=l) (fun x hx=>h x (mem_cons_of_mem _ hx));simp only [aZ,length_cons];omega
theorem aQb {T ls:List aB}{cs:List Con}(hT:T.length≤1000)(hls:ls.length≤1000) :∀ (l:List LUnit) (fs:List LFun) (ns:List Node),(∀u∈l,GoodU u) →ns.length+aZ l≤100000→ (∀x∈ns,aJP x) →
  ∃fs' ns',aFR T ls cs fs ns l=some (fs',ns') ∧ns'.length=ns.length+aZ l∧ (∀x∈ns',aJP x) ∧fs'.length≤fs.length+30*l.length
 | [],fs,ns,_,_,hf=> ⟨fs,ns,rfl,rfl,hf,by simp⟩
 | u::l,fs,ns,hg,hb,hf=>by
  have hu:=hg u (mem_cons_self ..);rw [aZ]at hb;have hff:=hu.few.f;have hnd:=hu.few.n
  obtain⟨ks,r,e1,e2,e3⟩ :=aVv hu (F:=rW T ls u) (C:=uK cs u) (by simp [rW,aH]) (fun g hg=>by
   obtain⟨s,_,rfl⟩ :=List.mem_map.1 hg;have:=aFQ T ls s;omega) (by simp [uK]) ns.length (by omega)
  obtain⟨fs',ns',g1,g2,g3,g4⟩ :=aQb hT hls l (fs++zipWith LFun.mk (aH u) ks) (ns++r) (fun x hx=>hg x (mem_cons_of_mem _ hx)) (by simp;omega) (fun x hx=>by
   rcases List.mem_append.1 hx with h|h
   ·exact hf x h
   ·exact e3 x h)
  refine⟨fs',ns',?_,by rw [g2,aZ];simp;omega,g3,by simp [aH]at g4 ⊢;omega⟩;rw [aFR,e1];exact g1
def eH :aB:=[109,97,105,110]
def aB6 :Prog:= ⟨[],[],0,[]⟩
theorem aB7 {l:List LUnit}(hu:∀u∈l,FewU u)(h:gB l=true) :l.length≤10∧∀u∈l,GoodU u:=by
 simp only [gB,and_eq_true,decide_eq_true_eq]at h;exact⟨h.1,fun u hm=> ⟨hu u hm,List.all_eq_true.1 h.2 u hm⟩⟩
theorem aHH :∀ {l:List LUnit} {out o:List Con},(∀u∈l,FewU u) →mY out l=some o→o.length≤out.length+25*l.length
 | [],out,o,_,h=>by cases h;simp
 | u ::l,out,o,hu,h=>by
  have hn:u.cons.length≤25:=by have:= (hu u (mem_cons_self ..)).p;simp only [aJ,and_eq_true,decide_eq_true_eq]at this;exact this.1.1.2
  rw [mY]at h;split at h
  · rename_i o1 h1;have:=aCS h1;have:=aHH (fun x hx=>hu x (mem_cons_of_mem _ hx)) h;simp;omega
  ·cases h
def aA1 (ls:List aB)(cs:List Con)(l:List LUnit) :List LFun×List Node:= (aFR (bS l) ls cs [] [] l).getD ([],[])
structure PutOk (ls:List aB) (cs:List Con) (l:List LUnit) :Prop where
 eq:aFR (bS l) ls cs [] [] l=some (aA1 ls cs l)
 len: (aA1 ls cs l).2.length=aZ l
 fit:∀x∈ (aA1 ls cs l).2,aJP x
 funs: (aA1 ls cs l).1.length≤300
theorem bCl {ls:List aB}{cs:List Con}{l:List LUnit}(hl:l.length≤10)(hg:∀u∈l,GoodU u)(hls:ls.length≤1000) :PutOk ls cs l:=by
 have:=aFJ l (fun u h=> (hg u h).few);have:=aFT hg;obtain⟨fs,ns,h1,h2,h3,h4⟩ :=aQb (T:=bS l) (ls:=ls) (cs:=cs) (by omega) hls l [] [] hg (by simp;omega) (fun x hx=>by cases hx);have e:aA1 ls cs l= (fs,ns) :=by unfold aA1;rw [h1];rfl
 exact⟨by rw [h1,e],by rw [e];simpa using h2,by rw [e];exact h3,by rw [e];simp at h4 ⊢;omega⟩
def xX (l:List LUnit) :Prog×Int:=
 if gB l=true then
  match xT l with
  |none=> (aB6,7)
  | some c=>if cA (bS l) =true∧fG l= [] ∧¬aDG eH l 0<0 then
    (if aZ l≤300∧c.length≤20 then(⟨(aA1 [] c l).2,(aA1 [] c l).1.map LFun.body,cZ eH (bS l) 0,c⟩,0)else(aB6,3))
   else(aB6,7)
 else(aB6,2)
structure Fw (p:Prog) :Prop where
 fine:FineP p
 dup: (dX p).Nodup
 len: (dX p).length=p.nodes.length
 into:∀x∈dX p,0≤x∧x<p.nodes.length
theorem Fw.of {p:Prog}(h:Fm p) :Fw p:= ⟨h.fine,h.dup,h.len,h.into⟩
section
variable {p :Prog}
theorem Fw.mem (h:Fw p){k:Int}(h0:0≤k)(h1:k<p.nodes.length) :∃i:Nat,(dX p)[i]?=some k:=by
 refine List.mem_iff_getElem?.1 ?_;have hd: ((dX p).map Int.toNat).Nodup:=by
  have hd:=h.dup;rw [List.nodup_iff_pairwise_ne]at hd ⊢;refine List.pairwise_map.2 (hd.imp_of_mem (fun {a b} ha hb hne e=>?_));have:=h.into a ha;have:=h.into b hb;exact hne (by omega)
 by_cases hm:k∈dX p
 ·exact hm
 · have h2:=oI (p.nodes.length) (k.toNat:: (dX p).map Int.toNat) (List.nodup_cons.2 ⟨fun hm2=>by
    obtain⟨y,hy,e⟩ :=List.mem_map.1 hm2;have:=h.into y hy;exact hm ((show y=k by omega) ▸ hy),hd⟩) (fun x hx=>by
    rcases List.mem_cons.1 hx with rfl|hx
    ·omega
    · obtain⟨y,hy,rfl⟩ :=List.mem_map.1 hx;have:=h.into y hy;omega)
   rw [length_cons,length_map]at h2;have:=h.len;omega
theorem Fw.after (h:Fw p) :KidsAfter p (dX p) :=KidsAfter.flatten fun l hl=>by
 obtain⟨k,hk,rfl⟩ :=List.mem_map.1 hl;have:=h.fine.funs k hk;exact aCT h.fine _ k this.1 this.2 (by omega)
theorem Fw.toL (h:Fw p)(off:Nat) :∀ (i:Nat) (k:Int),(dX p)[i]?=some k→fB (toL p off) k= ((off+i:Nat) :Int) :=fun i k hk=>by
 have:=aCN (dX p) (replicate p.nodes.length 0) off h.dup (fun x hx=>by rw [List.length_replicate];exact h.into x hx) i k hk;unfold Go.Hb.toL;rw [this];simp
end
section
variable {a p:Prog} {off:Nat} {mf mc:List (Int×Int)} {to:List Int}
theorem Laid.atW (h:Laid a off p mf mc to)(hp:Fw p){k:Int}(h0:0≤k)(h1:k<p.nodes.length) :0≤fB to k∧a.nodes[(fB to k).toNat]?=some (dV mf mc to (nodeAt p k)) :=by
 obtain⟨i,hi⟩ :=hp.mem h0 h1;have e:=h.to i k hi;rw [e,Int.toNat_natCast];exact⟨by omega,h.node i k hi⟩
theorem aHI (h:Laid a off p mf mc to)(hp:Fw p) :∀ (f:Nat) (k:Int),0≤k→k<p.nodes.length→p.nodes.length-k.toNat≤f→pre a f (fB to k) = (pre p f k).map (fB to)
 |0,k,h0,h1,h2=>by omega
 | f+1,k,h0,h1,h2=>by
  obtain⟨x,hx⟩ :∃x,p.nodes[k.toNat]?=some x:= ⟨_,getElem?_eq_getElem (by omega)⟩;obtain⟨g0,g1⟩ :=h.atW hp h0 h1;rw [eV hx]at g1;rw [Go.Hb.pre,Go.Hb.pre,hx,g1];simp only [map_cons,List.map_flatten,map_map,dV];congr 2
  exact List.map_congr_left (fun c hc=>by
   have:= (hp.fine.node _ _ hx).2.2 c hc;exact aHI h hp f c (by omega) (by omega) (by omega))
theorem Laid.walkW (h:Laid a off p mf mc to)(hp:Fw p){F:Nat}(hF:p.nodes.length≤F) : ((p.funs.map (fB to)).map (Go.Hb.pre a F)).flatten= (range p.nodes.length).map fun i=> ((off+i:Nat) :Int) :=by
 have e1: (p.funs.map (fB to)).map (Go.Hb.pre a F) = (p.funs.map (Go.Hb.pre p p.nodes.length)).map (map (fB to)) :=by
  rw [map_map,map_map];refine List.map_congr_left (fun k hk=>?_);have:=hp.fine.funs k hk;show Go.Hb.pre a F (fB to k) = (Go.Hb.pre p p.nodes.length k).map (fB to);rw [aHI h hp F k this.1 this.2 (by omega),aFL hp.fine F p.nodes.length k this.1 this.2 (by omega) (by omega)]
 rw [e1,←List.map_flatten];have hlen:=hp.len;refine List.ext_getElem? (fun i=>?_);rw [getElem?_map,getElem?_map];by_cases hi:i< (dX p).length
 · rw [List.getElem?_range (by omega)];have e: (dX p)[i]?=some (dX p)[i] :=getElem?_eq_getElem hi;have: ((p.funs.map (Go.Hb.pre p p.nodes.length)).flatten)[i]?=some (dX p)[i] :=e;rw [this];simp only [Option.map_some];rw [h.to i _ e]
 · have e: (dX p)[i]?=none:=List.getElem?_eq_none (by omega);have: ((p.funs.map (Go.Hb.pre p p.nodes.length)).flatten)[i]?=none:=e;rw [this,List.getElem?_eq_none (by simp;omega)];rfl
end
def dN (u:LUnit) :Prog:= ⟨u.nodes,cG u,0,u.cons⟩
def rX (u:LUnit) :Prog:= ⟨u.nodes,replicate (u.funs.length+u.needs.length) 0,0,u.cons⟩
theorem aB8 {p p':Prog}(h:p'.nodes=p.nodes)(F C:List Int) :∀k:Nat,cN p' F C k=cN p F C k
 |0=>rfl
 | k+1=>by
  funext len a
  rw [cN,cN,h,aB8 h F C k]
theorem aMv {u:LUnit}{x:Node}(h:bH (fC u) (eQ u.funs.length u.needs.length x) =true) :bH (rX u) x=true:=by
 have hf: (fC u).funs.length=u.funs.length:=by simp [fC,cG]
 have hw: (rX u).funs.length=u.funs.length+u.needs.length:=by simp [rX]
 simp only [bH,eP,and_eq_true,decide_eq_true_eq]at h ⊢;rw [mD,zB,aB5]at h;obtain⟨⟨⟨h1,h2⟩,h3⟩,h4⟩ :=h;by_cases e4:x.op=4
 · have z1:fX (rX u) x=0:=by unfold fX;rw [if_neg (fun g=>by have:=g.1;omega)]
   have z2:fX (fC u) (eQ u.funs.length u.needs.length x) =0:=by unfold fX;rw [aB5,if_neg (fun g=>by have:=g.1;omega)]
   rw [z2]at h4;rw [z1];refine⟨⟨⟨?_,h2⟩,h3⟩,h4⟩;by_cases g: -(u.funs.length:Int) -u.needs.length≤x.n∧x.n≤ -(u.funs.length:Int) -1
   · rw [e4];simp [bI,cT,hw];omega
   · have e:eQ u.funs.length u.needs.length x=x:=by unfold eQ;rw [if_neg (fun k=>g k.2)]
     rw [e,e4]at h1;rw [e4];simp [bI,cT,hf,hw]at h1 ⊢;omega
 · have e:eQ u.funs.length u.needs.length x=x:=by unfold eQ;rw [if_neg (fun g=>e4 g.1)]
   rw [e]at h1 h4;refine⟨⟨⟨?_,h2⟩,h3⟩,h4⟩;unfold bI at h1 ⊢;rw [if_neg e4]at h1 ⊢;exact h1
theorem zC {u:LUnit}(h:GoodU u){i:Nat}{x:Node}(hx:u.nodes[i]?=some x) :bH (rX u) x=true∧x.pats.length≤10∧aX x=true:=by
 have hs:=h.few.p;simp only [aJ,and_eq_true]at hs;have hsn:=List.all_eq_true.1 hs.2 x (mem_of_getElem? hx);have hsn2:=hsn;simp only [aX,and_eq_true,decide_eq_true_eq]at hsn2;refine⟨?_,hsn2.1.2,hsn⟩;rcases h.cases with⟨_,h1⟩ | ⟨_,hr⟩
 ·rw [h1]at hx;simp at hx
 · have hx': (fC u).nodes[i]?=some (eQ u.funs.length u.needs.length x) :=by simp [fC,getElem?_map,hx]
   exact aMv ((pJ (kN h.few) hr).2.2.2 i _ hx')
theorem uL {u:LUnit}(h:GoodU u) :Fw (dN u) :=by
 rcases h.cases with⟨h0,h1⟩ | ⟨_,hr⟩
 · have hb:cG u= [] :=by simp [cG,h0]
   have ho:dX (dN u) = [] :=by unfold dX;simp [dN,hb]
   refine⟨⟨by simp [dN,h1],by simp [dN,hb],fun i x hx=>by simp [dN,h1]at hx,fun f hf=>by simp [dN,hb]at hf⟩,by rw [ho];exact List.nodup_nil,by rw [ho];simp [dN,h1],fun x hx=>by rw [ho]at hx;cases hx⟩
 · have hs:=kN h.few;obtain⟨p1,p2,p3,p4⟩ :=pJ hs hr;have hfn:=mX hs hr;have hnl: (fC u).nodes.length=u.nodes.length:=by simp [fC]
   have ho:dX (dN u) = ((fC u).funs.map (pre (fC u) (fC u).nodes.length)).flatten:=by
    unfold dX;rw [hnl];show((cG u).map (pre (dN u) u.nodes.length)).flatten= ((cG u).map _).flatten;congr 2;exact(funext (aJQ (p:=dN u) (p':=fC u) (f:=eQ u.funs.length u.needs.length) rfl (mD _ _) _)).symm
   refine⟨⟨by have:=hfn.small;rw [hnl]at this;exact this,hfn.fsmall,fun i x hx=>?_,fun f hf=>by have:=hfn.funs f hf;rw [hnl]at this;exact this⟩,by rw [ho];exact p1,by rw [ho,p2,hnl];rfl,fun x hx=>by rw [ho]at hx;have:=p3 x hx;rw [hnl]at this;exact this⟩;have hx1:u.nodes[i]?=some x:=hx;have hx': (fC u).nodes[i]?=some (eQ u.funs.length u.needs.length x) :=by simp [fC,getElem?_map,hx1]
   obtain⟨c1,c2,c3⟩ :=hfn.node i _ hx';have m1:=c1.mat;have m2:=c1.let2;rw [aB5,mD,zB]at m1;rw [aB5,mD]at m2;rw [mD]at c2 c3;rw [hnl]at c3;exact⟨⟨fun q hq=>c1.pats q (by rw [zB];exact hq),m1,m2⟩,c2,c3⟩
def aDU :List Int→Int→List (Int×Int) →List (Int×Int)
 | [],_,m=>m
 |g::t,i,m=>aDU t (i+1) (bY i g m)
theorem aMw :∀ (t:List Int) (i:Int) (m:List (Int×Int)) (j:Int),j<i→lQ (aDU t i m) j=lQ m j
 | [],i,m,j,h=>rfl
 |c::t,i,m,j,h=>by rw [aDU,aMw t (i+1) _ j (by omega),aEh,if_neg (by omega)]
theorem aQc :∀ (t:List Int) (i:Int) (m:List (Int×Int)) (j:Nat) (d:Int),t[j]?=some d→lQ (aDU t i m) (i+j) =d
 | [],i,m,j,d,h=>by simp at h
 | c::t,i,m,0,d,h=>by
  simp only [List.getElem?_cons_zero,Option.some.injEq]at h;subst h;rw [aDU,aMw t (i+1) _ _ (by omega),aEh,if_pos (by omega)]
 | c::t,i,m,j+1,d,h=>by
  simp only [List.getElem?_cons_succ]at h;have:=aQc t (i+1) (bY i c m) j d h;rw [aDU,show i+ ((j+1:Nat) :Int) =i+1+ (j:Int)by omega];exact this
theorem qM (F:List Int) :aFC F.length (aDU F 0 []) F:=fun i h0 h1=>by
 have e:F[i.toNat]?=some (F[i.toNat]'(by omega)) :=getElem?_eq_getElem (by omega);have:=aQc F 0 [] i.toNat _ e;rw [show(0:Int) + ((i.toNat:Nat) :Int) =i by omega]at this;rw [e,this]
def mfU (T ls:List aB)(u:LUnit) :List (Int×Int) :=aDU (rW T ls u) 0 []
def mcU (cs:List Con)(u:LUnit) :List (Int×Int) :=aMo cs u.cons 0 []
theorem aZe (cs:List Con)(u:LUnit) :aFC u.cons.length (mcU cs u) (uK cs u) :=fun i h0 h1=>by
 have e:u.cons[i.toNat]?=some (u.cons[i.toNat]'(by omega)) :=getElem?_eq_getElem (by omega);have:=aEi cs u.cons 0 [] i.toNat _ e;rw [show(0:Int) + ((i.toNat:Nat) :Int) =i by omega]at this;unfold uK mcU;rw [getElem?_map,e,this];rfl
theorem aHJ (T ls:List aB)(u:LUnit) : (rW T ls u).length=u.funs.length+u.needs.length:=by simp [rW,aH]
theorem aO1 {T ls:List aB}{u:LUnit}{i:Int}(h0:0≤i)(h1:i<u.funs.length+u.needs.length) :∃s,(aH u++u.needs)[i.toNat]?=some s∧lQ (mfU T ls u) i=vO T ls s:=by
 have hl:=aHJ T ls u;have e:=qM (rW T ls u) i h0 (by omega);unfold rW at e;rw [getElem?_map]at e;cases hs: (aH u++u.needs)[i.toNat]? with
 |none=>rw [hs]at e;cases e
 |some s=>rw [hs]at e;exact⟨s,rfl,(Option.some.inj e).symm⟩
def aQd (T ls:List aB)(u:LUnit) :Prop:=∀s∈aH u++u.needs,0≤vO T ls s
def aMx (T ls:List aB)(cs:List Con)(off:Nat)(u:LUnit) :List Node:= (dX (dN u)).map fun k=>dV (mfU T ls u) (mcU cs u) (toL (dN u) off) (nodeAt (dN u) k)
def aMy (off:Nat)(u:LUnit) :List Int:= (cG u).map (fB (toL (dN u) off))
theorem aO2 {u:LUnit}(h:GoodU u){T ls:List aB}{cs:List Con}(hT:T.length≤1000)(hls:ls.length≤1000)(hn:aQd T ls u)(off:Nat)(ho:off≤100000) :
  iR (cN (lR u) (rW T ls u) (uK cs u) u.nodes.length) off (cG u) =some (aMy off u,aMx T ls cs off u) :=by
 have hw:=uL h;have hsm:=h.small;have hff:=h.few.f;have hnd:=h.few.n;have hwl: (rX u).funs.length=u.funs.length+u.needs.length:=by simp [rX]
 have hm:MOk (dN u) (mfU T ls u) (mcU cs u) (rW T ls u) (uK cs u) :=fun i x hx=>
  (aBX (p:=rX u) (by rw [hwl,←aHJ T ls u];exact qM _) (aZe cs u) (fun i h0 h1=>by
   rw [hwl]at h1;obtain⟨s,hs,e⟩ :=aO1 (T:=T) (ls:=ls) (u:=u) h0 (by omega);rw [e];have:=aFQ T ls s;have:=hn s (mem_of_getElem? hs);omega) (by omega) (zC h hx).1 (zC h hx).2.1).1
 rw [aB8 (p:=dN u) (p':=lR u) rfl];have hl:=hw.len;have hl2: (dN u).nodes.length=u.nodes.length:=rfl
 have e:=aBV (to:=toL (dN u) off) (g:=cN (dN u) (rW T ls u) (uK cs u) u.nodes.length) (h:=wB (dN u) (mfU T ls u) (mcU cs u) (toL (dN u) off) u.nodes.length) (q:=pre (dN u) u.nodes.length) (cG u) off (fun k hk len h1 h2=>by
   have:=hw.fine.funs k hk;exact yY hw.fine hm _ k len this.1 this.2 (by omega) h1 h2) (fun k hk=>by
   have:=hw.fine.funs k hk;obtain⟨y,g,_,_,h3⟩ :=xP hw.fine (f:=u.nodes.length) (a:=k) this.1 this.2 (by omega);exact⟨aJs _ _ _ _ _,by rw [h3];rfl⟩) (by change off+ (dX (dN u)).length≤1000000;omega) (hw.toL off)
 rw [e];congr 2;exact aFK (dN u) (mfU T ls u) (mcU cs u) (toL (dN u) off)
theorem aMz {u:LUnit}(h:GoodU u)(T ls:List aB)(cs:List Con)(off:Nat) : (aMx T ls cs off u).length=u.nodes.length:=by
 unfold aMx;rw [length_map,(uL h).len];rfl
def lK (T ls:List aB)(cs:List Con) :Nat→List LUnit→List Node
 |_,[] =>[]
 |off,u::l=>aMx T ls cs off u++lK T ls cs (off+u.nodes.length) l
def aFU :Nat→List LUnit→List LFun
 |_,[] =>[]
 |off,u::l=>zipWith LFun.mk (aH u) (aMy off u) ++aFU (off+u.nodes.length) l
theorem aQe {T ls:List aB}{cs:List Con}(hT:T.length≤1000)(hls:ls.length≤1000) :∀ (l:List LUnit) (fs:List LFun) (ns:List Node),(∀u∈l,GoodU u∧aQd T ls u) →ns.length+aZ l≤100000 →
  aFR T ls cs fs ns l=some (fs++aFU ns.length l,ns++lK T ls cs ns.length l)
 | [],fs,ns,_,_=>by rw [aFR,aFU,lK,append_nil,append_nil]
 | u::l,fs,ns,hg,hb=>by
  obtain⟨h1,h2⟩ :=hg u (mem_cons_self ..);rw [aZ]at hb;rw [aFR,aO2 h1 hT hls h2 ns.length (by omega)];simp only;have hl:=aMz h1 T ls cs ns.length;rw [aQe hT hls l _ _ (fun x hx=>hg x (mem_cons_of_mem _ hx)) (by rw [length_append,hl];omega)];rw [length_append,hl,aFU,lK,append_assoc,append_assoc]
theorem aCZ {T ls:List aB}{cs:List Con}:∀ (l:List LUnit) (off:Nat),(∀u∈l,GoodU u) → (lK T ls cs off l).length=aZ l
 | [],off,_=>rfl
 | u::l,off,hg=>by
  rw [lK,length_append,aMz (hg u (mem_cons_self ..)),aCZ l _ (fun x hx=>hg x (mem_cons_of_mem _ hx)),aZ]
theorem aHK {T ls:List aB}{cs:List Con}:∀ (l m:List LUnit) (off:Nat),lK T ls cs off (l++m) =lK T ls cs off l++lK T ls cs (off+aZ l) m
 | [],m,off=>by simp [lK,aZ]
 | u::l,m,off=>by
  rw [List.cons_append,lK,lK,aHK l m,append_assoc,aZ,Nat.add_assoc]
theorem mE :∀l m:List LUnit,aZ (l++m) =aZ l+aZ m
 | [],m=>by simp [aZ]
 |u::l,m=>by rw [List.cons_append,aZ,aZ,mE l m,Nat.add_assoc]
theorem aMA :∀ (a:List aB) (b:List Int),a.length=b.length→ (zipWith LFun.mk a b).map LFun.body=b∧ (zipWith LFun.mk a b).map LFun.name=a
 | [],[],_=> ⟨rfl,rfl⟩
 | [],_::_,h=>by simp at h
 |_::_,[],h=>by simp at h
 | x::a,y::b,h=>by
  obtain⟨h1,h2⟩ :=aMA a b (by simpa using h);rw [List.zipWith_cons_cons,map_cons,map_cons,h1,h2];exact⟨rfl,rfl⟩
theorem aMB (off:Nat)(u:LUnit) : (aH u).length= (aMy off u).length:=by simp [aMy,aH,cG]
def rY :Nat→List LUnit→List Int
 |_,[] =>[]
 |off,u::l=>aMy off u++rY (off+u.nodes.length) l
theorem aB9 :∀ (l:List LUnit) (off:Nat),(aFU off l).map LFun.body=rY off l
 | [],off=>rfl
 | u::l,off=>by
  rw [aFU,map_append,(aMA _ _ (aMB off u)).1,aB9 l,rY]
theorem aC0 :∀ (l:List LUnit) (off:Nat),(rY off l).length= (bS l).length
 | [],off=>rfl
 |u::l,off=>by rw [rY,length_append,←aMB,aC0 l,rR,length_append]
section
variable {T ls:List aB} {cs:List Con} {a:Prog} {l:List LUnit}
theorem aFV (hg:∀u∈l,GoodU u)(ha:a.nodes=lK T ls cs 0 l){l1 l2:List LUnit}{u:LUnit}(hl:l=l1++u::l2) :Laid a (aZ l1) (dN u) (mfU T ls u) (mcU cs u) (toL (dN u) (aZ l1)) :=by
 have hw:=uL (hg u (by rw [hl];simp));refine⟨fun i k hk=>?_,hw.toL _⟩;have h1:=aCZ (T:=T) (ls:=ls) (cs:=cs) l1 0 (fun x hx=>hg x (by rw [hl];simp [hx]));have hlt:= (List.getElem?_eq_some_iff.1 hk).1;rw [ha,hl,aHK,lK,List.getElem?_append_right (by omega),h1,show aZ l1+i-aZ l1=i by omega,Nat.zero_add,List.getElem?_append_left (by unfold aMx;rw [length_map];exact hlt)];unfold aMx;rw [getElem?_map,hk];rfl
theorem aFW (hg:∀u∈l,GoodU u)(ha:a.nodes=lK T ls cs 0 l){N:Nat}(hN:aZ l≤N) :∀ (l2 l1:List LUnit),l=l1++l2 →
  ((rY (aZ l1) l2).map (pre a N)).flatten= (range (aZ l2)).map fun i=> ((aZ l1+i:Nat) :Int)
 | [],l1,_=>rfl
 | u::l2,l1,hl=>by
  have hw:=uL (hg u (by rw [hl];simp));have hsz:aZ l=aZ l1+ (u.nodes.length+aZ l2) :=by rw [hl,mE,aZ]
  have e1:= (aFV (T:=T) (ls:=ls) (cs:=cs) (a:=a) hg ha hl).walkW hw (F:=N) (by change u.nodes.length≤N;omega);have e2:=aFW hg ha hN l2 (l1++ [u]) (by rw [hl,append_assoc];rfl);have es:aZ (l1++ [u]) =aZ l1+u.nodes.length:=by rw [mE,aZ,aZ];omega
  rw [es]at e2;rw [rY,map_append,List.flatten_append,e2]
  change ((aMy (aZ l1) u).map (pre a N)).flatten=_ at e1
  rw [e1,aZ,List.range_add,map_append,map_map];congr 1;refine List.map_congr_left (fun i _=>?_);simp only [Function.comp];omega
end
def bCm(a:LUnit):TS:=cI PP 161 [(.agg [(aA a.name),(iC a.cons),(.ilst 2 (map LFun.av a.funs) false),(iS a.needs),(iN a.nodes)])] [] 0
def aJR(a:LUnit)(c:Int)(b:List aB):TS:=⟨(tf 161 20 [(2,.nils),(3,(.gl 0 1 0 b.length false)),(7,(.ilst 2 (map LFun.av a.funs) false)),(8,(nI (a.funs.length:Int))),(9,(nI c))] [kc f161 116,kl f161 116,.inBlock 0,kc f161 15]),[],[oL 0 1 (map aA b)],1⟩
def bCn(a:Con):TS:=cI PP 159 [(.agg [(aA a.name),(nI a.args)])] [] 0
def bEo(a:List aB):TS:=cI PP 139 [(iS a)] [] 0
def aJS(a:List aB)(b:Int):TS:=⟨(tf 204 19 [(0,(iS a)),(1,(.func 202 [] [])),(4,(nI 0)),(7,(nI (a.length:Int))),(8,(nI b))] [kc f204 52,kl f204 52,.inBlock 0,kc f204 7]),[(tf 201 9 [(4,(bV false)),(5,(iS a)),(6,(.func 202 [] []))] [ko f201 6 2,kc f201 7]),(tf 139 10 [(0,(iS a)),(2,(bV false)),(3,(iS a))] [ko f139 6 1,kc f139 7])],[],0⟩
def aC1(a:List aB)(c:Int)(b:List (aB×Bool)):TS:=⟨(tf 203 25 [(1,(.func 141 [] [])),(4,(bV false)),(5,(.map 0)),(9,(iS a)),(10,(nI (a.length:Int))),(11,(nI c))] [kc f203 116,kl f203 116,.inBlock 0,kc f203 15]),[(tf 139 10 [(2,(bV false)),(6,(bV true)),(7,(iS a))] [ko f139 6 5,kc f139 7])],[(0,(.map (aF aA nF 0 b) b.length),true)],1⟩
def aVw(a:List Node):TS:=cI PP 189 [(iN a)] [] 0
def bEp(a:List Node):TS:=⟨(tf 189 8 [(0,(iN a)),(2,.nils),(3,(iN a))] [ko f189 12 1,kc f189 13,kc f189 7]),[],[],0⟩
def bDs(a:List Node):TS:=⟨(tf 189 8 [(0,(iN a)),(2,.nils),(3,.nils)] [ko f189 12 1,kc f189 13,kc f189 7]),[],[],0⟩
def bDt(a:List Node)(b:Addr)(c d:Nat):TS:=⟨(tf 189 8 [(0,(iN a)),(2,.nils),(3,(.val (Value.slice (some b) c d)))] [ko f189 12 1,kc f189 13,kc f189 7]),[],[],0⟩
def aVx(a b:List aB):TS:=cI PP 160 [(.slice 0 0 2 2 1 true)] [oC 0 [(iS a),(iS b)]] 1
def bCo(a:List Con)(b:aB):TS:=cI PP 158 [(iC a),(.func 159 [] []),(aA b)] [] 0
def aJT(a:List Con)(b:aB)(c:Int):TS:=⟨(tf 223 19 [(0,(iC a)),(1,(.func 224 [] [(.ptr 0 0),(.ptr 1 0)])),(4,(nI 0)),(7,(nI (a.length:Int))),(8,(nI c))] [kc f223 52,kl f223 52,.inBlock 0,kc f223 7]),[(tf 158 10 [(6,(nI 0)),(7,(iC a)),(8,(.func 224 [] [(.ptr 0 0),(.ptr 1 0)]))] [ko f158 6 2,kc f158 7])],[oC 0 [(.func 159 [] [])],oC 1 [(aA b)]],2⟩
def bEq(a:List aB)(b:aB):TS:=cI PP 151 [(iS a),(aA b)] [] 0
def aJU(a:List aB)(b:aB)(c:Int):TS:=⟨(tf 151 19 [(0,(iS a)),(1,(aA b)),(4,(nI 0)),(7,(nI (a.length:Int))),(8,(nI c))] [kc f151 52,kl f151 52,.inBlock 0,kc f151 7]),[],[],0⟩
def bCp(a:LUnit):TS:=cI PP 121 [(.agg [(aA a.name),(iC a.cons),(.ilst 2 (map LFun.av a.funs) false),(iS a.needs),(iN a.nodes)])] [] 0
def aJV(a:LUnit)(c:List aB)(d:Int)(b:List Int):TS:=⟨(tf 121 114 [kp 1 0,(2,(bV false)),(3,(iS c)),kp 4 1,(49,(.ilst 2 (map LFun.av a.funs) false)),(50,(nI (a.funs.length:Int))),(51,(nI d))] [kc f121 500,kl f121 500,.inBlock 0,kc f121 63]),[],[oC 0 [(aA a.name),(iC a.cons),(.ilst 2 (map LFun.av a.funs) false),(iS a.needs),(iN a.nodes)],oC 1 [(.gl 2 4 0 a.nodes.length false),(.gl 3 1 0 b.length false),(nI 0),(iC a.cons)],oL 2 4 (jN a.nodes),oL 3 1 (jI b)],4⟩
def uM(a:LUnit)(d:List aB)(e:Int)(b:List Node)(c:List Int)(f:Int):TS:=⟨(tf 121 114 [kp 1 0,(2,(bV false)),(3,(iS d)),kp 4 1,(76,(.gl 2 4 0 b.length false)),(77,(nI e)),(78,(nI f))] [kc f121 2036,kl f121 2036,.inBlock 2,kc f121 255]),[],[oC 0 [(aA a.name),(iC a.cons),(.ilst 2 (map LFun.av a.funs) false),(iS a.needs),(iN a.nodes)],oC 1 [(.gl 2 4 0 b.length false),(.gl 3 1 0 c.length false),(nI 0),(iC a.cons)],oL 2 4 (jN b),oL 3 1 (jI c)],4⟩
def aZf (a:LUnit):=(tT 0 (bCm a)<|gl 14 LFun.av a.funs<|.i [rn 4,.nilL 3 1] []<|gu 0 1 (map aA ([] :List aB))<|gs 0 3 (.gl 1 1 0 ([] :List aB).length false)<|.W 0 2 [1] (aJR a 0 ([] :List aB))) ⟨kk,trivial⟩
def aVy(c:LUnit)(a:Int)(b:List aB):=tT 0 (aJR c a b)<|gd 5 10 (a< (c.funs.length:Int)) (gX LFun.av 6 c.funs a<|fun d=>ga 9 aA b [d.name]<|gw 5 18 (a+1)<|.W 3 4 [3] (aJR c (a+1) (b++ [d.name])))<|gz 8 2 0 1 aA b false<|gE 0 1 (iS b)
def aZg:=fun a b c d e f g i j=>aVy a b c|>.t e d f g i j ⟨kk,trivial⟩
def aZh:=fun a b c d=>aVy a b c|>.f d tv
def aZi (a:Con):=(tT 0 (bCn a)<|gE 12 1 (aA a.name)) tv
def aZj (a:List aB):=(tT 0 (bEo a)<|gl 25 aA a<|.W 4 0 [] (aJS a 0)) tv
def aO3(a:List aB)(b:Int):=tT 0 (aJS a b)<|gd 5 9 (b< (a.length:Int)) (gX aA 14 a b<|fun c=>gG 9 85 [(aA c)]<|fun d=>.b 6 16 (!d) (.b 15 6 (!(decide (b≥0))) (.i [rn 9,.mset 0 (aF aA nF 0 ([] :List (aB×Bool))) ([] :List (aB×Bool)).length] [hr (aF aA nF 0 ([] :List (aB×Bool))),hr (length ([] :List (aB×Bool)))]<|gl 6 aA a<|.W 4 1 [0] (aC1 a 0 ([] :List (aB×Bool))))<|gE 6 0 (bV false))<|gw 5 18 (b+1)<|.W 3 0 [] (aJS a (b+1)))<|.i [rn 24,.mset 0 (aF aA nF 0 ([] :List (aB×Bool))) ([] :List (aB×Bool)).length] [hr (aF aA nF 0 ([] :List (aB×Bool))),hr (length ([] :List (aB×Bool)))]<|gl 6 aA a<|.W 4 1 [0] (aC1 a 0 ([] :List (aB×Bool)))
def aZk:=fun a b c d e f g i j k=>aO3 a b|>.t e c f g d i|>.t j|>.f k tv
def aZl:=fun a b c d e f g i j k=>aO3 a b|>.t e c f g d i|>.f j k tv
def aZm:=fun a b c=>aO3 a b|>.f c ⟨aO (fun _=>rfl) (fun _=>rfl) _ _ _,trivial⟩
def aO4(f:List aB)(c:Int)(a:List (aB×Bool)):=tT 0 (aC1 f c a)<|gd 5 12 (c< (f.length:Int)) (gX aA 6 f c<|fun g=>gpS 9 141 [(aA g)]<|fun d=>.o (.y fun b:Bool=>.i [.ans (.look (some (xE d a,(nF b))))] [.a (eA d a=some b) (p':=fF (aA d) (aF aA nF 0 a) 0=some (some (xE d a,(nF b)))) (rJ hX)]<|.b 1 19 b (gE 11 1 (bV false))<|gpS 6 141 [(aA g)]<|fun e=>.i [.mput (aF aA nF 0 (bY e true a)) (bY e true a).length] [.q (p:=tJ (aF aA nF 0 a) a.length (aA e) (nF true) =some ((aF aA nF 0 (bY e true a)),length (bY e true a))) (aIR hX _ _ _)]<|gw 4 24 (c+1)<|.W 3 1 [0] (aC1 f (c+1) (bY e true a)))<|.i [.ans (.look none)] [.a (eA d a=none) (p':=fF (aA d) (aF aA nF 0 a) 0=some none) (rI hX)]<|gpS 7 141 [(aA g)]<|fun b=>.i [.mput (aF aA nF 0 (bY b true a)) (bY b true a).length] [.q (p:=tJ (aF aA nF 0 a) a.length (aA b) (nF true) =some ((aF aA nF 0 (bY b true a)),length (bY b true a))) (aIR hX _ _ _)]<|gw 4 24 (c+1)<|.W 3 1 [0] (aC1 f (c+1) (bY b true a)))<|gE 12 1 (bV true)
def aZn:=fun a b c d e f g i j k l m=>aO4 a b c|>.t g d i j e k|>.1 f l|>.t m tv
def aZo:=fun a b c d e f g i j k l m n=>aO4 a b c|>.t g d i j e k|>.2 l f m n ⟨aO (fun _=>rfl) (fun _=>rfl) _ _ _,trivial⟩
def aZp:=fun a b c d=>aO4 a b c|>.f d tv
def bEr (a:List Node):=(tT 0 (aVw a)<|.W 8 0 [] (bEp a)) tv
def bEs (a:List Node):=(tT 0 (bDs a)<|.i [rn 8,.nilL 2 4] []<|.E 0 1 [0] (.gl 0 4 0 0 false) [oL 0 4 (jN ([] :List Node))] 1) ⟨kk,trivial⟩
def bEt (a:List Node)(b:Addr)(c d:Nat):=fun e=>(tT 0 (bDt a b c d)<|.i [rn 8,.toL 5 true []] [.q (p:=getCells (putCells .leaf 0 []) 0 (0*4) =some []) rfl,hr true]<|gu 0 0 (jN ([] :List Node))<|gs 0 5 (.gl 0 4 0 ([] :List Node).length true)<|.i [.weak 5] []<|ga 0 Node.av ([] :List Node) a<|.E 3 2 [1] (.gl 0 4 0 (([] :List Node) ++a).length false) [oL 0 4 (jN (([] :List Node) ++a))] 1) e ⟨kk,trivial⟩
def aVz(a b:List aB):=tT 1 (aVx a b)<|gl 36 aA a<|gw 1 18 (0+ (a.length:Int))<|gd 7 20 ((0+ (a.length:Int)) <0) (.P 4 1 [] [((.iface 9 (.str 16 134789072936214216453580009062074836332)),false)] [oC 0 [(iS a),(iS b)]] 1)<|gl 27 aA b<|gw 1 18 ((0+ (a.length:Int)) + (b.length:Int))<|gd 7 20 (((0+ (a.length:Int)) + (b.length:Int)) <0) (.P 4 1 [] [((.iface 9 (.str 16 134789072936214216453580009062074836332)),false)] [oC 0 [(iS a),(iS b)]] 1)<|gd 29 6 (((0+ (a.length:Int)) + (b.length:Int)) <0) .x<|gw 12 14 (((0+ (a.length:Int)) + (b.length:Int)) -0)<|gd 7 16 ((((0+ (a.length:Int)) + (b.length:Int)) -0) >0) (.i [rn 7,.appN (map aA (replicate (((0+ (a.length:Int)) + (b.length:Int)) -0).toNat ([] :aB))) (((0+ (a.length:Int)) + (b.length:Int)) -0).toNat] [hA ((((0+ (a.length:Int)) + (b.length:Int)) -0) = (((((0+ (a.length:Int)) + (b.length:Int)) -0).toNat:Nat) :Int)),hA (0< (((0+ (a.length:Int)) + (b.length:Int)) -0).toNat),hA ((((0+ (a.length:Int)) + (b.length:Int)) -0).toNat<100000),.q (p:=eI [AV.str 0 0] (((0+ (a.length:Int)) + (b.length:Int)) -0).toNat= (map aA (replicate (((0+ (a.length:Int)) + (b.length:Int)) -0).toNat ([] :aB)))) (aMb _),.q (p:=cC (map aA (replicate (((0+ (a.length:Int)) + (b.length:Int)) -0).toNat ([] :aB))) =true) (xQ _)]<|.i [.toL 22 false (map aA (replicate (((0+ (a.length:Int)) + (b.length:Int)) -0).toNat ([] :aB)))] [.q (p:=getCells (putCells .leaf 0 (map aA (replicate (((0+ (a.length:Int)) + (b.length:Int)) -0).toNat ([] :aB)))) 0 ((((0+ (a.length:Int)) + (b.length:Int)) -0).toNat*1) =some (map aA (replicate (((0+ (a.length:Int)) + (b.length:Int)) -0).toNat ([] :aB)))) (aU2 _),.q (p:=cC (map aA (replicate (((0+ (a.length:Int)) + (b.length:Int)) -0).toNat ([] :aB))) =true) (xQ _)]<|.i [.lset 1 (map aA (replicate (((0+ (a.length:Int)) + (b.length:Int)) -0).toNat ([] :aB)))] [.q (p:=kS false 1 (((0+ (a.length:Int)) + (b.length:Int)) -0).toNat (map aA (replicate (((0+ (a.length:Int)) + (b.length:Int)) -0).toNat ([] :aB))) = (map aA (replicate (((0+ (a.length:Int)) + (b.length:Int)) -0).toNat ([] :aB)))) (aU3 _)]<|.i [rn 2,.ans (.ev (.gl 1 1 0 0 false))] [.a (0≤ (((0+ (a.length:Int)) + (b.length:Int)) -0).toNat) (p':=aCI PP 25 (.gl 1 1 0 ((((0+ (a.length:Int)) + (b.length:Int)) -0).toNat) false) none (some (nI 0)) (.gl 1 1 0 0 false)) (fun h=>(aKH (k:=0) (by kernel_rfl) (by decide) h))]<|.i [rn 38,.app (map aA a) a.length] [.q (p:=0+0≤length (map aA (replicate (((0+ (a.length:Int)) + (b.length:Int)) -0).toNat ([] :aB)))) (Nat.zero_le _),hA (a.length≤1000000),.q (p:=take 0 (drop 0 (map aA (replicate (((0+ (a.length:Int)) + (b.length:Int)) -0).toNat ([] :aB)))) ++ (map aA a) = (map aA a)) (by rw [List.take_zero,List.nil_append]),.q (p:=0+length (map aA a) =a.length) (by rw [Nat.zero_add,length_map])]<|ga 26 aA a b<|gz 21 2 3 1 aA (a++b) false<|.E 0 4 [] (iS (a++b)) [oC 0 [(iS a),(iS b)]] 1)<|.i [rn 38,.nilL 31 1] []<|gu 0 1 (map aA ([] :List aB))<|gs 0 31 (.gl 1 1 0 ([] :List aB).length false)<|ga 0 aA ([] :List aB) a<|ga 26 aA (([] :List aB) ++a) b<|gz 21 2 3 1 aA ((([] :List aB) ++a) ++b) false<|.E 0 4 [] (iS ((([] :List aB) ++a) ++b)) [oC 0 [(iS a),(iS b)]] 1
def aZq:=fun b c d e f a g i j k l m n o=>aVz b c d|>.f e f|>.f a|>.f a g|>.t i j k l m n o tv
def aZr:=fun b c d e f a g i j k=>aVz b c d|>.f e f|>.f a|>.f a g|>.f i j k tv
def aZs (a:List Con)(b:aB):=(tT 0 (bCo a b)<|gl 19 Con.av a<|.W 4 2 [0,1] (aJT a b 0)) tv
def aO5(c:List Con)(a:aB)(b:Int):=tT 0 (aJT c a b)<|gd 5 9 (b< (c.length:Int)) (gX Con.av 14 c b<|fun e=>.y fun d:aB=>.i [rn 8,.reg (.d::.d::.pure (aA d)::rd 3 [])] [hA (Pure PP 159 [(.agg [(aA e.name),(nI e.args)])] (aA d)),hr (aA a),hr (aA a)]<|.b 3 16 (bL d.length (aC d) a.length (aC a)) (gE 11 3 (nI b))<|gw 5 18 (b+1)<|.W 3 3 [0,1] (aJT c a (b+1)))<|gE 11 2 (nI (-1))
def aZt:=fun a b c d e f g i j k=>aO5 a b c|>.t f d g i e j|>.t k tv
def aZu:=fun a b c d e f g i j k l=>aO5 a b c|>.t f d g i e j|>.f k l tv
def aZv:=fun a b c d=>aO5 a b c|>.f d tv
def aZw (a:List aB)(b:aB):=(tT 0 (bEq a b)<|gl 8 aA a<|.W 4 0 [] (aJU a b 0)) tv
def aO6(b:List aB)(c:aB)(a:Int):=tT 0 (aJU b c a)<|gd 5 9 (a< (b.length:Int)) (gX aA 14 b a<|fun d=>.b 3 16 (bL c.length (aC c) d.length (aC d)) (gE 7 0 (nI a))<|gw 5 18 (a+1)<|.W 3 0 [] (aJU b c (a+1)))<|gE 7 0 (nI (-1))
def aZx:=fun a b c d e f g i=>aO6 a b c|>.t e d f g|>.t i tv
def aZy:=fun a b c d e f g i j=>aO6 a b c|>.t e d f g|>.f i j tv
def aZz:=fun a b c d=>aO6 a b c|>.f d tv
def aC2(a:LUnit):=tT 0 (bCp a)<|.y fun b:List aB=>gp 8 161 [(.agg [(aA a.name),(iC a.cons),(.ilst 2 (map LFun.av a.funs) false),(iS a.needs),(iN a.nodes)])] (iS b)<|gG 7 85 [(aA a.name)]<|fun c=>.b 2 16 (!c) (gE 32 1 (bV false))<|gl 2 aA a.needs<|gd 3 22 ((a.needs.length:Int) >20) (gE 26 1 (bV false))<|gG 1 139 [(iS b)]<|fun d=>.b 3 27 (!d) (gE 21 1 (bV false))<|gG 2 139 [(iS a.needs)]<|fun e=>.b 3 33 (!e) (gE 15 1 (bV false))<|gk 4 (.enter 160 [(.slice 1 0 2 2 1 true)]) [oC 0 [(aA a.name),(iC a.cons),(.ilst 2 (map LFun.av a.funs) false),(iS a.needs),(iN a.nodes)],oC 1 [(iS b),(iS a.needs)]] 2 (iS (b++a.needs)) [oC 0 [(aA a.name),(iC a.cons),(.ilst 2 (map LFun.av a.funs) false),(iS a.needs),(iN a.nodes)],oC 1 [(iS b),(iS a.needs)]] 2<|gG 0 139 [(iS (b++a.needs))]<|fun f=>.b 3 41 (!f) (gE 6 2 (bV false))<|.i [rn 3,.reg (rd 4 (.call (.gl 3 4 0 a.nodes.length false) (aD [oC 0 [(aA a.name),(iC a.cons),(.ilst 2 (map LFun.av a.funs) false),(iS a.needs),(iN a.nodes)],oC 1 [(iS b),(iS a.needs)],oL 3 4 (jN a.nodes)] 4)::rd 3 []))] [hA (Spec PP (.enter 189 [(iN a.nodes)]) (aD [oC 0 [(aA a.name),(iC a.cons),(.ilst 2 (map LFun.av a.funs) false),(iS a.needs),(iN a.nodes)],oC 1 [(iS b),(iS a.needs)]] 3) (.ret (.gl 3 4 0 a.nodes.length false)) (aD [oC 0 [(aA a.name),(iC a.cons),(.ilst 2 (map LFun.av a.funs) false),(iS a.needs),(iN a.nodes)],oC 1 [(iS b),(iS a.needs)],oL 3 4 (jN a.nodes)] 4)),hr (AV.ilst 2 (jC a.cons) false),hr (AV.ilst 2 (jC a.cons) false)]<|gl 5 LFun.av a.funs<|.i [rn 4,.cnil 2 1 1] []<|gu 0 4 (jI ([] :List Int))<|gv 0 2 1 (.gl 4 1 0 ([] :List Int).length false)<|.W 0 5 [0,2,3,4] (aJV a b 0 ([] :List Int))
def aZA:=fun a b c d e f=>aC2 a b d c e|>.t f tv
def aZB:=fun a b c d e f g=>aC2 a b d c e|>.f f|>.t g tv
def aZC:=fun a b c d e f g i j k=>aC2 a b e c f|>.f g|>.f i d j|>.t k tv
def aZD:=fun a b c d e f g i j k l m n=>aC2 a b f c g|>.f i|>.f j d k|>.f l e m|>.t n tv
def aZE:=fun a b c d e f g i j k l m n o p q r=>aC2 a b g c i|>.f j|>.f k d l|>.f m e n|>.f o p f q|>.t r tv
def aZF:=fun a b c d e f g i j k l m n o p q r s=>aC2 a b g c i|>.f j|>.f k d l|>.f m e n|>.f o p f q|>.f r s ⟨kk,⟨kk,trivial⟩⟩
def aJW(a:LUnit)(b:List aB)(c:Int)(d:List Int):=tT 0 (aJV a b c d)<|gd 5 52 (c< (a.funs.length:Int)) (gX LFun.av 6 a.funs c<|fun e=>ga 10 aP d [e.body]<|gw 6 62 (c+1)<|.W 3 7 [0,1,2,6] (aJV a b (c+1) (d++ [e.body])))<|gl 6 aA b<|.b 2 65 ((b.length:Int) ==0) (gl 6 Node.av a.nodes<|gd 2 69 ((a.nodes.length:Int) >0) (gE 6 4 (bV false))<|.i [rn 13,.ctoL 1 0 true [(nI 3),(nI 0),.nils,.nils]] [hr (some [(nI 3),(nI 0),.nils,.nils]),hr true]<|.i [.lw 4 (jN [(Node.mk 3 0 [] [])])] [.q (p:=([(.agg [(nI 3),(nI 0),.nils,.nils])] :List AV) ≠ []) (by simp),.q (p:=VW [(.agg [(nI 3),(nI 0),.nils,.nils])] (jN [(Node.mk 3 0 [] [])])) (aP3 _ _)]<|gv 0 1 0 (.gl 4 4 0 [(Node.mk 3 0 [] [])].length true)<|.i [.cweak 1 0] []<|.i [.ctoL 1 1 false [(nI 0)]] [hr (some [(nI 0)]),hr true]<|gu 0 5 (jI [0])<|gv 0 1 1 (.gl 5 1 0 [0].length true)<|.i [.cweak 1 1] []<|.W 8 6 [0,1,4,5] (uM a b (([(Node.mk 3 0 [] [])].length:Nat) :Int) [(Node.mk 3 0 [] [])] [0] 0))<|.W 12 4 [0,1,2,3] (uM a b (a.nodes.length:Int) a.nodes d 0)
def aZG:=fun a b c d e f g i j k=>aJW a b c d|>.t f e g i j k ⟨kk,⟨kk,trivial⟩⟩
def aZH:=fun a b c d e f g=>aJW a b c d|>.f e|>.t f|>.t g tv
def aZI:=fun a b c d e f g=>aJW a b c d|>.f e|>.t f|>.f g ⟨kk,⟨kk,trivial⟩⟩
def aZJ:=fun a b c d e f=>aJW a b c d|>.f e|>.f f ⟨kk,⟨kk,trivial⟩⟩
def aFX(e:LUnit)(f:List aB)(g:Int)(b:List Node)(d:List Int)(c:Int):=tT 0 (uM e f g b d c)<|gd 5 79 (c<g) (.i [rn 7,.ans (.ix)] [hA (0≤c),hA (c< (b.length:Int))]<|.y fun a:Node=>gj Node.av 0 b c.toNat a<|gw 9 85 ((-1:Int) -a.n)<|.b 8 89 (a.op==4) (gl 2 aA f<|gd 3 95 (((-1:Int) -a.n) ≥ (f.length:Int)) (gl 2 aA f<|gl 2 aA e.needs<|gw 1 102 ((f.length:Int) + (e.needs.length:Int))<|gd 3 104 (((-1:Int) -a.n) < ((f.length:Int) + (e.needs.length:Int))) (.i [rn 5,.ans (.ix)] [hA (0≤c),hA (c< (b.length:Int))]<|.i [rn 1,.st (Node.av a) (Node.av (Node.mk a.op (-1) a.kids a.pats))] [.a (((b)[c.toNat]?) =some a) (iL (f:=Node.av)),hr (some (Node.av (Node.mk a.op (-1) a.kids a.pats)))]<|.i [.lset 2 (jN (set b c.toNat (Node.mk a.op (-1) a.kids a.pats)))] [.q (p:=(jN b).set (0+c.toNat) (Node.av (Node.mk a.op (-1) a.kids a.pats)) = (jN (set b c.toNat (Node.mk a.op (-1) a.kids a.pats)))) (mV _ _ _ _)]<|.i [.set 76 (.gl 2 4 0 (set b c.toNat (Node.mk a.op (-1) a.kids a.pats)).length false)] [.q (p:=(AV.gl 2 4 0 b.length false) = (.gl 2 4 0 (set b c.toNat (Node.mk a.op (-1) a.kids a.pats)).length false)) (cB (length_set ..).symm)]<|.i [.set 106 (.gl 2 4 0 (set b c.toNat (Node.mk a.op (-1) a.kids a.pats)).length false)] [.q (p:=(AV.gl 2 4 0 b.length false) = (.gl 2 4 0 (set b c.toNat (Node.mk a.op (-1) a.kids a.pats)).length false)) (cB (length_set ..).symm)]<|.i [.cset 1 0 (.gl 2 4 0 (set b c.toNat (Node.mk a.op (-1) a.kids a.pats)).length false)] [.q (p:=(AV.gl 2 4 0 b.length false) = (.gl 2 4 0 (set b c.toNat (Node.mk a.op (-1) a.kids a.pats)).length false)) (cB (length_set ..).symm)]<|gw 4 110 (c+1)<|.W 3 5 [0,1,2,3] (uM e f g (set b c.toNat (Node.mk a.op (-1) a.kids a.pats)) d (c+1)))<|gw 5 110 (c+1)<|.W 3 5 [0,1,2,3] (uM e f g b d (c+1)))<|gw 15 110 (c+1)<|.W 3 5 [0,1,2,3] (uM e f g b d (c+1)))<|gw 21 110 (c+1)<|.W 3 5 [0,1,2,3] (uM e f g b d (c+1)))<|.i [rn 5,.frz 111 2 (jN b)] [hk Node.av b,.q (p:=AV.frzOk 2 4 (jN b) (jN b) (.agg [(.gl 2 4 0 b.length false),(.gl 3 1 0 d.length false),(nI 0),(iC e.cons)])) (by simp [AV.frzOk,AV.frzOkL,List.take_of_length_le])]<|.i [.frz 111 3 (jI d)] [hk aP d,.q (p:=AV.frzOk 3 1 (jI d) (jI d) (.agg [(iN b),(.gl 3 1 0 d.length false),(nI 0),(iC e.cons)])) (by simp [AV.frzOk,AV.frzOkL,List.take_of_length_le])]<|gpI 0 138 [(.agg [(iN b),(iI d),(nI 0),(iC e.cons)])]<|fun a=>gE 4 4 (bV (a==0))
def aZK:=fun d e f g i j k l a b c m n o p q r=>aFX d e f g i j|>.t l a b k c m|>.t n|>.t o p|>.t q a b c r ⟨kk,⟨kk,trivial⟩⟩
def aZL:=fun a b c d e f g i j k l m n o p q r=>aFX a b c d e f|>.t i j k g l m|>.t n|>.t o p|>.f q r ⟨kk,⟨kk,trivial⟩⟩
def aZM:=fun a b c d e f g i j k l m n o p=>aFX a b c d e f|>.t i j k g l m|>.t n|>.f o p ⟨kk,⟨kk,trivial⟩⟩
def aQf:=fun a b c d e f g i j k l m n o=>aFX a b c d e f|>.t i j k g l m|>.f n o ⟨kk,⟨kk,trivial⟩⟩
def aQg:=fun a b c d e f g i j=>aFX a b c d e f|>.f i g j tv
def bEu(a:Bool)(b:Int):TS:=cI PP 67 [(bV a),(nI b)] [] 0
def bEv(a:aB):TS:=cI PP 141 [(aA a)] [] 0
def aVA(a:Bool)(b:Int):=tT 0 (bEu a b)<|.b 4 4 a (gQ 6 0 [((.iface 201 (.agg [(nI b)])),false)])<|gE 3 0 (.tup [])
def aZN:=fun a b c=>aVA a b|>.t c tv
def aZO:=fun a b c=>aVA a b|>.f c tv
def aZP (a:aB):=(tT 0 (bEv a)<|gE 10 0 (aA a)) tv
end
end Go.Hb

set_option linter.defProp false
set_option linter.unusedVariables false
set_option linter.unusedSimpArgs false
set_option linter.unusedSectionVars false
set_option maxRecDepth 100000
set_option maxHeartbeats 4000000
namespace Go.Hb
open AV (ilst keyless keylessL)
open Bool (and_eq_true eq_false_iff not_eq_true not_eq_true')
open Eq (mp)
open List (all_cons append_assoc append_nil length length_cons length_map map map_nil mem_cons_of_mem mem_cons_self mem_of_getElem? nil_append nodup_append zipWith)
open Go.Proofs Tryz
noncomputable section
theorem aVB (e:Int) :Pure PP 67 [.bool false,.int .i64 e] (.tup []) :=
 aU (by kernel_rfl) rfl rfl (aZO false e rfl)
theorem aVC (e:Int) :aIw PP 67 [.bool true,.int .i64 e] [((.iface 201 (.agg [(.int .i64 e)])),false)] :=
 throws_at (by kernel_rfl) rfl (fun x hx=>by rw [List.mem_singleton.1 hx];rfl) (aZN true e rfl)
theorem xY (s:aB) :Pure PP 141 [aA s] (aA s) :=aU (by kernel_rfl) rfl rfl (aZP s)
theorem xZ (c:Con) :Pure PP 159 [.agg [aA c.name,.int .i64 c.args]] (aA c.name) :=
 dT (s:=bCn c) (by kernel_rfl) (by kernel_rfl) rfl rfl (aZi c)
theorem aMC (u:LUnit)(hl:u.funs.length≤1000) :∀ (t:List LFun) (i:Nat) (acc:List aB),u.funs.drop i=t→acc.length=i→Ends PP 0 (aJR u (i:Int) acc).as (.ret (.ilst 1 (map aA (acc++t.map LFun.name)) false)) (aD [] 0)
 | [],i,acc,h,ha=>by
  have:=bA h;rw [map_nil,append_nil];exact aZh u i acc sd
 | c::t,i,acc,h,ha=>by
  obtain⟨q1,q2,q3⟩ :=aY h;have hi:= (List.getElem?_eq_some_iff.1 q1).1;refine(aZg u i acc c sd sd sd (by simp;omega) sd).ends ?_;have:=aMC u hl t (i+1) (acc++ [c.name]) q2 (by simp [ha]);rw [append_assoc]at this;exact this
theorem aMD (u:LUnit)(hl:u.funs.length≤1000) :Pure PP 161 [LUnit.av u] (.ilst 1 (map aA (aH u)) false) :=
 dT (s:=bCm u) (by kernel_rfl) (by kernel_rfl) (by simp [keylessL,xR]) (by simp [keyless]) ((aZf u).ends (aMC u hl u.funs 0 [] rfl rfl))
theorem aME (l:List aB)(s:aB)(hl:l.length<1000000) :∀ (t:List aB) (i:Nat),l.drop i=t→Ends PP 0 (aJU l s (i:Int)).as (.ret (.int .i64 (cZ s t i))) (aD [] 0)
 | [],i,h=>by
  have:=bA h;exact aZz l s i sd
 | c ::t,i,h=>by
  obtain⟨q1,q2,q3⟩ :=aY h;rw [cZ];by_cases e:c=s
  · rw [if_pos e];exact aZx l s i c sd sd sd (by rw [dG];simp [e])
  · rw [if_neg e];exact(aZy l s i c sd sd sd (by rw [dG];simp [Ne.symm e]) sd).ends (aME l s hl t (i+1) q2)
theorem aVD (l:List aB)(s:aB)(hl:l.length<1000000) :Pure PP 151 [.ilst 1 (map aA l) false,aA s] (.int .i64 (cZ s l 0)) :=
 aU (by kernel_rfl) rfl rfl ((aZw l s).ends (aME l s hl l 0 rfl))
theorem aMF (l:List Con)(s:aB)(hl:l.length<1000000) :∀ (t:List Con) (i:Nat),l.drop i=t→Ends PP 0 (aJT l s (i:Int)).as (.ret (.int .i64 (gU s t i))) (aD [] 0)
 | [],i,h=>by
  have:=bA h;exact aZv l s i sd
 | c ::t,i,h=>by
  obtain⟨q1,q2,q3⟩ :=aY h;rw [gU];by_cases e:c.name=s
  · rw [if_pos e];exact aZt l s i c _ sd sd sd (xZ c) (by rw [dG];simp [e])
  · rw [if_neg e];exact(aZu l s i c _ sd sd sd (xZ c) (by rw [dG];simp [e]) sd).ends (aMF l s hl t (i+1) q2)
theorem aVE (l:List Con)(s:aB)(hl:l.length<1000000) :Pure PP 158 [.ilst 2 (map Con.av l) false,.func 159 [] [],aA s] (.int .i64 (gU s l 0)) :=
 dT (s:=bCo l s) (by kernel_rfl) (by kernel_rfl) rfl rfl ((aZs l s).ends (aMF l s hl l 0 rfl))
def aVF (pre:List aB)(m:List (aB×Bool)) :Prop:=∀s,eA s m=if aV pre s=true then some true else none
theorem aSk {pre:List aB}{m:List (aB×Bool)}(h:aVF pre m)(s:aB) :aVF (pre++ [s]) (bY s true m) :=fun k=>by
 rw [rQ,h k];by_cases e:k=s
 ·rw [if_pos e,if_pos (by rw [hasS_mem,e];simp)]
 · rw [if_neg e];have: (aV (pre++ [s]) k=true) = (aV pre k=true) :=by
    rw [hasS_mem,hasS_mem];simp [e]
   simp only [this]
theorem bCq (l:List aB)(hl:l.length<1000000) :∀ (t:List aB) (i:Nat) (m:List (aB×Bool)),l.drop i=t→aVF (l.take i) m→Ends PP 0 (aC1 l (i:Int) m).as (.ret (.bool (cR (l.take i) t))) (aD [] 0)
 | [],i,m,h,hm=>by
  have:=bA h;exact aZp l i m sd
 | s::t,i,m,h,hm=>by
  obtain⟨q1,q2,q3⟩ :=aY h;have g:=hm s;rw [cR];cases e:aV (l.take i) s with
  | true=>
   rw [e,if_pos rfl]at g;exact aZn l i m s s true sd sd sd (xY s) g rfl
  | false=>
   rw [e,if_neg (by simp)]at g;have h1:=aZo l i m s s s sd sd sd (xY s) g (xY s) sd;have ih:=bCq l hl t (i+1) (bY s true m) q2 (by rw [aEg q1];exact aSk hm s);rw [aEg q1]at ih;exact h1.ends ih
theorem bCr (l:List aB)(hl:l.length<1000000) :∀ (t:List aB) (i:Nat),l.drop i=t→Ends PP 0 (aJS l (i:Int)).as (.ret (.bool (t.all lF&&cA l))) (aD [] 0)
 | [],i,h=>by
  have:=bA h;have h2:=bCq l hl l 0 [] rfl (fun s=>by simp [eA,aV]);exact(aZm l i sd).ends h2
 | s::t,i,h=>by
  obtain⟨q1,q2,q3⟩ :=aY h;have hn:=aLX s;rw [all_cons];cases e:lF s with
  |false=>rw [e]at hn;exact aZk l i s false sd sd sd hn rfl (by simp)
  |true=>rw [e]at hn;rw [Bool.true_and];exact(aZl l i s true sd sd sd hn rfl sd).ends (bCr l hl t (i+1) q2)
theorem aCa (l:List aB)(hl:l.length<1000000) :Pure PP 139 [.ilst 1 (map aA l) false] (.bool (eG l)) :=
 aU (by kernel_rfl) rfl rfl ((aZj l).ends (bCr l hl l 0 rfl))
abbrev aJX (a b:List aB) :AObj:=.cells (putCells .leaf 0 [.ilst 1 (map aA a) false,.ilst 1 (map aA b) false]) 2 [] false
theorem aMG (a b:List aB)(ha:a.length≤1000)(hb:b.length≤1000) :vL PP 1 (.enter 160 [.slice 0 0 2 2 1 true]) (aD [(0,aJX a b,false)] 1) (.ret (.ilst 1 (map aA (a++b)) false)) (aD [(0,aJX a b,false)] 1) :=by
 suffices hh:Ends PP 1 (aVx a b).as (.ret (.ilst 1 (map aA (a++b)) false)) (aD [(0,aJX a b,false)] 1)from⟨(aVx a b).as.fr,by kernel_rfl,mp (by kernel_rfl) hh⟩
 have w1:IntKind.i64.wrap ((0:Int) + ((length a:Nat) :Int)) = (0:Int) + ((length a:Nat) :Int) :=by apply wrap64<;>omega
 have w2:IntKind.i64.wrap (((0:Int) + ((length a:Nat) :Int)) + ((length b:Nat) :Int)) = ((0:Int) + ((length a:Nat) :Int)) + ((length b:Nat) :Int) :=by apply wrap64<;>omega
 have w3:IntKind.i64.wrap ((((0:Int) + ((length a:Nat) :Int)) + ((length b:Nat) :Int)) - (0:Int)) = (((0:Int) + ((length a:Nat) :Int)) + ((length b:Nat) :Int)) - (0:Int) :=by apply wrap64<;>omega
 by_cases h:a.length+b.length=0
 · have h1:=aZr a b w1 (decide_eq_false (by omega)) w2 (decide_eq_false (by omega)) w3 (decide_eq_false (by omega)) (by simp;omega) (by simp;omega);rw [nil_append]at h1;exact h1
 ·exact aZq a b w1 (decide_eq_false (by omega)) w2 (decide_eq_false (by omega)) w3 (decide_eq_true (by omega)) (by omega) (by omega) (by omega) (by omega) (by omega) (by simp;omega)
theorem aVG (xs:List Node)(h:xs.length≤1000000) :aAo PP (.enter 189 [.ilst 4 (map Node.av xs) false]) (aD [] 0) (.ret (.gl 0 4 0 (length xs) false)) (aD [(0,.lst 4 (map Node.av xs),true)] 1) :=by
 suffices hh:Ends PP 0 (aVw xs).as (.ret (.gl 0 4 0 (length xs) false)) (aD [(0,.lst 4 (map Node.av xs),true)] 1)from⟨(aVw xs).as.fr,by kernel_rfl,mp (by kernel_rfl) hh⟩
 refine(bEr xs).ends ?_;refine aKx (j:=3) (e:=4) (ex:=false) (xs:=map Node.av xs) (by kernel_rfl) (fun hx=>?_) (fun a n c=>?_)
 · have hx:xs= [] :=by simpa using hx
   subst hx;exact mp (by kernel_rfl) (bEs [])
 · have h1:=bEt xs a n c (by simpa using h);rw [nil_append]at h1;exact mp (by kernel_rfl) h1
theorem iF (l:List aB) :cA l=true↔l.Nodup:=
 ⟨fun h=> (uH l [] h).1,fun h=>uI l [] h (fun _ _ hx=>by cases hx)⟩
theorem aO7 (a b:List aB)(ha:eG a=true)(hb:eG b=true) :eG (a++b) =b.all (fun s=> !aV a s) :=by
 simp only [eG,and_eq_true,iF]at ha hb;have hn: (a++b).all lF=true:=by rw [List.all_append,ha.1,hb.1];rfl
 rw [eG,hn,Bool.true_and];rw [Bool.eq_iff_iff,iF,nodup_append,List.all_eq_true];constructor
 · intro h s hs;rw [not_eq_true',eq_false_iff];intro hh;exact h.2.2 s (hasS_mem.1 hh) s hs rfl
 · intro h;refine⟨ha.2,hb.2,fun x hx y hy e=>?_⟩;have:=h y hy;rw [not_eq_true',eq_false_iff]at this;exact this (hasS_mem.2 (e ▸ hx))
def aMH (u:LUnit) :Prop:=∀x∈u.nodes,-9223372036854775808≤x.n∧x.n≤9223372036854775807
theorem aSl {n:Int}(h: -9223372036854775808≤n∧n≤9223372036854775807) :IntKind.i64.wrap ((-1:Int) -n) = (-1:Int) -n:=by apply wrap64<;>omega
theorem aHL (b:Bool) : (checkN b== (0:Int)) =b:=by cases b<;>rfl
section
variable (u :LUnit) (hu:FewU u) (hi:aMH u)
include hu hi
theorem bCs (l3:List Int)(h3:l3=cG u) :∀ (t:List Node) (i:Nat),u.nodes.drop i=t→i≤u.nodes.length→Ends PP 0 (uM u (aH u) ((u.nodes.length:Nat) :Int) (rS (eQ u.funs.length u.needs.length) u.nodes i) l3 (i:Int)).as (.ret (.bool (aR (fC u)))) (aD [] 0)
 | [],i,h,hi=>by
  have hd:=bA h;rw [aMh (by omega),h3];have h1:=aQg u (aH u) ((u.nodes.length:Nat) :Int) (fC u).nodes (fC u).funs i _ sd (aFB (kN hu));rw [aHL]at h1;exact h1
 | x :: t,i,h,hi2=>by
  obtain⟨q1,q2,q3⟩ :=aY h;have hi3:= (List.getElem?_eq_some_iff.1 q1).1;have hn:u.nodes.length≤320:=by have:=hu.p;simp only [aJ,and_eq_true,decide_eq_true_eq]at this;exact this.1.1.1.1
  have hf:=hu.f;have hd:=hu.n;have hl: (rS (eQ u.funs.length u.needs.length) u.nodes i).length=u.nodes.length:=aFI;have ho: (aH u).length=u.funs.length:=by simp [aH]
  have hg:=aMi (f:=eQ u.funs.length u.needs.length) q1;have w1:=aSl (hi x (mem_of_getElem? q1));have w2:IntKind.i64.wrap (((length (aH u) :Nat) :Int) + ((length u.needs:Nat) :Int)) = ((length (aH u) :Nat) :Int) + ((length u.needs:Nat) :Int) :=by apply wrap64<;>omega
  have ih:=bCs l3 h3 t (i+1) q2 (by omega);by_cases h4:x.op=4
  · by_cases ha: ((length (aH u) :Nat) :Int) ≤ -1-x.n
    · by_cases hb: -1-x.n< ((length (aH u) :Nat) :Int) + ((length u.needs:Nat) :Int)
      · have ef:eQ u.funs.length u.needs.length x= ⟨x.op,-1,x.kids,x.pats⟩ :=by unfold eQ;rw [if_pos ⟨h4,by omega⟩]
        have h1:=aZK u (aH u) ((u.nodes.length:Nat) :Int) _ l3 i x sd sd (by rw [hl];omega) (by rw [Int.toNat_natCast];exact hg) w1 (by simp [h4]) (decide_eq_true ha) w2 (decide_eq_true hb) sd;rw [Int.toNat_natCast,←ef,aMj q1]at h1;exact h1.ends ih
      · have ef:eQ u.funs.length u.needs.length x=x:=by unfold eQ;rw [if_neg (fun g=>by have:=g.2;omega)]
        have h1:=aZL u (aH u) ((u.nodes.length:Nat) :Int) _ l3 i x sd sd (by rw [hl];omega) (by rw [Int.toNat_natCast];exact hg) w1 (by simp [h4]) (decide_eq_true ha) w2 (decide_eq_false hb) sd;rw [rT q1 ef]at h1 hl ⊢;exact h1.ends ih
    · have ef:eQ u.funs.length u.needs.length x=x:=by unfold eQ;rw [if_neg (fun g=>by have:=g.2;omega)]
      have h1:=aZM u (aH u) ((u.nodes.length:Nat) :Int) _ l3 i x sd sd (by rw [hl];omega) (by rw [Int.toNat_natCast];exact hg) w1 (by simp [h4]) (decide_eq_false ha) sd;rw [rT q1 ef]at h1 hl ⊢;exact h1.ends ih
  · have ef:eQ u.funs.length u.needs.length x=x:=by unfold eQ;rw [if_neg (fun g=>h4 g.1)]
    have h1:=aQf u (aH u) ((u.nodes.length:Nat) :Int) _ l3 i x sd sd (by rw [hl];omega) (by rw [Int.toNat_natCast];exact hg) w1 (by simp [h4]) sd;rw [rT q1 ef]at h1 hl ⊢;exact h1.ends ih
theorem aVH :Ends PP 0 (uM u (aH u) (((length [(Node.mk 3 0 [] [])]) :Nat) :Int) [(Node.mk 3 0 [] [])] [0] 0).as (.ret (.bool (aR (aAr u)))) (aD [] 0) :=by
 have h0:=aQf u (aH u) 1 [(Node.mk 3 0 [] [])] [0] 0 ⟨3,0,[],[]⟩ (by decide) (by decide) (by decide) rfl (by decide) (by decide) (by decide);have h1:=aQg u (aH u) 1 (aAr u).nodes (aAr u).funs 1 _ (by decide) (aFB (aAZ hu));rw [aHL]at h1;exact h0.ends h1
theorem bCt (b:Bool)(hb:b=if u.funs.length=0 then decide (u.nodes.length=0) &&aR (aAr u)else aR (fC u)) :∀ (t:List LFun) (i:Nat) (acc:List Int),u.funs.drop i=t→acc.length=i→acc++t.map LFun.body=cG u→Ends PP 0 (aJV u (aH u) (i:Int) acc).as (.ret (.bool b)) (aD [] 0)
 | [], i,acc,h,ha,e=>by
  have:=bA h;have ho: (aH u).length=u.funs.length:=by simp [aH]
  rw [map_nil,append_nil]at e;by_cases h0:u.funs.length=0
  · rw [if_pos h0]at hb;by_cases h1:u.nodes.length=0
    · rw [decide_eq_true h1,Bool.true_and]at hb;rw [hb];exact(aZI u (aH u) i acc sd (by rw [ho,h0];rfl) (by rw [h1];rfl)).ends (aVH u hu hi)
    · rw [decide_eq_false h1,Bool.false_and]at hb;rw [hb];exact aZH u (aH u) i acc sd (by rw [ho,h0];rfl) (decide_eq_true (by omega))
  · rw [if_neg h0]at hb;rw [hb];have h2:=bCs u hu hi acc e u.nodes 0 rfl (Nat.zero_le _);rw [aHB]at h2;exact(aZJ u (aH u) i acc sd (beq_eq_false_iff_ne.2 (by rw [ho];omega))).ends h2
 | f::t,i,acc,h,ha,e=>by
  obtain⟨q1,q2,q3⟩ :=aY h;have hf:=hu.f;exact(aZG u (aH u) i acc f sd sd sd (by simp;omega) sd).ends (bCt b hb t (i+1) (acc++ [f.body]) q2 (by simp [ha]) (by simpa using e))
theorem aVI :Pure PP 121 [LUnit.av u] (.bool (iT u)) :=by
 have hf:=hu.f;have hd:=hu.n;refine dT (s:=bCp u) (by kernel_rfl) (by kernel_rfl) (by simp [keylessL,xR]) (by simp [keyless]) ?_;have hnl: (aH u).length=u.funs.length:=by simp [aH]
 have a0:=aMD u (by omega);have a1:=aLX u.name;have a2:=aCa (aH u) (by omega);have a3:=aCa u.needs (by omega);have a4:=aCa (aH u++u.needs) (by simp;omega);have hn:u.nodes.length≤320:=by have:=hu.p;simp only [aJ,and_eq_true,decide_eq_true_eq]at this;exact this.1.1.1.1
 have hc:=aMG (aH u) u.needs (by omega) (by omega)
 have hc':=fM (m:=1) (ks:=[1]) (n2:=2) (n3:=2) (v':=.ilst 1 (map aA (aH u++u.needs)) false) (args':=[.slice 1 0 2 2 1 true])
  (lc:=[(0,aHE u,false),(1,aJX (aH u) u.needs,false)]) (lc':=[(0,aHE u,false),(1,aJX (aH u) u.needs,false)])
  hc (by rfl) (by kernel_rfl) (by kernel_rfl) (by rfl) (by rfl) (by kernel_rfl) (by kernel_rfl) trivial (by kernel_rfl) trivial
 have hk:=xB (ks:=[]) (n2:=3) (args':=[.ilst 4 (map Node.av u.nodes) false])
  (lc:=[(0,aHE u,false),(1,aJX (aH u) u.needs,false)]) (x:=[(0,aHE u,false),(1,aJX (aH u) u.needs,false)])
  (aVG u.nodes (by omega)) (by kernel_rfl) (by kernel_rfl) (by kernel_rfl) trivial (by kernel_rfl) (by kernel_rfl) (by kernel_rfl) (by kernel_rfl) ⟨aE _ (fun _=>rfl) _,trivial⟩ (by kernel_rfl)
 unfold iT;cases e1:lF u.name with
 |false=>rw [e1]at a1;simp only [Bool.false_and];exact aZA u (aH u) false a0 a1 rfl
 | true =>
  rw [e1]at a1;by_cases e2:u.needs.length≤20
  · rw [decide_eq_true e2];cases e3:eG (aH u)with
    |false=>rw [e3]at a2;simp only [Bool.true_and,Bool.false_and,Bool.and_false];exact aZC u (aH u) true false a0 a1 rfl (by simp;omega) a2 rfl
    | true=>
     rw [e3]at a2;cases e4:eG u.needs with
     |false=>rw [e4]at a3;simp only [Bool.true_and,Bool.false_and,Bool.and_false];exact aZD u (aH u) true true false a0 a1 rfl (by simp;omega) a2 rfl a3 rfl
     | true=>
      rw [e4]at a3;rw [aO7 _ _ e3 e4]at a4;simp only [Bool.true_and];cases e5:u.needs.all (fun s=> !aV (aH u) s)with
      | false=>
       rw [e5]at a4;rw [Bool.false_and];exact aZE u (aH u) true true true false a0 a1 rfl (by simp;omega) a2 rfl a3 rfl (mp (by kernel_rfl) hc') a4 rfl
      | true=>
       rw [e5]at a4;rw [Bool.true_and];exact(aZF u (aH u) true true true true a0 a1 rfl (by simp;omega) a2 rfl a3 rfl (mp (by kernel_rfl) hc') a4 rfl (mp (by kernel_rfl) hk)).ends (bCt u hu hi _ rfl u.funs 0 [] rfl rfl rfl)
  · rw [decide_eq_false e2];simp only [Bool.and_false,Bool.false_and];exact aZB u (aH u) true a0 a1 rfl (by simp;omega)
end
def aVJ(a:List LUnit):TS:=cI PP 63 [(.ilst 5 (map LUnit.av a) false)] [] 0
def aC3(a:List LUnit)(e:Int)(f:Bool)(b c:List (aB×Int))(d:List aB):TS:=⟨(tf 63 87 [(2,.nilp),kp 3 0,(19,(.ilst 5 (map LUnit.av a) false)),(20,(nI (a.length:Int))),(21,(nI e))] [kc f63 244,kl f63 244,.inBlock 0,kc f63 31]),[],[oC 0 [(.ilst 5 (map LUnit.av a) false),(.map 1),(.map 2),(.gl 3 1 0 d.length false),(bV f)],(1,(.map (aF aA aP 0 b) b.length),true),(2,(.map (aF aA aP 0 c) c.length),true),oL 3 1 (map aA d)],4⟩
def aFY(a:List LUnit)(e:List LFun)(f g:Int)(i:Bool)(b:List aB)(c d:List (aB×Int))(j k:Int):TS:=⟨(tf 63 87 [(2,.nilp),kp 3 0,(4,(nI j)),(19,(.ilst 5 (map LUnit.av a) false)),(20,(nI (a.length:Int))),(21,(nI k)),(31,(.ilst 2 (map LFun.av e) false)),(32,(nI f)),(33,(nI g))] [kc f63 125340,kl f63 125340,.inBlock 2,.inBlock 1,kc f63 1959,kl f63 244,.inBlock 0,kc f63 31]),[],[oC 0 [(.ilst 5 (map LUnit.av a) false),(.map 1),(.map 2),(.gl 3 1 0 b.length false),(bV i)],(1,(.map (aF aA aP 0 c) c.length),true),(2,(.map (aF aA aP 0 d) d.length),true),oL 3 1 (map aA b)],4⟩
def aMI(d:List LUnit)(a b:List (aB×Int))(c:List aB)(e:Bool):TS:=cI PP 64 [(.ptr 0 0)] [oC 0 [(.ilst 5 (map LUnit.av d) false),(.map 1),(.map 2),(.gl 3 1 0 c.length false),(bV e)],(1,(.map (aF aA aP 0 a) a.length),true),(2,(.map (aF aA aP 0 b) b.length),true),oL 3 1 (map aA c)] 4
def aC4(a:List LUnit)(b c:List (aB×Int))(d:List aB)(f:Bool)(g:Int)(e:List aB):TS:=⟨(tf 64 50 [kp 0 0,(2,.nils),(3,(.gl 4 1 0 e.length false)),(13,(.ilst 5 (map LUnit.av a) false)),(14,(nI (a.length:Int))),(15,(nI g))] [kc f64 116,kl f64 116,.inBlock 0,kc f64 15]),[],[oC 0 [(.ilst 5 (map LUnit.av a) false),(.map 1),(.map 2),(.gl 3 1 0 d.length false),(bV f)],(1,(.map (aF aA aP 0 b) b.length),true),(2,(.map (aF aA aP 0 c) c.length),true),oL 3 1 (map aA d),oL 4 1 (map aA e)],5⟩
def yA(a:List LUnit)(b c:List (aB×Int))(d:List aB)(f:Bool)(g:List aB)(i j:Int)(e:List aB)(k:Int):TS:=⟨(tf 64 50 [kp 0 0,(2,.nils),(3,(.gl 4 1 0 e.length false)),(13,(.ilst 5 (map LUnit.av a) false)),(14,(nI (a.length:Int))),(15,(nI k)),(20,(iS g)),(21,(nI i)),(22,(nI j))] [kc f64 29900,kl f64 29900,.inBlock 2,.inBlock 1,kc f64 935,kl f64 116,.inBlock 0,kc f64 15]),[],[oC 0 [(.ilst 5 (map LUnit.av a) false),(.map 1),(.map 2),(.gl 3 1 0 d.length false),(bV f)],(1,(.map (aF aA aP 0 b) b.length),true),(2,(.map (aF aA aP 0 c) c.length),true),oL 3 1 (map aA d),oL 4 1 (map aA e)],5⟩
def aJY(c:List LUnit)(d e:List (aB×Int))(f:List aB)(g:Bool)(b:aB)(i:List aB)(j k l m n:Int)(a:List aB):TS:=⟨(tf 151 19 [(0,(.gl 4 1 0 a.length false)),(1,(aA b)),(4,(nI 0)),(7,(nI m)),(8,(nI l))] [kc f151 52,kl f151 52,.inBlock 0,kc f151 7]),[(tf 58 9 [(4,(bV false)),(5,(.gl 4 1 0 a.length false)),(6,(aA b))] [ko f58 6 2,kc f58 7]),(tf 64 50 [kp 0 0,(2,.nils),(3,(.gl 4 1 0 a.length false)),(7,(aA b)),(13,(.ilst 5 (map LUnit.av c) false)),(14,(nI (c.length:Int))),(15,(nI n)),(20,(iS i)),(21,(nI j)),(22,(nI k)),(37,(bV true)),(38,(.gl 4 1 0 a.length false)),(39,(aA b))] [ko f64 3827302 5,kc f64 3827303,.inBlock 3,kc f64 239207,kl f64 29900,.inBlock 2,.inBlock 1,kc f64 935,kl f64 116,.inBlock 0,kc f64 15])],[oC 0 [(.ilst 5 (map LUnit.av c) false),(.map 1),(.map 2),(.gl 3 1 0 f.length false),(bV g)],(1,(.map (aF aA aP 0 d) d.length),true),(2,(.map (aF aA aP 0 e) e.length),true),oL 3 1 (map aA f),oL 4 1 (map aA a)],5⟩
def aVK(d:List LUnit)(a b:List (aB×Int))(c:List aB)(e:Bool):TS:=cI PP 77 [(.ptr 0 0)] [oC 0 [(.ilst 5 (map LUnit.av d) false),(.map 1),(.map 2),(.gl 3 1 0 c.length false),(bV e)],(1,(.map (aF aA aP 0 a) a.length),true),(2,(.map (aF aA aP 0 b) b.length),true),oL 3 1 (map aA c)] 4
def aC5(a:List LUnit)(b c:List (aB×Int))(d:List aB)(f:Bool)(g:Int)(e:List Con):TS:=⟨(tf 77 51 [(2,.nils),(3,(.gl 4 2 0 e.length false)),(12,(.ilst 5 (map LUnit.av a) false)),(13,(nI (a.length:Int))),(14,(nI g))] [kc f77 436,kl f77 436,.inBlock 0,kc f77 55,.inScope (kd f77 6)]),[],[oC 0 [(.ilst 5 (map LUnit.av a) false),(.map 1),(.map 2),(.gl 3 1 0 d.length false),(bV f)],(1,(.map (aF aA aP 0 b) b.length),true),(2,(.map (aF aA aP 0 c) c.length),true),oL 3 1 (map aA d),oL 4 2 (jC e)],5⟩
def yB(a:List LUnit)(b c:List (aB×Int))(d:List aB)(f:Bool)(g:List Con)(i j k:Int)(e:List Con):TS:=⟨(tf 77 51 [(2,.nils),(3,(.gl 4 2 0 e.length false)),(12,(.ilst 5 (map LUnit.av a) false)),(13,(nI (a.length:Int))),(14,(nI j)),(23,(iC g)),(24,(nI i)),(25,(nI k))] [kc f77 223644,kl f77 223644,.inBlock 2,.inBlock 1,kc f77 3495,kl f77 436,.inBlock 0,kc f77 55,.inScope (kd f77 6)]),[],[oC 0 [(.ilst 5 (map LUnit.av a) false),(.map 1),(.map 2),(.gl 3 1 0 d.length false),(bV f)],(1,(.map (aF aA aP 0 b) b.length),true),(2,(.map (aF aA aP 0 c) c.length),true),oL 3 1 (map aA d),oL 4 2 (jC e)],5⟩
def aC6(b:List LUnit)(c d:List (aB×Int))(e:List aB)(f:Bool)(g:Int)(i:List Con)(j:Int)(k l m:aB)(n o p q:Int)(a:List Con):TS:=⟨(tf 223 19 [(0,(.gl 4 2 0 a.length false)),(1,(.func 224 [] [(.ptr 5 0),(.ptr 6 0)])),(4,(nI 0)),(7,(nI p)),(8,(nI o))] [kc f223 52,kl f223 52,.inBlock 0,kc f223 7]),[(tf 158 10 [(6,(nI 0)),(7,(.gl 4 2 0 a.length false)),(8,(.func 224 [] [(.ptr 5 0),(.ptr 6 0)]))] [ko f158 6 2,kc f158 7]),(tf 77 51 [(2,.nils),(3,(.gl 4 2 0 a.length false)),kp 7 7,(12,(.ilst 5 (map LUnit.av b) false)),(13,(nI (b.length:Int))),(14,(nI g)),(23,(iC i)),(24,(nI j)),(25,(nI q)),(29,(.gl 4 2 0 a.length false)),(31,(aA k))] [ko f77 14313266 3,kc f77 14313267,.inBlock 3,kc f77 1789159,kl f77 223644,.inBlock 2,.inBlock 1,kc f77 3495,kl f77 436,.inBlock 0,kc f77 55,.inScope (kd f77 6)])],[oC 0 [(.ilst 5 (map LUnit.av b) false),(.map 1),(.map 2),(.gl 3 1 0 e.length false),(bV f)],(1,(.map (aF aA aP 0 c) c.length),true),(2,(.map (aF aA aP 0 d) d.length),true),oL 3 1 (map aA e),oL 4 2 (jC a),oC 5 [(.func 159 [] [])],oC 6 [(aA l)],oC 7 [(aA m),(nI n)]],8⟩
theorem aZQ (l:List LUnit)(mf: (List (aB×Int)))(mh: (List (aB×Int)))(od:List aB)(tw:Bool)(t14:Int)(t23:List Con)(t24:Int)(t31 c6_0 c7_0:aB)(c7_1 t8:Int)(t7 t25:Int)(l4:List Con)(y0:Con)(y1:aB)(h0:decide (t8<t7) =true)(h1:0≤t8)(h2:t8< ((l4.length:Nat) :Int))(h3: ((l4)[t8.toNat]?) =some y0)(h4:Pure PP 159 [(.agg [(aA y0.name),(nI y0.args)])] (aA y1))(h5: (bL y1.length (aC y1) c6_0.length (aC c6_0)) =true)(h6:decide (t8< (0:Int)) =false)(h7:Spec PP (.enter 67 [(bV (y0.args != c7_1)),(nI 7)]) (aD [oC 0 [(.ilst 5 (map LUnit.av l) false),(.map 1),(.map 2),(.gl 3 1 0 od.length false),(bV tw)],(1,(.map (aF aA aP 0 mf) mf.length),true),(2,(.map (aF aA aP 0 mh) mh.length),true),oL 3 1 (map aA od),oL 4 2 (jC l4),oC 5 [(.func 159 [] [])],oC 6 [(aA c6_0)],oC 7 [(aA c7_0),(nI c7_1)],oC 8 [(aA y0.name),(nI y0.args)]] 9) (.pan [((.iface 201 (.agg [(nI 7)])),false)]) (aD [oC 0 [(.ilst 5 (map LUnit.av l) false),(.map 1),(.map 2),(.gl 3 1 0 od.length false),(bV tw)],(1,(.map (aF aA aP 0 mf) mf.length),true),(2,(.map (aF aA aP 0 mh) mh.length),true),oL 3 1 (map aA od),oL 4 2 (jC l4),oC 5 [(.func 159 [] [])],oC 6 [(aA c6_0)],oC 7 [(aA c7_0),(nI c7_1)],oC 8 [(aA y0.name),(nI y0.args)]] 9)) :
  Ends PP 4 (aC6 l mf mh od tw t14 t23 t24 t31 c6_0 c7_0 c7_1 t8 t7 t25 l4).as (.pan [((.iface 201 (.agg [(nI 7)])),false)]) (aD [oC 0 [(.ilst 5 (map LUnit.av l) false),(.map 1),(.map 2),(.gl 3 1 0 od.length false),(bV tw)],(1,(.map (aF aA aP 0 mf) mf.length),true),(2,(.map (aF aA aP 0 mh) mh.length),true),oL 3 1 (map aA od)] 4) :=
 aOZ (n1:=9) (ks:=[]) (e:=8) (is1:=[.d,.d,.ans (.ix),.d,.ans (.idx (Con.av y0)),.d,.d,.d]) (v:= (.tup [])) (h2:=aD [oC 0 [(.ilst 5 (map LUnit.av l) false),(.map 1),(.map 2),(.gl 3 1 0 od.length false),(bV tw)],(1,(.map (aF aA aP 0 mf) mf.length),true),(2,(.map (aF aA aP 0 mh) mh.length),true),oL 3 1 (map aA od),oL 4 2 (jC l4),oC 5 [(.func 159 [] [])],oC 6 [(aA c6_0)],oC 7 [(aA c7_0),(nI c7_1)],oC 8 [(aA y0.name),(nI y0.args)]] 9) (is2:=[]) (os:=[]) (h':=aD [oC 0 [(.ilst 5 (map LUnit.av l) false),(.map 1),(.map 2),(.gl 3 1 0 od.length false),(bV tw)],(1,(.map (aF aA aP 0 mf) mf.length),true),(2,(.map (aF aA aP 0 mh) mh.length),true),oL 3 1 (map aA od),oL 4 2 (jC l4),oC 5 [(.func 159 [] [])],oC 6 [(aA c6_0)],oC 7 [(aA c7_0),(nI c7_1)],oC 8 [(aA y0.name),(nI y0.args)]] 9) (hp:=[oC 0 [(.ilst 5 (map LUnit.av l) false),(.map 1),(.map 2),(.gl 3 1 0 od.length false),(bV tw)],(1,(.map (aF aA aP 0 mf) mf.length),true),(2,(.map (aF aA aP 0 mh) mh.length),true),oL 3 1 (map aA od)]) (ch:=[((.iface 201 (.agg [(nI 7)])),false)]) (ps:=[decide (t8<t7) =true,0≤t8,t8< ((l4.length:Nat) :Int),(jC l4)[(0+t8.toNat)]?=some (Con.av y0),Pure PP 159 [(.agg [(aA y0.name),(nI y0.args)])] (aA y1),(aA c6_0) = (aA c6_0),(aA c6_0) = (aA c6_0),(bL y1.length (aC y1) c6_0.length (aC c6_0)) =true,decide (t8< (0:Int)) =false,0≤t8,t8< ((l4.length:Nat) :Int),(jC l4)[(0+t8.toNat)]?=some (Con.av y0),Spec PP (.enter 67 [(bV (y0.args != c7_1)),(nI 7)]) (aD [oC 0 [(.ilst 5 (map LUnit.av l) false),(.map 1),(.map 2),(.gl 3 1 0 od.length false),(bV tw)],(1,(.map (aF aA aP 0 mf) mf.length),true),(2,(.map (aF aA aP 0 mh) mh.length),true),oL 3 1 (map aA od),oL 4 2 (jC l4),oC 5 [(.func 159 [] [])],oC 6 [(aA c6_0)],oC 7 [(aA c7_0),(nI c7_1)],oC 8 [(aA y0.name),(nI y0.args)]] 9) (.pan [((.iface 201 (.agg [(nI 7)])),false)]) (aD [oC 0 [(.ilst 5 (map LUnit.av l) false),(.map 1),(.map 2),(.gl 3 1 0 od.length false),(bV tw)],(1,(.map (aF aA aP 0 mf) mf.length),true),(2,(.map (aF aA aP 0 mh) mh.length),true),oL 3 1 (map aA od),oL 4 2 (jC l4),oC 5 [(.func 159 [] [])],oC 6 [(aA c6_0)],oC 7 [(aA c7_0),(nI c7_1)],oC 8 [(aA y0.name),(nI y0.args)]] 9)]) (is:=[.run 5,.b 9 true,.run 14,.ans (.ix),.ans (.idx (Con.av y0)),.run 7,.reg [.d,.d,.pure (aA y1),.d,.d,.d],.run 3,.b 16 true,.run 20,.b 34 false,.run 2]) (by kernel_rfl) (by kernel_rfl) ⟨aO (fun _=>rfl) (fun _=>rfl) _ _ _,⟨aO (fun _=>rfl) (fun _=>rfl) _ _ _,⟨(aE _ (fun _=>rfl) _),trivial⟩⟩⟩ ⟨h0,h1,h2,(iL h3),h4,rfl,rfl,h5,h6,h1,h2,(iL h3),h7⟩
def aVL(d:List LUnit)(a b:List (aB×Int))(c:List aB)(e:Bool):TS:=cI PP 78 [(.ptr 0 0)] [oC 0 [(.ilst 5 (map LUnit.av d) false),(.map 1),(.map 2),(.gl 3 1 0 c.length false),(bV e)],(1,(.map (aF aA aP 0 a) a.length),true),(2,(.map (aF aA aP 0 b) b.length),true),oL 3 1 (map aA c)] 4
def aJZ(a:List LUnit)(b c:List (aB×Int))(d:List aB)(e:Bool)(f g:Int):TS:=⟨(tf 78 22 [(2,(nI 0)),(3,(nI f)),(9,(.ilst 5 (map LUnit.av a) false)),(10,(nI (a.length:Int))),(11,(nI g))] [kc f78 116,kl f78 116,.inBlock 0,kc f78 15]),[],[oC 0 [(.ilst 5 (map LUnit.av a) false),(.map 1),(.map 2),(.gl 3 1 0 d.length false),(bV e)],(1,(.map (aF aA aP 0 b) b.length),true),(2,(.map (aF aA aP 0 c) c.length),true),oL 3 1 (map aA d)],4⟩
def aVM(a:List LUnit):=tT 0 (aVJ a)<|gl 7 LUnit.av a<|gd 6 4 ((a.length:Int) >10) (gQ 7 0 [((.iface 201 (.agg [(nI 2)])),false)])<|.i [rn 9,.mset 0 (aF aA aP 0 ([] :List (aB×Int))) ([] :List (aB×Int)).length] [hr (aF aA aP 0 ([] :List (aB×Int))),hr (length ([] :List (aB×Int)))]<|.i [rn 1,.mset 1 (aF aA aP 0 ([] :List (aB×Int))) ([] :List (aB×Int)).length] [hr (aF aA aP 0 ([] :List (aB×Int))),hr (length ([] :List (aB×Int)))]<|gl 8 LUnit.av a<|.i [rn 4,.cnil 2 3 1] []<|gu 0 3 (map aA ([] :List aB))<|gv 0 2 3 (.gl 3 1 0 ([] :List aB).length false)<|.W 0 4 [2,0,1,3] (aC3 a 0 false ([] :List (aB×Int)) ([] :List (aB×Int)) ([] :List aB))
def aZR:=fun a b=>aVM a|>.t b tv
def aQh:=fun a b=>aVM a|>.f b ⟨aO (fun _=>rfl) (fun _=>rfl) _ _ _,⟨aO (fun _=>rfl) (fun _=>rfl) _ _ _,⟨kk,trivial⟩⟩⟩
def aO8(b:List LUnit)(c:Int)(g:Bool)(d e:List (aB×Int))(f:List aB):=tT 0 (aC3 b c g d e f)<|gd 5 22 (c< (b.length:Int)) (gX LUnit.av 7 b c<|fun a=>gG 8 121 [(.agg [(aA a.name),(iC a.cons),(.ilst 2 (map LFun.av a.funs) false),(iS a.needs),(iN a.nodes)])]<|fun i=>.b 6 4 (!i) (gQ 7 5 [((.iface 201 (.agg [(nI 2)])),false)])<|gl 9 LFun.av a.funs<|.W 4 5 [0,1,2,3] (aFY b a.funs (a.funs.length:Int) 0 g f d e c c))<|.E 8 4 [0,1,2,3] (.ptr 0 0) [oC 0 [(.ilst 5 (map LUnit.av b) false),(.map 1),(.map 2),(.gl 3 1 0 f.length false),(bV g)],(1,(.map (aF aA aP 0 d) d.length),true),(2,(.map (aF aA aP 0 e) e.length),true),oL 3 1 (map aA f)] 4
def aZS:=fun a b c d e f g i j k l m n=>aO8 a b c d e f|>.t j g k l i m|>.t n tv
def aZT:=fun a b c d e f g i j k l m n=>aO8 a b c d e f|>.t j g k l i m|>.f n ⟨aO (fun _=>rfl) (fun _=>rfl) _ _ _,⟨aO (fun _=>rfl) (fun _=>rfl) _ _ _,⟨kk,trivial⟩⟩⟩
def aZU:=fun a b c d e f g=>aO8 a b c d e f|>.f g ⟨aO (fun _=>rfl) (fun _=>rfl) _ _ _,⟨aO (fun _=>rfl) (fun _=>rfl) _ _ _,⟨kk,trivial⟩⟩⟩
def aO9(i:List LUnit)(j:List LFun)(k f:Int)(l:Bool)(c:List aB)(b d:List (aB×Int))(e g:Int):=tT 0 (aFY i j k f l c b d e g)<|gd 5 34 (f<k) (gX LFun.av 6 j f<|fun a=>.o (.y fun m:Int=>.i [rn 6,.reg (rd 6 (.ans (.look (some (xE a.name b,(aP m))))::rd 5 [])),rn 11,.reg (rd 8 (.app (map aA (c++ [a.name])) (c++ [a.name]).length::rd 3 []))] [.a (eA a.name b=some m) (p':=fF (aA a.name) (aF aA aP 0 b) 0=some (some (xE a.name b,(aP m)))) (rJ hX),hb aA c,hA (length (c++ [a.name]) ≤1000000),hc aA c [a.name],he aA c [a.name]]<|gw 3 84 (f+1)<|.W 3 7 [0,1,2,6] (aFY i j k (f+1) true (c++ [a.name]) b d e g))<|.i [rn 6,.reg (rd 6 (.ans (.look none)::rd 5 [])),rn 5,.reg (rd 18 [.mval (.tup [(nI 0),(nI (b.length:Int))]) (aF aA aP 0 (bY a.name 0 b)) (bY a.name 0 b).length,.d,.mval .undef (aF aA aP 0 (bY a.name (c.length:Int) b)) (bY a.name (c.length:Int) b).length,.mval (.tup [(nI 0),(nI (d.length:Int))]) (aF aA aP 0 (bY a.name 0 d)) (bY a.name 0 d).length,.d,.mval .undef (aF aA aP 0 (bY a.name e d)) (bY a.name e d).length]),.reg (rd 8 (.app (map aA (c++ [a.name])) (c++ [a.name]).length::rd 3 []))] [.a (eA a.name b=none) (p':=fF (aA a.name) (aF aA aP 0 b) 0=some none) (rI hX),.a (eA a.name b=none) (p':=aCA (aF aA aP 0 b) b.length (aA a.name) (aP 0) =some ((.tup [(nI 0),(nI (b.length:Int))]),(aF aA aP 0 (bY a.name 0 b)),length (bY a.name 0 b))) (fun h=>(aP4 hX h _)),.q (p:=0≤ (b.length:Int)) (Int.natCast_nonneg _),.a (eA a.name b=none) (p':=jS (aP (c.length:Int)) (b.length:Int).toNat (aF aA aP 0 (bY a.name 0 b)) =some (aF aA aP 0 (bY a.name (c.length:Int) b))) (fun h=>(aMc h _ _)),.a (eA a.name b=none) (p':=(bY a.name 0 b).length=length (bY a.name (c.length:Int) b)) (fun h=>(aP5 h _ _)),hr AV.undef,.a (eA a.name d=none) (p':=aCA (aF aA aP 0 d) d.length (aA a.name) (aP 0) =some ((.tup [(nI 0),(nI (d.length:Int))]),(aF aA aP 0 (bY a.name 0 d)),length (bY a.name 0 d))) (fun h=>(aP4 hX h _)),.q (p:=0≤ (d.length:Int)) (Int.natCast_nonneg _),.a (eA a.name d=none) (p':=jS (aP e) (d.length:Int).toNat (aF aA aP 0 (bY a.name 0 d)) =some (aF aA aP 0 (bY a.name e d))) (fun h=>(aMc h _ _)),.a (eA a.name d=none) (p':=(bY a.name 0 d).length=length (bY a.name e d)) (fun h=>(aP5 h _ _)),hr AV.undef,hr (nI (c.length:Int)),hr (nI (c.length:Int)),hr (AV.gl 3 1 0 c.length false),hr (AV.gl 3 1 0 c.length false),hr (aA a.name),hr (aA a.name),hr (aA a.name),hb aA c,hA (length (c++ [a.name]) ≤1000000),hc aA c [a.name],he aA c [a.name]]<|gw 3 84 (f+1)<|.W 3 7 [0,1,2,6] (aFY i j k (f+1) l (c++ [a.name]) (bY a.name (c.length:Int) b) (bY a.name e d) e g))<|gw 5 85 (g+1)<|.W 3 4 [0,1,2,3] (aC3 i (g+1) l b d c)
def aZV:=fun a b c d e f g i j k l m n o p q r s=>aO9 a b c d e f g i j k|>.t n l o p|>.1 m q r s ⟨aO (fun _=>rfl) (fun _=>rfl) _ _ _,⟨aO (fun _=>rfl) (fun _=>rfl) _ _ _,⟨kk,trivial⟩⟩⟩
def aZW:=fun c d e f g i j k l m n o p q a b r s=>aO9 c d e f g i j k l m|>.t o n p q|>.2 a a a a b b b r s ⟨aO (fun _=>rfl) (fun _=>rfl) _ _ _,⟨aO (fun _=>rfl) (fun _=>rfl) _ _ _,⟨kk,trivial⟩⟩⟩
def aZX:=fun a b c d e f g i j k l m=>aO9 a b c d e f g i j k|>.f l m ⟨aO (fun _=>rfl) (fun _=>rfl) _ _ _,⟨aO (fun _=>rfl) (fun _=>rfl) _ _ _,⟨kk,trivial⟩⟩⟩
def aQi (a:List LUnit)(b c:List (aB×Int))(d:List aB)(e:Bool):=(tT 4 (aMI a b c d e)<|gl 15 LUnit.av a<|.i [rn 4,.nilL 3 1] []<|gu 0 4 (map aA ([] :List aB))<|gs 0 3 (.gl 4 1 0 ([] :List aB).length false)<|.W 0 5 [4] (aC4 a b c d e 0 ([] :List aB))) ⟨aO (fun _=>rfl) (fun _=>rfl) _ _ _,⟨aO (fun _=>rfl) (fun _=>rfl) _ _ _,⟨kk,⟨kk,trivial⟩⟩⟩⟩
def aVN(a:List LUnit)(b c:List (aB×Int))(d:List aB)(g:Bool)(e:Int)(f:List aB):=tT 4 (aC4 a b c d g e f)<|gd 5 16 (e< (a.length:Int)) (gX LUnit.av 6 a e<|fun i=>gl 8 aA i.needs<|.W 4 6 [4] (yA a b c d g i.needs (i.needs.length:Int) 0 f e))<|gz 8 2 4 1 aA f false<|.E 0 5 [] (iS f) [oC 0 [(.ilst 5 (map LUnit.av a) false),(.map 1),(.map 2),(.gl 3 1 0 d.length false),(bV g)],(1,(.map (aF aA aP 0 b) b.length),true),(2,(.map (aF aA aP 0 c) c.length),true),oL 3 1 (map aA d)] 4
def aQj:=fun a b c d e f g i j k l=>aVN a b c d e f g|>.t j i k l ⟨aO (fun _=>rfl) (fun _=>rfl) _ _ _,⟨aO (fun _=>rfl) (fun _=>rfl) _ _ _,⟨kk,⟨kk,trivial⟩⟩⟩⟩
def aZY:=fun a b c d e f g i=>aVN a b c d e f g|>.f i ⟨aO (fun _=>rfl) (fun _=>rfl) _ _ _,⟨aO (fun _=>rfl) (fun _=>rfl) _ _ _,⟨kk,trivial⟩⟩⟩
def aPa(f:List LUnit)(a g:List (aB×Int))(i:List aB)(j:Bool)(k:List aB)(l c:Int)(d:List aB)(e:Int):=tT 4 (yA f a g i j k l c d e)<|gd 5 23 (c<l) (gX aA 6 k c<|fun b=>.o (.y fun m:Int=>.i [rn 10,.ans (.look (some (xE b a,(aP m))))] [.a (eA b a=some m) (p':=fF (aA b) (aF aA aP 0 a) 0=some (some (xE b a,(aP m)))) (rJ hX)]<|gw 22 47 (c+1)<|.W 3 5 [4] (yA f a g i j k l (c+1) d e))<|.i [rn 10,.ans (.look none)] [.a (eA b a=none) (p':=fF (aA b) (aF aA aP 0 a) 0=some none) (rI hX)]<|.W 36 5 [4] (aJY f a g i j b k l c 0 (d.length:Int) e d))<|gw 5 48 (e+1)<|.W 3 5 [4] (aC4 f a g i j (e+1) d)
def aZZ:=fun a b c d e f g i j k l m n o p q r=>aPa a b c d e f g i j k|>.t n l o p|>.1 m q r ⟨aO (fun _=>rfl) (fun _=>rfl) _ _ _,⟨aO (fun _=>rfl) (fun _=>rfl) _ _ _,⟨kk,⟨kk,trivial⟩⟩⟩⟩
def aZ0:=fun a b c d e f g i j k l m n o p=>aPa a b c d e f g i j k|>.t m l n o|>.2 p ⟨aO (fun _=>rfl) (fun _=>rfl) _ _ _,⟨aO (fun _=>rfl) (fun _=>rfl) _ _ _,⟨kk,⟨kk,trivial⟩⟩⟩⟩
def aZ1:=fun a b c d e f g i j k l m=>aPa a b c d e f g i j k|>.f l m ⟨aO (fun _=>rfl) (fun _=>rfl) _ _ _,⟨aO (fun _=>rfl) (fun _=>rfl) _ _ _,⟨kk,⟨kk,trivial⟩⟩⟩⟩
def aPb(e:List LUnit)(f g:List (aB×Int))(i:List aB)(j:Bool)(b:aB)(k:List aB)(l c d n m:Int)(a:List aB):=tT 4 (aJY e f g i j b k l c d n m a)<|gd 5 9 (d<n) (.i [rn 14,.ans (.ix)] [hA (0≤d),hA (d< (a.length:Int))]<|.y fun o:aB=>gj aA 0 a d.toNat o<|.b 2 16 (bL b.length (aC b) o.length (aC o)) (.b 16 42 (!(decide (d≥0))) (ga 5 aA a [b]<|gw 5 47 (c+1)<|.W 3 7 [6] (yA e f g i j k l (c+1) (a++ [b]) m))<|gw 5 47 (c+1)<|.W 3 5 [4] (yA e f g i j k l (c+1) a m))<|gw 5 18 (d+1)<|.W 3 5 [4] (aJY e f g i j b k l c (d+1) n m a))<|ga 21 aA a [b]<|gw 5 47 (c+1)<|.W 3 7 [6] (yA e f g i j k l (c+1) (a++ [b]) m)
def aZ2:=fun a b c d e f g i j k l m n o p q r s t u v=>aPb a b c d e f g i j k l m n|>.t p q r o s|>.t t|>.f u v ⟨aO (fun _=>rfl) (fun _=>rfl) _ _ _,⟨aO (fun _=>rfl) (fun _=>rfl) _ _ _,⟨kk,⟨kk,trivial⟩⟩⟩⟩
def aZ3:=fun a b c d e f g i j k l m n o p q r s t u=>aPb a b c d e f g i j k l m n|>.t p q r o s|>.f t u ⟨aO (fun _=>rfl) (fun _=>rfl) _ _ _,⟨aO (fun _=>rfl) (fun _=>rfl) _ _ _,⟨kk,⟨kk,trivial⟩⟩⟩⟩
def aZ4:=fun a b c d e f g i j k l m n o p q=>aPb a b c d e f g i j k l m n|>.f o p q ⟨aO (fun _=>rfl) (fun _=>rfl) _ _ _,⟨aO (fun _=>rfl) (fun _=>rfl) _ _ _,⟨kk,⟨kk,trivial⟩⟩⟩⟩
def aZ5 (a:List LUnit)(b c:List (aB×Int))(d:List aB)(e:Bool):=(tT 4 (aVK a b c d e)<|gl 18 LUnit.av a<|.i [rn 4,.nilL 3 2] []<|gu 0 4 (jC ([] :List Con))<|gs 0 3 (.gl 4 2 0 ([] :List Con).length false)<|.W 0 5 [4] (aC5 a b c d e 0 ([] :List Con))) ⟨aO (fun _=>rfl) (fun _=>rfl) _ _ _,⟨aO (fun _=>rfl) (fun _=>rfl) _ _ _,⟨kk,⟨kk,trivial⟩⟩⟩⟩
def aPc(a:List LUnit)(c d:List (aB×Int))(e:List aB)(i:Bool)(b:Int)(f:List Con):=tT 4 (aC5 a c d e i b f)<|gd 5 15 (b< (a.length:Int)) (gX LUnit.av 6 a b<|fun g=>gl 9 Con.av g.cons<|.b 2 21 ((g.cons.length:Int) ==0) (gw 4 49 (b+1)<|.W 3 6 [4] (aC5 a c d e i (b+1) f))<|gl 6 Con.av g.cons<|.W 4 6 [4] (yB a c d e i g.cons (g.cons.length:Int) b 0 f))<|gz 8 2 4 2 Con.av f false<|.E 0 5 [] (iC f) [oC 0 [(.ilst 5 (map LUnit.av a) false),(.map 1),(.map 2),(.gl 3 1 0 e.length false),(bV i)],(1,(.map (aF aA aP 0 c) c.length),true),(2,(.map (aF aA aP 0 d) d.length),true),oL 3 1 (map aA e)] 4
def aZ6:=fun a b c d e f g i j k l m n=>aPc a b c d e f g|>.t j i k l|>.t m n ⟨aO (fun _=>rfl) (fun _=>rfl) _ _ _,⟨aO (fun _=>rfl) (fun _=>rfl) _ _ _,⟨kk,⟨kk,trivial⟩⟩⟩⟩
def aZ7:=fun a b c d e f g i j k l m=>aPc a b c d e f g|>.t j i k l|>.f m ⟨aO (fun _=>rfl) (fun _=>rfl) _ _ _,⟨aO (fun _=>rfl) (fun _=>rfl) _ _ _,⟨kk,⟨kk,trivial⟩⟩⟩⟩
def aZ8:=fun a b c d e f g i=>aPc a b c d e f g|>.f i ⟨aO (fun _=>rfl) (fun _=>rfl) _ _ _,⟨aO (fun _=>rfl) (fun _=>rfl) _ _ _,⟨kk,trivial⟩⟩⟩
def aVO(e:List LUnit)(f g:List (aB×Int))(i:List aB)(j:Bool)(k:List Con)(l a b:Int)(c:List Con):=tT 4 (yB e f g i j k l a b c)<|gd 5 26 (b<l) (gX Con.av 6 k b<|fun d=>.W 34 8 [4,6,7,5] (aC6 e f g i j a k l d.name d.name d.name d.args 0 (c.length:Int) b c))<|gw 5 49 (a+1)<|.W 3 5 [4] (aC5 e f g i j (a+1) c)
def aZ9:=fun a b c d e f g i j k l m n o=>aVO a b c d e f g i j k|>.t m l n o ⟨aO (fun _=>rfl) (fun _=>rfl) _ _ _,⟨aO (fun _=>rfl) (fun _=>rfl) _ _ _,⟨kk,⟨kk,trivial⟩⟩⟩⟩
def bAa:=fun a b c d e f g i j k l m=>aVO a b c d e f g i j k|>.f l m ⟨aO (fun _=>rfl) (fun _=>rfl) _ _ _,⟨aO (fun _=>rfl) (fun _=>rfl) _ _ _,⟨kk,⟨kk,trivial⟩⟩⟩⟩
def aPd(k:List LUnit)(c d:List (aB×Int))(e:List aB)(l:Bool)(n:Int)(o:List Con)(p:Int)(s i j:aB)(g f r m:Int)(a:List Con):=tT 4 (aC6 k c d e l n o p s i j g f r m a)<|gd 5 9 (f<r) (.i [rn 14,.ans (.ix)] [hA (0≤f),hA (f< (a.length:Int))]<|.y fun b:Con=>gj Con.av 0 a f.toNat b<|.y fun q:aB=>.i [rn 7,.reg (.d::.d::.pure (aA q)::rd 3 [])] [hA (Pure PP 159 [(.agg [(aA b.name),(nI b.args)])] (aA q)),hr (aA i),hr (aA i)]<|.b 3 16 (bL q.length (aC q) i.length (aC i)) (gd 20 34 (f<0) (ga 6 Con.av a [(Con.mk j g)]<|gw 5 48 (m+1)<|.W 3 11 [10] (yB k c d e l o p n (m+1) (a++ [(Con.mk j g)])))<|.i [rn 2,.reg (.d::.d::.ans (.ix)::.d::.ans (.idx (Con.av b))::rd 3 [.call (.tup []) (aD [oC 0 [(.ilst 5 (map LUnit.av k) false),(.map 1),(.map 2),(.gl 3 1 0 e.length false),(bV l)],(1,(.map (aF aA aP 0 c) c.length),true),(2,(.map (aF aA aP 0 d) d.length),true),oL 3 1 (map aA e),oL 4 2 (jC a),oC 5 [(.func 159 [] [])],oC 6 [(aA i)],oC 7 [(aA j),(nI g)],oC 8 [(aA b.name),(nI b.args)]] 9)])] [hA (0≤f),hA (f< (a.length:Int)),.a (((a)[f.toNat]?) =some b) (iL (f:=Con.av)),hA (Spec PP (.enter 67 [(bV (b.args != g)),(nI 7)]) (aD [oC 0 [(.ilst 5 (map LUnit.av k) false),(.map 1),(.map 2),(.gl 3 1 0 e.length false),(bV l)],(1,(.map (aF aA aP 0 c) c.length),true),(2,(.map (aF aA aP 0 d) d.length),true),oL 3 1 (map aA e),oL 4 2 (jC a),oC 5 [(.func 159 [] [])],oC 6 [(aA i)],oC 7 [(aA j),(nI g)],oC 8 [(aA b.name),(nI b.args)]] 9) (.ret (.tup [])) (aD [oC 0 [(.ilst 5 (map LUnit.av k) false),(.map 1),(.map 2),(.gl 3 1 0 e.length false),(bV l)],(1,(.map (aF aA aP 0 c) c.length),true),(2,(.map (aF aA aP 0 d) d.length),true),oL 3 1 (map aA e),oL 4 2 (jC a),oC 5 [(.func 159 [] [])],oC 6 [(aA i)],oC 7 [(aA j),(nI g)],oC 8 [(aA b.name),(nI b.args)]] 9))]<|gw 3 48 (m+1)<|.W 3 9 [4] (yB k c d e l o p n (m+1) a))<|gw 5 18 (f+1)<|.W 3 9 [4,5,6,7] (aC6 k c d e l n o p s i j g (f+1) r m a))<|ga 26 Con.av a [(Con.mk j g)]<|gw 5 48 (m+1)<|.W 3 10 [9] (yB k c d e l o p n (m+1) (a++ [(Con.mk j g)]))
def bAb:=fun d e f g i j k l m n o p q r s t u v w a b c x y z A B=>aPd d e f g i j k l m n o p q r s t|>.t w a b u c v x|>.t y|>.f z a b c A B ⟨aO (fun _=>rfl) (fun _=>rfl) _ _ _,⟨aO (fun _=>rfl) (fun _=>rfl) _ _ _,⟨kk,⟨kk,trivial⟩⟩⟩⟩
def bAc:=fun a b c d e f g i j k l m n o p q r s t u v w x y z=>aPd a b c d e f g i j k l m n o p q|>.t t u v r w s x|>.f y z ⟨aO (fun _=>rfl) (fun _=>rfl) _ _ _,⟨aO (fun _=>rfl) (fun _=>rfl) _ _ _,⟨kk,⟨kk,trivial⟩⟩⟩⟩
def bAd:=fun a b c d e f g i j k l m n o p q r s t=>aPd a b c d e f g i j k l m n o p q|>.f r s t ⟨aO (fun _=>rfl) (fun _=>rfl) _ _ _,⟨aO (fun _=>rfl) (fun _=>rfl) _ _ _,⟨kk,⟨kk,trivial⟩⟩⟩⟩
def bAe (a:List LUnit)(b c:List (aB×Int))(d:List aB)(e:Bool):=(tT 4 (aVL a b c d e)<|gl 15 LUnit.av a<|.W 4 4 [] (aJZ a b c d e 0 0)) ⟨aO (fun _=>rfl) (fun _=>rfl) _ _ _,⟨aO (fun _=>rfl) (fun _=>rfl) _ _ _,⟨kk,trivial⟩⟩⟩
def aVP(a:List LUnit)(c d:List (aB×Int))(e:List aB)(g:Bool)(f b:Int):=tT 4 (aJZ a c d e g f b)<|gd 5 12 (b< (a.length:Int)) (gX LUnit.av 6 a b<|fun i=>gl 8 Node.av i.nodes<|gw 1 19 (f+ (i.nodes.length:Int))<|gw 5 20 (b+1)<|.W 3 5 [] (aJZ a c d e g (f+ (i.nodes.length:Int)) (b+1)))<|.E 8 4 [] (nI f) [oC 0 [(.ilst 5 (map LUnit.av a) false),(.map 1),(.map 2),(.gl 3 1 0 e.length false),(bV g)],(1,(.map (aF aA aP 0 c) c.length),true),(2,(.map (aF aA aP 0 d) d.length),true),oL 3 1 (map aA e)] 4
def bAf:=fun a b c d e f g i j k l m n=>aVP a b c d e f g|>.t j i k l m n ⟨aO (fun _=>rfl) (fun _=>rfl) _ _ _,⟨aO (fun _=>rfl) (fun _=>rfl) _ _ _,⟨kk,trivial⟩⟩⟩
def bAg:=fun a b c d e f g i=>aVP a b c d e f g|>.f i ⟨aO (fun _=>rfl) (fun _=>rfl) _ _ _,⟨aO (fun _=>rfl) (fun _=>rfl) _ _ _,⟨kk,trivial⟩⟩⟩
abbrev aPe (l:List LUnit)(a b c:Nat)(od:List aB)(tw:Bool) :AObj:=.cells (putCells .leaf 0 [.ilst 5 (map LUnit.av l) false,.map a,.map b,.gl c 1 0 (length od) false,.bool tw]) 5 [] false
abbrev MTb (m:List (aB×Int)) :AObj:=.map (aF aA aP 0 m) (length m)
abbrev iG (l:List aB) :AObj:=.lst 1 (map aA l)
abbrev THp (l:List LUnit)(mf mh:List (aB×Int))(od:List aB)(tw:Bool) :List (Nat×AObj×Bool) :=[(0,aPe l 1 2 3 od tw,false),(1,MTb mf,true),(2,MTb mh,true),(3,iG od,true)]
theorem nJ (m:List (aB×Int)) : (MTb m).kl:=aO (fun _=>rfl) (fun _=>rfl) _ _ _
theorem jJ (l:List aB) : (iG l).kl:=aE _ (fun _=>rfl) _
theorem pM (a b:List aB)(s:aB) :aV (a++b) s= (aV a s||aV b s) :=by simp [aV]
theorem aC7 (s:aB) :∀ (a b:List aB) (i:Nat),cZ s (a++b) i=if aV a s=true then cZ s a i else cZ s b (i+a.length)
 | [],b,i=>by simp [aV]
 | x ::a,b,i=>by
  rw [List.cons_append,cZ,cZ,mC];by_cases e:x=s
  ·rw [if_pos e,if_pos e,decide_eq_true e,Bool.true_or,if_pos rfl]
  · rw [if_neg e,if_neg e,decide_eq_false e,Bool.false_or,aC7 s a b (i+1)];rw [length_cons,show i+1+a.length=i+ (a.length+1)by omega]
theorem kP (s:aB) :∀ (a:List aB) (i:Nat),cZ s a i<0↔aV a s=false
 | [],i=>by simp [cZ,aV]
 | x ::a,i=>by
  rw [cZ,mC];by_cases e:x=s
  · rw [if_pos e,decide_eq_true e,Bool.true_or];constructor
    ·intro h;omega
    ·intro h;cases h
  ·rw [if_neg e,decide_eq_false e,Bool.false_or,kP s a (i+1)]
theorem aCb (a:List aB)(s:aB) :cA (a++ [s]) = (cA a&& !aV a s) :=by
 rw [Bool.eq_iff_iff,iF,and_eq_true,iF,not_eq_true',eq_false_iff,Ne,hasS_mem,nodup_append];constructor
 · intro h;exact⟨h.1,fun hm=>h.2.2 s hm s (by simp) rfl⟩
 · intro h;refine⟨h.1,by simp,fun x hx y hy e=>?_⟩;rw [List.mem_singleton.1 hy]at e;exact h.2 (e ▸ hx)
structure TabI (od:List aB) (tw:Bool) (mf mh:List (aB×Int)) :Prop where
 tw:tw= !cA od
 f:∀s,eA s mf=if aV od s=true then some (cZ s od 0)else none
 h:∀s,aV od s=false→eA s mh=none
theorem TabI.nil :TabI [] false [] [] := ⟨rfl,fun s=>by simp [eA,aV],fun s _=>rfl⟩
theorem TabI.old {od:List aB}{tw:Bool}{mf mh:List (aB×Int)}(t:TabI od tw mf mh){s:aB}(h:aV od s=true) :TabI (od++ [s]) true mf mh:=by
 refine⟨by rw [aCb,h];simp,fun k=>?_,fun k hk=>?_⟩
 · rw [t.f k,pM,aC7];by_cases e:aV od k=true
   ·rw [if_pos e,if_pos e,e,Bool.true_or,if_pos rfl]
   · rw [if_neg e,if_neg];rw [not_eq_true]at e;rw [e,Bool.false_or,mC];intro hh;have:s=k:=by simpa [aV]using hh
     rw [this,e]at h;cases h
 · rw [pM,Bool.or_eq_false_iff]at hk;exact t.h k hk.1
theorem TabI.new {od:List aB}{tw:Bool}{mf mh:List (aB×Int)}(t:TabI od tw mf mh){s:aB}(h:aV od s=false)(i:Int) :TabI (od++ [s]) tw (bY s ((od.length:Nat) :Int) mf) (bY s i mh) :=by
 refine⟨by rw [aCb,h,t.tw];simp,fun k=>?_,fun k hk=>?_⟩
 · rw [rQ,pM,aC7,t.f k];by_cases e:k=s
   · subst e;rw [if_pos rfl,h];simp [aV,cZ]
   · rw [if_neg e];have:aV [s] k=false:=by simp [aV,Ne.symm e]
     rw [this,Bool.or_false];by_cases e2:aV od k=true
     ·rw [if_pos e2,if_pos e2,if_pos e2]
     ·rw [if_neg e2,if_neg e2]
 · rw [pM,Bool.or_eq_false_iff]at hk;have:k≠s:=fun e=>by rw [e]at hk;simp [aV]at hk
   rw [rQ,if_neg this];exact t.h k hk.1
section
variable (l :List LUnit)
theorem aVQ (u:LUnit)(hf:u.funs.length≤30)(i:Nat)(hi:i<1000) :∀ (t:List LFun) (k:Nat) (od:List aB) (tw:Bool) (m1 m2:List (aB×Int)),u.funs.drop k=t→od.length+t.length≤1000→TabI od tw m1 m2 →
  ∃tw' m1' m2',TabI (od++t.map LFun.name) tw' m1' m2'∧LeadsM PP 0 (aFY l u.funs ((u.funs.length:Nat) :Int) (k:Int) tw od m1 m2 (i:Int) (i:Int)).as (aC3 l ((i:Int) +1) tw' m1' m2' (od++t.map LFun.name)).as
 | [],k,od,tw,m1,m2,h,ho,ht=>by
  have:=bA h;rw [map_nil,append_nil];exact⟨tw,m1,m2,ht,aZX l u.funs _ k tw od m1 m2 i i sd sd⟩
 | f::t,k,od,tw,m1,m2,h,ho,ht=>by
  obtain⟨q1,q2,q3⟩ :=aY h;simp only [length_cons]at ho;have g:=ht.f f.name;cases e:aV od f.name with
  | true=>
   rw [e,if_pos rfl]at g;obtain⟨tw',m1',m2',h1,h2⟩ :=aVQ u hf i hi t (k+1) (od++ [f.name]) true m1 m2 q2 (by simp;omega) (ht.old e);refine⟨tw',m1',m2',by simpa using h1,?_⟩;rw [append_assoc]at h2;exact(aZV l u.funs _ k tw od m1 m2 i i f _ sd sd sd g (by simp;omega) sd).trans h2
  | false=>
   rw [e,if_neg (by simp)]at g;obtain⟨tw',m1',m2',h1,h2⟩ :=aVQ u hf i hi t (k+1) (od++ [f.name]) tw (bY f.name ((od.length:Nat) :Int) m1) (bY f.name (i:Int) m2) q2 (by simp;omega) (ht.new e i);refine⟨tw',m1',m2',by simpa using h1,?_⟩;rw [append_assoc]at h2;exact(aZW l u.funs _ k tw od m1 m2 i i f sd sd sd g (ht.h _ e) (by simp;omega) sd).trans h2
abbrev aEj (e:Int) :Res:=.pan [((.iface 201 (.agg [(.int .i64 e)])),false)]
theorem aVR (hl:l.length≤10)(hu:∀u∈l,FewU u∧aMH u) :∀ (t:List LUnit) (i:Nat) (od:List aB) (tw:Bool) (m1 m2:List (aB×Int)),l.drop i=t→od.length≤30*i→TabI od tw m1 m2 →
  (t.all iT=true→∃tw' mf mh,TabI (od++bS t) tw' mf mh∧Ends PP 0 (aC3 l (i:Int) tw m1 m2 od).as (.ret (.ptr 0 0)) (aD (THp l mf mh (od++bS t) tw') 4)) ∧
  (t.all iT=false→Ends PP 0 (aC3 l (i:Int) tw m1 m2 od).as (aEj 2) (aD [] 0))
 | [],i,od,tw,m1,m2,h,ho,ht=>by
  have:=bA h;refine⟨fun _=> ⟨tw,m1,m2,?_,?_⟩,fun h=>by simp at h⟩
  ·rw [show bS [] = []from rfl,append_nil];exact ht
  ·rw [show bS [] = []from rfl,append_nil];exact aZU l i tw m1 m2 od sd
 | u ::t,i,od,tw,m1,m2,h,ho,ht=>by
  obtain⟨q1,q2,q3⟩ :=aY h;have hh:=hu u (mem_of_getElem? q1);have hf:=hh.1.f;have hp:=aVI u hh.1 hh.2;rw [all_cons];cases e:iT u with
  | false=>
   rw [e]at hp;refine⟨fun h=>by simp at h,fun _=>?_⟩;exact aZS l i tw m1 m2 od u false sd sd sd hp rfl
  | true=>
   rw [e]at hp;rw [Bool.true_and];obtain⟨tw',m1',m2',h1,h2⟩ :=aVQ l u hf i (by omega) u.funs 0 od tw m1 m2 rfl (by omega) ht;have h0:=aZT l i tw m1 m2 od u true sd sd sd hp rfl;have ih:=aVR hl hu t (i+1) (od++aH u) tw' m1' m2' q2 (by simp [aH];omega) h1;refine⟨fun hg=>?_,fun hg=>?_⟩
   · obtain⟨tw2,mf,mh,g1,g2⟩ :=ih.1 hg;rw [append_assoc]at g1 g2;exact⟨tw2,mf,mh,g1,h0.ends (h2.ends g2)⟩
   ·exact h0.ends (h2.ends (ih.2 hg))
theorem bDu (hu:∀u∈l,FewU u∧aMH u)(h:gB l=false) :aIw PP 63 [.ilst 5 (map LUnit.av l) false] [((.iface 201 (.agg [(.int .i64 2)])),false)] :=by
 refine throws_at (by kernel_rfl) (by simp [keylessL,keyless]) (fun x hx=>by rw [List.mem_singleton.1 hx];rfl) ?_;by_cases hl:l.length≤10
 · rw [gB,decide_eq_true hl,Bool.true_and]at h;exact(aQh l (by simp;omega)).ends ((aVR l hl hu l 0 [] false [] [] rfl (by simp) TabI.nil).2 h)
 ·exact aZR l (by simp;omega)
theorem aVS (hu:∀u∈l,FewU u∧aMH u)(h:gB l=true) :∃mf mh,TabI (bS l) (!cA (bS l)) mf mh ∧
  aAo PP (.enter 63 [.ilst 5 (map LUnit.av l) false]) (aD [] 0) (.ret (.ptr 0 0)) (aD (THp l mf mh (bS l) (!cA (bS l))) 4) :=by
 simp only [gB,and_eq_true,decide_eq_true_eq]at h;obtain⟨tw,mf,mh,h1,h2⟩ := (aVR l h.1 hu l 0 [] false [] [] rfl (by simp) TabI.nil).1 h.2;rw [nil_append]at h1 h2;have e:=h1.tw;subst e;refine⟨mf,mh,h1,?_⟩
 suffices hh:Ends PP 0 (aVJ l).as (.ret (.ptr 0 0)) (aD (THp l mf mh (bS l) (!cA (bS l))) 4)from⟨(aVJ l).as.fr,by kernel_rfl,mp (by kernel_rfl) hh⟩
 exact(aQh l (by simp;omega)).ends h2
end
section
variable (l :List LUnit) (mf mh:List (aB×Int)) (od:List aB) (tw:Bool)
theorem bCu (s:aB)(nd:List aB)(hn:nd.length≤1000)(k:Nat)(hk:k<1000)(i:Int)(acc:List aB)(ha:acc.length≤100000) :∀ (t:List aB) (j:Nat),acc.drop j=t →
  LeadsM PP 4 (aJY l mf mh od tw s nd ((nd.length:Nat) :Int) (k:Int) (j:Int) ((acc.length:Nat) :Int) i acc).as (yA l mf mh od tw nd ((nd.length:Nat) :Int) ((k:Int) +1) (if aV t s=true then acc else acc++ [s]) i).as
 | [],j,h=>by
  have:=bA h;exact aZ4 l mf mh od tw s nd _ k j _ i acc sd (by simp;omega) sd
 | x ::t,j,h=>by
  obtain⟨q1,q2,q3⟩ :=aY h;rw [mC];by_cases e:x=s
  · rw [decide_eq_true e,Bool.true_or,if_pos rfl];exact aZ2 l mf mh od tw s nd _ k j _ i acc x sd sd sd sd (by rw [dG];simp [e]) (by simp) sd
  · rw [decide_eq_false e,Bool.false_or];exact(aZ3 l mf mh od tw s nd _ k j _ i acc x sd sd sd sd (by rw [dG];simp [Ne.symm e]) sd).trans (bCu s nd hn k hk i acc ha t (j+1) q2)
theorem aQk (ht:TabI od tw mf mh)(nd:List aB)(hn:nd.length≤25)(i:Nat)(hi:i<1000) :∀ (t:List aB) (k:Nat) (acc:List aB),nd.drop k=t→acc.length≤25*i+k →
  LeadsM PP 4 (yA l mf mh od tw nd ((nd.length:Nat) :Int) (k:Int) acc (i:Int)).as (aC4 l mf mh od tw ((i:Int) +1) (pK od acc t)).as
 | [],k,acc,h,ha=>by
  have:=bA h;exact aZ1 l mf mh od tw nd _ k acc i sd sd
 | s::t,k,acc,h,ha=>by
  obtain⟨q1,q2,q3⟩ :=aY h;have g:=ht.f s;rw [pK];cases e:aV od s with
  | true=>
   rw [e,if_pos rfl]at g;rw [if_pos (.inl rfl)];exact(aZZ l mf mh od tw nd _ k acc i s _ sd sd sd g sd).trans (aQk ht nd hn i hi t (k+1) acc q2 (by omega))
  | false=>
   rw [e,if_neg (by simp)]at g;have h1:=aZ0 l mf mh od tw nd ((nd.length:Nat) :Int) k acc i s sd sd sd g;have h2:=bCu l mf mh od tw s nd (by omega) k (by omega) i acc (by omega) acc 0 rfl;have e2: (if false=true∨aV acc s=true then acc else acc++ [s]) = (if aV acc s=true then acc else acc++ [s]) :=by simp
   rw [e2];exact h1.trans (h2.trans (aQk ht nd hn i hi t (k+1) _ q2 (by split<;>first|omega| (simp;omega))))
theorem bCv (ht:TabI od tw mf mh)(hl:l.length≤11)(hu:∀u∈l,FewU u) :∀ (t:List LUnit) (i:Nat) (acc:List aB),l.drop i=t→acc.length≤25*i →
  Ends PP 4 (aC4 l mf mh od tw (i:Int) acc).as (.ret (.ilst 1 (map aA (lI od acc t)) false)) (aD (THp l mf mh od tw) 4)
 | [],i,acc,h,ha=>by
  have:=bA h;exact aZY l mf mh od tw i acc sd
 | u::t,i,acc,h,ha=>by
  obtain⟨q1,q2,q3⟩ :=aY h;have hn:= (hu u (mem_of_getElem? q1)).n;have hlen:=aCR od u.needs acc;exact(aQj l mf mh od tw i acc u sd sd sd).ends ((aQk l mf mh od tw ht u.needs hn i (by omega) u.needs 0 acc rfl (by omega)).ends (bCv ht hl hu t (i+1) _ q2 (by omega)))
theorem aVT (ht:TabI od tw mf mh)(hl:l.length≤11)(hu:∀u∈l,FewU u) :Spec PP (.enter 64 [.ptr 0 0]) (aD (THp l mf mh od tw) 4) (.ret (.ilst 1 (map aA (lI od [] l)) false)) (aD (THp l mf mh od tw) 4) :=by
 suffices hh:Ends PP 4 (aMI l mf mh od tw).as (.ret (.ilst 1 (map aA (lI od [] l)) false)) (aD (THp l mf mh od tw) 4)from⟨(aMI l mf mh od tw).as.fr,by kernel_rfl,mp (by kernel_rfl) hh⟩
 exact(aQi l mf mh od tw).ends (bCv l mf mh od tw ht hl hu l 0 [] rfl (by simp))
theorem bCw (hl:l.length≤11)(hu:∀u∈l,u.nodes.length≤320) :∀ (t:List LUnit) (i n:Nat),l.drop i=t→n+aZ t=aZ l→n≤320*i →
  Ends PP 4 (aJZ l mf mh od tw (n:Int) (i:Int)).as (.ret (.int .i64 (aZ l:Int))) (aD (THp l mf mh od tw) 4)
 | [],i,n,h,hn,hb=>by
  have:=bA h;simp only [aZ]at hn;obtain rfl:n=aZ l:=by omega
  exact bAg l mf mh od tw _ i sd
 | u::t,i,n,h,hn,hb=>by
  obtain⟨q1,q2,q3⟩ :=aY h;simp only [aZ]at hn;have hs:=hu u (mem_of_getElem? q1);have h1:=bAf l mf mh od tw n i u sd sd sd sd sd;have ih:=bCw hl hu t (i+1) (n+u.nodes.length) q2 (by omega) (by omega);rw [Int.natCast_add,Int.natCast_add]at ih;exact h1.ends ih
theorem aVU (hl:l.length≤11)(hu:∀u∈l,u.nodes.length≤320) :Spec PP (.enter 78 [.ptr 0 0]) (aD (THp l mf mh od tw) 4) (.ret (.int .i64 (aZ l:Int))) (aD (THp l mf mh od tw) 4) :=by
 suffices hh:Ends PP 4 (aVL l mf mh od tw).as (.ret (.int .i64 (aZ l:Int))) (aD (THp l mf mh od tw) 4)from⟨(aVL l mf mh od tw).as.fr,by kernel_rfl,mp (by kernel_rfl) hh⟩
 exact(bAe l mf mh od tw).ends (bCw l mf mh od tw hl hu l 0 0 rfl (by omega) (by omega))
def aJ0 (out:List Con)(c:Con)(t:List Con) :Option (List Con) :=match t.find? (fun d=>decide (d.name=c.name))with
 |none=>some (out++ [c])
 |some d=>if d.args=c.args then some out else none
theorem aMJ (out:List Con)(c:Con) :aAs out c=aJ0 out c out:=rfl
theorem bCx (i:Int)(cl:List Con)(hcl:cl.length≤1000)(c:Con)(k:Nat)(hk:k<1000)(acc:List Con)(ha:acc.length<100000) :∀ (t:List Con) (j:Nat),acc.drop j=t →
  (match aJ0 acc c t with
  |some o=>LeadsM PP 4 (aC6 l mf mh od tw i cl ((cl.length:Nat) :Int) c.name c.name c.name c.args (j:Int) ((acc.length:Nat) :Int) (k:Int) acc).as (yB l mf mh od tw cl ((cl.length:Nat) :Int) i ((k:Int) +1) o).as
  |none=>Ends PP 4 (aC6 l mf mh od tw i cl ((cl.length:Nat) :Int) c.name c.name c.name c.args (j:Int) ((acc.length:Nat) :Int) (k:Int) acc).as (aEj 7) (aD (THp l mf mh od tw) 4))
 | [],j,h=>by
  have:=bA h;exact bAd l mf mh od tw i cl _ c.name c.name c.name c.args j _ k acc sd (by simp;omega) sd
 | d ::t,j,h=>by
  obtain⟨q1,q2,q3⟩ :=aY h;unfold aJ0;by_cases e:d.name=c.name
  · rw [List.find?_cons_of_pos (by simpa using e)];by_cases e2:d.args=c.args
    · dsimp only;rw [if_pos e2];exact bAb l mf mh od tw i cl _ c.name c.name c.name c.args j _ k acc d d.name sd sd sd sd (xZ d) (by rw [dG];simp [e]) sd (by rw [show(d.args != c.args) =false by simp [e2]];exact aVB 7 _) sd
    · dsimp only;rw [if_neg e2];exact aZQ l mf mh od tw i cl _ c.name c.name c.name c.args j _ k acc d d.name sd sd sd sd (xZ d) (by rw [dG];simp [e]) sd (by rw [show(d.args != c.args) =true by simp [e2]];exact aVC 7 _)
  · rw [List.find?_cons_of_neg (by simpa using e)];have ih:=bCx i cl hcl c k hk acc ha t (j+1) q2;unfold aJ0 at ih;have h1:=bAc l mf mh od tw i cl ((cl.length:Nat) :Int) c.name c.name c.name c.args j ((acc.length:Nat) :Int) k acc d d.name sd sd sd sd (xZ d) (by rw [dG];simp [e]) sd;split at ih
    ·rename_i o ho;first|exact h1.trans ih| (rw [ho];exact h1.trans ih)
    ·rename_i ho;first|exact h1.ends ih| (rw [ho];exact h1.ends ih)
theorem bCy (cl:List Con)(i:Nat)(hi2:i<1000)(hn:cl.length≤25) :∀ (t:List Con) (k:Nat) (acc:List Con),cl.drop k=t→acc.length≤25*i+k →
  (match rU acc t with
  |some o=>LeadsM PP 4 (yB l mf mh od tw cl ((cl.length:Nat) :Int) (i:Int) (k:Int) acc).as (aC5 l mf mh od tw ((i:Int) +1) o).as
  |none=>Ends PP 4 (yB l mf mh od tw cl ((cl.length:Nat) :Int) (i:Int) (k:Int) acc).as (aEj 7) (aD (THp l mf mh od tw) 4))
 | [],k,acc,h,ha=>by
  have:=bA h;exact bAa l mf mh od tw cl _ i k acc sd sd
 | c ::t,k,acc,h,ha=>by
  obtain⟨q1,q2,q3⟩ :=aY h;have h1:=aZ9 l mf mh od tw cl ((cl.length:Nat) :Int) i k acc c sd sd sd;have h2:=bCx l mf mh od tw i cl (by omega) c k (by omega) acc (by omega) acc 0 rfl;rw [rU,aMJ];split at h2
  · rename_i o ho
    try rw [ho]
    have hl:=aHD (out:=acc) (c:=c) (o:=o) (by rw [aMJ];exact ho);have h3:=bCy cl i hi2 hn t (k+1) o q2 (by omega);dsimp only;split at h3
    ·rename_i o2 ho2;first|exact h1.trans (h2.trans h3) | (rw [ho2];exact h1.trans (h2.trans h3))
    ·rename_i ho2;first|exact h1.ends (h2.ends h3) | (rw [ho2];exact h1.ends (h2.ends h3))
  · rename_i ho
    try rw [ho]
    exact h1.ends h2
abbrev aFZ (o:Option (List Con)) :Res:=match o with
 |some o=>.ret (.ilst 2 (map Con.av o) false)
 |none=>aEj 7
theorem aVV (hl:l.length≤11)(hu:∀u∈l,u.cons.length≤25) :∀ (t:List LUnit) (i:Nat) (acc:List Con),l.drop i=t→acc.length≤25*i →
  Ends PP 4 (aC5 l mf mh od tw (i:Int) acc).as (aFZ (mY acc t)) (aD (THp l mf mh od tw) 4)
 | [],i,acc,h,ha=>by
  have:=bA h;exact aZ8 l mf mh od tw i acc sd
 | u ::t,i,acc,h,ha=>by
  obtain⟨q1,q2,q3⟩ :=aY h;have hn:=hu u (mem_of_getElem? q1);by_cases h0:u.cons= []
  · have e:mY acc (u::t) =mY acc t:=by rw [mY,h0,rU]
    rw [e];exact(aZ6 l mf mh od tw i acc u sd sd sd (by rw [h0];rfl) sd).ends (aVV hl hu t (i+1) acc q2 (by omega))
  · have hp:0<u.cons.length:=List.length_pos_iff.2 h0;have h1:=aZ7 l mf mh od tw i acc u sd sd sd (beq_eq_false_iff_ne.2 (by omega));have h2:=bCy l mf mh od tw u.cons i (by omega) hn u.cons 0 acc rfl (by omega);rw [mY];split at h2
    · rename_i o ho
      try rw [ho]
      have:=aCS ho;exact h1.ends (h2.ends (aVV hl hu t (i+1) o q2 (by omega)))
    · rename_i ho
      try rw [ho]
      exact h1.ends h2
theorem aVW (hl:l.length≤11)(hu:∀u∈l,u.cons.length≤25) :Spec PP (.enter 77 [.ptr 0 0]) (aD (THp l mf mh od tw) 4) (aFZ (xT l)) (aD (THp l mf mh od tw) 4) :=by
 suffices hh:Ends PP 4 (aVK l mf mh od tw).as (aFZ (xT l)) (aD (THp l mf mh od tw) 4)from⟨(aVK l mf mh od tw).as.fr,by kernel_rfl,mp (by kernel_rfl) hh⟩
 exact(aZ5 l mf mh od tw).ends (aVV l mf mh od tw hl hu l 0 [] rfl (by simp))
end
def aVX(d:List LUnit)(a b:List (aB×Int))(c:List aB)(e:Bool)(f:List Con)(g:List aB):TS:=cI PP 79 [(.ptr 0 0),(iC f),(iS g)] [oC 0 [(.ilst 5 (map LUnit.av d) false),(.map 1),(.map 2),(.gl 3 1 0 c.length false),(bV e)],(1,(.map (aF aA aP 0 a) a.length),true),(2,(.map (aF aA aP 0 b) b.length),true),oL 3 1 (map aA c)] 4
def aF0(a:List LUnit)(b c:List (aB×Int))(d:List aB)(g:Bool)(i:List Con)(j:List aB)(k:Int)(l:List Node)(m n:List Int)(e:List LFun)(f:List ONode):TS:=⟨(tf 79 129 [kp 0 0,(1,(iC i)),(2,(iS j)),(6,.nils),(7,.nils),(8,(.gl 4 2 0 e.length false)),kp 9 5,(25,(.ilst 5 (map LUnit.av a) false)),(26,(nI (a.length:Int))),(27,(nI k))] [kc f79 244,kl f79 244,.inBlock 0,kc f79 31]),[],[oC 0 [(.ilst 5 (map LUnit.av a) false),(.map 1),(.map 2),(.gl 3 1 0 d.length false),(bV g)],(1,(.map (aF aA aP 0 b) b.length),true),(2,(.map (aF aA aP 0 c) c.length),true),oL 3 1 (map aA d),oL 4 2 (map LFun.av e),oC 5 [(iN l),(.gl 6 4 0 f.length false),(iI m),(iI n)],oL 6 4 (map ONode.av f)],7⟩
def aF1(a:List LUnit)(b c:List (aB×Int))(d:List aB)(i:Bool)(j:List Con)(k l:List aB)(m:Int)(n:List Node)(o:aB)(p:List Con)(q:List LFun)(r:List aB)(s:List Node)(t:Int)(e:List Int)(u:Int)(f:List LFun)(g:List ONode):TS:=⟨(tf 79 129 [kp 0 0,(1,(iC j)),(2,(iS k)),(6,.nils),(7,.nils),(8,(.gl 4 2 0 f.length false)),kp 9 5,kp 11 6,(25,(.ilst 5 (map LUnit.av a) false)),(26,(nI (a.length:Int))),(27,(nI u)),(47,(iS l)),(48,(nI m)),(49,(nI t))] [kc f79 250676,kl f79 250676,.inBlock 2,kc f79 31335,.inBlock 1,kc f79 1959,kl f79 244,.inBlock 0,kc f79 31]),[],[oC 0 [(.ilst 5 (map LUnit.av a) false),(.map 1),(.map 2),(.gl 3 1 0 d.length false),(bV i)],(1,(.map (aF aA aP 0 b) b.length),true),(2,(.map (aF aA aP 0 c) c.length),true),oL 3 1 (map aA d),oL 4 2 (map LFun.av f),oC 5 [(iN n),(.gl 7 4 0 g.length false),(.gl 8 1 0 e.length false),(.gl 9 1 0 ([] :List Int).length false)],oC 6 [(aA o),(iC p),(.ilst 2 (map LFun.av q) false),(iS r),(iN s)],oL 7 4 (map ONode.av g),oL 8 1 (jI e),oL 9 1 (jI ([] :List Int))],10⟩
def aF2(a:List LUnit)(b c:List (aB×Int))(d:List aB)(k:Bool)(l:List Con)(m:List aB)(e:List Con)(n:Int)(o:List Node)(p:aB)(q:List LFun)(r:List aB)(s:List Node)(f:List Int)(t:Int)(g:List Int)(u:Int)(i:List LFun)(j:List ONode):TS:=⟨(tf 79 129 [kp 0 0,(1,(iC l)),(2,(iS m)),(6,.nils),(7,.nils),(8,(.gl 4 2 0 i.length false)),kp 9 5,kp 11 6,(25,(.ilst 5 (map LUnit.av a) false)),(26,(nI (a.length:Int))),(27,(nI u)),(85,(iC e)),(86,(nI n)),(87,(nI t))] [kc f79 501364,kl f79 501364,.inBlock 4,kc f79 62671,.inBlock 1,kc f79 1959,kl f79 244,.inBlock 0,kc f79 31]),[],[oC 0 [(.ilst 5 (map LUnit.av a) false),(.map 1),(.map 2),(.gl 3 1 0 d.length false),(bV k)],(1,(.map (aF aA aP 0 b) b.length),true),(2,(.map (aF aA aP 0 c) c.length),true),oL 3 1 (map aA d),oL 4 2 (map LFun.av i),oC 5 [(iN o),(.gl 7 4 0 j.length false),(.gl 8 1 0 f.length false),(.gl 9 1 0 g.length false)],oC 6 [(aA p),(iC e),(.ilst 2 (map LFun.av q) false),(iS r),(iN s)],oL 7 4 (map ONode.av j),oL 8 1 (jI f),oL 9 1 (jI g)],10⟩
def aF3(a:List LUnit)(b c:List (aB×Int))(d:List aB)(g:Bool)(i:List Con)(j:List aB)(k:List LFun)(l:Int)(m:List Node)(n o:List Int)(p:Int)(e:List LFun)(f:List ONode)(q:Int):TS:=⟨(tf 79 129 [kp 0 0,(1,(iC i)),(2,(iS j)),(6,.nils),(7,.nils),(8,(.gl 4 2 0 e.length false)),kp 9 5,(25,(.ilst 5 (map LUnit.av a) false)),(26,(nI (a.length:Int))),(27,(nI q)),(106,(.ilst 2 (map LFun.av k) false)),(107,(nI l)),(108,(nI p))] [kc f79 501372,kl f79 501372,.inBlock 6,.inBlock 1,kc f79 1959,kl f79 244,.inBlock 0,kc f79 31]),[],[oC 0 [(.ilst 5 (map LUnit.av a) false),(.map 1),(.map 2),(.gl 3 1 0 d.length false),(bV g)],(1,(.map (aF aA aP 0 b) b.length),true),(2,(.map (aF aA aP 0 c) c.length),true),oL 3 1 (map aA d),oL 4 2 (map LFun.av e),oC 5 [(iN m),(.gl 6 4 0 f.length false),(iI n),(iI o)],oL 6 4 (map ONode.av f)],7⟩
def aQl(a:List LUnit):TS:=cI PP 24 [(.ilst 5 (map LUnit.av a) false)] [] 0
def aJ1(i:List LUnit)(b:List LFun)(c:Int)(d:List Node)(e:Int)(f:List Con)(g:Int)(a:List Int):TS:=⟨(tf 24 74 [kp 2 0,kp 3 1,(59,(.ilst 2 (map LFun.av b) false)),(60,(nI c)),(61,(nI g))] [kc f24 16372,kl f24 16372,.inBlock 0,kc f24 2047] (defers:=[.fn 61 [(.ptr 1 0),(.func 76 [] [(.ptr 0 0)])]])),[],[oC 0 [(iN d),(.gl 2 1 0 a.length false),(nI e),(iC f)],oC 1 [(nI 0)],oL 2 1 (jI a)],3⟩
def bAh (a:List LUnit)(b c:List (aB×Int))(d:List aB)(e:Bool)(f:List Con)(g:List aB):=(tT 4 (aVX a b c d e f g)<|.i [rn 17,.cnilI 4 0 4] []<|.i [.cweak 4 0] []<|.i [.cnilI 4 2 1] []<|.i [.cweak 4 2] []<|.i [.cnilI 4 3 1] []<|.i [.cweak 4 3] []<|gl 5 LUnit.av a<|.i [rn 4,.nilL 8 2] []<|gu 0 5 (map LFun.av ([] :List LFun))<|gs 0 8 (.gl 5 2 0 ([] :List LFun).length false)<|.i [.cnil 4 1 4] []<|gu 0 6 (map ONode.av ([] :List ONode))<|gv 0 4 1 (.gl 6 4 0 ([] :List ONode).length false)<|.W 0 7 [5,4,6] (aF0 a b c d e f g 0 ([] :List Node) ([] :List Int) ([] :List Int) ([] :List LFun) ([] :List ONode))) ⟨aO (fun _=>rfl) (fun _=>rfl) _ _ _,⟨aO (fun _=>rfl) (fun _=>rfl) _ _ _,⟨kk,⟨kk,⟨(aE _ (fun _=>aQ _) _),trivial⟩⟩⟩⟩⟩
def aVY(g:List LUnit)(d e:List (aB×Int))(f:List aB)(k:Bool)(m:List Con)(n:List aB)(l:Int)(o:List Node)(p q:List Int)(j:List LFun)(b:List ONode):=tT 4 (aF0 g d e f k m n l o p q j b)<|gd 5 28 (l< (g.length:Int)) (gX LUnit.av 6 g l<|fun a=>.y fun c:List aB=>.i [rn 23,.reg (.d::.pure (iS c)::rd 3 [.call (iS (c++a.needs)) (aD [oC 0 [(.ilst 5 (map LUnit.av g) false),(.map 1),(.map 2),(.gl 3 1 0 f.length false),(bV k)],(1,(.map (aF aA aP 0 d) d.length),true),(2,(.map (aF aA aP 0 e) e.length),true),oL 3 1 (map aA f),oL 4 2 (map LFun.av j),oC 5 [(iN a.nodes),(.gl 6 4 0 b.length false),.nils,.nils],oL 6 4 (map ONode.av b),oC 7 [(aA a.name),(iC a.cons),(.ilst 2 (map LFun.av a.funs) false),(iS a.needs),(iN a.nodes)],oC 8 [(iS c),(iS a.needs)]] 9),.ans (.len ((c++a.needs).length:Int)),.d])] [hA (Pure PP 161 [(.agg [(aA a.name),(iC a.cons),(.ilst 2 (map LFun.av a.funs) false),(iS a.needs),(iN a.nodes)])] (iS c)),hA (Spec PP (.enter 160 [(.slice 8 0 2 2 1 true)]) (aD [oC 0 [(.ilst 5 (map LUnit.av g) false),(.map 1),(.map 2),(.gl 3 1 0 f.length false),(bV k)],(1,(.map (aF aA aP 0 d) d.length),true),(2,(.map (aF aA aP 0 e) e.length),true),oL 3 1 (map aA f),oL 4 2 (map LFun.av j),oC 5 [(iN a.nodes),(.gl 6 4 0 b.length false),.nils,.nils],oL 6 4 (map ONode.av b),oC 7 [(aA a.name),(iC a.cons),(.ilst 2 (map LFun.av a.funs) false),(iS a.needs),(iN a.nodes)],oC 8 [(iS c),(iS a.needs)]] 9) (.ret (iS (c++a.needs))) (aD [oC 0 [(.ilst 5 (map LUnit.av g) false),(.map 1),(.map 2),(.gl 3 1 0 f.length false),(bV k)],(1,(.map (aF aA aP 0 d) d.length),true),(2,(.map (aF aA aP 0 e) e.length),true),oL 3 1 (map aA f),oL 4 2 (map LFun.av j),oC 5 [(iN a.nodes),(.gl 6 4 0 b.length false),.nils,.nils],oL 6 4 (map ONode.av b),oC 7 [(aA a.name),(iC a.cons),(.ilst 2 (map LFun.av a.funs) false),(iS a.needs),(iN a.nodes)],oC 8 [(iS c),(iS a.needs)]] 9)),hl aA (c++a.needs),hr (ilst 1 (map aA a.needs) false),hr (ilst 1 (map aA a.needs) false)]<|.i [rn 2,.cnil 5 2 1] []<|gu 0 9 (jI ([] :List Int))<|gv 0 5 2 (.gl 9 1 0 ([] :List Int).length false)<|.i [.cnil 5 3 1] []<|gu 0 10 (jI ([] :List Int))<|gv 0 5 3 (.gl 10 1 0 ([] :List Int).length false)<|.W 0 11 [4,5,7,6,9,10] (aF1 g d e f k m n (c++a.needs) ((c++a.needs).length:Int) a.nodes a.name a.cons a.funs a.needs a.nodes 0 ([] :List Int) l j b))<|.i [rn 3,.reg (rd 7 [])] []<|.y fun i:List Node=>.i [rn 1,.lset 6 (jN i)] [.a (b=map Node.o i) (p':=(map ONode.av b) = (jN i)) aFF]<|.i [.set 7 (.gl 6 4 0 i.length false)] [.a (i.length=b.length) (p':=(AV.gl 6 4 0 b.length false) = (.gl 6 4 0 i.length false)) (fun h=>(cB h.symm))]<|gz 0 6 4 2 LFun.av j false<|gz 0 7 6 4 Node.av i false<|.E 0 7 [] (.tup [(.ilst 2 (map LFun.av j) false),(iN i)]) [oC 0 [(.ilst 5 (map LUnit.av g) false),(.map 1),(.map 2),(.gl 3 1 0 f.length false),(bV k)],(1,(.map (aF aA aP 0 d) d.length),true),(2,(.map (aF aA aP 0 e) e.length),true),oL 3 1 (map aA f)] 4
def bAi:=fun a b c d e f g i j k l m n o p q r s t u=>aVY a b c d e f g i j k l m n|>.t q o r s p t u ⟨aO (fun _=>rfl) (fun _=>rfl) _ _ _,⟨aO (fun _=>rfl) (fun _=>rfl) _ _ _,⟨kk,⟨kk,⟨(aE _ (fun _=>aQ _) _),⟨kk,⟨kk,trivial⟩⟩⟩⟩⟩⟩⟩
def bAj:=fun a b c d e f g i j k l m n o p q r=>aVY a b c d e f g i j k l m n|>.f p o q r ⟨aO (fun _=>rfl) (fun _=>rfl) _ _ _,⟨aO (fun _=>rfl) (fun _=>rfl) _ _ _,⟨kk,trivial⟩⟩⟩
def aPg(j:List LUnit)(a k:List (aB×Int))(b:List aB)(l:Bool)(m:List Con)(i n:List aB)(o:Int)(p:List Node)(q:aB)(f:List Con)(r:List LFun)(s:List aB)(t:List Node)(d:Int)(g:List Int)(u:Int)(v:List LFun)(w:List ONode):=tT 4 (aF1 j a k b l m i n o p q f r s t d g u v w)<|gd 5 50 (d<o) (gX aA 6 n d<|fun e=>.o (.y fun c:Int=>.i [rn 10,.ans (.look (some (xE e a,(aP c))))] [.a (eA e a=some c) (p':=fF (aA e) (aF aA aP 0 a) 0=some (some (xE e a,(aP c)))) (rJ hX)]<|ga 22 aP g [c]<|gw 7 83 (d+1)<|.W 3 12 [4,5,6,7,11,9] (aF1 j a k b l m i n o p q f r s t (d+1) (g++ [c]) u v w))<|.i [rn 10,.ans (.look none)] [.a (eA e a=none) (p':=fF (aA e) (aF aA aP 0 a) 0=some none) (rI hX)]<|.y fun c:Int=>.i [rn 13,.reg (rd 7 [.pure (nI c),.d,.d])] [hA (Pure PP 151 [(iS i),(aA e)] (nI c)),hr (nI (b.length:Int)),hr (nI (b.length:Int)),hr (AV.gl 3 1 0 b.length false),hr (AV.gl 3 1 0 b.length false)]<|ga 8 aP g [(IntKind.i64.wrap ((b.length:Int) +c))]<|gw 7 83 (d+1)<|.W 3 12 [4,5,6,7,11,9] (aF1 j a k b l m i n o p q f r s t (d+1) (g++ [(IntKind.i64.wrap ((b.length:Int) +c))]) u v w))<|gl 7 Con.av f<|.W 4 10 [4,5,6,7,8,9] (aF2 j a k b l m i f (f.length:Int) p q r s t g 0 ([] :List Int) u v w)
def bAk:=fun a b c d e f g i j k l m n o p q r s t u v w x y z A B C=>aPg a b c d e f g i j k l m n o p q r s t u|>.t x v y z|>.1 w A B C ⟨aO (fun _=>rfl) (fun _=>rfl) _ _ _,⟨aO (fun _=>rfl) (fun _=>rfl) _ _ _,⟨kk,⟨kk,⟨(aE _ (fun _=>aQ _) _),⟨kk,⟨kk,trivial⟩⟩⟩⟩⟩⟩⟩
def bAl:=fun a b c d e f g i j k l m n o p q r s t u v w x y z A B C D=>aPg a b c d e f g i j k l m n o p q r s t u|>.t x v y z|>.2 A w B C D ⟨aO (fun _=>rfl) (fun _=>rfl) _ _ _,⟨aO (fun _=>rfl) (fun _=>rfl) _ _ _,⟨kk,⟨kk,⟨(aE _ (fun _=>aQ _) _),⟨kk,⟨kk,trivial⟩⟩⟩⟩⟩⟩⟩
def bAm:=fun a b c d e f g i j k l m n o p q r s t u v=>aPg a b c d e f g i j k l m n o p q r s t u|>.f v ⟨aO (fun _=>rfl) (fun _=>rfl) _ _ _,⟨aO (fun _=>rfl) (fun _=>rfl) _ _ _,⟨kk,⟨kk,⟨(aE _ (fun _=>aQ _) _),⟨kk,⟨kk,trivial⟩⟩⟩⟩⟩⟩⟩
def aVZ(g:List LUnit)(i j:List (aB×Int))(k:List aB)(l:Bool)(e:List Con)(m:List aB)(n:List Con)(o:Int)(p:List Node)(t:aB)(c:List LFun)(u:List aB)(v:List Node)(f:List Int)(d:Int)(a:List Int)(q:Int)(r:List LFun)(s:List ONode):=tT 4 (aF2 g i j k l e m n o p t c u v f d a q r s)<|gd 5 88 (d<o) (gX Con.av 6 n d<|fun w=>.y fun b:Int=>.i [rn 4,.reg (rd 8 (.pure (nI b)::.d::.app (jI (a++ [b])) (a++ [b]).length::rd 3 []))] [hA (Pure PP 158 [(iC e),(.func 159 [] []),(aA w.name)] (nI b)),hb aP a,hA (length (a++ [b]) ≤1000000),hc aP a [b],he aP a [b],hr (AV.gl 9 1 0 a.length false),hr (AV.gl 9 1 0 a.length false)]<|gw 3 104 (d+1)<|.W 3 13 [4,5,6,7,8,12] (aF2 g i j k l e m n o p t c u v f (d+1) (a++ [b]) q r s))<|gy 3 5 2 8 1 aP f false<|gy 0 5 3 9 1 aP a false<|gl 3 LFun.av c<|.W 4 10 [4,5,7] (aF3 g i j k l e m c (c.length:Int) p f a 0 r s q)
def bAn:=fun a b c d e f g i j k l m n o p q r s t u v w x y z A B C=>aVZ a b c d e f g i j k l m n o p q r s t u|>.t x v y z w A B C ⟨aO (fun _=>rfl) (fun _=>rfl) _ _ _,⟨aO (fun _=>rfl) (fun _=>rfl) _ _ _,⟨kk,⟨kk,⟨(aE _ (fun _=>aQ _) _),⟨kk,⟨kk,trivial⟩⟩⟩⟩⟩⟩⟩
def bAo:=fun a b c d e f g i j k l m n o p q r s t u v=>aVZ a b c d e f g i j k l m n o p q r s t u|>.f v ⟨aO (fun _=>rfl) (fun _=>rfl) _ _ _,⟨aO (fun _=>rfl) (fun _=>rfl) _ _ _,⟨kk,⟨kk,⟨(aE _ (fun _=>aQ _) _),trivial⟩⟩⟩⟩⟩
def aV0(g:List LUnit)(d e:List (aB×Int))(f:List aB)(i:Bool)(p:List Con)(q:List aB)(r:List LFun)(s:Int)(j:List Node)(k l:List Int)(m:Int)(c:List LFun)(a:List ONode)(o:Int):=tT 4 (aF3 g d e f i p q r s j k l m c a o)<|gd 5 109 (m<s) (gX LFun.av 6 r m<|fun b=>.y fun n:List Node=>.i [rn 4,.reg (rd 6 [.call (nI (a.length:Int)) (aD [oC 0 [(.ilst 5 (map LUnit.av g) false),(.map 1),(.map 2),(.gl 3 1 0 f.length false),(bV i)],(1,(.map (aF aA aP 0 d) d.length),true),(2,(.map (aF aA aP 0 e) e.length),true),oL 3 1 (map aA f),oL 4 2 (map LFun.av c),oC 5 [(iN j),(.gl 9 4 0 (a++map Node.o n).length false),(iI k),(iI l)],oC 7 [(aA b.name),(nI b.body)],oL 9 4 (map ONode.av (a++map Node.o n))] 10),.d,.d,.app (map LFun.av (c++ [(LFun.mk b.name (a.length:Int))])) (c++ [(LFun.mk b.name (a.length:Int))]).length,.d])] [hA (Spec PP (.enter 144 [(.ptr 5 0),(nI b.body)]) (aD [oC 0 [(.ilst 5 (map LUnit.av g) false),(.map 1),(.map 2),(.gl 3 1 0 f.length false),(bV i)],(1,(.map (aF aA aP 0 d) d.length),true),(2,(.map (aF aA aP 0 e) e.length),true),oL 3 1 (map aA f),oL 4 2 (map LFun.av c),oC 5 [(iN j),(.gl 6 4 0 a.length false),(iI k),(iI l)],oL 6 4 (map ONode.av a),oC 7 [(aA b.name),(nI b.body)]] 9) (.ret (nI (a.length:Int))) (aD [oC 0 [(.ilst 5 (map LUnit.av g) false),(.map 1),(.map 2),(.gl 3 1 0 f.length false),(bV i)],(1,(.map (aF aA aP 0 d) d.length),true),(2,(.map (aF aA aP 0 e) e.length),true),oL 3 1 (map aA f),oL 4 2 (map LFun.av c),oC 5 [(iN j),(.gl 9 4 0 (a++map Node.o n).length false),(iI k),(iI l)],oC 7 [(aA b.name),(nI b.body)],oL 9 4 (map ONode.av (a++map Node.o n))] 10)),hb LFun.av c,hA (length (c++ [(LFun.mk b.name (a.length:Int))]) ≤1000000),hc LFun.av c [(LFun.mk b.name (a.length:Int))],he LFun.av c [(LFun.mk b.name (a.length:Int))],hr (aA b.name),hr (aA b.name)]<|gw 3 122 (m+1)<|.W 3 11 [10,5,9] (aF3 g d e f i p q r s j k l (m+1) (c++ [(LFun.mk b.name (a.length:Int))]) (a++map Node.o n) o))<|gw 5 123 (o+1)<|.W 3 7 [4,5,6] (aF0 g d e f i p q (o+1) j k l c a)
def bAp:=fun a b c d e f g i j k l m n o p q r s t u v w x y=>aV0 a b c d e f g i j k l m n o p q|>.t t r u v s w x y ⟨aO (fun _=>rfl) (fun _=>rfl) _ _ _,⟨aO (fun _=>rfl) (fun _=>rfl) _ _ _,⟨kk,⟨kk,⟨(aE _ (fun _=>aQ _) _),trivial⟩⟩⟩⟩⟩
def bAq:=fun a b c d e f g i j k l m n o p q r s=>aV0 a b c d e f g i j k l m n o p q|>.f r s ⟨aO (fun _=>rfl) (fun _=>rfl) _ _ _,⟨aO (fun _=>rfl) (fun _=>rfl) _ _ _,⟨kk,⟨kk,⟨(aE _ (fun _=>aQ _) _),trivial⟩⟩⟩⟩⟩
def uN(d:List LUnit):=tT 0 (aQl d)<|.o (gK 13 (.enter 63 [(.ilst 5 (map LUnit.av d) false)]) [oC 0 [.nils,.nils,(nI 0),.nils],oC 1 [(nI 0)]] 2 [((.iface 201 (.agg [(nI 2)])),false)] [oC 0 [.nils,.nils,(nI 0),.nils],oC 1 [(nI 0)]] 2<|.i [rn 44,.cnilI 0 0 4] []<|.i [.cnilI 0 1 1] []<|.i [.cnilI 0 3 2] []<|gE 0 3 (.tup [(.agg [(.ilst 4 (jN ([] :List Node)) true),(.ilst 1 (jI ([] :List Int)) true),(nI 0),(.ilst 2 (jC ([] :List Con)) true)]),(nI 2)]))<|.y fun a:List (aB×Int)=>.y fun b:List (aB×Int)=>.y fun c:List aB=>.y fun e:Bool=>gk 13 (.enter 63 [(.ilst 5 (map LUnit.av d) false)]) [oC 0 [.nils,.nils,(nI 0),.nils],oC 1 [(nI 0)]] 2 (.ptr 2 0) [oC 0 [.nils,.nils,(nI 0),.nils],oC 1 [(nI 0)],oC 2 [(.ilst 5 (map LUnit.av d) false),(.map 3),(.map 4),(.gl 5 1 0 c.length false),(bV e)],(3,(.map (aF aA aP 0 a) a.length),true),(4,(.map (aF aA aP 0 b) b.length),true),oL 5 1 (map aA c)] 6<|.o (gK 5 (.enter 77 [(.ptr 2 0)]) [oC 0 [.nils,.nils,(nI 0),.nils],oC 1 [(nI 0)],oC 2 [(.ilst 5 (map LUnit.av d) false),(.map 3),(.map 4),(.gl 5 1 0 c.length false),(bV e)],(3,(.map (aF aA aP 0 a) a.length),true),(4,(.map (aF aA aP 0 b) b.length),true),oL 5 1 (map aA c)] 6 [((.iface 201 (.agg [(nI 7)])),false)] [oC 0 [.nils,.nils,(nI 0),.nils],oC 1 [(nI 0)],oC 2 [(.ilst 5 (map LUnit.av d) false),(.map 3),(.map 4),(.gl 5 1 0 c.length false),(bV e)],(3,(.map (aF aA aP 0 a) a.length),true),(4,(.map (aF aA aP 0 b) b.length),true),oL 5 1 (map aA c)] 6<|.i [rn 44,.cnilI 0 0 4] []<|.i [.cnilI 0 1 1] []<|.i [.cnilI 0 3 2] []<|gE 0 7 (.tup [(.agg [(.ilst 4 (jN ([] :List Node)) true),(.ilst 1 (jI ([] :List Int)) true),(nI 0),(.ilst 2 (jC ([] :List Con)) true)]),(nI 7)]))<|.y fun f:List Con=>gk 5 (.enter 77 [(.ptr 2 0)]) [oC 0 [.nils,.nils,(nI 0),.nils],oC 1 [(nI 0)],oC 2 [(.ilst 5 (map LUnit.av d) false),(.map 3),(.map 4),(.gl 5 1 0 c.length false),(bV e)],(3,(.map (aF aA aP 0 a) a.length),true),(4,(.map (aF aA aP 0 b) b.length),true),oL 5 1 (map aA c)] 6 (iC f) [oC 0 [.nils,.nils,(nI 0),.nils],oC 1 [(nI 0)],oC 2 [(.ilst 5 (map LUnit.av d) false),(.map 3),(.map 4),(.gl 5 1 0 c.length false),(bV e)],(3,(.map (aF aA aP 0 a) a.length),true),(4,(.map (aF aA aP 0 b) b.length),true),oL 5 1 (map aA c)] 6<|.o (.y fun g:Int=>.i [rn 8,.ans (.look (some (xE (strOf [109,97,105,110]) a,(aP g))))] [.a (eA (strOf [109,97,105,110]) a=some g) (p':=fF (aA (strOf [109,97,105,110])) (aF aA aP 0 a) 0=some (some (xE (strOf [109,97,105,110]) a,(aP g)))) (rJ hX)]<|.b 13 29 e (.i [rn 65,.cnilI 0 0 4] []<|.i [.cnilI 0 1 1] []<|.i [.cnilI 0 3 2] []<|gE 0 7 (.tup [(.agg [(.ilst 4 (jN ([] :List Node)) true),(.ilst 1 (jI ([] :List Int)) true),(nI 0),(.ilst 2 (jC ([] :List Con)) true)]),(nI 7)]))<|.y fun j:List aB=>gk 5 (.enter 64 [(.ptr 2 0)]) [oC 0 [.nils,.nils,(nI 0),.nils],oC 1 [(nI 0)],oC 2 [(.ilst 5 (map LUnit.av d) false),(.map 3),(.map 4),(.gl 5 1 0 c.length false),(bV e)],(3,(.map (aF aA aP 0 a) a.length),true),(4,(.map (aF aA aP 0 b) b.length),true),oL 5 1 (map aA c)] 6 (iS j) [oC 0 [.nils,.nils,(nI 0),.nils],oC 1 [(nI 0)],oC 2 [(.ilst 5 (map LUnit.av d) false),(.map 3),(.map 4),(.gl 5 1 0 c.length false),(bV e)],(3,(.map (aF aA aP 0 a) a.length),true),(4,(.map (aF aA aP 0 b) b.length),true),oL 5 1 (map aA c)] 6<|gl 0 aA j<|gd 7 4 ((j.length:Int) >0) (.i [rn 51,.cnilI 0 0 4] []<|.i [.cnilI 0 1 1] []<|.i [.cnilI 0 3 2] []<|gE 0 7 (.tup [(.agg [(.ilst 4 (jN ([] :List Node)) true),(.ilst 1 (jI ([] :List Int)) true),(nI 0),(.ilst 2 (jC ([] :List Con)) true)]),(nI 7)]))<|.y fun k:Int=>gk 8 (.enter 78 [(.ptr 2 0)]) [oC 0 [.nils,.nils,(nI 0),.nils],oC 1 [(nI 0)],oC 2 [(.ilst 5 (map LUnit.av d) false),(.map 3),(.map 4),(.gl 5 1 0 c.length false),(bV e)],(3,(.map (aF aA aP 0 a) a.length),true),(4,(.map (aF aA aP 0 b) b.length),true),oL 5 1 (map aA c)] 6 (nI k) [oC 0 [.nils,.nils,(nI 0),.nils],oC 1 [(nI 0)],oC 2 [(.ilst 5 (map LUnit.av d) false),(.map 3),(.map 4),(.gl 5 1 0 c.length false),(bV e)],(3,(.map (aF aA aP 0 a) a.length),true),(4,(.map (aF aA aP 0 b) b.length),true),oL 5 1 (map aA c)] 6<|gd 2 43 (k>300) (.i [rn 60,.cnilI 0 0 4] []<|.i [.cnilI 0 1 1] []<|.i [.cnilI 0 3 2] []<|gE 0 7 (.tup [(.agg [(.ilst 4 (jN ([] :List Node)) true),(.ilst 1 (jI ([] :List Int)) true),(nI 0),(.ilst 2 (jC ([] :List Con)) true)]),(nI 3)]))<|gl 1 Con.av f<|gd 7 4 ((f.length:Int) >20) (.i [rn 51,.cnilI 0 0 4] []<|.i [.cnilI 0 1 1] []<|.i [.cnilI 0 3 2] []<|gE 0 7 (.tup [(.agg [(.ilst 4 (jN ([] :List Node)) true),(.ilst 1 (jI ([] :List Int)) true),(nI 0),(.ilst 2 (jC ([] :List Con)) true)]),(nI 3)]))<|.y fun i:List LFun=>.y fun l:List Node=>gk 9 (.enter 79 [(.ptr 2 0),(iC f),.nils]) [oC 0 [.nils,.nils,(nI 0),.nils],oC 1 [(nI 0)],oC 2 [(.ilst 5 (map LUnit.av d) false),(.map 3),(.map 4),(.gl 5 1 0 c.length false),(bV e)],(3,(.map (aF aA aP 0 a) a.length),true),(4,(.map (aF aA aP 0 b) b.length),true),oL 5 1 (map aA c)] 6 (.tup [(.ilst 2 (map LFun.av i) false),(iN l)]) [oC 0 [.nils,.nils,(nI 0),.nils],oC 1 [(nI 0)],oC 2 [(.ilst 5 (map LUnit.av d) false),(.map 3),(.map 4),(.gl 5 1 0 c.length false),(bV e)],(3,(.map (aF aA aP 0 a) a.length),true),(4,(.map (aF aA aP 0 b) b.length),true),oL 5 1 (map aA c)] 6<|gl 18 LFun.av i<|.i [rn 4,.cnil 0 1 1] []<|gu 0 6 (jI ([] :List Int))<|gv 0 0 1 (.gl 6 1 0 ([] :List Int).length false)<|.W 0 7 [0,1,6] (aJ1 d i (i.length:Int) l g f 0 ([] :List Int)))<|.i [rn 8,.ans (.look none)] [.a (eA (strOf [109,97,105,110]) a=none) (p':=fF (aA (strOf [109,97,105,110])) (aF aA aP 0 a) 0=some none) (rI hX)]<|.b 13 29 e (.i [rn 65,.cnilI 0 0 4] []<|.i [.cnilI 0 1 1] []<|.i [.cnilI 0 3 2] []<|gE 0 7 (.tup [(.agg [(.ilst 4 (jN ([] :List Node)) true),(.ilst 1 (jI ([] :List Int)) true),(nI 0),(.ilst 2 (jC ([] :List Con)) true)]),(nI 7)]))<|.i [rn 65,.cnilI 0 0 4] []<|.i [.cnilI 0 1 1] []<|.i [.cnilI 0 3 2] []<|gE 0 7 (.tup [(.agg [(.ilst 4 (jN ([] :List Node)) true),(.ilst 1 (jI ([] :List Int)) true),(nI 0),(.ilst 2 (jC ([] :List Con)) true)]),(nI 7)])
def bAr:=fun a b=>uN a|>.1 b tv
def bAs:=fun a b c d e f g=>uN a|>.2 b c d e f|>.1 g tv
def bAt:=fun a b c d e f g i j k l=>uN a|>.2 b c d e i|>.2 f j|>.1 g k|>.t l tv
def bAu:=fun a b c d e f g i j k l m n o=>uN a|>.2 b c d e j|>.2 f k|>.1 g l|>.f m i n|>.t o tv
def bAv:=fun a b c d e f g i j k l m n o p q r=>uN a|>.2 b c d e k|>.2 f l|>.1 g m|>.f n i o|>.f p j q|>.t r tv
def bAw:=fun a b c d e f g i j k l m n o p q r s=>uN a|>.2 b c d e k|>.2 f l|>.1 g m|>.f n i o|>.f p j q|>.f r|>.t s tv
def bAx:=fun a b c d e f g i j k l m n o p q r s t u v=>uN a|>.2 b c d e m|>.2 f n|>.1 g o|>.f p i q|>.f r j s|>.f t|>.f u k l v ⟨kk,trivial⟩
def bAy:=fun a b c d e f g i j k=>uN a|>.2 b c d e g|>.2 f i|>.2 j|>.t k tv
def bAz:=fun a b c d e f g i j k=>uN a|>.2 b c d e g|>.2 f i|>.2 j|>.f k tv
def aV1(i:List LUnit)(c:List LFun)(d:Int)(e:List Node)(f:Int)(g:List Con)(a:Int)(b:List Int):=tT 0 (aJ1 i c d e f g a b)<|gd 5 62 (a<d) (gX LFun.av 6 c a<|fun j=>ga 10 aP b [j.body]<|gw 6 72 (a+1)<|.W 3 6 [0,1,5] (aJ1 i c d e f g (a+1) (b++ [j.body])))<|gy 3 0 1 2 1 aP b false<|gE 23 3 (.tup [(.agg [(iN e),(iI b),(nI f),(iC g)]),(nI 0)])
def bAA:=fun a b c d e f g i j k l m n o=>aV1 a b c d e f g i|>.t k j l m n o ⟨kk,trivial⟩
def bAB:=fun a b c d e f g i j=>aV1 a b c d e f g i|>.f j tv
section
variable (l :List LUnit) (mf mh:List (aB×Int)) (od:List aB) (tw:Bool) (cs:List Con) (ls:List aB) (hT:od.length≤1000) (hls:ls.length≤1000) (hcs:cs.length≤1000) (ht:TabI od tw mf mh)
include hT hls ht in
theorem aV2 (u:LUnit)(c50:List Node)(cl:List aB)(hcl:cl.length≤1000)(i:Int)(fs:List LFun)(L:List ONode) :∀ (t:List aB) (k:Nat) (acc:List Int),cl.drop k=t→acc.length=k →
  LeadsM PP 4 (aF1 l mf mh od tw cs ls cl ((cl.length:Nat) :Int) c50 u.name u.cons u.funs u.needs u.nodes (k:Int) acc i fs L).as (aF2 l mf mh od tw cs ls u.cons ((u.cons.length:Nat) :Int) c50 u.name u.funs u.needs u.nodes (acc++t.map (vO od ls)) 0 [] i fs L).as
 | [],k,acc,h,ha=>by
  have:=bA h;rw [map_nil,append_nil];exact bAm l mf mh od tw cs ls cl _ c50 u.name u.cons u.funs u.needs u.nodes k acc i fs L sd
 | s ::t,k,acc,h,ha=>by
  obtain⟨q1,q2,q3⟩ :=aY h;have ih:=aV2 u c50 cl hcl i fs L t (k+1) (acc++ [vO od ls s]) q2 (by simp [ha]);rw [append_assoc]at ih;have r2:=kO s ls 0;have g:=ht.f s;have hng:=kP s od 0;by_cases hn:aV od s=true
  · rw [if_pos hn]at g;have ef:vO od ls s=cZ s od 0:=by unfold vO;rw [if_neg (fun h=>by rw [hng.1 h]at hn;cases hn)]
    have h1:=bAk l mf mh od tw cs ls cl ((cl.length:Nat) :Int) c50 u.name u.cons u.funs u.needs u.nodes k acc i fs L s _ sd sd sd g (by simp;omega) sd;rw [←ef]at h1;exact h1.trans ih
  · rw [if_neg hn]at g;rw [not_eq_true]at hn;have ef:vO od ls s= (od.length:Int) +cZ s ls 0:=by unfold vO;rw [if_pos (hng.2 hn)]
    have hw:IntKind.i64.wrap (((length od:Nat) :Int) +cZ s ls 0) = (od.length:Int) +cZ s ls 0:=by apply wrap64<;>omega
    have h1:=bAl l mf mh od tw cs ls cl ((cl.length:Nat) :Int) c50 u.name u.cons u.funs u.needs u.nodes k acc i fs L s _ sd sd sd g (aVD ls s (by omega)) (by simp;omega) sd;rw [hw,←ef]at h1;exact h1.trans ih
include hcs in
theorem aV3 (u:LUnit)(c50:List Node)(hu:u.cons.length≤1000)(F:List Int)(i:Int)(fs:List LFun)(L:List ONode) :∀ (t:List Con) (k:Nat) (acc:List Int),u.cons.drop k=t→acc.length=k →
  LeadsM PP 4 (aF2 l mf mh od tw cs ls u.cons ((u.cons.length:Nat) :Int) c50 u.name u.funs u.needs u.nodes F (k:Int) acc i fs L).as (aF3 l mf mh od tw cs ls u.funs ((u.funs.length:Nat) :Int) c50 F (acc++t.map (fun c=>gU c.name cs 0)) 0 fs L i).as
 | [],k,acc,h,ha=>by
  have:=bA h;rw [map_nil,append_nil];exact bAo l mf mh od tw cs ls u.cons _ c50 u.name u.funs u.needs u.nodes F k acc i fs L sd
 | c::t,k,acc,h,ha=>by
  obtain⟨q1,q2,q3⟩ :=aY h;have ih:=aV3 u c50 hu F i fs L t (k+1) (acc++ [gU c.name cs 0]) q2 (by simp [ha]);rw [append_assoc]at ih;exact(bAn l mf mh od tw cs ls u.cons _ c50 u.name u.funs u.needs u.nodes F k acc i fs L c _ sd sd sd (aVE cs c.name (by omega)) (by simp;omega) sd).trans ih
abbrev bCz (f:LFun) :AObj:=.cells (putCells .leaf 0 [aA f.name,.int .i64 f.body]) 2 [] false
abbrev LFs (fs:List LFun) :AObj:=.lst 2 (map LFun.av fs)
theorem aV4 (u:LUnit)(hu:u.funs.length≤1000)(hx:∀x∈u.nodes,pL x.pats=true)(F C:List Int)(K:Nat)(i:Nat)(hi:i<1000) :∀ (t:List LFun) (k:Nat) (fs:List LFun) (L:List ONode) (ks:List Int) (r:List Node),u.funs.drop k=t→fs.length+t.length≤100000 →
  iR (cN (lR u) F C K) L.length (t.map LFun.body) =some (ks,r) →
  LeadsM PP 4 (aF3 l mf mh od tw cs ls u.funs ((u.funs.length:Nat) :Int) u.nodes F C (k:Int) fs L (i:Int)).as (aF0 l mf mh od tw cs ls ((i:Int) +1) u.nodes F C (fs++zipWith LFun.mk (t.map LFun.name) ks) (L++map Node.o r)).as
 | [],k,fs,L,ks,r,h,hf,hm=>by
  have:=bA h;cases hm;simp only [map_nil,List.zipWith_nil_left,append_nil];exact bAq l mf mh od tw cs ls u.funs _ u.nodes F C k fs L i sd sd
 | f :: t,k,fs,L,ks,r,h,hf,hm=>by
  obtain⟨q1,q2,q3⟩ :=aY h;simp only [length_cons]at hf;simp only [List.map_cons,iR]at hm;split at hm
  · rename_i ns hns;split at hm
    · rename_i ks1 r1 hm1;cases hm;have hs:=mNd_spec (lR u) F C hx K L f.body ns hns;unfold MNS at hs
      have hs':=fM (m:=1) (ks:=[5,6]) (n2:=9) (n3:=10) (v':=.int .i64 ((length L:Nat) :Int)) (args':=[.ptr 5 0,.int .i64 f.body])
       (lc:=[(0,aPe l 1 2 3 od tw,false),(1,MTb mf,true),(2,MTb mh,true),(3,iG od,true),(4,LFs fs,true),(5,MC u.nodes F C 6 (length L),false),(6,OL L,true),(7,bCz f,false)])
       (lc':=[(0,aPe l 1 2 3 od tw,false),(1,MTb mf,true),(2,MTb mh,true),(3,iG od,true),(4,LFs fs,true),(5,MC u.nodes F C 9 (length (L++map Node.o ns)),false),(7,bCz f,false),(9,OL (L++map Node.o ns),true)])
       hs (by rfl) (by rfl) (by kernel_rfl) (by rfl) (by rfl) (by kernel_rfl) (by kernel_rfl) ⟨qJ _,trivial⟩ (by kernel_rfl) ⟨qJ _,trivial⟩
      have h1:=bAp l mf mh od tw cs ls u.funs ((u.funs.length:Nat) :Int) u.nodes F C k fs L i f ns sd sd sd (mp (by kernel_rfl) hs') (by simp;omega) sd;have h3:=aV4 u hu hx F C K i hi t (k+1) (fs++ [(⟨f.name,((L.length:Nat) :Int)⟩ :LFun)]) (L++map Node.o ns) ks1 r1 q2 (by simp;omega) (by rw [List.length_append,length_map];exact hm1);have e1:fs++zipWith LFun.mk (map LFun.name (f::t)) (((L.length:Nat) :Int) ::ks1) = (fs++ [(⟨f.name,((L.length:Nat) :Int)⟩ :LFun)]) ++zipWith LFun.mk (map LFun.name t) ks1:=by simp
      have e2:L++map Node.o (ns++r1) = (L++map Node.o ns) ++map Node.o r1:=by simp
      rw [e1,e2];exact h1.trans h3
    ·cases hm
  ·cases hm
include hT hls hcs ht in
theorem aV5 (hl:l.length≤11)(hu:∀u∈l,FewU u∧∀x∈u.nodes,pL x.pats=true) :∀ (t:List LUnit) (i:Nat) (a0:List Node) (a1 a2:List Int) (fs:List LFun) (ns:List Node) (fs':List LFun) (ns':List Node),l.drop i=t→fs.length≤30*i→aFR od ls cs fs ns t=some (fs',ns') →
  Ends PP 4 (aF0 l mf mh od tw cs ls (i:Int) a0 a1 a2 fs (map Node.o ns)).as (.ret (.tup [.ilst 2 (map LFun.av fs') false,.ilst 4 (map Node.av ns') false])) (aD (THp l mf mh od tw) 4)
 | [],i,a0,a1,a2,fs,ns,fs',ns',h,ha,hm=>by
  have:=bA h;cases hm;exact bAj l mf mh od tw cs ls i a0 a1 a2 fs (map Node.o ns) ns sd rfl (by simp)
 | u ::t,i,a0,a1,a2,fs,ns,fs',ns',h,ha,hm=>by
  obtain⟨q1,q2,q3⟩ :=aY h;have hf:= (hu u (mem_of_getElem? q1)).1;have hx:= (hu u (mem_of_getElem? q1)).2;have f1:=hf.f;have f2:=hf.n;have f3:u.cons.length≤25:=by have:=hf.p;simp only [aJ,and_eq_true,decide_eq_true_eq]at this;exact this.1.1.2
  have hnm: (aH u).length=u.funs.length:=by simp [aH]
  rw [aFR]at hm;split at hm
  · rename_i ks r hk;have hkl:=aCX hk;have hc:=aMG (aH u) u.needs (by omega) (by omega)
    have hc':=fM (m:=1) (ks:=[8]) (n2:=9) (n3:=9) (v':=.ilst 1 (map aA (aH u++u.needs)) false) (args':=[.slice 8 0 2 2 1 true])
     (lc:=[(0,aPe l 1 2 3 od tw,false),(1,MTb mf,true),(2,MTb mh,true),(3,iG od,true),(4,LFs fs,true),(5,.cells (putCells .leaf 0 [.ilst 4 (map Node.av u.nodes) false,.gl 6 4 0 (length (map Node.o ns)) false,.nils,.nils]) 4 [] false,false),(6,OL (map Node.o ns),true),(7,aHE u,false),(8,aJX (aH u) u.needs,false)])
     (lc':=[(0,aPe l 1 2 3 od tw,false),(1,MTb mf,true),(2,MTb mh,true),(3,iG od,true),(4,LFs fs,true),(5,.cells (putCells .leaf 0 [.ilst 4 (map Node.av u.nodes) false,.gl 6 4 0 (length (map Node.o ns)) false,.nils,.nils]) 4 [] false,false),(6,OL (map Node.o ns),true),(7,aHE u,false),(8,aJX (aH u) u.needs,false)])
     hc (by rfl) (by kernel_rfl) (by kernel_rfl) (by rfl) (by rfl) (by kernel_rfl) (by kernel_rfl) trivial (by kernel_rfl) trivial
    have h0:=bAi l mf mh od tw cs ls i a0 a1 a2 fs (map Node.o ns) u (aH u) sd sd sd (aMD u (by omega)) (mp (by kernel_rfl) hc');have h1:=aV2 l mf mh od tw cs ls hT hls ht u u.nodes (aH u++u.needs) (by simp;omega) i fs (map Node.o ns) (aH u++u.needs) 0 [] rfl rfl;have h2:=aV3 l mf mh od tw cs ls hcs u u.nodes (by omega) (rW od ls u) i fs (map Node.o ns) u.cons 0 [] rfl rfl;have h3:=aV4 l mf mh od tw cs ls u (by omega) hx (rW od ls u) (uK cs u) u.nodes.length i (by omega) u.funs 0 fs (map Node.o ns) ks r rfl (by omega) (by rw [length_map];exact hk);rw [←List.map_append]at h3;have hb: (cG u).length=u.funs.length:=by simp [cG]
    exact h0.ends (h1.ends (h2.ends (h3.ends (aV5 hl hu t (i+1) _ _ _ _ (ns++r) fs' ns' q2 (by simp;omega) hm))))
  ·cases hm
include hT hls hcs ht in
theorem aV6 (hl:l.length≤11)(hu:∀u∈l,FewU u∧∀x∈u.nodes,pL x.pats=true){fs:List LFun}{ns:List Node}(h:aFR od ls cs [] [] l=some (fs,ns)) :
  Spec PP (.enter 79 [.ptr 0 0,.ilst 2 (map Con.av cs) false,.ilst 1 (map aA ls) false]) (aD (THp l mf mh od tw) 4) (.ret (.tup [.ilst 2 (map LFun.av fs) false,.ilst 4 (map Node.av ns) false])) (aD (THp l mf mh od tw) 4) :=by
 suffices hh:Ends PP 4 (aVX l mf mh od tw cs ls).as (.ret (.tup [.ilst 2 (map LFun.av fs) false,.ilst 4 (map Node.av ns) false])) (aD (THp l mf mh od tw) 4)from⟨(aVX l mf mh od tw cs ls).as.fr,by kernel_rfl,mp (by kernel_rfl) hh⟩
 exact(bAh l mf mh od tw cs ls).ends (aV5 l mf mh od tw cs ls hT hls hcs ht hl hu l 0 [] [] [] [] [] fs ns rfl (by simp) h)
end
theorem aSm {f:Nat}{args args':List AV}{h h':Hp}{res:Res}(hs:Spec PP (.enter f args) h res h')(hl:args'.length=args.length)(ha:∀ (E:Emb) (i:Nat) (a a':AV) (c:Value),args[i]?=some a→args'[i]?=some a'→VR E a' c→VR E a c) :Spec PP (.enter f args') h res h':=by
 obtain⟨g,hg,he⟩ :=hs;simp only [dP,cK]at hg;split at hg
 · rename_i fn hfn;split at hg
   · rename_i c hc;cases hg;refine⟨_,by simp only [dP,cK,hfn,hc];rfl,?_⟩;intro hm E fr ccs w hfr fs r cl base;refine he hm E fr ccs w ?_ fs r cl base;refine⟨hfr.fn,⟨by have:=hfr.tm.1;rw [hl]at this;exact this,fun t a e=>?_⟩,hfr.todo,hfr.defers,hfr.mode,hfr.kind,hfr.round⟩;have ht:t<args.length∧args[t]?=some a:=by
      have e': (dA .leaf 0 args).at t=some a:=e;unfold dA at e';rw [bX]at e';split at e'
      ·rename_i hlt;exact⟨hlt,e'⟩
      ·cases e'
     have ht':args'[t]?=some args'[t] :=List.getElem?_eq_getElem (by omega)
     obtain⟨cv,g1,g2⟩ :=hfr.tm.2 t args'[t] (by
      show(dA .leaf 0 args').at t=_;unfold dA;rw [bX,if_pos (by omega)];exact ht')
     exact⟨cv,g1,ha E t _ _ cv ht.2 ht' g2⟩
   ·cases hg
 ·cases hg
theorem oJ (s:aB) :∀ (l:List LUnit) (i:Nat),aDG s l i<0↔aV (bS l) s=false
 | [],i=>by simp [aDG,aV,bS]
 | u ::l,i=>by
  rw [aDG,rR,pM];by_cases e:aV (aH u) s=true
  · rw [if_pos e,e,Bool.true_or];constructor
    ·intro h;omega
    ·intro h;cases h
  · rw [if_neg e,oJ s l (i+1)];rw [not_eq_true]at e;rw [e,Bool.false_or]
abbrev yC :AObj:=.cells (putCells .leaf 0 [.int .i64 0]) 1 [] false
abbrev aPh :AObj:=.cells (putCells .leaf 0 [.nils,.nils,.int .i64 0,.nils]) 4 [] false
abbrev aHM (l:List LUnit)(mf mh:List (aB×Int))(od:List aB)(tw:Bool) :List (Nat×AObj×Bool) :=[(0,aPh,false),(1,yC,false),(2,aPe l 3 4 5 od tw,false),(3,MTb mf,true),(4,MTb mh,true),(5,iG od,true)]
section
variable (l :List LUnit) (mf mh:List (aB×Int)) (od:List aB) (tw:Bool)
theorem aV7 {f:Nat}{args args':List AV}{res:Res}(hs:Spec PP (.enter f args) (aD (THp l mf mh od tw) 4) res (aD (THp l mf mh od tw) 4))(hargs:AV.renL (eO 0 4 6 [2,3,4,5]) args=args')(hv:aBG res) :
  Spec PP (.enter f args') (aD (aHM l mf mh od tw) 6) res (aD (aHM l mf mh od tw) 6) :=
 aEU (ks:=[2,3,4,5]) (n2:=6) (lc:=aHM l mf mh od tw) (lc':=aHM l mf mh od tw) hs hargs hv (by kernel_rfl) (by kernel_rfl) ⟨nJ _,nJ _,jJ _,trivial⟩ (by kernel_rfl) ⟨nJ _,nJ _,jJ _,trivial⟩
theorem bEw (hs:aAo PP (.enter 63 [.ilst 5 (map LUnit.av l) false]) (aD [] 0) (.ret (.ptr 0 0)) (aD (THp l mf mh od tw) 4)) :
  Spec PP (.enter 63 [.ilst 5 (map LUnit.av l) false]) (aD [(0,aPh,false),(1,yC,false)] 2) (.ret (.ptr 2 0)) (aD (aHM l mf mh od tw) 6) :=
 fM (m:=0) (ks:=[]) (n2:=2) (n3:=6) (v':=.ptr 2 0) (args':=[.ilst 5 (map LUnit.av l) false]) (lc:=[(0,aPh,false),(1,yC,false)]) (lc':=aHM l mf mh od tw)
  hs (by rfl) (by rfl) (by kernel_rfl) (by rfl) (by rfl) (by kernel_rfl) (by kernel_rfl) trivial (by kernel_rfl) ⟨nJ _,nJ _,jJ _,trivial⟩
end
section
variable (l :List LUnit) (mf mh:List (aB×Int)) (od:List aB) (tw:Bool)
end
theorem bCA (l:List LUnit)(fs:List LFun)(ns:List Node)(mn:Int)(c:List Con)(hf:fs.length≤1000) :∀ (t:List LFun) (i:Nat) (acc:List Int),fs.drop i=t→acc.length=i →
  Ends PP 0 (aJ1 l fs ((fs.length:Nat) :Int) ns mn c (i:Int) acc).as (.ret (.tup [Prog.av ⟨ns,acc++t.map LFun.body,mn,c⟩,.int .i64 0])) (aD [] 0)
 | [],i,acc,h,ha=>by
  have:=bA h;rw [map_nil,append_nil];exact bAB l fs _ ns mn c i acc sd
 | f::t,i,acc,h,ha=>by
  obtain⟨q1,q2,q3⟩ :=aY h;have ih:=bCA l fs ns mn c hf t (i+1) (acc++ [f.body]) q2 (by simp [ha]);rw [append_assoc]at ih;exact(bAA l fs _ ns mn c i acc f sd sd sd (by simp;omega) sd).ends ih
theorem aF4 (l:List LUnit)(hl:l.length≤11)(hu:∀u∈l,FewU u∧aMH u) :Pure PP 24 [.ilst 5 (map LUnit.av l) false] (.tup [Prog.av (xX l).1,.int .i64 (xX l).2]) :=by
 have hf:=fun u h=> (hu u h).1;have hal:=aFJ l hf;have err:∀e:Int,Ends PP 0 (aQl l).as (.ret (.tup [aJu,.int .i64 e])) (aD [] 0) →Pure PP 24 [.ilst 5 (map LUnit.av l) false] (.tup [Prog.av aB6,.int .i64 e]) :=fun e h=>
  aHw (dT (s:=aQl l) (by kernel_rfl) (by kernel_rfl) (by simp [keylessL,keyless]) (by simp [keylessL,keyless]) h) (fun E cv hv=>aYj hv)
 unfold xX;by_cases h0:gB l=true
 · rw [if_pos h0];obtain⟨hl10,hg⟩ :=aB7 hf h0;obtain⟨mf,mh,ht,hs⟩ :=aVS l hu h0;have s0:=bEw l mf mh _ _ hs;have hc25:∀u∈l,u.cons.length≤25:=fun u h=> (hg u h).small.2;have s1:=aVW l mf mh (bS l) (!cA (bS l)) hl hc25;have s2:=aVT l mf mh (bS l) (!cA (bS l)) ht hl hf;have s3:=aVU l mf mh (bS l) (!cA (bS l)) hl (fun u h=> (hg u h).small.1);have s2':=aV7 l mf mh _ _ s2 (args':=[.ptr 2 0]) (by rfl) (by simp [aBG,keyless]);have s3':=aV7 l mf mh _ _ s3 (args':=[.ptr 2 0]) (by rfl) (by simp [aBG,keyless]);have hm:=ht.f eH;cases hc:xT l with
   | none=>
    rw [hc]at s1;exact err 7 (bAs l mf mh (bS l) _ s0 (aV7 l mf mh _ _ s1 (args':=[.ptr 2 0]) (by rfl) (by simp [aBG,keyless,keylessL])))
   | some c =>
    rw [hc]at s1;have s1':=aV7 l mf mh _ _ s1 (args':=[.ptr 2 0]) (by rfl) (by simp [aBG,keyless]);have hcl:=aHH hf hc;dsimp only;cases h5:aV (bS l) eH with
    | false=>
     rw [h5,if_neg (by simp)]at hm;rw [if_neg (fun h=>h.2.2 ((oJ eH l 0).2 h5))];cases h3:cA (bS l)with
     | false=>
      rw [h3]at s0 s1';exact err 7 (bAy l mf mh (bS l) true c s0 s1' hm rfl)
     | true=>
      rw [h3]at s0 s1';exact err 7 (bAz l mf mh (bS l) false c s0 s1' hm rfl)
    | true =>
     rw [h5,if_pos rfl]at hm;have h5':¬aDG eH l 0<0:=fun h=>by rw [(oJ eH l 0).1 h]at h5;cases h5
     cases h3:cA (bS l)with
     | false=>
      rw [h3]at s0 s1';rw [if_neg (fun h=>by cases h.1)];exact err 7 (bAt l mf mh (bS l) true c _ s0 s1' hm rfl)
     | true =>
      by_cases h4:fG l= []
      · rw [if_pos ⟨rfl,h4,h5'⟩];have hp:=bCl (ls:=[]) (cs:=c) hl10 hg (by simp);have s4:=aV6 l mf mh (bS l) (!cA (bS l)) c [] (by omega) (by simp) (by simp at hcl;omega) ht hl (fun u h=> ⟨hf u h,aZc (hg u h)⟩) hp.eq;have s4a:=aV7 l mf mh _ _ s4 (args':=[.ptr 2 0,.ilst 2 (map Con.av c) false,.ilst 1 (map aA []) false]) (by kernel_rfl) (by simp [aBG,keyless,keylessL])
        have s4':=aSm s4a (args':=[.ptr 2 0,.ilst 2 (map Con.av c) false,.nils]) rfl (fun E i a a' cv e1 e2 hv=>by
         match i with
         |0=>simp only [List.getElem?_cons_zero,Option.some.injEq]at e1 e2;rw [←e1,e2];exact hv
         |1=>simp only [List.getElem?_cons_succ,List.getElem?_cons_zero,Option.some.injEq]at e1 e2;rw [←e1,e2];exact hv
         | 2=>
          simp only [List.getElem?_cons_succ,List.getElem?_cons_zero,Option.some.injEq]at e1 e2;rw [←e1];rw [←e2]at hv;exact lH _ hv
         |i+3=>simp at e1)
        rw [h3]at s0 s1' s2' s3' s4';have e4:lI (bS l) [] l= [] :=h4;rw [e4]at s2';by_cases h6:aZ l≤300
        · by_cases h7:c.length≤20
          · rw [if_pos ⟨h6,h7⟩];have hff:=hp.funs
            exact dT (s:=aQl l) (by kernel_rfl) (by kernel_rfl) (by simp [keylessL,keyless]) (by simp [keylessL,keyless,Prog.av])
             ((bAx l mf mh (bS l) false c _ [] _ (aA1 [] c l).1 (aA1 [] c l).2 s0 s1' hm rfl s2' rfl s3' (by simp;omega) (by simp;omega) s4').ends
              (bCA l (aA1 [] c l).1 (aA1 [] c l).2 _ c (by omega) (aA1 [] c l).1 0 [] rfl rfl))
          · rw [if_neg (fun h=>h7 h.2)];exact err 3 (bAw l mf mh (bS l) false c _ [] _ s0 s1' hm rfl s2' rfl s3' (by simp;omega) (by simp;omega))
        · rw [if_neg (fun h=>h6 h.1)];exact err 3 (bAv l mf mh (bS l) false c _ [] _ s0 s1' hm rfl s2' rfl s3' (by simp;omega))
      · rw [if_neg (fun h=>h4 h.2.1)];have:0< (fG l).length:=List.length_pos_iff.2 h4;rw [h3]at s0 s1' s2';exact err 7 (bAu l mf mh (bS l) false c _ (fG l) s0 s1' hm rfl s2' (decide_eq_true (by omega)))
 · rw [if_neg h0];rw [not_eq_true]at h0;exact err 2 (bAr l (bDu l hu h0 _))
theorem aMK {out o:List Con}{c:Con}(h:aAs out c=some o)(hd: (out.map Con.name).Nodup) : (o.map Con.name).Nodup∧ (∀d∈o,d∈out∨d=c) ∧ (∀d∈out,d∈o) ∧c∈o:=by
 unfold aAs at h;split at h
 · rename_i hf;cases h
   have hno:c.name∉out.map Con.name:=fun hm=>by
    obtain⟨d,hd1,hd2⟩ :=List.mem_map.1 hm;have:=List.find?_eq_none.1 hf d hd1;simp [hd2]at this
   refine⟨?_,fun d h=>by simpa using h,fun d h=>by simp [h],by simp⟩;rw [List.map_append,nodup_append];refine⟨hd,by simp,fun a ha b hb e=>?_⟩;simp at hb;exact hno (by rw [←hb,←e];exact ha)
 · rename_i d hf;split at h
   · rename_i ha;cases h;have h1:=List.mem_of_find?_eq_some hf;have h2:=List.find?_some hf;have h3:d.name=c.name:=by simpa using h2
     have e:c=d:=by
      obtain⟨a,b⟩ :=c;obtain⟨a',b'⟩ :=d;simp only at ha h3;rw [ha,h3]
     exact⟨hd,fun d h=>.inl h,fun d h=>h,by rw [e];exact h1⟩
   ·cases h
theorem aDJ :∀ {t out o:List Con},rU out t=some o→ (out.map Con.name).Nodup→ (o.map Con.name).Nodup∧ (∀d∈o,d∈out∨d∈t) ∧ (∀d∈out,d∈o) ∧∀c∈t,c∈o
 | [],out,o,h,hd=>by cases h;exact⟨hd,fun d h=>.inl h,fun d h=>h,fun c h=>by cases h⟩
 | c :: t,out,o,h,hd=>by
  rw [rU]at h;split at h
  · rename_i o1 h1;obtain⟨a1,a2,a3,a4⟩ :=aMK h1 hd;obtain⟨b1,b2,b3,b4⟩ :=aDJ h a1;refine⟨b1,fun d hd=>?_,fun d hd=>b3 d (a3 d hd),fun d hd=>?_⟩
    · rcases b2 d hd with g|g
      · rcases a2 d g with g|g
        ·exact .inl g
        ·exact .inr (by rw [g];exact mem_cons_self ..)
      ·exact .inr (mem_cons_of_mem _ g)
    · rcases List.mem_cons.1 hd with g|g
      ·rw [g];exact b3 c a4
      ·exact b4 d g
  ·cases h
theorem yD :∀ {l:List LUnit} {out o:List Con},mY out l=some o→ (out.map Con.name).Nodup→ (o.map Con.name).Nodup∧ (∀d∈o,d∈out∨∃u∈l,d∈u.cons) ∧ (∀d∈out,d∈o) ∧∀u∈l,∀c∈u.cons,c∈o
 | [],out,o,h,hd=>by cases h;exact⟨hd,fun d h=>.inl h,fun d h=>h,fun c h=>by cases h⟩
 | u :: l,out,o,h,hd=>by
  rw [mY]at h;split at h
  · rename_i o1 h1;obtain⟨a1,a2,a3,a4⟩ :=aDJ h1 hd;obtain⟨b1,b2,b3,b4⟩ :=yD h a1;refine⟨b1,fun d hd=>?_,fun d hd=>b3 d (a3 d hd),fun v hv=>?_⟩
    · rcases b2 d hd with g| ⟨v,g1,g2⟩
      · rcases a2 d g with g|g
        ·exact .inl g
        ·exact .inr ⟨u,mem_cons_self ..,g⟩
      ·exact .inr ⟨v,mem_cons_of_mem _ g1,g2⟩
    · rcases List.mem_cons.1 hv with g|g
      ·rw [g];exact fun c hc=>b3 c (a4 c hc)
      ·exact b4 v g
  ·cases h
theorem aDK (own:List aB) :∀ (t out:List aB),(∀s,aV out s=true→aV (pK own out t) s=true) ∧∀s∈t,aV own s=true∨aV (pK own out t) s=true
 | [],out=> ⟨fun s h=>h,fun s h=>by cases h⟩
 | x :: t,out=>by
  rw [pK];obtain⟨h1,h2⟩ :=aDK own t (if aV own x=true∨aV out x=true then out else out++ [x])
  have h0:∀s,aV out s=true→aV (if aV own x=true∨aV out x=true then out else out++ [x]) s=true:=fun s h=>by
   split
   ·exact h
   ·rw [pM,h];rfl
  refine⟨fun s h=>h1 s (h0 s h),fun s hs=>?_⟩;rcases List.mem_cons.1 hs with rfl|hs
  · by_cases ho:aV own s=true
    ·exact .inl ho
    · refine .inr (h1 s ?_);split
      · rename_i g;exact g.resolve_left ho
      ·rw [pM];simp [aV]
  ·exact h2 s hs
theorem mZ (own:List aB) :∀ (l:List LUnit) (out:List aB),(∀s,aV out s=true→aV (lI own out l) s=true) ∧∀u∈l,∀s∈u.needs,aV own s=true∨aV (lI own out l) s=true
 | [],out=> ⟨fun s h=>h,fun u h=>by cases h⟩
 | u::l,out=>by
  rw [lI];obtain⟨h1,h2⟩ :=mZ own l (pK own out u.needs);obtain⟨g1,g2⟩ :=aDK own u.needs out;refine⟨fun s h=>h1 s (g1 s h),fun v hv s hs=>?_⟩;rcases List.mem_cons.1 hv with rfl|hv
  ·exact(g2 s hs).imp_right (h1 s)
  ·exact h2 v hv s hs
theorem aML {l:List LUnit}{u:LUnit}(hu:u∈l){s:aB}(hs:s∈aH u) :s∈bS l:=List.mem_flatten.2 ⟨aH u,List.mem_map.2 ⟨u,hu,rfl⟩,hs⟩
theorem aPi {l:List LUnit}{u:LUnit}(hu:u∈l) :aQd (bS l) (fG l) u:=fun s hs=>by
 unfold vO;split
 · rename_i h;have h1:aV (bS l) s=false:= (kP s _ 0).1 h;have h2:aV (fG l) s=true:=by
    rcases List.mem_append.1 hs with g|g
    ·rw [hasS_mem.2 (aML hu g)]at h1;cases h1
    · rcases(mZ (bS l) l []).2 u hu s g with g|g
      ·rw [g]at h1;cases h1
      ·exact g
   have:¬cZ s (fG l) 0<0:=fun g=>by rw [(kP s _ 0).1 g]at h2;cases h2
   omega
 ·omega
def aCc (l:List LUnit)(cs:List Con) :Prog:= ⟨lK (bS l) [] cs 0 l,rY 0 l,cZ eH (bS l) 0,cs⟩
structure LinkOk (l:List LUnit) (cs:List Con) :Prop where
 hl:l.length≤10
 good:∀u∈l,GoodU u
 cons:xT l=some cs
 differ:cA (bS l) =true
 lost:fG l= []
 main:¬aDG eH l 0<0
 size:aZ l≤300
 c20:cs.length≤20
theorem bAC {ls:List aB}{cs:List Con}{l:List LUnit}(hl:l.length≤10)(hg:∀u∈l,GoodU u)(hls:ls.length≤1000)(hn:∀u∈l,aQd (bS l) ls u) :aA1 ls cs l= (aFU 0 l,lK (bS l) ls cs 0 l) :=by
 have h1:=aFJ l (fun u h=> (hg u h).few);have h2:=aFT hg;unfold aA1;rw [aQe (by omega) hls l [] [] (fun u hu=> ⟨hg u hu,hn u hu⟩) (by simp;omega)];rfl
theorem aQm :∀ (l:List LUnit) (i:Nat),i<aZ l→∃l1 u l2 j,l=l1++u::l2∧j<u.nodes.length∧i=aZ l1+j
 | [],i,h=>by simp [aZ]at h
 | u ::l,i,h=>by
  rw [aZ]at h;by_cases hi:i<u.nodes.length
  ·exact⟨[],u,l,i,rfl,hi,by simp [aZ]⟩
  · obtain⟨l1,v,l2,j,h1,h2,h3⟩ :=aQm l (i-u.nodes.length) (by omega);exact⟨u::l1,v,l2,j,by rw [h1];rfl,h2,by rw [aZ];omega⟩
theorem aPj {u:LUnit}(h:GoodU u)(off:Nat) :∀f∈aMy off u,(off:Int) ≤f∧f<off+u.nodes.length:=fun f hf=>by
 have hw:=uL h;obtain⟨k,hk,rfl⟩ :=List.mem_map.1 hf;have hr:=hw.fine.funs k hk;obtain⟨j,hj⟩ :=hw.mem hr.1 hr.2;have h1:= (List.getElem?_eq_some_iff.1 hj).1;rw [hw.len]at h1
 change j<u.nodes.length at h1
 rw [hw.toL off j k hj];omega
theorem aDL :∀ (l:List LUnit) (off:Nat),(∀u∈l,GoodU u) →∀f∈rY off l,(off:Int) ≤f∧f<off+aZ l
 | [],off,_,f,hf=>by cases hf
 | u ::l,off,hg,f,hf=>by
  rw [rY]at hf;rw [aZ];rcases List.mem_append.1 hf with h|h
  · have:=aPj (hg u (mem_cons_self ..)) off f h;omega
  · have:=aDL l _ (fun x hx=>hg x (mem_cons_of_mem _ hx)) f h;omega
theorem bAD {u:LUnit}(h:GoodU u) : (aH u).length≤u.nodes.length:=by
 unfold aH;rw [length_map];rcases h.cases with⟨h0,_⟩ | ⟨_,hr⟩
 ·rw [h0];simp
 · have:= (Fs.of (kN h.few) hr).head.2.2.1;simpa [fC,cG]using this
theorem aQn :∀ (l:List LUnit),(∀u∈l,GoodU u) → (bS l).length≤aZ l
 | [],_=>by simp [bS]
 | u::l,hg=>by
  have:=bAD (hg u (mem_cons_self ..));have:=aQn l (fun x hx=>hg x (mem_cons_of_mem _ hx));rw [rR,aZ,List.length_append];omega
theorem aSn {u:LUnit}(h:GoodU u){c:Con}(hc:c∈u.cons) :fW c=true∧c.name.length≤40:=by
 have hp:=h.few.p;simp only [aJ,and_eq_true,eU]at hp;refine⟨?_,by simpa using List.all_eq_true.1 hp.1.2 c hc⟩;have hf:=h.formed;unfold iT at hf;simp only [and_eq_true]at hf;have h2:=hf.2;split at h2
 · simp only [and_eq_true]at h2;exact(Fs.of (aAZ h.few) h2.2).head.2.2.2.2.2.2 c hc
 ·exact(Fs.of (kN h.few) h2).head.2.2.2.2.2.2 c hc
section
variable {l :List LUnit} {cs:List Con}
theorem LinkOk.laid (h:LinkOk l cs){l1 l2:List LUnit}{u:LUnit}(hl:l=l1++u::l2) :Laid (aCc l cs) (aZ l1) (dN u) (mfU (bS l) [] u) (mcU cs u) (toL (dN u) (aZ l1)) :=
 aFV h.good rfl hl
theorem bAE {l:List LUnit}{cs:List Con}(hc:xT l=some cs){u:LUnit}(hu:u∈l){i:Nat}{d:Con}(hd:u.cons[i]?=some d) :0≤lQ (mcU cs u) (i:Int) ∧cs[(lQ (mcU cs u) (i:Int)).toNat]?=some d:=by
 have hf:=yD hc (by simp);have hm:=hf.2.2.2 u hu d (mem_of_getElem? hd);obtain⟨j,hj⟩ :=List.mem_iff_getElem?.1 hm;have e:=aEi cs u.cons 0 [] i d hd;rw [show(0:Int) + (i:Int) =i by omega,aB0 hf.1 hj]at e;unfold mcU;rw [e];exact⟨by omega,by rw [Int.toNat_natCast];exact hj⟩
theorem aV8 {T ls:List aB}{s:aB}(h:aV T s=true) :0≤vO T ls s∧vO T ls s<T.length∧T[(vO T ls s).toNat]?=some s:=by
 unfold vO;split
 · rename_i g;rw [(kP s T 0).1 g]at h;cases h
 · rename_i g;rcases kO s T 0 with r| ⟨_,r1,r2⟩
   ·omega
   ·exact⟨by omega,by omega,by simpa using r2⟩
theorem LinkOk.own (h:LinkOk l cs){u:LUnit}(hu:u∈l){s:aB}(hs:s∈aH u++u.needs) :aV (bS l) s=true:=by
 rcases List.mem_append.1 hs with g|g
 ·exact hasS_mem.2 (aML hu g)
 · rcases(mZ (bS l) l []).2 u hu s g with g|g
   ·exact g
   · change aV (fG l) s=true at g
     rw [h.lost]at g;cases g
theorem LinkOk.maps (h:LinkOk l cs){u:LUnit}(hu:u∈l) :MapsOk (rX u) (aCc l cs) (mfU (bS l) [] u) (mcU cs u) :=by
 refine⟨fun i h0 h1=>?_,fun i d hd=>bAE h.cons hu hd⟩;have hw: (rX u).funs.length=u.funs.length+u.needs.length:=by simp [rX]
 rw [hw]at h1;obtain⟨s,hs,e⟩ :=aO1 (T:=bS l) (ls:=[]) (u:=u) h0 (by omega);have:=aV8 (ls:=[]) (h.own hu (mem_of_getElem? hs));rw [e];have e2: (aCc l cs).funs.length= (bS l).length:=aC0 l 0;omega
theorem LinkOk.len (h:LinkOk l cs) : (aCc l cs).nodes.length=aZ l:=aCZ l 0 h.good
theorem LinkOk.walk (h:LinkOk l cs) :dX (aCc l cs) = (List.range (aZ l)).map fun(i:Nat) => (i:Int) :=by
 have e:=aFW (T:=bS l) (ls:=[]) (cs:=cs) (a:=aCc l cs) h.good rfl (N:= (aCc l cs).nodes.length) (by rw [h.len];exact Nat.le_refl _) l [] rfl;unfold dX
 change ((rY (aZ []) l).map _).flatten=_
 rw [e];refine List.map_congr_left (fun i _=>?_);simp [aZ]
theorem LinkOk.fs (h:LinkOk l cs) :Fs (aCc l cs) :=by
 have hf:=yD h.cons (by simp);have hm:0≤cZ eH (bS l) 0∧cZ eH (bS l) 0< (bS l).length:=by
  have g:¬cZ eH (bS l) 0<0:=fun g=>h.main ((oJ eH l 0).2 ((kP eH (bS l) 0).1 g));rcases kO eH (bS l) 0 with r|r<;>omega
 have hfl: (aCc l cs).funs.length= (bS l).length:=aC0 l 0;refine aB1 (N:=aZ l) h.len h.size (by omega) (by rw [hfl];exact aQn l h.good) hm.1 (by rw [hfl];exact hm.2) h.c20 (fun c hc=>?_) hf.1 (fun i x hx=>?_) (fun f hf=>?_) h.walk
 · rcases hf.2.1 c hc with g| ⟨u,g1,g2⟩
   ·cases g
   ·exact aSn (h.good u g1) g2
 · have hi:= (List.getElem?_eq_some_iff.1 hx).1;rw [h.len]at hi;obtain⟨l1,u,l2,j,h1,h2,h3⟩ :=aQm l i hi;have hu:u∈l:=by rw [h1];simp
   have hg:=h.good u hu;have hw:=uL hg;have hL:=h.laid h1;have hsz:aZ l=aZ l1+ (u.nodes.length+aZ l2) :=by rw [h1,mE,aZ]
   obtain⟨k,hk⟩ :∃k,(dX (dN u))[j]?=some k:= ⟨_,List.getElem?_eq_getElem (by rw [hw.len];exact h2)⟩;have hkr:=hw.into k (mem_of_getElem? hk);obtain⟨y,hy⟩ :∃y,u.nodes[k.toNat]?=some y:= ⟨_,List.getElem?_eq_getElem (by have:=hkr.2;change k<u.nodes.length at this;omega)⟩;have e:=hL.node j k hk;rw [←h3,hx,eV (p:=dN u) hy]at e;have e:=Option.some.inj e;obtain⟨n1,_,n3⟩ :=zC hg hy;rw [e];refine⟨aMn (h.maps hu) _ n1,xU _ n3,fun c hc=>?_⟩;obtain⟨c0,hc0,rfl⟩ :=List.mem_map.1 hc;have ek:cM (dN u) k=y.kids:=by unfold cM;rw [show(dN u).nodes=u.nodes from rfl,hy]
   obtain⟨j2,hj,e2⟩ :=hw.after j k c0 hk (by rw [ek];exact hc0);rw [hL.to j2 c0 e2];have:= (List.getElem?_eq_some_iff.1 e2).1;rw [hw.len]at this
   change j2<u.nodes.length at this
   omega
 · have:=aDL l 0 h.good f hf;omega
end
def bEx(a:List LUnit):TS:=cI PP 35 [(.ilst 5 (map LUnit.av a) false)] [] 0
def aV9(a:List LUnit):=tT 0 (bEx a)<|gG 7 13 [(.ilst 5 (map LUnit.av a) false)]<|fun b=>.b 1 5 b (gG 1 18 [(.ilst 5 (map LUnit.av a) false)]<|fun c=>gE 4 0 (bV c))<|gE 6 0 (bV false)
def bAF:=fun a b c d e f=>aV9 a b d|>.t e c f tv
def bAG:=fun a b c d=>aV9 a b c|>.f d tv
structure Mover where
 unit:LUnit
 prog:Prog
 names:List aB
def Mover.av (m:Mover) :AV:=.agg [aA m.unit.name,.ilst 2 (map Con.av m.unit.cons) false,.ilst 2 (map LFun.av m.unit.funs) false,.ilst 1 (map aA m.unit.needs) false,.ilst 4 (map Node.av m.unit.nodes) false,.ilst 4 (map Node.av m.prog.nodes) false,.ilst 1 (map aP m.prog.funs) false,.int .i64 m.prog.main,.ilst 2 (map Con.av m.prog.cons) false,.ilst 1 (map aA m.names) false]
end
end Go.Hb
