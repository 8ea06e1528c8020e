/- A machine on abstract values, its soundness, ways, plain laws. -/
import Derived.Test.YtfaikcecgpcimaaGreatHF
import Derived.Test.YtfaikcecgpcimaaGreatHG
import Derived.Test.YtfaikcecgpcimaaGreatHK
import Derived.Test.YtfaikcecgpcimaaGreatHL
import Derived.Test.YtfaikcecgpcimaaGreatHM
import Derived.Test.YtfaikcecgpcimaaGreatHH
set_option linter.defProp false
set_option linter.unusedVariables false
set_option linter.unusedSimpArgs false
set_option linter.unusedSectionVars false
set_option maxRecDepth 100000
set_option maxHeartbeats 4000000
namespace Go.Hb
open Bool (and_eq_true)
open List (append_assoc append_nil cons_append drop getElem?_eq_getElem getElem?_map length length_append length_cons length_map length_set map map_append map_cons map_map mem_cons_of_mem mem_cons_self mem_of_getElem? range replicate set take zipWith)
open Pats (av)
open Go.Proofs Tryz
noncomputable section
def aTp(b:List Node)(c d:List Int)(a:List ONode)(e f:Int)(g:aC)(i:List Pat):TS:=dB PP 206 [(.ptr 0 0),(.agg [(nI e),(nI f),(aB g),(iP i)])] [oC 0 [(iN b),(.gl 1 4 0 a.length false),(iI c),(iI d)],oL 1 4 (map ONode.av a)] 2
def aEE(d:List Node)(e f:List Int)(a:List ONode)(g k:Int)(l:aC)(b:List Pat)(i j:Int)(c:List Pat):TS:=⟨(tf 206 42 [kp 0 0,kp 4 2,kp 5 3,(26,(iP b)),(27,(nI (b.length:Int))),(28,(nI j))] [kc f206 244,kl f206 244,.inBlock 0,kc f206 31]),[],[oC 0 [(iN d),(.gl 1 4 0 a.length false),(iI e),(iI f)],oL 1 4 (map ONode.av a),oC 2 [(nI 0),(nI 0),(.str 0 0),.nils],oC 3 [(nI g),(nI i),(.str 0 0),(.gl 4 4 0 c.length false)],oL 4 4 (av c)],5⟩
def aTq(b:List Node)(c d:List Int)(a:List ONode)(e:Int):TS:=dB PP 144 [(.ptr 0 0),(nI e)] [oC 0 [(iN b),(.gl 1 4 0 a.length false),(iI c),(iI d)],oL 1 4 (map ONode.av a)] 2
def vZ(c:List Node)(d e:List Int)(a:List ONode)(p:Int)(f:List Pat)(g i j:Int)(k:List Int)(l:List Pat)(m n o:Int)(b:List Pat):TS:=⟨(tf 144 94 [kp 0 0,(4,(nI 0)),kp 5 1,kp 6 2,(56,(iP f)),(57,(nI g)),(58,(nI o))] [kc f144 500,kl f144 500,.inBlock 1,kc f144 63]),[],[oC 0 [(iN c),(.gl 3 4 0 a.length false),(iI d),(iI e)],oC 1 [(nI i),(nI j),(iI k),(iP l)],oC 2 [(nI m),(nI n),.nils,(.gl 4 4 0 b.length false)],oL 3 4 (map ONode.av a),oL 4 4 (av b)],5⟩
def aIn(d:List Node)(e f:List Int)(a:List ONode)(i:Int)(b:List Int)(g:Int)(c:List ONode):TS:=⟨(tf 207 39 [kp 0 0,(2,(nI (a.length:Int))),(3,(.func 144 [(.ptr 0 0)] [])),(11,(iI b)),(12,(nI g)),(13,(nI 0))] [kc f207 12,kl f207 12,.inBlock 0]),[(tf 144 94 [(4,(nI 0)),(9,(nI (a.length:Int))),kp 86 0,(88,(iI b)),(89,(nI (a.length:Int))),(91,(.func 144 [(.ptr 0 0)] []))] [ko f144 510 6,kc f144 511])],[oC 0 [(iN d),(.gl 1 4 0 c.length false),(iI e),(iI f)],oL 1 4 (map ONode.av c)],2⟩
def aTr(d:List Node)(e f:List Int)(a:List ONode)(j g:Int)(b:List Int)(i:Int)(c:List ONode):TS:=⟨(tf 207 39 [kp 0 0,(2,(nI (a.length:Int))),(3,(.func 144 [(.ptr 0 0)] [])),(10,(nI g)),(11,(iI b)),(12,(nI i)),(13,(nI 0))] [kc f207 819,.inBlock 1,kc f207 103,kl f207 12,.inBlock 0]),[(tf 144 94 [(4,(nI 0)),(9,(nI (a.length:Int))),kp 86 0,(88,(iI b)),(89,(nI (a.length:Int))),(91,(.func 144 [(.ptr 0 0)] []))] [ko f144 510 6,kc f144 511])],[oC 0 [(iN d),(.gl 1 4 0 c.length false),(iI e),(iI f)],oL 1 4 (map ONode.av c)],2⟩
def aOm(d:List Node)(e f:List Int)(a:List ONode)(n g:Int)(b:List Int)(i:Int)(c:List ONode)(j:Nat)(k l:Int)(m:List Pat):TS:=⟨(tf 207 39 [kp 0 0,(2,(nI (a.length:Int))),(3,(.func 144 [(.ptr 0 0)] [])),(10,(nI g)),(11,(iI b)),(12,(nI i)),(13,(nI 0))] [kc f207 819,.inBlock 1,kc f207 103,kl f207 12,.inBlock 0]),[(tf 144 94 [(4,(nI 0)),(9,(nI (a.length:Int))),kp 86 0,(88,(iI b)),(89,(nI (a.length:Int))),(91,(.func 144 [(.ptr 0 0)] []))] [ko f144 510 6,kc f144 511])],[oC 0 [(iN d),(.gl 1 4 0 c.length false),(iI e),(iI f)],(1,(.lst 4 (set (map ONode.av c) j (.agg [(nI k),(nI l),(.gl 2 1 0 ([] :List Int).length false),(iP m)]))),false),oL 2 1 (jI ([] :List Int))],3⟩
def aBS(d:List Node)(e f:List Int)(a:List ONode)(l:Int)(b:List Int)(g:Int)(c:List ONode)(i:List Int)(j:Value)(k:Int):TS:=⟨(tf 207 39 [kp 0 0,(2,(nI (a.length:Int))),(3,(.func 144 [(.ptr 0 0)] [])),(11,(iI b)),(12,(nI g)),(13,(nI k))] [kc f207 12,kl f207 12,.inBlock 0]),[(tf 144 94 [(4,(nI 0)),(9,(nI (a.length:Int))),kp 86 0,(88,(iI b)),(89,(nI (a.length:Int))),(91,(.func 144 [(.ptr 0 0)] []))] [ko f144 510 6,kc f144 511])],[oC 0 [(iN d),(.gl 1 4 0 c.length false),(iI e),(iI f)],oL 1 4 (map ONode.av c),(2,(.lstv j 1 (jI i)),true)],3⟩
def aTs(d:List Node)(e f:List Int)(a:List ONode)(m g:Int)(b:List Int)(i:Int)(c:List ONode)(j:List Int)(k:Value)(l:Int):TS:=⟨(tf 207 39 [kp 0 0,(2,(nI (a.length:Int))),(3,(.func 144 [(.ptr 0 0)] [])),(10,(nI g)),(11,(iI b)),(12,(nI i)),(13,(nI l))] [kc f207 819,.inBlock 1,kc f207 103,kl f207 12,.inBlock 0]),[(tf 144 94 [(4,(nI 0)),(9,(nI (a.length:Int))),kp 86 0,(88,(iI b)),(89,(nI (a.length:Int))),(91,(.func 144 [(.ptr 0 0)] []))] [ko f144 510 6,kc f144 511])],[oC 0 [(iN d),(.gl 1 4 0 c.length false),(iI e),(iI f)],oL 1 4 (map ONode.av c),(2,(.lstv k 1 (jI j)),true)],3⟩
def aOn(e:List Node)(f g:List Int)(a:List ONode)(p i:Int)(b:List Int)(j:Int)(c:List ONode)(d:List Int)(k:Int)(l:Nat)(m n:Int)(o:List Pat):TS:=⟨(tf 207 39 [kp 0 0,(2,(nI (a.length:Int))),(3,(.func 144 [(.ptr 0 0)] [])),(10,(nI i)),(11,(iI b)),(12,(nI j)),(13,(nI k))] [kc f207 819,.inBlock 1,kc f207 103,kl f207 12,.inBlock 0]),[(tf 144 94 [(4,(nI 0)),(9,(nI (a.length:Int))),kp 86 0,(88,(iI b)),(89,(nI (a.length:Int))),(91,(.func 144 [(.ptr 0 0)] []))] [ko f144 510 6,kc f144 511])],[oC 0 [(iN e),(.gl 1 4 0 c.length false),(iI f),(iI g)],(1,(.lst 4 (set (map ONode.av c) l (.agg [(nI m),(nI n),(.gl 2 1 0 d.length false),(iP o)]))),false),oL 2 1 (jI d)],3⟩
def aTt(e:List Node)(f c:List Int)(g:List ONode)(d a:Int)(i:aC)(b:List Pat):=tT 2 (aTp e f c g d a i b)<|.b 22 15 (d==6) (.y fun j:Int=>.i [rn 1,.reg (rd 6 (.ans (.idx (aP j))::rd 3 []))] [hA (0≤a),.a (((c)[a.toNat]?) =some j) (bS (f:=aP))]<|gm 5 aD b<|.i [rn 4,.cnil 4 3 4] []<|gu 0 5 (av ([] :List Pat))<|gv 0 4 3 (.gl 5 4 0 ([] :List Pat).length false)<|.W 0 6 [3,4,5] (aEE e f c g d a i b j 0 ([] :List Pat)))<|gm 7 aD b<|.i [rn 4,.cnil 4 3 4] []<|gu 0 5 (av ([] :List Pat))<|gv 0 4 3 (.gl 5 4 0 ([] :List Pat).length false)<|.W 0 6 [3,4,5] (aEE e f c g d a i b a 0 ([] :List Pat))
def aWz:=fun a b c d e f g i j k l m=>aTt a b c d e f g i|>.t k j l m ⟨(aJ _ (fun _=>bB _) _),⟨dY,trivial⟩⟩
def aWA:=fun a b c d e f g i j=>aTt a b c d e f g i|>.f j ⟨(aJ _ (fun _=>bB _) _),⟨dY,trivial⟩⟩
def aTu(g:List Node)(i j:List Int)(b:List ONode)(k s:Int)(t:aC)(n:List Pat)(l m:Int)(a:List Pat):=tT 2 (aEE g i j b k s t n l m a)<|gd 5 29 (m< (n.length:Int)) (aDM 6 n m<|fun o p q r=>.y fun c:Int=>.y fun d:Int=>.y fun e:aC=>.y fun f:List Pat=>.i [rn 4,.reg (rd 4 [.call (.agg [(nI c),(nI d),(aB e),(iP f)]) (aG [oC 0 [(iN g),(.gl 1 4 0 b.length false),(iI i),(iI j)],oL 1 4 (map ONode.av b),oC 2 [(nI 0),(nI 0),(.str 0 0),.nils],oC 3 [(nI k),(nI l),(.str 0 0),(.gl 4 4 0 a.length false)],oL 4 4 (av a),oC 5 [(nI o),(nI p),(aB q),(iP r)]] 7),.d,.app (av (a++ [(Pat.mk c d e f)])) (a++ [(Pat.mk c d e f)]).length,.d,.d])] [hA (Spec PP (.enter 206 [(.ptr 0 0),(.agg [(nI o),(nI p),(aB q),(iP r)])]) (aG [oC 0 [(iN g),(.gl 1 4 0 b.length false),(iI i),(iI j)],oL 1 4 (map ONode.av b),oC 2 [(nI 0),(nI 0),(.str 0 0),.nils],oC 3 [(nI k),(nI l),(.str 0 0),(.gl 4 4 0 a.length false)],oL 4 4 (av a),oC 5 [(nI o),(nI p),(aB q),(iP r)]] 7) (.ret (.agg [(nI c),(nI d),(aB e),(iP f)])) (aG [oC 0 [(iN g),(.gl 1 4 0 b.length false),(iI i),(iI j)],oL 1 4 (map ONode.av b),oC 2 [(nI 0),(nI 0),(.str 0 0),.nils],oC 3 [(nI k),(nI l),(.str 0 0),(.gl 4 4 0 a.length false)],oL 4 4 (av a),oC 5 [(nI o),(nI p),(aB q),(iP r)]] 7)),hB aD a,hA (length (a++ [(Pat.mk c d e f)]) ≤1000000),hC aD a [(Pat.mk c d e f)],hE aD a [(Pat.mk c d e f)],hr (AV.gl 4 4 0 a.length false),hr (AV.gl 4 4 0 a.length false)]<|gw 3 40 (m+1)<|.W 3 8 [2,3,7] (aEE g i j b k s t n l (m+1) (a++ [(Pat.mk c d e f)])))<|gY 8 2 3 4 4 aD dY a false<|.E 0 5 [] (.agg [(nI k),(nI l),(.str 0 0),(iP a)]) [oC 0 [(iN g),(.gl 1 4 0 b.length false),(iI i),(iI j)],oL 1 4 (map ONode.av b)] 2
def aWB:=fun a b c d e f g i j k l m n o p q r s t u v w x y z=>aTu a b c d e f g i j k l|>.t u m n o p v w q r s t x y z ⟨(aJ _ (fun _=>bB _) _),⟨dY,trivial⟩⟩
def aWC:=fun a b c d e f g i j k l m=>aTu a b c d e f g i j k l|>.f m ⟨(aJ _ (fun _=>bB _) _),trivial⟩
def aIo(d:List Node)(e c:List Int)(g:List ONode)(f:Int):=tT 1 (aTq d e c g f)<|gX Node.av 11 d f<|fun a=>.b 22 26 (a.op==4) (gd 6 22 (a.n<0) (.y fun b:Int=>.i [rn 1,.reg (rd 7 (.ans (.idx (aP b))::rd 4 []))] [hA (0≤ (IntKind.i64.wrap ((-1:Int) -a.n))),.a (((e)[(IntKind.i64.wrap ((-1:Int) -a.n)).toNat]?) =some b) (bS (f:=aP))]<|gm 6 aD a.pats<|.i [rn 4,.cnil 3 3 4] []<|gu 0 4 (av ([] :List Pat))<|gv 0 3 3 (.gl 4 4 0 ([] :List Pat).length false)<|.W 0 5 [2,3,1,4] (vZ d e c g f a.pats (a.pats.length:Int) a.op a.n a.kids a.pats a.op (IntKind.i64.wrap ((-1:Int) -b)) 0 ([] :List Pat)))<|.b 8 42 (a.op==14) (.y fun b:Int=>.i [rn 1,.reg (rd 6 (.ans (.idx (aP b))::rd 3 []))] [hA (0≤a.n),.a (((c)[a.n.toNat]?) =some b) (bS (f:=aP))]<|gm 6 aD a.pats<|.i [rn 4,.cnil 3 3 4] []<|gu 0 4 (av ([] :List Pat))<|gv 0 3 3 (.gl 4 4 0 ([] :List Pat).length false)<|.W 0 5 [2,3,1,4] (vZ d e c g f a.pats (a.pats.length:Int) a.op a.n a.kids a.pats a.op b 0 ([] :List Pat)))<|gm 8 aD a.pats<|.i [rn 4,.cnil 3 3 4] []<|gu 0 4 (av ([] :List Pat))<|gv 0 3 3 (.gl 4 4 0 ([] :List Pat).length false)<|.W 0 5 [2,3,1,4] (vZ d e c g f a.pats (a.pats.length:Int) a.op a.n a.kids a.pats a.op a.n 0 ([] :List Pat)))<|.b 14 42 (a.op==14) (.y fun b:Int=>.i [rn 1,.reg (rd 6 (.ans (.idx (aP b))::rd 3 []))] [hA (0≤a.n),.a (((c)[a.n.toNat]?) =some b) (bS (f:=aP))]<|gm 6 aD a.pats<|.i [rn 4,.cnil 3 3 4] []<|gu 0 4 (av ([] :List Pat))<|gv 0 3 3 (.gl 4 4 0 ([] :List Pat).length false)<|.W 0 5 [2,3,1,4] (vZ d e c g f a.pats (a.pats.length:Int) a.op a.n a.kids a.pats a.op b 0 ([] :List Pat)))<|gm 8 aD a.pats<|.i [rn 4,.cnil 3 3 4] []<|gu 0 4 (av ([] :List Pat))<|gv 0 3 3 (.gl 4 4 0 ([] :List Pat).length false)<|.W 0 5 [2,3,1,4] (vZ d e c g f a.pats (a.pats.length:Int) a.op a.n a.kids a.pats a.op a.n 0 ([] :List Pat))
def aWD:=fun a b c d e f g i j k l m n=>aIo a b c d e f i j|>.t k|>.t l g m n ⟨(aJ _ (fun _=>bB _) _),⟨dY,trivial⟩⟩
def aWE:=fun a b c d e f g i j k l=>aIo a b c d e f g i|>.t j|>.f k|>.f l ⟨(aJ _ (fun _=>bB _) _),⟨dY,trivial⟩⟩
def aWF:=fun a b c d e f g i j k l m n=>aIo a b c d e f i j|>.f k|>.t l g m n ⟨(aJ _ (fun _=>bB _) _),⟨dY,trivial⟩⟩
def aWG:=fun a b c d e f g i j k=>aIo a b c d e f g i|>.f j|>.f k ⟨(aJ _ (fun _=>bB _) _),⟨dY,trivial⟩⟩
def aTv(k:List Node)(l m:List Int)(b:List ONode)(v:Int)(w:List Pat)(x n o:Int)(e:List Int)(p:List Pat)(c d q:Int)(a:List Pat):=tT 1 (vZ k l m b v w x n o e p c d q a)<|gd 5 59 (q<x) (aDM 6 w q<|fun r s t u=>.y fun f:Int=>.y fun g:Int=>.y fun i:aC=>.y fun j:List Pat=>.i [rn 4,.reg (rd 4 [.call (.agg [(nI f),(nI g),(aB i),(iP j)]) (aG [oC 0 [(iN k),(.gl 3 4 0 b.length false),(iI l),(iI m)],oC 1 [(nI n),(nI o),(iI e),(iP p)],oC 2 [(nI c),(nI d),.nils,(.gl 4 4 0 a.length false)],oL 3 4 (map ONode.av b),oL 4 4 (av a),oC 5 [(nI r),(nI s),(aB t),(iP u)]] 7),.d,.app (av (a++ [(Pat.mk f g i j)])) (a++ [(Pat.mk f g i j)]).length,.d,.d])] [hA (Spec PP (.enter 206 [(.ptr 0 0),(.agg [(nI r),(nI s),(aB t),(iP u)])]) (aG [oC 0 [(iN k),(.gl 3 4 0 b.length false),(iI l),(iI m)],oC 1 [(nI n),(nI o),(iI e),(iP p)],oC 2 [(nI c),(nI d),.nils,(.gl 4 4 0 a.length false)],oL 3 4 (map ONode.av b),oL 4 4 (av a),oC 5 [(nI r),(nI s),(aB t),(iP u)]] 7) (.ret (.agg [(nI f),(nI g),(aB i),(iP j)])) (aG [oC 0 [(iN k),(.gl 3 4 0 b.length false),(iI l),(iI m)],oC 1 [(nI n),(nI o),(iI e),(iP p)],oC 2 [(nI c),(nI d),.nils,(.gl 4 4 0 a.length false)],oL 3 4 (map ONode.av b),oL 4 4 (av a),oC 5 [(nI r),(nI s),(aB t),(iP u)]] 7)),hB aD a,hA (length (a++ [(Pat.mk f g i j)]) ≤1000000),hC aD a [(Pat.mk f g i j)],hE aD a [(Pat.mk f g i j)],hr (AV.gl 4 4 0 a.length false),hr (AV.gl 4 4 0 a.length false)]<|gw 3 70 (q+1)<|.W 3 8 [1,2,3,7] (vZ k l m b v w x n o e p c d (q+1) (a++ [(Pat.mk f g i j)])))<|gY 12 2 3 4 4 aD dY a false<|.i [.reg (rd 7 (.app (map ONode.av (b++ [(ONode.mk c d KV.nil a)])) (b++ [(ONode.mk c d KV.nil a)]).length::rd 3 []))] [hb ONode.av b,hA (length (b++ [(ONode.mk c d KV.nil a)]) ≤1000000),hc ONode.av b [(ONode.mk c d KV.nil a)],he ONode.av b [(ONode.mk c d KV.nil a)]]<|gl 12 aP e<|.W 4 7 [6] (aIn k l m b v e (e.length:Int) (b++ [(ONode.mk c d KV.nil a)]))
def aWH:=fun a b c d e f g i j k l m n o p q r s t u v w x y z A B C D=>aTv a b c d e f g i j k l m n o p|>.t y q r s t z A u v w x B C D ⟨(aJ _ (fun _=>bB _) _),⟨dY,trivial⟩⟩
def aWI:=fun a b c d e f g i j k l m n o p q r=>aTv a b c d e f g i j k l m n o p|>.f q r ⟨(aJ _ (fun _=>bB _) _),trivial⟩
def aTw(d:List Node)(e f:List Int)(c:List ONode)(k:Int)(g:List Int)(i:Int)(b:List ONode):=tT 1 (aIn d e f c k g i b)<|gd 5 14 (0<i) (gX aP 6 g 0<|fun a=>.y fun j:List Node=>gk 7 (.enter 144 [(.ptr 0 0),(nI a)]) [oC 0 [(iN d),(.gl 1 4 0 b.length false),(iI e),(iI f)],oL 1 4 (map ONode.av b)] 2 (nI (b.length:Int)) [oC 0 [(iN d),(.gl 2 4 0 (b++map Node.o j).length false),(iI e),(iI f)],oL 2 4 (map ONode.av (b++map Node.o j))] 3<|.W 2 3 [2] (aTr d e f c k (b.length:Int) g i (b++map Node.o j)))<|.y fun a:ONode=>.i [rn 11,.lw 1 (map ONode.av (set b c.length (ONode.mk a.op a.n (KV.row []) a.pats)))] [.a (b[c.length]?=some a) (p':=(map ONode.av b) ≠ []) aHu,.a (b[c.length]?=some a∧a.kv=KV.nil) (p':=VW (map ONode.av b) (map ONode.av (set b c.length (ONode.mk a.op a.n (KV.row []) a.pats)))) fun⟨ha,hb⟩=>(aRt ha hb)]<|.i [.cset 0 1 (.gl 1 4 0 (set b c.length (ONode.mk a.op a.n (KV.row []) a.pats)).length false)] [.q (p:=(AV.gl 1 4 0 b.length false) = (.gl 1 4 0 (set b c.length (ONode.mk a.op a.n (KV.row []) a.pats)).length false)) (cF (length_set ..).symm)]<|.E 0 2 [1] (nI (c.length:Int)) [oC 0 [(iN d),(.gl 1 4 0 (set b c.length (ONode.mk a.op a.n (KV.row []) a.pats)).length false),(iI e),(iI f)],oL 1 4 (map ONode.av (set b c.length (ONode.mk a.op a.n (KV.row []) a.pats)))] 2
def aWJ:=fun a b c d e f g i j k l m n o=>aTw a b c d e f g i|>.t l j m n k o ⟨(aJ _ (fun _=>bB _) _),trivial⟩
def aWK:=fun b c d e f g i j k l a m=>aTw b c d e f g i j|>.f l k a ⟨a,m⟩ ⟨(aJ _ (fun _=>bB _) _),trivial⟩
def aTx(f:List Node)(g i:List Int)(d:List ONode)(n:Int)(k:List Int)(l:Int)(b:List ONode)(c:List Int)(e:Value)(j:Int):=tT 1 (aBS f g i d n k l b c e j)<|gd 5 14 (j<l) (gX aP 6 k j<|fun a=>.y fun m:List Node=>gk 7 (.enter 144 [(.ptr 0 0),(nI a)]) [oC 0 [(iN f),(.gl 1 4 0 b.length false),(iI g),(iI i)],oL 1 4 (map ONode.av b),(2,(.lstv e 1 (jI c)),true)] 3 (nI (b.length:Int)) [oC 0 [(iN f),(.gl 3 4 0 (b++map Node.o m).length false),(iI g),(iI i)],(2,(.lstv e 1 (jI c)),true),oL 3 4 (map ONode.av (b++map Node.o m))] 4<|.W 2 4 [3,2] (aTs f g i d n (b.length:Int) k l (b++map Node.o m) c e j))<|.y fun a:ONode=>.i [rn 11,.vfrz 2 1 (map ONode.av (set b d.length (ONode.mk a.op a.n (KV.row c) a.pats)))] [.a (b[d.length]?=some a) (p':=(map ONode.av b) ≠ []) aHu,hk aP c,.a (b[d.length]?=some a∧a.kv=KV.val e) (p':=VQ e 1 (jI c) (map ONode.av b) (map ONode.av (set b d.length (ONode.mk a.op a.n (KV.row c) a.pats)))) fun⟨ha,hb⟩=>(aRu ha hb)]<|.i [.cset 0 1 (.gl 1 4 0 (set b d.length (ONode.mk a.op a.n (KV.row c) a.pats)).length false)] [.q (p:=(AV.gl 1 4 0 b.length false) = (.gl 1 4 0 (set b d.length (ONode.mk a.op a.n (KV.row c) a.pats)).length false)) (cF (length_set ..).symm)]<|.E 0 3 [1] (nI (d.length:Int)) [oC 0 [(iN f),(.gl 1 4 0 (set b d.length (ONode.mk a.op a.n (KV.row c) a.pats)).length false),(iI g),(iI i)],oL 1 4 (map ONode.av (set b d.length (ONode.mk a.op a.n (KV.row c) a.pats)))] 2
def aWL:=fun a b c d e f g i j k l m n o p q r=>aTx a b c d e f g i j k l|>.t o m p q n r ⟨(aJ _ (fun _=>bB _) _),⟨kk,trivial⟩⟩
def aWM:=fun b c d e f g i j k l m n o a p=>aTx b c d e f g i j k l m|>.f o n a ⟨a,p⟩ ⟨(aJ _ (fun _=>bB _) _),trivial⟩
theorem aWN (fr:List Node)(fs cs:List Int)(L:List ONode)(at0 n10:Int)(c1_2:List Int)(t12:Int)(l1:List ONode)(ix:Nat)(w_op w_n:Int)(w_pats:List Pat)(h0:0≤ ((L.length:Nat) :Int))(h1: ((L.length:Nat) :Int) < ((l1.length:Nat) :Int))(h2: ((L.length:Nat) :Int).toNat=ix)(h3:ix<length l1)(h4:length (([] :List Int) ++ [n10]) ≤1000000){res:Res}{h':Hp}(hk:∀ua un uc,Ends PP 1 (let u:=Value.slice ua un uc; (aBS fr fs cs L at0 c1_2 t12 (set l1 ix (ONode.mk w_op w_n (KV.val u) w_pats)) (([] :List Int) ++ [n10]) u 1)).as res h') :
  Ends PP 1 (aOm fr fs cs L at0 n10 c1_2 t12 l1 ix w_op w_n w_pats).as res h':=
 aEC (n1:=5) (t:=fun u=> (aBS fr fs cs L at0 c1_2 t12 (set l1 ix (ONode.mk w_op w_n (KV.val u) w_pats)) (([] :List Int) ++ [n10]) u 1)) (k:=1) (b:=4) (i:=ix) (o:=2) (ys:=fun u=> (map ONode.av (set l1 ix (ONode.mk w_op w_n (KV.val u) w_pats)))) (ks:=[1,4]) (ps:=fun u=>[NQ (set (map ONode.av l1) ix (.agg [(nI w_op),(nI w_n),(.gl 4 1 0 (([] :List Int) ++ [n10]).length false),(iP w_pats)])) ix 2 4 1 (jI (([] :List Int) ++ [n10])).length u (map ONode.av (set l1 ix (ONode.mk w_op w_n (KV.val u) w_pats))),0≤ ((L.length:Nat) :Int),((L.length:Nat) :Int) < ((l1.length:Nat) :Int),(set (map ONode.av l1) ix (.agg [(nI w_op),(nI w_n),(.gl 2 1 0 ([] :List Int).length false),(iP w_pats)]))[(0+ ((L.length:Nat) :Int).toNat)]?=some (.agg [(nI w_op),(nI w_n),(.gl 2 1 0 ([] :List Int).length false),(iP w_pats)]),0+ ([] :List Int).length≤length (jI ([] :List Int)),length (([] :List Int) ++ [n10]) ≤1000000,take ([] :List Int).length (drop 0 (jI ([] :List Int))) ++ (jI [n10]) = (jI (([] :List Int) ++ [n10])),([] :List Int).length+length (jI [n10]) =length (([] :List Int) ++ [n10]),0≤ ((L.length:Nat) :Int),((L.length:Nat) :Int) < ((l1.length:Nat) :Int),(set (map ONode.av l1) ix (.agg [(nI w_op),(nI w_n),(.gl 2 1 0 ([] :List Int).length false),(iP w_pats)]))[(0+ ((L.length:Nat) :Int).toNat)]?=some (.agg [(nI w_op),(nI w_n),(.gl 2 1 0 ([] :List Int).length false),(iP w_pats)]),oH (.agg [(nI w_op),(nI w_n),(.gl 2 1 0 ([] :List Int).length false),(iP w_pats)]) 2 [(.gl 4 1 0 (([] :List Int) ++ [n10]).length false)] =some (.agg [(nI w_op),(nI w_n),(.gl 4 1 0 (([] :List Int) ++ [n10]).length false),(iP w_pats)]),(AV.gl 1 4 0 l1.length false) = (AV.gl 1 4 0 l1.length false),(AV.gl 1 4 0 l1.length false) = (AV.gl 1 4 0 l1.length false),(set (map ONode.av l1) ix (.agg [(nI w_op),(nI w_n),(.gl 2 1 0 ([] :List Int).length false),(iP w_pats)])).set (0+ ((L.length:Nat) :Int).toNat) (.agg [(nI w_op),(nI w_n),(.gl 4 1 0 (([] :List Int) ++ [n10]).length false),(iP w_pats)]) = (set (map ONode.av l1) ix (.agg [(nI w_op),(nI w_n),(.gl 4 1 0 (([] :List Int) ++ [n10]).length false),(iP w_pats)])),(AV.gl 1 4 0 l1.length false) = (.gl 1 4 0 (set l1 ix (ONode.mk w_op w_n (KV.val u) w_pats)).length false),(AV.gl 1 4 0 l1.length false) = (.gl 1 4 0 (set l1 ix (ONode.mk w_op w_n (KV.val u) w_pats)).length false),(AV.gl 1 4 0 l1.length false) = (.gl 1 4 0 (set l1 ix (ONode.mk w_op w_n (KV.val u) w_pats)).length false)]) (is:=[.reg [.d,.d,.d,.d,.d,.d,.d,.d,.d,.d,.ans (.ix),.d,.ans (.idx (.agg [(nI w_op),(nI w_n),(.gl 2 1 0 ([] :List Int).length false),(iP w_pats)])),.d,.d,.app (jI (([] :List Int) ++ [n10])) (([] :List Int) ++ [n10]).length,.ans (.ix),.d,.st (.agg [(nI w_op),(nI w_n),(.gl 2 1 0 ([] :List Int).length false),(iP w_pats)]) (.agg [(nI w_op),(nI w_n),(.gl 4 1 0 (([] :List Int) ++ [n10]).length false),(iP w_pats)])],.lset 1 (set (map ONode.av l1) ix (.agg [(nI w_op),(nI w_n),(.gl 4 1 0 (([] :List Int) ++ [n10]).length false),(iP w_pats)])),.run 1]) (is2:=fun u=>[.set 23 (.gl 1 4 0 (set l1 ix (ONode.mk w_op w_n (KV.val u) w_pats)).length false),.set 28 (.gl 1 4 0 (set l1 ix (ONode.mk w_op w_n (KV.val u) w_pats)).length false),.cset 0 1 (.gl 1 4 0 (set l1 ix (ONode.mk w_op w_n (KV.val u) w_pats)).length false),.run 5]) (fun u=>by kernel_rfl) (fun u=>by kernel_rfl) (fun u=> ⟨(aJ _ (fun _=>bB _) _),⟨(aJ _ (fun _=>rfl) _),trivial⟩⟩) (fun u=> ⟨(aZo [(nI w_op),(nI w_n)] [(iP w_pats)] h3 (length_map ..) (by simp) rfl),h0,h1,(aIl h2 h3),(aHn _ _),h4,(aHo _ _ _),(aHp _ _ _),h0,h1,(aIl h2 h3),rfl,rfl,rfl,(aTn h2),(cF (length_set ..).symm),(cF (length_set ..).symm),(cF (length_set ..).symm)⟩) hk
theorem aWO (fr:List Node)(fs cs:List Int)(L:List ONode)(at0 n10:Int)(c1_2:List Int)(t12:Int)(l1:List ONode)(k2:List Int)(t13:Int)(ix:Nat)(w_op w_n:Int)(w_pats:List Pat)(h0:0≤ ((L.length:Nat) :Int))(h1: ((L.length:Nat) :Int) < ((l1.length:Nat) :Int))(h2: ((L.length:Nat) :Int).toNat=ix)(h3:ix<length l1)(h4:length (k2++ [n10]) ≤1000000)(h5: (IntKind.i64.wrap (t13+ (1:Int))) = (t13+ (1:Int))){res:Res}{h':Hp}(hk:∀ua un uc,Ends PP 1 (let u:=Value.slice ua un uc; (aBS fr fs cs L at0 c1_2 t12 (set l1 ix (ONode.mk w_op w_n (KV.val u) w_pats)) (k2++ [n10]) u (t13+ (1:Int)))).as res h') :
  Ends PP 1 (aOn fr fs cs L at0 n10 c1_2 t12 l1 k2 t13 ix w_op w_n w_pats).as res h':=
 aEC (n1:=5) (t:=fun u=> (aBS fr fs cs L at0 c1_2 t12 (set l1 ix (ONode.mk w_op w_n (KV.val u) w_pats)) (k2++ [n10]) u (t13+ (1:Int)))) (k:=1) (b:=4) (i:=ix) (o:=2) (ys:=fun u=> (map ONode.av (set l1 ix (ONode.mk w_op w_n (KV.val u) w_pats)))) (ks:=[1,4]) (ps:=fun u=>[NQ (set (map ONode.av l1) ix (.agg [(nI w_op),(nI w_n),(.gl 4 1 0 (k2++ [n10]).length false),(iP w_pats)])) ix 2 4 1 (jI (k2++ [n10])).length u (map ONode.av (set l1 ix (ONode.mk w_op w_n (KV.val u) w_pats))),0≤ ((L.length:Nat) :Int),((L.length:Nat) :Int) < ((l1.length:Nat) :Int),(set (map ONode.av l1) ix (.agg [(nI w_op),(nI w_n),(.gl 2 1 0 k2.length false),(iP w_pats)]))[(0+ ((L.length:Nat) :Int).toNat)]?=some (.agg [(nI w_op),(nI w_n),(.gl 2 1 0 k2.length false),(iP w_pats)]),0+k2.length≤length (jI k2),length (k2++ [n10]) ≤1000000,take k2.length (drop 0 (jI k2)) ++ (jI [n10]) = (jI (k2++ [n10])),k2.length+length (jI [n10]) =length (k2++ [n10]),0≤ ((L.length:Nat) :Int),((L.length:Nat) :Int) < ((l1.length:Nat) :Int),(set (map ONode.av l1) ix (.agg [(nI w_op),(nI w_n),(.gl 2 1 0 k2.length false),(iP w_pats)]))[(0+ ((L.length:Nat) :Int).toNat)]?=some (.agg [(nI w_op),(nI w_n),(.gl 2 1 0 k2.length false),(iP w_pats)]),oH (.agg [(nI w_op),(nI w_n),(.gl 2 1 0 k2.length false),(iP w_pats)]) 2 [(.gl 4 1 0 (k2++ [n10]).length false)] =some (.agg [(nI w_op),(nI w_n),(.gl 4 1 0 (k2++ [n10]).length false),(iP w_pats)]),(AV.gl 1 4 0 l1.length false) = (AV.gl 1 4 0 l1.length false),(AV.gl 1 4 0 l1.length false) = (AV.gl 1 4 0 l1.length false),(set (map ONode.av l1) ix (.agg [(nI w_op),(nI w_n),(.gl 2 1 0 k2.length false),(iP w_pats)])).set (0+ ((L.length:Nat) :Int).toNat) (.agg [(nI w_op),(nI w_n),(.gl 4 1 0 (k2++ [n10]).length false),(iP w_pats)]) = (set (map ONode.av l1) ix (.agg [(nI w_op),(nI w_n),(.gl 4 1 0 (k2++ [n10]).length false),(iP w_pats)])),(AV.gl 1 4 0 l1.length false) = (.gl 1 4 0 (set l1 ix (ONode.mk w_op w_n (KV.val u) w_pats)).length false),(AV.gl 1 4 0 l1.length false) = (.gl 1 4 0 (set l1 ix (ONode.mk w_op w_n (KV.val u) w_pats)).length false),(AV.gl 1 4 0 l1.length false) = (.gl 1 4 0 (set l1 ix (ONode.mk w_op w_n (KV.val u) w_pats)).length false),(nI (IntKind.i64.wrap (t13+ (1:Int)))) = (nI (t13+ (1:Int)))]) (is:=[.reg [.d,.d,.d,.d,.d,.d,.d,.d,.d,.d,.ans (.ix),.d,.ans (.idx (.agg [(nI w_op),(nI w_n),(.gl 2 1 0 k2.length false),(iP w_pats)])),.d,.d,.app (jI (k2++ [n10])) (k2++ [n10]).length,.ans (.ix),.d,.st (.agg [(nI w_op),(nI w_n),(.gl 2 1 0 k2.length false),(iP w_pats)]) (.agg [(nI w_op),(nI w_n),(.gl 4 1 0 (k2++ [n10]).length false),(iP w_pats)])],.lset 1 (set (map ONode.av l1) ix (.agg [(nI w_op),(nI w_n),(.gl 4 1 0 (k2++ [n10]).length false),(iP w_pats)])),.run 1]) (is2:=fun u=>[.set 23 (.gl 1 4 0 (set l1 ix (ONode.mk w_op w_n (KV.val u) w_pats)).length false),.set 28 (.gl 1 4 0 (set l1 ix (ONode.mk w_op w_n (KV.val u) w_pats)).length false),.cset 0 1 (.gl 1 4 0 (set l1 ix (ONode.mk w_op w_n (KV.val u) w_pats)).length false),.run 2,.set 38 (nI (t13+ (1:Int))),.run 3]) (fun u=>by kernel_rfl) (fun u=>by kernel_rfl) (fun u=> ⟨(aJ _ (fun _=>bB _) _),⟨(aJ _ (fun _=>rfl) _),trivial⟩⟩) (fun u=> ⟨(aZo [(nI w_op),(nI w_n)] [(iP w_pats)] h3 (length_map ..) (by simp) rfl),h0,h1,(aIl h2 h3),(aHn _ _),h4,(aHo _ _ _),(aHp _ _ _),h0,h1,(aIl h2 h3),rfl,rfl,rfl,(aTn h2),(cF (length_set ..).symm),(cF (length_set ..).symm),(cF (length_set ..).symm),(congrArg (AV.int .i64) h5)⟩) hk
abbrev MC (fr:List Node)(fs cs:List Int)(b n:Nat) :AObj:=.cells (putCells .leaf 0 [.ilst 4 (map Node.av fr) false,.gl b 4 0 n false,.ilst 1 (map aP fs) false,.ilst 1 (map aP cs) false]) 4 [] false
abbrev MHp (fr:List Node)(fs cs:List Int)(L:List ONode) :List (Nat×AObj×Bool) :=[(0,MC fr fs cs 1 (length L),false),(1,OL L,true)]
abbrev PtC (f n:Int)(s:aC)(ps:List Pat) :AObj:=.cells (putCells .leaf 0 [.int .i64 f,.int .i64 n,aB s,.ilst 4 (av ps) false]) 4 [] false
abbrev bA7 (f v:Int)(b n:Nat) :AObj:=.cells (putCells .leaf 0 [.int .i64 f,.int .i64 v,.str 0 0,.gl b 4 0 n false]) 4 [] false
abbrev XC (o v:Int)(b n:Nat) :AObj:=.cells (putCells .leaf 0 [.int .i64 o,.int .i64 v,.nils,.gl b 4 0 n false]) 4 [] false
abbrev ZPt :AObj:=.cells (putCells .leaf 0 [.int .i64 0,.int .i64 0,.str 0 0,.nils]) 4 [] false
def MPS (fr:List Node)(fs cs:List Int)(L:List ONode)(p:Pat) :Prop:=∀p',aTi p=true→aEa cs p=some p'→Spec PP (.enter 206 [.ptr 0 0,Pat.av p]) (aG (MHp fr fs cs L) 2) (.ret (Pat.av p')) (aG (MHp fr fs cs L) 2)
section
variable (fr :List Node) (fs cs:List Int) (L:List ONode)
theorem aKX (f n:Int)(s:aC)(ps:List Pat)(v:Int)(hpl:ps.length<1000000)(ih:∀p∈ps,MPS fr fs cs L p) :∀ (t:List Pat) (i:Nat) (acc t':List Pat),ps.drop i=t→acc.length=i→pC t=true→kJ cs t=some t' →
  Ends PP 2 (aEE fr fs cs L f n s ps v (i:Int) acc).as (.ret (.agg [.int .i64 f,.int .i64 v,.str 0 0,.ilst 4 (av (acc++t')) false])) (aG (MHp fr fs cs L) 2)
 | [],i,acc,t',h,ha,hn,ht=>by
  have:=bD h;cases ht;rw [append_nil];exact aWC fr fs cs L f n s ps v i acc sd
 | .mk f1 n1 s1 ps1::t,i,acc,t',h,ha,hn,ht=>by
  obtain⟨g1,g2,g3⟩ :=bC h;have hi:= (List.getElem?_eq_some_iff.1 g1).1;rw [pC,and_eq_true]at hn;simp only [kJ]at ht;split at ht
  · rename_i p' hp';split at ht
    · rename_i t1 ht1;cases ht;obtain⟨f2,n2,s2,ps2⟩ :=p';have hs:=ih (.mk f1 n1 s1 ps1) (mem_of_getElem? g1) _ hn.1 hp'
      have hs':=aDH (ks:=[0,1]) (n2:=7) (args':=[.ptr 0 0,Pat.av (.mk f1 n1 s1 ps1)])
       (lc:=[(0,MC fr fs cs 1 (length L),false),(1,OL L,true),(2,ZPt,false),(3,bA7 f v 4 (length acc),false),(4,.lst 4 (av acc),true),(5,PtC f1 n1 s1 ps1,false)])
       (lc':=[(0,MC fr fs cs 1 (length L),false),(1,OL L,true),(2,ZPt,false),(3,bA7 f v 4 (length acc),false),(4,.lst 4 (av acc),true),(5,PtC f1 n1 s1 ps1,false)])
       hs (by kernel_rfl) (aZq _) (by kernel_rfl) (by kernel_rfl) ⟨tU L,trivial⟩ (by kernel_rfl) ⟨tU L,trivial⟩
      refine(aWB fr fs cs L f n s ps v i acc f1 n1 s1 ps1 f2 n2 s2 ps2 sd sd sd hs' (by simp;omega) sd).ends ?_;have:=aKX f n s ps v hpl ih t (i+1) (acc++ [.mk f2 n2 s2 ps2]) t1 g2 (by simp [ha]) hn.2 ht1;rw [append_assoc]at this;exact this
    ·cases ht
  ·cases ht
mutual
theorem aTy :∀ (p:Pat),cC p<1000000→MPS fr fs cs L p
 | .mk f n s ps,h,p',hn,hp'=>by
  simp only [cC]at h;have:=eJ ps;refine⟨(aTp fr fs cs L f n s ps).as.fr,by kernel_rfl,?_⟩;rw [aTi,and_eq_true,decide_eq_true_eq]at hn;simp only [aEa]at hp';split at hp'
  · rename_i n' hn';split at hp'
    · rename_i ps' hps';cases hp';have hloop:=aKX fr fs cs L f n s ps n' (by omega) (aIp ps (by omega)) ps 0 [] ps' rfl rfl hn.2 hps';rw [List.nil_append]at hloop;have E:Ends PP 2 (aTp fr fs cs L f n s ps).as (.ret (Pat.av (.mk f n' s ps'))) (aG (MHp fr fs cs L) 2) :=by
       rw [hn.1]at hloop ⊢;unfold aD9 at hn';split at hn'
       · rename_i hf;split at hn'
         · rename_i h0;exact(aWz fr fs cs L f n [] ps n' (by simp [hf]) h0 hn').ends hloop
         ·cases hn'
       · rename_i hf;cases hn';exact(aWA fr fs cs L f n [] ps (by simp [hf])).ends hloop
      exact Eq.mp (by kernel_rfl) E
    ·cases hp'
  ·cases hp'
theorem aIp :∀ (ps:List Pat),aX ps<1000000→∀p∈ps,MPS fr fs cs L p
 | [],_,p,hp=>by cases hp
 | q::ps,h,p,hp=>by
  simp only [aX]at h;rcases List.mem_cons.1 hp with e|hp
  ·rw [e];exact aTy q (by omega)
  ·exact aIp ps (by omega) p hp
end
end
def MNS (p:Prog)(fs cs:List Int)(at0:Int)(L:List ONode)(ns:List Node) :Prop:=
 aFM PP 1 (.enter 144 [.ptr 0 0,.int .i64 at0]) (aG (MHp p.nodes fs cs L) 2) (.ret (.int .i64 ((length L:Nat) :Int))) (aG (MHp p.nodes fs cs (L++map Node.o ns)) 2)
def aTz (p:Prog)(fs cs:List Int)(L:List ONode)(s:TS)(ns:List Node) :Prop:=Ends PP 1 s.as (.ret (.int .i64 ((length L:Nat) :Int))) (aG (MHp p.nodes fs cs (L++map Node.o ns)) 2)
section
variable (p :Prog) (fs cs:List Int) (L:List ONode) (at0:Int)
theorem aKY (x:Node)(v:Int)(hps:aX x.pats<1000000)(hl:L.length<1000000) :∀ (t:List Pat) (i:Nat) (acc t':List Pat),x.pats.drop i=t→acc.length=i→pC t=true→kJ cs t=some t' →
  LeadsM PP 1 (vZ p.nodes fs cs L at0 x.pats ((length x.pats:Nat) :Int) x.op x.n x.kids x.pats x.op v (i:Int) acc).as (aIn p.nodes fs cs L at0 x.kids ((length x.kids:Nat) :Int) (L++ [⟨x.op,v,.nil,acc++t'⟩])).as
 | [],i,acc,t',h,ha,hn,ht=>by
  have:=bD h;cases ht;rw [append_nil];exact aWI p.nodes fs cs L at0 x.pats _ x.op x.n x.kids x.pats x.op v i acc sd (by simp;omega)
 | .mk f1 n1 s1 ps1::t,i,acc,t',h,ha,hn,ht=>by
  obtain⟨g1,g2,g3⟩ :=bC h;have hi:= (List.getElem?_eq_some_iff.1 g1).1;have:=eJ x.pats;rw [pC,and_eq_true]at hn;simp only [kJ]at ht;split at ht
  · rename_i p' hp';split at ht
    · rename_i t1 ht1;cases ht;obtain⟨f2,n2,s2,ps2⟩ :=p';have hs:=aIp p.nodes fs cs L x.pats hps (.mk f1 n1 s1 ps1) (mem_of_getElem? g1) _ hn.1 hp'
      have hs':=aDH (ks:=[0,3]) (n2:=7) (args':=[.ptr 0 0,Pat.av (.mk f1 n1 s1 ps1)])
       (lc:=[(0,MC p.nodes fs cs 3 (length L),false),(1,yQ x,false),(2,XC x.op v 4 (length acc),false),(3,OL L,true),(4,.lst 4 (av acc),true),(5,PtC f1 n1 s1 ps1,false)])
       (lc':=[(0,MC p.nodes fs cs 3 (length L),false),(1,yQ x,false),(2,XC x.op v 4 (length acc),false),(3,OL L,true),(4,.lst 4 (av acc),true),(5,PtC f1 n1 s1 ps1,false)])
       hs (by kernel_rfl) (aZq _) (by kernel_rfl) (by kernel_rfl) ⟨tU L,trivial⟩ (by kernel_rfl) ⟨tU L,trivial⟩
      have h1:=aWH p.nodes fs cs L at0 x.pats ((length x.pats:Nat) :Int) x.op x.n x.kids x.pats x.op v i acc f1 n1 s1 ps1 f2 n2 s2 ps2 sd sd sd hs' (by simp;omega) sd;have:=aKY x v hps hl t (i+1) (acc++ [.mk f2 n2 s2 ps2]) t1 g2 (by simp [ha]) hn.2 ht1;rw [append_assoc]at this;exact h1.trans this
    ·cases ht
  ·cases ht
theorem aQm (n10:Int)(ks:List Int)(t12:Int)(l:List ONode){ix:Nat}{a b:Int}{P:List Pat}(h:l[ix]?=some ⟨a,b,.nil,P⟩) :LeadsM PP 1 (aTr p.nodes fs cs L at0 n10 ks t12 l).as (aOm p.nodes fs cs L at0 n10 ks t12 l ix a b P).as:=
 bAo (k:=1) (e0:=4) (e:=1) (by kernel_rfl) (by kernel_rfl) (aZp (f:=ONode.av) [.int .i64 a,.int .i64 b] [.ilst 4 (av P) false] h rfl) (by kernel_rfl)
theorem aQn (n10:Int)(ks:List Int)(t12:Int)(l:List ONode)(k2:List Int)(w:Value)(i:Int){ix:Nat}{a b:Int}{P:List Pat}(h:l[ix]?=some ⟨a,b,.val w,P⟩) :LeadsM PP 1 (aTs p.nodes fs cs L at0 n10 ks t12 l k2 w i).as (aOn p.nodes fs cs L at0 n10 ks t12 l k2 i ix a b P).as:=
 aWx (k:=1) (b:=2) (e0:=4) (e:=1) (u:=w) (xs:=map aP k2) (n:=length k2) (by kernel_rfl) (by kernel_rfl) (by decide) (length_map ..) (aZp (f:=ONode.av) [.int .i64 a,.int .i64 b] [.ilst 4 (av P) false] h rfl) (by kernel_rfl)
variable (k :Nat) (ih:∀ (M:List ONode) (c:Int) (ns:List Node),cP p fs cs k M.length c=some ns→MNS p fs cs c M ns) (x:Node) (v:Int) (P:List Pat) (hk:x.kids.length<1000000)
include ih hk
theorem aKZ :∀ (ts:List Int) (i:Nat) (w:Value) (r0:List Node) (k2 ks:List Int) (r:List Node),x.kids.drop i=ts→k2.length=i→gV (cP p fs cs k) (L.length+1+r0.length) ts=some (ks,r) →
  aTz p fs cs L (aBS p.nodes fs cs L at0 x.kids ((length x.kids:Nat) :Int) (L++ ⟨x.op,v,.val w,P⟩ ::map Node.o r0) k2 w (i:Int)) (⟨x.op,v,k2++ks,P⟩ :: (r0++r))
 | [],i,w,r0,k2,ks,r,h,hl,hm=>by
  have:=bD h;cases hm;have h1:=aWM p.nodes fs cs L at0 x.kids ((length x.kids:Nat) :Int) (L++ ⟨x.op,v,.val w,P⟩ ::map Node.o r0) k2 w i ⟨x.op,v,.val w,P⟩ sd (qD ..) rfl;rw [qE]at h1;rw [append_nil,append_nil];exact h1
 | c :: ts,i,w,r0,k2,ks,r,h,hl,hm=>by
  obtain⟨g1,g2,g3⟩ :=bC h;have hi:= (List.getElem?_eq_some_iff.1 g1).1;simp only [gV]at hm;split at hm
  · rename_i ns hns;split at hm
    · rename_i ks1 r1 hm1;cases hm;have hlen: (L++ (⟨x.op,v,.val w,P⟩ :ONode) ::map Node.o r0).length=L.length+1+r0.length:=by simp;omega
      have hs:=ih (L++ ⟨x.op,v,.val w,P⟩ ::map Node.o r0) c ns (by rw [hlen];exact hns);unfold MNS at hs
      have hs':=lA (m:=1) (ks:=[0,1]) (n2:=3) (n3:=4) (v':=.int .i64 ((length (L++ (⟨x.op,v,.val w,P⟩ :ONode) ::map Node.o r0) :Nat) :Int)) (args':=[.ptr 0 0,.int .i64 c])
       (lc:=[(0,MC p.nodes fs cs 1 (length (L++ (⟨x.op,v,.val w,P⟩ :ONode) ::map Node.o r0)),false),(1,OL (L++ ⟨x.op,v,.val w,P⟩ ::map Node.o r0),true),(2,.lstv w 1 (map aP k2),true)])
       (lc':=[(0,MC p.nodes fs cs 3 (length ((L++ (⟨x.op,v,.val w,P⟩ :ONode) ::map Node.o r0) ++map Node.o ns)),false),(2,.lstv w 1 (map aP k2),true),(3,OL ((L++ ⟨x.op,v,.val w,P⟩ ::map Node.o r0) ++map Node.o ns),true)])
       hs (by rfl) (by rfl) (by kernel_rfl) (by rfl) (by rfl) (by kernel_rfl) (by kernel_rfl) ⟨tU _,trivial⟩ (by kernel_rfl) ⟨tU _,trivial⟩
      have h0:=aWL p.nodes fs cs L at0 x.kids ((length x.kids:Nat) :Int) (L++ ⟨x.op,v,.val w,P⟩ ::map Node.o r0) k2 w i c ns sd sd sd hs';have e2: (L++ (⟨x.op,v,.val w,P⟩ :ONode) ::map Node.o r0) ++map Node.o ns=L++ ⟨x.op,v,.val w,P⟩ ::map Node.o (r0++ns) :=by simp
      rw [e2,hlen]at h0;refine(h0.trans (aQn p fs cs L at0 _ _ _ _ k2 w i (qD L _ _))).ends ?_;refine aWO p.nodes fs cs L at0 _ x.kids _ _ k2 i (length L) x.op v P (by omega) (by simp;omega) (by omega) (by simp) (by simp;omega) sd (fun ua un uc=>?_);have:=aKZ ts (i+1) (.slice ua un uc) (r0++ns) (k2++ [((L.length+1+r0.length:Nat) :Int)]) ks1 r1 g2 (by simp [hl]) (by rw [length_append,←Nat.add_assoc];exact hm1);dsimp only;rw [qE];simp only [append_assoc,List.singleton_append]at this ⊢;exact this
    ·cases hm
  ·cases hm
theorem aTA (ks:List Int)(r:List Node)(hm:gV (cP p fs cs k) (L.length+1) x.kids=some (ks,r)) :
  aTz p fs cs L (aIn p.nodes fs cs L at0 x.kids ((length x.kids:Nat) :Int) (L++ [⟨x.op,v,.nil,P⟩])) (⟨x.op,v,ks,P⟩ ::r) :=by
 cases hx:x.kids with
 | nil=>
  rw [hx]at hm;cases hm;have h1:=aWK p.nodes fs cs L at0 [] ((length ([] :List Int) :Nat) :Int) (L++ [⟨x.op,v,.nil,P⟩]) ⟨x.op,v,.nil,P⟩ (by simp) (qD ..) rfl;rw [qE]at h1;exact h1
 | cons c ts=>
  have hm0:=hm;rw [hx]at hm;simp only [gV]at hm;split at hm
  · rename_i ns hns;split at hm
    · rename_i ks1 r1 hm1;cases hm;have hlen: (L++ [(⟨x.op,v,.nil,P⟩ :ONode)]).length=L.length+1:=by simp
      have hs:=ih (L++ [⟨x.op,v,.nil,P⟩]) c ns (by rw [hlen];exact hns);unfold MNS at hs
      have hs':=lA (m:=1) (ks:=[0,1]) (n2:=2) (n3:=3) (v':=.int .i64 ((length (L++ [(⟨x.op,v,.nil,P⟩ :ONode)]) :Nat) :Int)) (args':=[.ptr 0 0,.int .i64 c])
       (lc:=[(0,MC p.nodes fs cs 1 (length (L++ [(⟨x.op,v,.nil,P⟩ :ONode)])),false),(1,OL (L++ [⟨x.op,v,.nil,P⟩]),true)])
       (lc':=[(0,MC p.nodes fs cs 2 (length ((L++ [(⟨x.op,v,.nil,P⟩ :ONode)]) ++map Node.o ns)),false),(2,OL ((L++ [⟨x.op,v,.nil,P⟩]) ++map Node.o ns),true)])
       hs (by rfl) (by rfl) (by kernel_rfl) (by rfl) (by rfl) (by kernel_rfl) (by kernel_rfl) ⟨tU _,trivial⟩ (by kernel_rfl) ⟨tU _,trivial⟩
      have h0:=aWJ p.nodes fs cs L at0 x.kids ((length x.kids:Nat) :Int) (L++ [(⟨x.op,v,.nil,P⟩ :ONode)]) c ns (by rw [hx];simp) (by omega) (by rw [hx];rfl) hs';have e2: (L++ [(⟨x.op,v,.nil,P⟩ :ONode)]) ++map Node.o ns=L++ ⟨x.op,v,.nil,P⟩ ::map Node.o ns:=by simp
      rw [e2,hlen]at h0;rw [hx]at h0;refine(h0.trans (aQm p fs cs L at0 _ _ _ _ (qD L _ _))).ends ?_;refine aWN p.nodes fs cs L at0 _ (c::ts) _ _ (length L) x.op v P (by omega) (by simp;omega) (by omega) (by simp) (by simp) (fun ua un uc=>?_);have:=aKZ p fs cs L at0 k ih x v P hk ts 1 (.slice ua un uc) ns [((L.length+1:Nat) :Int)] ks1 r1 (by rw [hx];rfl) rfl hm1;rw [hx]at this;dsimp only;rw [qE];exact this
    ·cases hm
  ·cases hm
end
theorem mNd_spec (p :Prog)(fs cs:List Int)(hT:∀x∈p.nodes,pC x.pats=true) :∀ (k:Nat) (L:List ONode) (at0:Int) (ns:List Node),cP p fs cs k L.length at0=some ns→MNS p fs cs at0 L ns
 |0,L,at0,ns,h=>by cases h
 | k+1, L, at0, ns, h=>by
  simp only [cP]at h;split at h
  · rename_i hh;obtain⟨hat,hlen⟩ :=hh;split at h
    · rename_i y hy;split at h
      · rename_i hb;split at h
        · rename_i n' hn';split at h
          · rename_i ps' hps';split at h
            · rename_i ks r hks;cases h;have hC:= (aKY p fs cs L at0 y n' hb.2 hlen y.pats 0 [] ps' rfl rfl (hT y (mem_of_getElem? hy)) hps').ends (aTA p fs cs L at0 k (mNd_spec p fs cs hT k) y n' ps' hb.1 ks r hks)
              suffices hh:aTz p fs cs L (aTq p.nodes fs cs L at0) (⟨y.op,n',ks,ps'⟩ ::r)from⟨(aTq p.nodes fs cs L at0).as.fr,by kernel_rfl,Eq.mp (by kernel_rfl) hh⟩
              unfold mN at hn';split at hn'
              · rename_i h4;split at hn'
                · rename_i g hg;split at hn'
                  · rename_i hr;cases hn';have w1:IntKind.i64.wrap (-1-y.n) = -1-y.n:=aHW (by omega) (by omega);have w2:IntKind.i64.wrap (-1-g) = -1-g:=aHW (by omega) (by omega);have h0:=aWD p.nodes fs cs L at0 y g hat hy (by simp [h4.1]) (by simp [h4.2]) (by rw [w1];omega) (by rw [w1];exact hg);rw [w2]at h0;exact h0.ends hC
                  ·cases hn'
                ·cases hn'
              · rename_i h4;split at hn'
                · rename_i h14;split at hn'
                  · rename_i h0;exact(aWF p.nodes fs cs L at0 y n' hat hy (by simp [h14]) (by simp [h14]) h0 hn').ends hC
                  ·cases hn'
                · rename_i h14;cases hn';by_cases ho:y.op=4
                  ·exact(aWE p.nodes fs cs L at0 y hat hy (by simp [ho]) (by simp;omega) (by simp [ho])).ends hC
                  ·exact(aWG p.nodes fs cs L at0 y hat hy (by simp [ho]) (by simp [h14])).ends hC
            ·cases h
          ·cases h
        ·cases h
      ·cases h
    ·cases h
  ·cases h
theorem hY (s:aC) :∀ (l:List aC) (i:Nat),dR s l i= -1∨ ((i:Int) ≤dR s l i∧dR s l i<i+l.length∧l[(dR s l i).toNat-i]?=some s)
 | [],i=>.inl rfl
 | x ::l,i=>by
  rw [dR];by_cases e:x=s
  · rw [if_pos e];exact .inr ⟨by omega,by simp;omega,by simp [e]⟩
  · rw [if_neg e];rcases hY s l (i+1)with h| ⟨h1,h2,h3⟩
    ·exact .inl h
    · refine .inr ⟨by omega,by simp;omega,?_⟩;rw [show(dR s l (i+1)).toNat-i= ((dR s l (i+1)).toNat- (i+1)) +1 by omega];simpa using h3
def wA (T ls:List aC)(s:aC) :Int:=if dR s T 0<0 then(T.length:Int) +dR s ls 0 else dR s T 0
theorem aEF (T ls:List aC)(s:aC) : -1≤wA T ls s∧wA T ls s≤T.length+ls.length:=by
 unfold wA;have h1:=hY s T 0;have h2:=hY s ls 0;split<;>omega
def qM (T ls:List aC)(u:LUnit) :List Int:= (aE u++u.needs).map (wA T ls)
def sW (cs:List Con)(u:LUnit) :List Int:=u.cons.map (fun c=>fP c.name cs 0)
def aEG (T ls:List aC)(cs:List Con) :List LFun→List Node→List LUnit→Option (List LFun×List Node)
 |fs,ns,[] =>some (fs,ns)
 | fs,ns,u::l=>match gV (cP (kO u) (qM T ls u) (sW cs u) u.nodes.length) ns.length (bO u)with
  |some (ks,r) =>aEG T ls cs (fs++zipWith LFun.mk (aE u) ks) (ns++r) l
  |none=>none
theorem aBT {g:Nat→Int→Option (List Node)}:∀ {cs:List Int} {len:Nat} {ks:List Int} {r:List Node},gV g len cs=some (ks,r) →ks.length=cs.length
 | [],len,ks,r,h=>by cases h;rfl
 | c ::cs,len,ks,r,h=>by
  rw [gV]at h;split at h
  · split at h
    ·rename_i h1;cases h;rw [length_cons,length_cons,aBT h1]
    ·cases h
  ·cases h
section
variable (nm :aC) (cs:List Con) (ls:List aC) (l:List LUnit) (T:List aC) (hT:T.length≤1000) (hls:ls.length≤1000) (hcs:cs.length≤1000)
include hT hls in
include hcs in
include hT hls hcs in
end
mutual
theorem aWP {cons:List Con}{C:List Int}(hC:C.length=cons.length) :∀ (q:Pat),cD cons q=true→∃q',aEa C q=some q'∧cC q'=cC q
 | .mk f n s ps,h=>by
  rw [cD,and_eq_true]at h;obtain⟨ps',hps,hz⟩ :=aEH hC ps h.2;have hN:∃n',aD9 C f n=some n':=by
   unfold aD9;by_cases hf:f=6
   · subst hf;have hh:=h.1;simp only [cO]at hh;simp [cX]at hh;obtain⟨⟨⟨h0,h1⟩,_⟩,_⟩ :=hh;rw [if_pos rfl,if_pos h0];exact⟨_,getElem?_eq_getElem (by omega)⟩
   ·rw [if_neg hf];exact⟨_,rfl⟩
  obtain⟨n',hn⟩ :=hN;refine⟨.mk f n' [] ps',?_,by rw [cC,cC,hz]⟩;have hs:s= [] :=by have:=h.1;rw [cO,and_eq_true]at this;simpa using this.2
  rw [aEa,hn];simp only;rw [hps,hs]
theorem aEH {cons:List Con}{C:List Int}(hC:C.length=cons.length) :∀ (ps:List Pat),bQ cons ps=true→∃ps',kJ C ps=some ps'∧aX ps'=aX ps
 | [],_=> ⟨[],rfl,rfl⟩
 | q::ps,h=>by
  rw [bQ,and_eq_true]at h;obtain⟨q',h1,z1⟩ :=aWP hC q h.1;obtain⟨ps',h2,z2⟩ :=aEH hC ps h.2;refine⟨q'::ps',?_,by rw [aX,aX,z1,z2]⟩;rw [kJ,h1];simp only;rw [h2]
end
def aK0 (x:Node) :Prop:=x.kids.length≤10∧aX x.pats≤120
theorem aEI {g:Nat→Int→Option (List Node)}{q:Int→List Int}:∀ (ks:List Int) (len:Nat),
  (∀k∈ks,∀len:Nat,len+ (q k).length≤1000000→∃ns,g len k=some ns∧ns.length= (q k).length∧∀x∈ns,aK0 x) →len+ ((ks.map q).flatten).length≤1000000 →
  ∃ks' r,gV g len ks=some (ks',r) ∧r.length= ((ks.map q).flatten).length∧∀x∈r,aK0 x
 | [],len,_,_=> ⟨[],[],rfl,rfl,fun x hx=>by cases hx⟩
 | k ::ks,len,hg,hb=>by
  simp only [map_cons,List.flatten_cons,length_append]at hb ⊢;obtain⟨ns,e,hl,hf⟩ :=hg k (mem_cons_self ..) len (by omega);obtain⟨ks',r,e2,hl2,hf2⟩ :=aEI ks (len+ns.length) (fun c hc=>hg c (mem_cons_of_mem _ hc)) (by omega);refine⟨(len:Int) ::ks',ns++r,?_,by rw [length_append];omega,fun x hx=>?_⟩
  · rw [gV,e];simp only;rw [e2]
  · rcases List.mem_append.1 hx with h|h
    ·exact hf x h
    ·exact hf2 x h
structure MovN (p:Prog) (F C:List Int) (i:Nat) (x:Node) :Prop where
 kl:x.kids.length≤10
 kids:∀k∈x.kids,(i:Int) <k∧k<p.nodes.length
 ps:aX x.pats≤120
 n:∃n',mN F C x.op x.n=some n'
 pats:∃ps',kJ C x.pats=some ps'∧aX ps'=aX x.pats
theorem aGp {p:Prog}{F C:List Int}(hN:∀ (i:Nat) (x:Node),p.nodes[i]?=some x→MovN p F C i x) :∀ (k:Nat) (a:Int) (len:Nat),0≤a→a<p.nodes.length→p.nodes.length-a.toNat≤k→len+ (pre p k a).length≤1000000 →
  ∃ns,cP p F C k len a=some ns∧ns.length= (pre p k a).length∧∀x∈ns,aK0 x
 |0,a,len,ha,hn,hf,_=>by omega
 | k + 1,a,len,ha,hn,hf,hb=>by
  obtain⟨x,hx⟩ :∃x,p.nodes[a.toNat]?=some x:= ⟨_,getElem?_eq_getElem (by omega)⟩;have hm:=hN _ _ hx;have e:pre p (k+1) a=a:: (x.kids.map (pre p k)).flatten:=by rw [pre,hx]
  rw [e]at hb ⊢;simp only [length_cons]at hb ⊢
  obtain⟨ks,r,e1,e2,e3⟩ :=aEI (g:=cP p F C k) (q:=pre p k) x.kids (len+1) (fun c hc len h1=>by
   have:=hm.kids c hc;exact aGp hN k c len (by omega) (by omega) (by omega) h1) (by omega)
  obtain⟨n',hn'⟩ :=hm.n;obtain⟨ps',hp',hz⟩ :=hm.pats;have h1:=hm.kl;have h2:=hm.ps;refine⟨⟨x.op,n',ks,ps'⟩ ::r,?_,by simp [e2],fun y hy=>?_⟩
  · rw [cP,if_pos ⟨ha,by omega⟩,hx];simp only;rw [if_pos ⟨by omega,by omega⟩,hn'];simp only;rw [hp'];simp only;rw [e1]
  · rcases List.mem_cons.1 hy with h|h
    · rw [h];exact⟨by rw [aBT e1];exact h1,by rw [hz];exact h2⟩
    ·exact e3 y h
theorem aIq {p p':Prog}{f:Node→Node}(h:p'.nodes=p.nodes.map f)(hf:∀x,(f x).kids=x.kids) :∀ (k:Nat) (a:Int),pre p' k a=pre p k a
 |0,a=>rfl
 | k+1,a=>by
  have ih:pre p' k=pre p k:=funext (aIq h hf k);rw [pre,pre,h,getElem?_map];cases p.nodes[a.toNat]? with
  |none=>rfl
  |some x=>simp only [Option.map];rw [hf,ih]
theorem lC (a b:Nat)(x:Node) : (fF a b x).kids=x.kids:=by unfold fF;split<;>rfl
theorem wX (a b:Nat)(x:Node) : (fF a b x).pats=x.pats:=by unfold fF;split<;>rfl
theorem aA7 (a b:Nat)(x:Node) : (fF a b x).op=x.op:=by unfold fF;split<;>rfl
structure GoodU (u:LUnit) :Prop where
 few:FewU u
 formed:iK u=true
theorem GoodU.small {u:LUnit}(h:GoodU u) :u.nodes.length≤320∧u.cons.length≤25:=by
 have:=h.few.p;simp only [aN,and_eq_true,decide_eq_true_eq]at this;exact⟨this.1.1.1.1,this.1.1.2⟩
theorem GoodU.cases {u:LUnit}(h:GoodU u) : (u.funs= [] ∧u.nodes= []) ∨ (u.funs≠ [] ∧aY (fG u) =true) :=by
 have hf:=h.formed;unfold iK at hf;simp only [and_eq_true]at hf;have h2:=hf.2;split at h2
 · rename_i h0;simp only [and_eq_true,decide_eq_true_eq]at h2;exact .inl ⟨List.eq_nil_of_length_eq_zero h0,List.eq_nil_of_length_eq_zero h2.1⟩
 · rename_i h0;exact .inr ⟨fun e=>h0 (by rw [e];rfl),h2⟩
theorem aGq {u:LUnit}(h:GoodU u)(hr:aY (fG u) =true){F C:List Int}(hF:F.length=u.funs.length+u.needs.length)(hB:∀g∈F,-1000000000≤g∧g≤1000000000)(hC:C.length=u.cons.length)(i:Nat)(x:Node)(hx:u.nodes[i]?=some x) :MovN (kO u) F C i x∧pC x.pats=true:=by
 have hs:=jU h.few;have hfn:=lT hs hr;have hx': (fG u).nodes[i]?=some (fF u.funs.length u.needs.length x) :=by simp [fG,getElem?_map,hx]
 obtain⟨hfi,hk10,hks⟩ :=hfn.node i _ hx';have hok:= (nU hs hr).2.2.2 i _ hx';rw [lC]at hk10 hks;have hnl: (fG u).nodes.length=u.nodes.length:=by simp [fG]
 rw [hnl]at hks;have hpq:∀q∈x.pats,cC q≤12∧cD u.cons q=true:=fun q hq=>hfi.pats q (by rw [wX];exact hq);have h10:x.pats.length≤10:=by
  have:=h.few.p;simp only [aN,and_eq_true]at this;have:=List.all_eq_true.1 this.2 x (mem_of_getElem? hx);simp only [aV,and_eq_true,decide_eq_true_eq]at this;exact this.1.2
 have hpsz:aX x.pats≤12*x.pats.length:=aBM (fun q hq=> (hpq q hq).1);have hpk:=nT (fun q hq=> (hpq q hq).2);have hfl:=h.few.f;have hnd:=h.few.n;refine⟨⟨hk10,hks,by omega,?_,aEH hC x.pats hpk⟩,aEy x.pats hpk⟩;simp only [bH,and_eq_true,fO]at hok;obtain⟨⟨⟨h1,_⟩,_⟩,_⟩ :=hok;rw [aA7]at h1;have hpf: (fG u).funs.length=u.funs.length:=by simp [fG,bO]
 unfold mN;by_cases h4:x.op=4∧x.n<0
 · rw [if_pos h4];have hr4: -(u.funs.length:Int) -u.needs.length≤x.n:=by
    by_cases hb: -(u.funs.length:Int) -u.needs.length≤x.n∧x.n≤ -(u.funs.length:Int) -1
    ·exact hb.1
    · have:fF u.funs.length u.needs.length x=x:=by unfold fF;rw [if_neg (fun g=>hb g.2)]
      rw [this,h4.1]at h1;simp [bK,cX,hpf]at h1;omega
   have hi: (-1-x.n).toNat<F.length:=by omega
   rw [getElem?_eq_getElem hi];have:=hB _ (List.getElem_mem hi);simp only;rw [if_pos ⟨by omega,this⟩];exact⟨_,rfl⟩
 · rw [if_neg h4];by_cases h14:x.op=14
   · rw [if_pos h14];have:fF u.funs.length u.needs.length x=x:=by unfold fF;rw [if_neg (fun g=>by have:=g.1;omega)]
     rw [this,h14]at h1;simp [bK,cX,fG]at h1;rw [if_pos h1.1];have h1b:=of_decide_eq_true h1.2;have hi:x.n.toNat<C.length:=by omega
     exact⟨_,getElem?_eq_getElem hi⟩
   ·rw [if_neg h14];exact⟨_,rfl⟩
theorem aWQ {u:LUnit}(h:GoodU u) :∀x∈u.nodes,pC x.pats=true:=fun x hx=>by
 rcases h.cases with⟨_,h0⟩ | ⟨_,hr⟩
 ·rw [h0]at hx;cases hx
 · obtain⟨i,hi⟩ :=List.mem_iff_getElem?.1 hx;exact(aGq h hr (F:=replicate (u.funs.length+u.needs.length) 0) (C:=replicate u.cons.length 0) (by simp) (fun g hg=>by rw [(List.mem_replicate.1 hg).2];omega) (by simp) i x hi).2
theorem aTB {u:LUnit}(h:GoodU u){F C:List Int}(hF:F.length=u.funs.length+u.needs.length)(hB:∀g∈F,-1000000000≤g∧g≤1000000000)(hC:C.length=u.cons.length)(len:Nat)(hlen:len≤100000) :
  ∃ks r,gV (cP (kO u) F C u.nodes.length) len (bO u) =some (ks,r) ∧r.length=u.nodes.length∧∀x∈r,aK0 x:=by
 rcases h.cases with⟨h0,h1⟩ | ⟨_,hr⟩
 · rw [bO,h0,h1];exact⟨[],[],rfl,rfl,fun x hx=>by cases hx⟩
 · have hs:=jU h.few;obtain⟨_,p2,_,_⟩ :=nU hs hr;have hfn:=lT hs hr;have hnl: (fG u).nodes.length=u.nodes.length:=by simp [fG]
   have hpre:∀k a,pre (fG u) k a=pre (kO u) k a:=aIq (f:=fF u.funs.length u.needs.length) rfl (lC _ _);have hsm:=h.small;have e: ((bO u).map (pre (kO u) u.nodes.length)).flatten= ((fG u).funs.map (pre (fG u) (fG u).nodes.length)).flatten:=by
    rw [hnl];show _= ((bO u).map _).flatten;congr 2;exact(funext (hpre _)).symm
   obtain⟨ks,r,e1,e2,e3⟩ :=aEI (g:=cP (kO u) F C u.nodes.length) (q:=pre (kO u) u.nodes.length) (bO u) len (fun k hk len hl=>by
    have:=hfn.funs k hk;rw [hnl]at this;exact aGp (fun i x hx=> (aGq h hr hF hB hC i x hx).1) _ k len this.1 this.2 (by simp [kO]) hl) (by rw [e,p2,hnl];omega)
   exact⟨ks,r,e1,by rw [e2,e,p2,hnl],e3⟩
def aT :List LUnit→Nat
 | [] =>0
 |u::l=>u.nodes.length+aT l
theorem aEJ :∀ {l:List LUnit},(∀u∈l,GoodU u) →aT l≤320*l.length
 | [],_=>by simp [aT]
 | u::l,h=>by
  have h1:= (h u (mem_cons_self ..)).small;have h2:=aEJ (l:=l) (fun x hx=>h x (mem_cons_of_mem _ hx));simp only [aT,length_cons];omega
theorem aOo {T ls:List aC}{cs:List Con}(hT:T.length≤1000)(hls:ls.length≤1000) :∀ (l:List LUnit) (fs:List LFun) (ns:List Node),(∀u∈l,GoodU u) →ns.length+aT l≤100000→ (∀x∈ns,aK0 x) →
  ∃fs' ns',aEG T ls cs fs ns l=some (fs',ns') ∧ns'.length=ns.length+aT l∧ (∀x∈ns',aK0 x) ∧fs'.length≤fs.length+30*l.length
 | [],fs,ns,_,_,hf=> ⟨fs,ns,rfl,rfl,hf,by simp⟩
 | u::l,fs,ns,hg,hb,hf=>by
  have hu:=hg u (mem_cons_self ..);rw [aT]at hb;have hff:=hu.few.f;have hnd:=hu.few.n
  obtain⟨ks,r,e1,e2,e3⟩ :=aTB hu (F:=qM T ls u) (C:=sW cs u) (by simp [qM,aE]) (fun g hg=>by
   obtain⟨s,_,rfl⟩ :=List.mem_map.1 hg;have:=aEF T ls s;omega) (by simp [sW]) ns.length (by omega)
  obtain⟨fs',ns',g1,g2,g3,g4⟩ :=aOo hT hls l (fs++zipWith LFun.mk (aE u) ks) (ns++r) (fun x hx=>hg x (mem_cons_of_mem _ hx)) (by simp;omega) (fun x hx=>by
   rcases List.mem_append.1 hx with h|h
   ·exact hf x h
   ·exact e3 x h)
  refine⟨fs',ns',?_,by rw [g2,aT];simp;omega,g3,by simp [aE]at g4 ⊢;omega⟩;rw [aEG,e1];exact g1
def gW :aC:=[109,97,105,110]
def yT :Prog:= ⟨[],[],0,[]⟩
theorem mS {l:List LUnit}(hu:∀u∈l,FewU u)(h:iL l=true) :l.length≤10∧∀u∈l,GoodU u:=by
 simp only [iL,and_eq_true,decide_eq_true_eq]at h;exact⟨h.1,fun u hm=> ⟨hu u hm,List.all_eq_true.1 h.2 u hm⟩⟩
theorem aGr :∀ {l:List LUnit} {out o:List Con},(∀u∈l,FewU u) →vY out l=some o→o.length≤out.length+25*l.length
 | [],out,o,_,h=>by cases h;simp
 | u ::l,out,o,hu,h=>by
  have hn:u.cons.length≤25:=by have:= (hu u (mem_cons_self ..)).p;simp only [aN,and_eq_true,decide_eq_true_eq]at this;exact this.1.1.2
  rw [vY]at h;split at h
  · rename_i o1 h1;have:=aBQ h1;have:=aGr (fun x hx=>hu x (mem_cons_of_mem _ hx)) h;simp;omega
  ·cases h
def zZ (ls:List aC)(cs:List Con)(l:List LUnit) :List LFun×List Node:= (aEG (bI l) ls cs [] [] l).getD ([],[])
structure PutOk (ls:List aC) (cs:List Con) (l:List LUnit) :Prop where
 eq:aEG (bI l) ls cs [] [] l=some (zZ ls cs l)
 len: (zZ ls cs l).2.length=aT l
 fit:∀x∈ (zZ ls cs l).2,aK0 x
 funs: (zZ ls cs l).1.length≤300
theorem aZr {ls:List aC}{cs:List Con}{l:List LUnit}(hl:l.length≤10)(hg:∀u∈l,GoodU u)(hls:ls.length≤1000) :PutOk ls cs l:=by
 have:=aEx l (fun u h=> (hg u h).few);have:=aEJ hg;obtain⟨fs,ns,h1,h2,h3,h4⟩ :=aOo (T:=bI l) (ls:=ls) (cs:=cs) (by omega) hls l [] [] hg (by simp;omega) (fun x hx=>by cases hx);have e:zZ ls cs l= (fs,ns) :=by unfold zZ;rw [h1];rfl
 exact⟨by rw [h1,e],by rw [e];simpa using h2,by rw [e];exact h3,by rw [e];simp at h4 ⊢;omega⟩
def wC (l:List LUnit) :Prog×Int:=
 if iL l=true then
  match aGl l with
  |none=> (yT,7)
  | some c=>if cN (bI l) =true∧aA4 l= [] ∧¬aEs gW l 0<0 then
    (if aT l≤300∧c.length≤20 then(⟨(zZ [] c l).2,(zZ [] c l).1.map LFun.body,dR gW (bI l) 0,c⟩,0)else(yT,3))
   else(yT,7)
 else(yT,2)
structure Fw (p:Prog) :Prop where
 fine:FineP p
 dup: (dM p).Nodup
 len: (dM p).length=p.nodes.length
 into:∀x∈dM p,0≤x∧x<p.nodes.length
theorem Fw.of {p:Prog}(h:Fm p) :Fw p:= ⟨h.fine,h.dup,h.len,h.into⟩
section
variable {p :Prog}
theorem Fw.mem (h:Fw p){k:Int}(h0:0≤k)(h1:k<p.nodes.length) :∃i:Nat,(dM p)[i]?=some k:=by
 refine List.mem_iff_getElem?.1 ?_;have hd: ((dM p).map Int.toNat).Nodup:=by
  have hd:=h.dup;rw [List.nodup_iff_pairwise_ne]at hd ⊢;refine List.pairwise_map.2 (hd.imp_of_mem (fun {a b} ha hb hne e=>?_));have:=h.into a ha;have:=h.into b hb;exact hne (by omega)
 by_cases hm:k∈dM p
 ·exact hm
 · have h2:=qI (p.nodes.length) (k.toNat:: (dM p).map Int.toNat) (List.nodup_cons.2 ⟨fun hm2=>by
    obtain⟨y,hy,e⟩ :=List.mem_map.1 hm2;have:=h.into y hy;exact hm ((show y=k by omega) ▸ hy),hd⟩) (fun x hx=>by
    rcases List.mem_cons.1 hx with rfl|hx
    ·omega
    · obtain⟨y,hy,rfl⟩ :=List.mem_map.1 hx;have:=h.into y hy;omega)
   rw [length_cons,length_map]at h2;have:=h.len;omega
theorem Fw.after (h:Fw p) :KidsAfter p (dM p) :=KidsAfter.flatten fun l hl=>by
 obtain⟨k,hk,rfl⟩ :=List.mem_map.1 hl;have:=h.fine.funs k hk;exact aGo h.fine _ k this.1 this.2 (by omega)
theorem Fw.toL (h:Fw p)(off:Nat) :∀ (i:Nat) (k:Int),(dM p)[i]?=some k→eD (toL p off) k= ((off+i:Nat) :Int) :=fun i k hk=>by
 have:=aGb (dM p) (replicate p.nodes.length 0) off h.dup (fun x hx=>by rw [List.length_replicate];exact h.into x hx) i k hk;unfold Go.Hb.toL;rw [this];simp
end
section
variable {a p:Prog} {off:Nat} {mf mc:List (Int×Int)} {to:List Int}
theorem Laid.atW (h:Laid a off p mf mc to)(hp:Fw p){k:Int}(h0:0≤k)(h1:k<p.nodes.length) :0≤eD to k∧a.nodes[(eD to k).toNat]?=some (dN mf mc to (nodeAt p k)) :=by
 obtain⟨i,hi⟩ :=hp.mem h0 h1;have e:=h.to i k hi;rw [e,Int.toNat_natCast];exact⟨by omega,h.node i k hi⟩
theorem aGs (h:Laid a off p mf mc to)(hp:Fw p) :∀ (f:Nat) (k:Int),0≤k→k<p.nodes.length→p.nodes.length-k.toNat≤f→pre a f (eD to k) = (pre p f k).map (eD to)
 |0,k,h0,h1,h2=>by omega
 | f+1,k,h0,h1,h2=>by
  obtain⟨x,hx⟩ :∃x,p.nodes[k.toNat]?=some x:= ⟨_,getElem?_eq_getElem (by omega)⟩;obtain⟨g0,g1⟩ :=h.atW hp h0 h1;rw [jV hx]at g1;rw [Go.Hb.pre,Go.Hb.pre,hx,g1];simp only [map_cons,List.map_flatten,map_map,dN];congr 2
  exact List.map_congr_left (fun c hc=>by
   have:= (hp.fine.node _ _ hx).2.2 c hc;exact aGs h hp f c (by omega) (by omega) (by omega))
theorem Laid.walkW (h:Laid a off p mf mc to)(hp:Fw p){F:Nat}(hF:p.nodes.length≤F) : ((p.funs.map (eD to)).map (Go.Hb.pre a F)).flatten= (range p.nodes.length).map fun i=> ((off+i:Nat) :Int) :=by
 have e1: (p.funs.map (eD to)).map (Go.Hb.pre a F) = (p.funs.map (Go.Hb.pre p p.nodes.length)).map (map (eD to)) :=by
  rw [map_map,map_map];refine List.map_congr_left (fun k hk=>?_);have:=hp.fine.funs k hk;show Go.Hb.pre a F (eD to k) = (Go.Hb.pre p p.nodes.length k).map (eD to);rw [aGs h hp F k this.1 this.2 (by omega),aEA hp.fine F p.nodes.length k this.1 this.2 (by omega) (by omega)]
 rw [e1,←List.map_flatten];have hlen:=hp.len;refine List.ext_getElem? (fun i=>?_);rw [getElem?_map,getElem?_map];by_cases hi:i< (dM p).length
 · rw [List.getElem?_range (by omega)];have e: (dM p)[i]?=some (dM p)[i] :=getElem?_eq_getElem hi;have: ((p.funs.map (Go.Hb.pre p p.nodes.length)).flatten)[i]?=some (dM p)[i] :=e;rw [this];simp only [Option.map_some];rw [h.to i _ e]
 · have e: (dM p)[i]?=none:=List.getElem?_eq_none (by omega);have: ((p.funs.map (Go.Hb.pre p p.nodes.length)).flatten)[i]?=none:=e;rw [this,List.getElem?_eq_none (by simp;omega)];rfl
end
def dF (u:LUnit) :Prog:= ⟨u.nodes,bO u,0,u.cons⟩
def qN (u:LUnit) :Prog:= ⟨u.nodes,replicate (u.funs.length+u.needs.length) 0,0,u.cons⟩
theorem aA8 {p p':Prog}(h:p'.nodes=p.nodes)(F C:List Int) :∀k:Nat,cP p' F C k=cP p F C k
 |0=>rfl
 | k+1=>by
  funext len a
  rw [cP,cP,h,aA8 h F C k]
theorem aK1 {u:LUnit}{x:Node}(h:bH (fG u) (fF u.funs.length u.needs.length x) =true) :bH (qN u) x=true:=by
 have hf: (fG u).funs.length=u.funs.length:=by simp [fG,bO]
 have hw: (qN u).funs.length=u.funs.length+u.needs.length:=by simp [qN]
 simp only [bH,fO,and_eq_true,decide_eq_true_eq]at h ⊢;rw [lC,wX,aA7]at h;obtain⟨⟨⟨h1,h2⟩,h3⟩,h4⟩ :=h;by_cases e4:x.op=4
 · have z1:fD (qN u) x=0:=by unfold fD;rw [if_neg (fun g=>by have:=g.1;omega)]
   have z2:fD (fG u) (fF u.funs.length u.needs.length x) =0:=by unfold fD;rw [aA7,if_neg (fun g=>by have:=g.1;omega)]
   rw [z2]at h4;rw [z1];refine⟨⟨⟨?_,h2⟩,h3⟩,h4⟩;by_cases g: -(u.funs.length:Int) -u.needs.length≤x.n∧x.n≤ -(u.funs.length:Int) -1
   · rw [e4];simp [bK,cX,hw];omega
   · have e:fF u.funs.length u.needs.length x=x:=by unfold fF;rw [if_neg (fun k=>g k.2)]
     rw [e,e4]at h1;rw [e4];simp [bK,cX,hf,hw]at h1 ⊢;omega
 · have e:fF u.funs.length u.needs.length x=x:=by unfold fF;rw [if_neg (fun g=>e4 g.1)]
   rw [e]at h1 h4;refine⟨⟨⟨?_,h2⟩,h3⟩,h4⟩;unfold bK at h1 ⊢;rw [if_neg e4]at h1 ⊢;exact h1
theorem wY {u:LUnit}(h:GoodU u){i:Nat}{x:Node}(hx:u.nodes[i]?=some x) :bH (qN u) x=true∧x.pats.length≤10∧aV x=true:=by
 have hs:=h.few.p;simp only [aN,and_eq_true]at hs;have hsn:=List.all_eq_true.1 hs.2 x (mem_of_getElem? hx);have hsn2:=hsn;simp only [aV,and_eq_true,decide_eq_true_eq]at hsn2;refine⟨?_,hsn2.1.2,hsn⟩;rcases h.cases with⟨_,h1⟩ | ⟨_,hr⟩
 ·rw [h1]at hx;simp at hx
 · have hx': (fG u).nodes[i]?=some (fF u.funs.length u.needs.length x) :=by simp [fG,getElem?_map,hx]
   exact aK1 ((nU (jU h.few) hr).2.2.2 i _ hx')
theorem mT {u:LUnit}(h:GoodU u) :Fw (dF u) :=by
 rcases h.cases with⟨h0,h1⟩ | ⟨_,hr⟩
 · have hb:bO u= [] :=by simp [bO,h0]
   have ho:dM (dF u) = [] :=by unfold dM;simp [dF,hb]
   refine⟨⟨by simp [dF,h1],by simp [dF,hb],fun i x hx=>by simp [dF,h1]at hx,fun f hf=>by simp [dF,hb]at hf⟩,by rw [ho];exact List.nodup_nil,by rw [ho];simp [dF,h1],fun x hx=>by rw [ho]at hx;cases hx⟩
 · have hs:=jU h.few;obtain⟨p1,p2,p3,p4⟩ :=nU hs hr;have hfn:=lT hs hr;have hnl: (fG u).nodes.length=u.nodes.length:=by simp [fG]
   have ho:dM (dF u) = ((fG u).funs.map (pre (fG u) (fG u).nodes.length)).flatten:=by
    unfold dM;rw [hnl];show((bO u).map (pre (dF u) u.nodes.length)).flatten= ((bO u).map _).flatten;congr 2;exact(funext (aIq (p:=dF u) (p':=fG u) (f:=fF u.funs.length u.needs.length) rfl (lC _ _) _)).symm
   refine⟨⟨by have:=hfn.small;rw [hnl]at this;exact this,hfn.fsmall,fun i x hx=>?_,fun f hf=>by have:=hfn.funs f hf;rw [hnl]at this;exact this⟩,by rw [ho];exact p1,by rw [ho,p2,hnl];rfl,fun x hx=>by rw [ho]at hx;have:=p3 x hx;rw [hnl]at this;exact this⟩;have hx1:u.nodes[i]?=some x:=hx;have hx': (fG u).nodes[i]?=some (fF u.funs.length u.needs.length x) :=by simp [fG,getElem?_map,hx1]
   obtain⟨c1,c2,c3⟩ :=hfn.node i _ hx';have m1:=c1.mat;have m2:=c1.let2;rw [aA7,lC,wX]at m1;rw [aA7,lC]at m2;rw [lC]at c2 c3;rw [hnl]at c3;exact⟨⟨fun q hq=>c1.pats q (by rw [wX];exact hq),m1,m2⟩,c2,c3⟩
def aK2 :List Int→Int→List (Int×Int) →List (Int×Int)
 | [],_,m=>m
 |g::t,i,m=>aK2 t (i+1) (bX i g m)
theorem aK3 :∀ (t:List Int) (i:Int) (m:List (Int×Int)) (j:Int),j<i→kN (aK2 t i m) j=kN m j
 | [],i,m,j,h=>rfl
 |c::t,i,m,j,h=>by rw [aK2,aK3 t (i+1) _ j (by omega),aC3,if_neg (by omega)]
theorem aOp :∀ (t:List Int) (i:Int) (m:List (Int×Int)) (j:Nat) (d:Int),t[j]?=some d→kN (aK2 t i m) (i+j) =d
 | [],i,m,j,d,h=>by simp at h
 | c::t,i,m,0,d,h=>by
  simp only [List.getElem?_cons_zero,Option.some.injEq]at h;subst h;rw [aK2,aK3 t (i+1) _ _ (by omega),aC3,if_pos (by omega)]
 | c::t,i,m,j+1,d,h=>by
  simp only [List.getElem?_cons_succ]at h;have:=aOp t (i+1) (bX i c m) j d h;rw [aK2,show i+ ((j+1:Nat) :Int) =i+1+ (j:Int)by omega];exact this
theorem aOq (F:List Int) :aEo F.length (aK2 F 0 []) F:=fun i h0 h1=>by
 have e:F[i.toNat]?=some (F[i.toNat]'(by omega)) :=getElem?_eq_getElem (by omega);have:=aOp F 0 [] i.toNat _ e;rw [show(0:Int) + ((i.toNat:Nat) :Int) =i by omega]at this;rw [e,this]
def mfU (T ls:List aC)(u:LUnit) :List (Int×Int) :=aK2 (qM T ls u) 0 []
def mcU (cs:List Con)(u:LUnit) :List (Int×Int) :=aNg cs u.cons 0 []
theorem aWS (cs:List Con)(u:LUnit) :aEo u.cons.length (mcU cs u) (sW cs u) :=fun i h0 h1=>by
 have e:u.cons[i.toNat]?=some (u.cons[i.toNat]'(by omega)) :=getElem?_eq_getElem (by omega);have:=aIj cs u.cons 0 [] i.toNat _ e;rw [show(0:Int) + ((i.toNat:Nat) :Int) =i by omega]at this;unfold sW mcU;rw [getElem?_map,e,this];rfl
theorem aGt (T ls:List aC)(u:LUnit) : (qM T ls u).length=u.funs.length+u.needs.length:=by simp [qM,aE]
theorem aNj {T ls:List aC}{u:LUnit}{i:Int}(h0:0≤i)(h1:i<u.funs.length+u.needs.length) :∃s,(aE u++u.needs)[i.toNat]?=some s∧kN (mfU T ls u) i=wA T ls s:=by
 have hl:=aGt T ls u;have e:=aOq (qM T ls u) i h0 (by omega);unfold qM at e;rw [getElem?_map]at e;cases hs: (aE u++u.needs)[i.toNat]? with
 |none=>rw [hs]at e;cases e
 |some s=>rw [hs]at e;exact⟨s,rfl,(Option.some.inj e).symm⟩
def aOr (T ls:List aC)(u:LUnit) :Prop:=∀s∈aE u++u.needs,0≤wA T ls s
def aQp (T ls:List aC)(cs:List Con)(off:Nat)(u:LUnit) :List Node:= (dM (dF u)).map fun k=>dN (mfU T ls u) (mcU cs u) (toL (dF u) off) (nodeAt (dF u) k)
def aIr (off:Nat)(u:LUnit) :List Int:= (bO u).map (eD (toL (dF u) off))
theorem aNk {u:LUnit}(h:GoodU u){T ls:List aC}{cs:List Con}(hT:T.length≤1000)(hls:ls.length≤1000)(hn:aOr T ls u)(off:Nat)(ho:off≤100000) :
  gV (cP (kO u) (qM T ls u) (sW cs u) u.nodes.length) off (bO u) =some (aIr off u,aQp T ls cs off u) :=by
 have hw:=mT h;have hsm:=h.small;have hff:=h.few.f;have hnd:=h.few.n;have hwl: (qN u).funs.length=u.funs.length+u.needs.length:=by simp [qN]
 have hm:MOk (dF u) (mfU T ls u) (mcU cs u) (qM T ls u) (sW cs u) :=fun i x hx=>
  (aKC (p:=qN u) (by rw [hwl,←aGt T ls u];exact aOq _) (aWS cs u) (fun i h0 h1=>by
   rw [hwl]at h1;obtain⟨s,hs,e⟩ :=aNj (T:=T) (ls:=ls) (u:=u) h0 (by omega);rw [e];have:=aEF T ls s;have:=hn s (mem_of_getElem? hs);omega) (by omega) (wY h hx).1 (wY h hx).2.1).1
 rw [aA8 (p:=dF u) (p':=kO u) rfl];have hl:=hw.len;have hl2: (dF u).nodes.length=u.nodes.length:=rfl
 have e:=aAZ (to:=toL (dF u) off) (g:=cP (dF u) (qM T ls u) (sW cs u) u.nodes.length) (h:=wB (dF u) (mfU T ls u) (mcU cs u) (toL (dF u) off) u.nodes.length) (q:=pre (dF u) u.nodes.length) (bO u) off (fun k hk len h1 h2=>by
   have:=hw.fine.funs k hk;exact aBL hw.fine hm _ k len this.1 this.2 (by omega) h1 h2) (fun k hk=>by
   have:=hw.fine.funs k hk;obtain⟨y,g,_,_,h3⟩ :=vU hw.fine (f:=u.nodes.length) (a:=k) this.1 this.2 (by omega);exact⟨aH0 _ _ _ _ _,by rw [h3];rfl⟩) (by change off+ (dM (dF u)).length≤1000000;omega) (hw.toL off)
 rw [e];congr 2;exact aEz (dF u) (mfU T ls u) (mcU cs u) (toL (dF u) off)
theorem aK4 {u:LUnit}(h:GoodU u)(T ls:List aC)(cs:List Con)(off:Nat) : (aQp T ls cs off u).length=u.nodes.length:=by
 unfold aQp;rw [length_map,(mT h).len];rfl
def lU (T ls:List aC)(cs:List Con) :Nat→List LUnit→List Node
 |_,[] =>[]
 |off,u::l=>aQp T ls cs off u++lU T ls cs (off+u.nodes.length) l
def aEK :Nat→List LUnit→List LFun
 |_,[] =>[]
 |off,u::l=>zipWith LFun.mk (aE u) (aIr off u) ++aEK (off+u.nodes.length) l
theorem aOs {T ls:List aC}{cs:List Con}(hT:T.length≤1000)(hls:ls.length≤1000) :∀ (l:List LUnit) (fs:List LFun) (ns:List Node),(∀u∈l,GoodU u∧aOr T ls u) →ns.length+aT l≤100000 →
  aEG T ls cs fs ns l=some (fs++aEK ns.length l,ns++lU T ls cs ns.length l)
 | [],fs,ns,_,_=>by rw [aEG,aEK,lU,append_nil,append_nil]
 | u::l,fs,ns,hg,hb=>by
  obtain⟨h1,h2⟩ :=hg u (mem_cons_self ..);rw [aT]at hb;rw [aEG,aNk h1 hT hls h2 ns.length (by omega)];simp only;have hl:=aK4 h1 T ls cs ns.length;rw [aOs hT hls l _ _ (fun x hx=>hg x (mem_cons_of_mem _ hx)) (by rw [length_append,hl];omega)];rw [length_append,hl,aEK,lU,append_assoc,append_assoc]
theorem aBU {T ls:List aC}{cs:List Con}:∀ (l:List LUnit) (off:Nat),(∀u∈l,GoodU u) → (lU T ls cs off l).length=aT l
 | [],off,_=>rfl
 | u::l,off,hg=>by
  rw [lU,length_append,aK4 (hg u (mem_cons_self ..)),aBU l _ (fun x hx=>hg x (mem_cons_of_mem _ hx)),aT]
theorem aGu {T ls:List aC}{cs:List Con}:∀ (l m:List LUnit) (off:Nat),lU T ls cs off (l++m) =lU T ls cs off l++lU T ls cs (off+aT l) m
 | [],m,off=>by simp [lU,aT]
 | u::l,m,off=>by
  rw [cons_append,lU,lU,aGu l m,append_assoc,aT,Nat.add_assoc]
theorem wZ :∀l m:List LUnit,aT (l++m) =aT l+aT m
 | [],m=>by simp [aT]
 |u::l,m=>by rw [cons_append,aT,aT,wZ l m,Nat.add_assoc]
theorem aK5 :∀ (a:List aC) (b:List Int),a.length=b.length→ (zipWith LFun.mk a b).map LFun.body=b∧ (zipWith LFun.mk a b).map LFun.name=a
 | [],[],_=> ⟨rfl,rfl⟩
 | [],_::_,h=>by simp at h
 |_::_,[],h=>by simp at h
 | x::a,y::b,h=>by
  obtain⟨h1,h2⟩ :=aK5 a b (by simpa using h);rw [List.zipWith_cons_cons,map_cons,map_cons,h1,h2];exact⟨rfl,rfl⟩
theorem aEL (off:Nat)(u:LUnit) : (aE u).length= (aIr off u).length:=by simp [aIr,aE,bO]
def iY :Nat→List LUnit→List Int
 |_,[] =>[]
 |off,u::l=>aIr off u++iY (off+u.nodes.length) l
theorem aA9 :∀ (l:List LUnit) (off:Nat),(aEK off l).map LFun.body=iY off l
 | [],off=>rfl
 | u::l,off=>by
  rw [aEK,map_append,(aK5 _ _ (aEL off u)).1,aA9 l,iY]
theorem aGv :∀ (l m:List LUnit) (off:Nat),iY off (l++m) =iY off l++iY (off+aT l) m
 | [],m,off=>by simp [iY,aT]
 | u::l,m,off=>by
  rw [cons_append,iY,iY,aGv l m,append_assoc,aT,Nat.add_assoc]
theorem mZ :∀ (l:List LUnit) (off:Nat),(iY off l).length= (bI l).length
 | [],off=>rfl
 |u::l,off=>by rw [iY,length_append,←aEL,mZ l,qJ,length_append]
section
variable {T ls:List aC} {cs:List Con} {a:Prog} {l:List LUnit}
theorem aEM (hg:∀u∈l,GoodU u)(ha:a.nodes=lU T ls cs 0 l){l1 l2:List LUnit}{u:LUnit}(hl:l=l1++u::l2) :Laid a (aT l1) (dF u) (mfU T ls u) (mcU cs u) (toL (dF u) (aT l1)) :=by
 have hw:=mT (hg u (by rw [hl];simp));refine⟨fun i k hk=>?_,hw.toL _⟩;have h1:=aBU (T:=T) (ls:=ls) (cs:=cs) l1 0 (fun x hx=>hg x (by rw [hl];simp [hx]));have hlt:= (List.getElem?_eq_some_iff.1 hk).1;rw [ha,hl,aGu,lU,List.getElem?_append_right (by omega),h1,show aT l1+i-aT l1=i by omega,Nat.zero_add,List.getElem?_append_left (by unfold aQp;rw [length_map];exact hlt)];unfold aQp;rw [getElem?_map,hk];rfl
theorem aEN (hg:∀u∈l,GoodU u)(ha:a.nodes=lU T ls cs 0 l){N:Nat}(hN:aT l≤N) :∀ (l2 l1:List LUnit),l=l1++l2 →
  ((iY (aT l1) l2).map (pre a N)).flatten= (range (aT l2)).map fun i=> ((aT l1+i:Nat) :Int)
 | [],l1,_=>rfl
 | u::l2,l1,hl=>by
  have hw:=mT (hg u (by rw [hl];simp));have hsz:aT l=aT l1+ (u.nodes.length+aT l2) :=by rw [hl,wZ,aT]
  have e1:= (aEM (T:=T) (ls:=ls) (cs:=cs) (a:=a) hg ha hl).walkW hw (F:=N) (by change u.nodes.length≤N;omega);have e2:=aEN hg ha hN l2 (l1++ [u]) (by rw [hl,append_assoc];rfl);have es:aT (l1++ [u]) =aT l1+u.nodes.length:=by rw [wZ,aT,aT];omega
  rw [es]at e2;rw [iY,map_append,List.flatten_append,e2]
  change ((aIr (aT l1) u).map (pre a N)).flatten=_ at e1
  rw [e1,aT,List.range_add,map_append,map_map];congr 1;refine List.map_congr_left (fun i _=>?_);simp only [Function.comp];omega
end
def aZs(a:LUnit):TS:=dB PP 161 [(.agg [(aB a.name),(iC a.cons),(.ilst 2 (map LFun.av a.funs) false),(iS a.needs),(iN a.nodes)])] [] 0
def aIs(a:LUnit)(c:Int)(b:List aC):TS:=⟨(tf 161 20 [(2,.nils),(3,(.gl 0 1 0 b.length false)),(7,(.ilst 2 (map LFun.av a.funs) false)),(8,(nI (a.funs.length:Int))),(9,(nI c))] [kc f161 116,kl f161 116,.inBlock 0,kc f161 15]),[],[oL 0 1 (map aB b)],1⟩
def aZt(a:Con):TS:=dB PP 159 [(.agg [(aB a.name),(nI a.args)])] [] 0
def bA9(a:List aC):TS:=dB PP 139 [(iS a)] [] 0
def aIt(a:List aC)(b:Int):TS:=⟨(tf 204 19 [(0,(iS a)),(1,(.func 202 [] [])),(4,(nI 0)),(7,(nI (a.length:Int))),(8,(nI b))] [kc f204 52,kl f204 52,.inBlock 0,kc f204 7]),[(tf 201 9 [(4,(bV false)),(5,(iS a)),(6,(.func 202 [] []))] [ko f201 6 2,kc f201 7]),(tf 139 10 [(0,(iS a)),(2,(bV false)),(3,(iS a))] [ko f139 6 1,kc f139 7])],[],0⟩
def aBV(a:List aC)(c:Int)(b:List (aC×Bool)):TS:=⟨(tf 203 25 [(1,(.func 141 [] [])),(4,(bV false)),(5,(.map 0)),(9,(iS a)),(10,(nI (a.length:Int))),(11,(nI c))] [kc f203 116,kl f203 116,.inBlock 0,kc f203 15]),[(tf 139 10 [(2,(bV false)),(6,(bV true)),(7,(iS a))] [ko f139 6 5,kc f139 7])],[(0,(.map (aF aB mA 0 b) b.length),true)],1⟩
def aTC(a:List Node):TS:=dB PP 189 [(iN a)] [] 0
def bBa(a:List Node):TS:=⟨(tf 189 8 [(0,(iN a)),(2,.nils),(3,(iN a))] [ko f189 12 1,kc f189 13,kc f189 7]),[],[],0⟩
def bAs(a:List Node):TS:=⟨(tf 189 8 [(0,(iN a)),(2,.nils),(3,.nils)] [ko f189 12 1,kc f189 13,kc f189 7]),[],[],0⟩
def bAt(a:List Node)(b:Addr)(c d:Nat):TS:=⟨(tf 189 8 [(0,(iN a)),(2,.nils),(3,(.val (Value.slice (some b) c d)))] [ko f189 12 1,kc f189 13,kc f189 7]),[],[],0⟩
def aTD(a b:List aC):TS:=dB PP 160 [(.slice 0 0 2 2 1 true)] [oC 0 [(iS a),(iS b)]] 1
def aZu(a:List Con)(b:aC):TS:=dB PP 158 [(iC a),(.func 159 [] []),(aB b)] [] 0
def aIu(a:List Con)(b:aC)(c:Int):TS:=⟨(tf 223 19 [(0,(iC a)),(1,(.func 224 [] [(.ptr 0 0),(.ptr 1 0)])),(4,(nI 0)),(7,(nI (a.length:Int))),(8,(nI c))] [kc f223 52,kl f223 52,.inBlock 0,kc f223 7]),[(tf 158 10 [(6,(nI 0)),(7,(iC a)),(8,(.func 224 [] [(.ptr 0 0),(.ptr 1 0)]))] [ko f158 6 2,kc f158 7])],[oC 0 [(.func 159 [] [])],oC 1 [(aB b)]],2⟩
def bBb(a:List aC)(b:aC):TS:=dB PP 151 [(iS a),(aB b)] [] 0
def aIv(a:List aC)(b:aC)(c:Int):TS:=⟨(tf 151 19 [(0,(iS a)),(1,(aB b)),(4,(nI 0)),(7,(nI (a.length:Int))),(8,(nI c))] [kc f151 52,kl f151 52,.inBlock 0,kc f151 7]),[],[],0⟩
def aZv(a:LUnit):TS:=dB PP 121 [(.agg [(aB a.name),(iC a.cons),(.ilst 2 (map LFun.av a.funs) false),(iS a.needs),(iN a.nodes)])] [] 0
def aIw(a:LUnit)(c:List aC)(d:Int)(b:List Int):TS:=⟨(tf 121 114 [kp 1 0,(2,(bV false)),(3,(iS c)),kp 4 1,(49,(.ilst 2 (map LFun.av a.funs) false)),(50,(nI (a.funs.length:Int))),(51,(nI d))] [kc f121 500,kl f121 500,.inBlock 0,kc f121 63]),[],[oC 0 [(aB a.name),(iC a.cons),(.ilst 2 (map LFun.av a.funs) false),(iS a.needs),(iN a.nodes)],oC 1 [(.gl 2 4 0 a.nodes.length false),(.gl 3 1 0 b.length false),(nI 0),(iC a.cons)],oL 2 4 (jN a.nodes),oL 3 1 (jI b)],4⟩
def sX(a:LUnit)(d:List aC)(e:Int)(b:List Node)(c:List Int)(f:Int):TS:=⟨(tf 121 114 [kp 1 0,(2,(bV false)),(3,(iS d)),kp 4 1,(76,(.gl 2 4 0 b.length false)),(77,(nI e)),(78,(nI f))] [kc f121 2036,kl f121 2036,.inBlock 2,kc f121 255]),[],[oC 0 [(aB a.name),(iC a.cons),(.ilst 2 (map LFun.av a.funs) false),(iS a.needs),(iN a.nodes)],oC 1 [(.gl 2 4 0 b.length false),(.gl 3 1 0 c.length false),(nI 0),(iC a.cons)],oL 2 4 (jN b),oL 3 1 (jI c)],4⟩
def aWT (a:LUnit):=(tT 0 (aZs a)<|gl 14 LFun.av a.funs<|.i [rn 4,.nilL 3 1] []<|gu 0 1 (map aB ([] :List aC))<|gs 0 3 (.gl 1 1 0 ([] :List aC).length false)<|.W 0 2 [1] (aIs a 0 ([] :List aC))) ⟨kk,trivial⟩
def aTE(c:LUnit)(a:Int)(b:List aC):=tT 0 (aIs c a b)<|gd 5 10 (a< (c.funs.length:Int)) (gX LFun.av 6 c.funs a<|fun d=>ga 9 aB b [d.name]<|gw 5 18 (a+1)<|.W 3 4 [3] (aIs c (a+1) (b++ [d.name])))<|gz 8 2 0 1 aB b false<|gE 0 1 (iS b)
def aWU:=fun a b c d e f g i j=>aTE a b c|>.t e d f g i j ⟨kk,trivial⟩
def aWV:=fun a b c d=>aTE a b c|>.f d tv
def aWW (a:Con):=(tT 0 (aZt a)<|gE 12 1 (aB a.name)) tv
def aWX (a:List aC):=(tT 0 (bA9 a)<|gl 25 aB a<|.W 4 0 [] (aIt a 0)) tv
def aNl(a:List aC)(b:Int):=tT 0 (aIt a b)<|gd 5 9 (b< (a.length:Int)) (gX aB 14 a b<|fun c=>fQ 9 85 [(aB c)]<|fun d=>.b 6 16 (!d) (.b 15 6 (!(decide (b≥0))) (.i [rn 9,.mset 0 (aF aB mA 0 ([] :List (aC×Bool))) ([] :List (aC×Bool)).length] [hr (aF aB mA 0 ([] :List (aC×Bool))),hr (length ([] :List (aC×Bool)))]<|gl 6 aB a<|.W 4 1 [0] (aBV a 0 ([] :List (aC×Bool))))<|gE 6 0 (bV false))<|gw 5 18 (b+1)<|.W 3 0 [] (aIt a (b+1)))<|.i [rn 24,.mset 0 (aF aB mA 0 ([] :List (aC×Bool))) ([] :List (aC×Bool)).length] [hr (aF aB mA 0 ([] :List (aC×Bool))),hr (length ([] :List (aC×Bool)))]<|gl 6 aB a<|.W 4 1 [0] (aBV a 0 ([] :List (aC×Bool)))
def aWY:=fun a b c d e f g i j k=>aNl a b|>.t e c f g d i|>.t j|>.f k tv
def aWZ:=fun a b c d e f g i j k=>aNl a b|>.t e c f g d i|>.f j k tv
def aW0:=fun a b c=>aNl a b|>.f c ⟨aO (fun _=>rfl) (fun _=>rfl) _ _ _,trivial⟩
def aNm(f:List aC)(c:Int)(a:List (aC×Bool)):=tT 0 (aBV f c a)<|gd 5 12 (c< (f.length:Int)) (gX aB 6 f c<|fun g=>gpS 9 141 [(aB g)]<|fun d=>.o (.y fun b:Bool=>.i [.ans (.look (some (vK d a,(mA b))))] [.a (dU d a=some b) (p':=eP (aB d) (aF aB mA 0 a) 0=some (some (vK d a,(mA b)))) (pZ fY)]<|.b 1 19 b (gE 11 1 (bV false))<|gpS 6 141 [(aB g)]<|fun e=>.i [.mput (aF aB mA 0 (bX e true a)) (bX e true a).length] [.q (p:=rU (aF aB mA 0 a) a.length (aB e) (mA true) =some ((aF aB mA 0 (bX e true a)),length (bX e true a))) (aHq fY _ _ _)]<|gw 4 24 (c+1)<|.W 3 1 [0] (aBV f (c+1) (bX e true a)))<|.i [.ans (.look none)] [.a (dU d a=none) (p':=eP (aB d) (aF aB mA 0 a) 0=some none) (pY fY)]<|gpS 7 141 [(aB g)]<|fun b=>.i [.mput (aF aB mA 0 (bX b true a)) (bX b true a).length] [.q (p:=rU (aF aB mA 0 a) a.length (aB b) (mA true) =some ((aF aB mA 0 (bX b true a)),length (bX b true a))) (aHq fY _ _ _)]<|gw 4 24 (c+1)<|.W 3 1 [0] (aBV f (c+1) (bX b true a)))<|gE 12 1 (bV true)
def aW1:=fun a b c d e f g i j k l m=>aNm a b c|>.t g d i j e k|>.1 f l|>.t m tv
def aW2:=fun a b c d e f g i j k l m n=>aNm a b c|>.t g d i j e k|>.2 l f m n ⟨aO (fun _=>rfl) (fun _=>rfl) _ _ _,trivial⟩
def aW3:=fun a b c d=>aNm a b c|>.f d tv
def bBc (a:List Node):=(tT 0 (aTC a)<|.W 8 0 [] (bBa a)) tv
def bBd (a:List Node):=(tT 0 (bAs a)<|.i [rn 8,.nilL 2 4] []<|.E 0 1 [0] (.gl 0 4 0 0 false) [oL 0 4 (jN ([] :List Node))] 1) ⟨kk,trivial⟩
def bBe (a:List Node)(b:Addr)(c d:Nat):=fun e=>(tT 0 (bAt a b c d)<|.i [rn 8,.toL 5 true []] [.q (p:=getCells (putCells .leaf 0 []) 0 (0*4) =some []) rfl,hr true]<|gu 0 0 (jN ([] :List Node))<|gs 0 5 (.gl 0 4 0 ([] :List Node).length true)<|.i [.weak 5] []<|ga 0 Node.av ([] :List Node) a<|.E 3 2 [1] (.gl 0 4 0 (([] :List Node) ++a).length false) [oL 0 4 (jN (([] :List Node) ++a))] 1) e ⟨kk,trivial⟩
def aTF(a b:List aC):=tT 1 (aTD a b)<|gl 36 aB a<|gw 1 18 (0+ (a.length:Int))<|gd 7 20 ((0+ (a.length:Int)) <0) (.P 4 1 [] [((.iface 9 (.str 16 134789072936214216453580009062074836332)),false)] [oC 0 [(iS a),(iS b)]] 1)<|gl 27 aB b<|gw 1 18 ((0+ (a.length:Int)) + (b.length:Int))<|gd 7 20 (((0+ (a.length:Int)) + (b.length:Int)) <0) (.P 4 1 [] [((.iface 9 (.str 16 134789072936214216453580009062074836332)),false)] [oC 0 [(iS a),(iS b)]] 1)<|gd 29 6 (((0+ (a.length:Int)) + (b.length:Int)) <0) .x<|gw 12 14 (((0+ (a.length:Int)) + (b.length:Int)) -0)<|gd 7 16 ((((0+ (a.length:Int)) + (b.length:Int)) -0) >0) (.i [rn 7,.appN (map aB (replicate (((0+ (a.length:Int)) + (b.length:Int)) -0).toNat ([] :aC))) (((0+ (a.length:Int)) + (b.length:Int)) -0).toNat] [hA ((((0+ (a.length:Int)) + (b.length:Int)) -0) = (((((0+ (a.length:Int)) + (b.length:Int)) -0).toNat:Nat) :Int)),hA (0< (((0+ (a.length:Int)) + (b.length:Int)) -0).toNat),hA ((((0+ (a.length:Int)) + (b.length:Int)) -0).toNat<100000),.q (p:=iR [AV.str 0 0] (((0+ (a.length:Int)) + (b.length:Int)) -0).toNat= (map aB (replicate (((0+ (a.length:Int)) + (b.length:Int)) -0).toNat ([] :aC)))) (aKH _),.q (p:=cG (map aB (replicate (((0+ (a.length:Int)) + (b.length:Int)) -0).toNat ([] :aC))) =true) (vV _)]<|.i [.toL 22 false (map aB (replicate (((0+ (a.length:Int)) + (b.length:Int)) -0).toNat ([] :aC)))] [.q (p:=getCells (putCells .leaf 0 (map aB (replicate (((0+ (a.length:Int)) + (b.length:Int)) -0).toNat ([] :aC)))) 0 ((((0+ (a.length:Int)) + (b.length:Int)) -0).toNat*1) =some (map aB (replicate (((0+ (a.length:Int)) + (b.length:Int)) -0).toNat ([] :aC)))) (aS4 _),.q (p:=cG (map aB (replicate (((0+ (a.length:Int)) + (b.length:Int)) -0).toNat ([] :aC))) =true) (vV _)]<|.i [.lset 1 (map aB (replicate (((0+ (a.length:Int)) + (b.length:Int)) -0).toNat ([] :aC)))] [.q (p:=mH false 1 (((0+ (a.length:Int)) + (b.length:Int)) -0).toNat (map aB (replicate (((0+ (a.length:Int)) + (b.length:Int)) -0).toNat ([] :aC))) = (map aB (replicate (((0+ (a.length:Int)) + (b.length:Int)) -0).toNat ([] :aC)))) (aS5 _)]<|.i [rn 2,.ans (.ev (.gl 1 1 0 0 false))] [.a (0≤ (((0+ (a.length:Int)) + (b.length:Int)) -0).toNat) (p':=aJb PP 25 (.gl 1 1 0 ((((0+ (a.length:Int)) + (b.length:Int)) -0).toNat) false) none (some (nI 0)) (.gl 1 1 0 0 false)) (fun h=>(aRd (k:=0) (by kernel_rfl) (by decide) h))]<|.i [rn 38,.app (map aB a) a.length] [.q (p:=0+0≤length (map aB (replicate (((0+ (a.length:Int)) + (b.length:Int)) -0).toNat ([] :aC)))) (Nat.zero_le _),hA (a.length≤1000000),.q (p:=take 0 (drop 0 (map aB (replicate (((0+ (a.length:Int)) + (b.length:Int)) -0).toNat ([] :aC)))) ++ (map aB a) = (map aB a)) (by rw [List.take_zero,List.nil_append]),.q (p:=0+length (map aB a) =a.length) (by rw [Nat.zero_add,length_map])]<|ga 26 aB a b<|gz 21 2 3 1 aB (a++b) false<|.E 0 4 [] (iS (a++b)) [oC 0 [(iS a),(iS b)]] 1)<|.i [rn 38,.nilL 31 1] []<|gu 0 1 (map aB ([] :List aC))<|gs 0 31 (.gl 1 1 0 ([] :List aC).length false)<|ga 0 aB ([] :List aC) a<|ga 26 aB (([] :List aC) ++a) b<|gz 21 2 3 1 aB ((([] :List aC) ++a) ++b) false<|.E 0 4 [] (iS ((([] :List aC) ++a) ++b)) [oC 0 [(iS a),(iS b)]] 1
def aW4:=fun b c d e f a g i j k l m n o=>aTF b c d|>.f e f|>.f a|>.f a g|>.t i j k l m n o tv
def aW5:=fun b c d e f a g i j k=>aTF b c d|>.f e f|>.f a|>.f a g|>.f i j k tv
def aW6 (a:List Con)(b:aC):=(tT 0 (aZu a b)<|gl 19 Con.av a<|.W 4 2 [0,1] (aIu a b 0)) tv
def aNn(c:List Con)(a:aC)(b:Int):=tT 0 (aIu c a b)<|gd 5 9 (b< (c.length:Int)) (gX Con.av 14 c b<|fun e=>.y fun d:aC=>.i [rn 8,.reg (.d::.d::.pure (aB d)::rd 3 [])] [hA (Pure PP 159 [(.agg [(aB e.name),(nI e.args)])] (aB d)),hr (aB a),hr (aB a)]<|.b 3 16 (bF d.length (aA d) a.length (aA a)) (gE 11 3 (nI b))<|gw 5 18 (b+1)<|.W 3 3 [0,1] (aIu c a (b+1)))<|gE 11 2 (nI (-1))
def aW7:=fun a b c d e f g i j k=>aNn a b c|>.t f d g i e j|>.t k tv
def aW8:=fun a b c d e f g i j k l=>aNn a b c|>.t f d g i e j|>.f k l tv
def aW9:=fun a b c d=>aNn a b c|>.f d tv
def aXa (a:List aC)(b:aC):=(tT 0 (bBb a b)<|gl 8 aB a<|.W 4 0 [] (aIv a b 0)) tv
def aNo(b:List aC)(c:aC)(a:Int):=tT 0 (aIv b c a)<|gd 5 9 (a< (b.length:Int)) (gX aB 14 b a<|fun d=>.b 3 16 (bF c.length (aA c) d.length (aA d)) (gE 7 0 (nI a))<|gw 5 18 (a+1)<|.W 3 0 [] (aIv b c (a+1)))<|gE 7 0 (nI (-1))
def aXb:=fun a b c d e f g i=>aNo a b c|>.t e d f g|>.t i tv
def aXc:=fun a b c d e f g i j=>aNo a b c|>.t e d f g|>.f i j tv
def aXd:=fun a b c d=>aNo a b c|>.f d tv
def aBW(a:LUnit):=tT 0 (aZv a)<|.y fun b:List aC=>gp 8 161 [(.agg [(aB a.name),(iC a.cons),(.ilst 2 (map LFun.av a.funs) false),(iS a.needs),(iN a.nodes)])] (iS b)<|fQ 7 85 [(aB a.name)]<|fun c=>.b 2 16 (!c) (gE 32 1 (bV false))<|gl 2 aB a.needs<|gd 3 22 ((a.needs.length:Int) >20) (gE 26 1 (bV false))<|fQ 1 139 [(iS b)]<|fun d=>.b 3 27 (!d) (gE 21 1 (bV false))<|fQ 2 139 [(iS a.needs)]<|fun e=>.b 3 33 (!e) (gE 15 1 (bV false))<|gk 4 (.enter 160 [(.slice 1 0 2 2 1 true)]) [oC 0 [(aB a.name),(iC a.cons),(.ilst 2 (map LFun.av a.funs) false),(iS a.needs),(iN a.nodes)],oC 1 [(iS b),(iS a.needs)]] 2 (iS (b++a.needs)) [oC 0 [(aB a.name),(iC a.cons),(.ilst 2 (map LFun.av a.funs) false),(iS a.needs),(iN a.nodes)],oC 1 [(iS b),(iS a.needs)]] 2<|fQ 0 139 [(iS (b++a.needs))]<|fun f=>.b 3 41 (!f) (gE 6 2 (bV false))<|.i [rn 3,.reg (rd 4 (.call (.gl 3 4 0 a.nodes.length false) (aG [oC 0 [(aB a.name),(iC a.cons),(.ilst 2 (map LFun.av a.funs) false),(iS a.needs),(iN a.nodes)],oC 1 [(iS b),(iS a.needs)],oL 3 4 (jN a.nodes)] 4)::rd 3 []))] [hA (Spec PP (.enter 189 [(iN a.nodes)]) (aG [oC 0 [(aB a.name),(iC a.cons),(.ilst 2 (map LFun.av a.funs) false),(iS a.needs),(iN a.nodes)],oC 1 [(iS b),(iS a.needs)]] 3) (.ret (.gl 3 4 0 a.nodes.length false)) (aG [oC 0 [(aB a.name),(iC a.cons),(.ilst 2 (map LFun.av a.funs) false),(iS a.needs),(iN a.nodes)],oC 1 [(iS b),(iS a.needs)],oL 3 4 (jN a.nodes)] 4)),hr (AV.ilst 2 (jC a.cons) false),hr (AV.ilst 2 (jC a.cons) false)]<|gl 5 LFun.av a.funs<|.i [rn 4,.cnil 2 1 1] []<|gu 0 4 (jI ([] :List Int))<|gv 0 2 1 (.gl 4 1 0 ([] :List Int).length false)<|.W 0 5 [0,2,3,4] (aIw a b 0 ([] :List Int))
def aXe:=fun a b c d e f=>aBW a b d c e|>.t f tv
def aXf:=fun a b c d e f g=>aBW a b d c e|>.f f|>.t g tv
def aXg:=fun a b c d e f g i j k=>aBW a b e c f|>.f g|>.f i d j|>.t k tv
def aXh:=fun a b c d e f g i j k l m n=>aBW a b f c g|>.f i|>.f j d k|>.f l e m|>.t n tv
def aXi:=fun a b c d e f g i j k l m n o p q r=>aBW a b g c i|>.f j|>.f k d l|>.f m e n|>.f o p f q|>.t r tv
def aXj:=fun a b c d e f g i j k l m n o p q r s=>aBW a b g c i|>.f j|>.f k d l|>.f m e n|>.f o p f q|>.f r s ⟨kk,⟨kk,trivial⟩⟩
def aIx(a:LUnit)(b:List aC)(c:Int)(d:List Int):=tT 0 (aIw a b c d)<|gd 5 52 (c< (a.funs.length:Int)) (gX LFun.av 6 a.funs c<|fun e=>ga 10 aP d [e.body]<|gw 6 62 (c+1)<|.W 3 7 [0,1,2,6] (aIw a b (c+1) (d++ [e.body])))<|gl 6 aB b<|.b 2 65 ((b.length:Int) ==0) (gl 6 Node.av a.nodes<|gd 2 69 ((a.nodes.length:Int) >0) (gE 6 4 (bV false))<|.i [rn 13,.ctoL 1 0 true [(nI 3),(nI 0),.nils,.nils]] [hr (some [(nI 3),(nI 0),.nils,.nils]),hr true]<|.i [.lw 4 (jN [(Node.mk 3 0 [] [])])] [.q (p:=([(.agg [(nI 3),(nI 0),.nils,.nils])] :List AV) ≠ []) (by simp),.q (p:=VW [(.agg [(nI 3),(nI 0),.nils,.nils])] (jN [(Node.mk 3 0 [] [])])) (aOf _ _)]<|gv 0 1 0 (.gl 4 4 0 [(Node.mk 3 0 [] [])].length true)<|.i [.cweak 1 0] []<|.i [.ctoL 1 1 false [(nI 0)]] [hr (some [(nI 0)]),hr true]<|gu 0 5 (jI [0])<|gv 0 1 1 (.gl 5 1 0 [0].length true)<|.i [.cweak 1 1] []<|.W 8 6 [0,1,4,5] (sX a b (([(Node.mk 3 0 [] [])].length:Nat) :Int) [(Node.mk 3 0 [] [])] [0] 0))<|.W 12 4 [0,1,2,3] (sX a b (a.nodes.length:Int) a.nodes d 0)
def aXk:=fun a b c d e f g i j k=>aIx a b c d|>.t f e g i j k ⟨kk,⟨kk,trivial⟩⟩
def aXl:=fun a b c d e f g=>aIx a b c d|>.f e|>.t f|>.t g tv
def aXm:=fun a b c d e f g=>aIx a b c d|>.f e|>.t f|>.f g ⟨kk,⟨kk,trivial⟩⟩
def aXn:=fun a b c d e f=>aIx a b c d|>.f e|>.f f ⟨kk,⟨kk,trivial⟩⟩
def aEO(e:LUnit)(f:List aC)(g:Int)(b:List Node)(d:List Int)(c:Int):=tT 0 (sX e f g b d c)<|gd 5 79 (c<g) (.i [rn 7,.ans (.ix)] [hA (0≤c),hA (c< (b.length:Int))]<|.y fun a:Node=>gj Node.av 0 b c.toNat a<|gw 9 85 ((-1:Int) -a.n)<|.b 8 89 (a.op==4) (gl 2 aB f<|gd 3 95 (((-1:Int) -a.n) ≥ (f.length:Int)) (gl 2 aB f<|gl 2 aB e.needs<|gw 1 102 ((f.length:Int) + (e.needs.length:Int))<|gd 3 104 (((-1:Int) -a.n) < ((f.length:Int) + (e.needs.length:Int))) (.i [rn 5,.ans (.ix)] [hA (0≤c),hA (c< (b.length:Int))]<|.i [rn 1,.st (Node.av a) (Node.av (Node.mk a.op (-1) a.kids a.pats))] [.a (((b)[c.toNat]?) =some a) (gI (f:=Node.av)),hr (some (Node.av (Node.mk a.op (-1) a.kids a.pats)))]<|.i [.lset 2 (jN (set b c.toNat (Node.mk a.op (-1) a.kids a.pats)))] [.q (p:=(jN b).set (0+c.toNat) (Node.av (Node.mk a.op (-1) a.kids a.pats)) = (jN (set b c.toNat (Node.mk a.op (-1) a.kids a.pats)))) (nP _ _ _ _)]<|.i [.set 76 (.gl 2 4 0 (set b c.toNat (Node.mk a.op (-1) a.kids a.pats)).length false)] [.q (p:=(AV.gl 2 4 0 b.length false) = (.gl 2 4 0 (set b c.toNat (Node.mk a.op (-1) a.kids a.pats)).length false)) (cF (length_set ..).symm)]<|.i [.set 106 (.gl 2 4 0 (set b c.toNat (Node.mk a.op (-1) a.kids a.pats)).length false)] [.q (p:=(AV.gl 2 4 0 b.length false) = (.gl 2 4 0 (set b c.toNat (Node.mk a.op (-1) a.kids a.pats)).length false)) (cF (length_set ..).symm)]<|.i [.cset 1 0 (.gl 2 4 0 (set b c.toNat (Node.mk a.op (-1) a.kids a.pats)).length false)] [.q (p:=(AV.gl 2 4 0 b.length false) = (.gl 2 4 0 (set b c.toNat (Node.mk a.op (-1) a.kids a.pats)).length false)) (cF (length_set ..).symm)]<|gw 4 110 (c+1)<|.W 3 5 [0,1,2,3] (sX e f g (set b c.toNat (Node.mk a.op (-1) a.kids a.pats)) d (c+1)))<|gw 5 110 (c+1)<|.W 3 5 [0,1,2,3] (sX e f g b d (c+1)))<|gw 15 110 (c+1)<|.W 3 5 [0,1,2,3] (sX e f g b d (c+1)))<|gw 21 110 (c+1)<|.W 3 5 [0,1,2,3] (sX e f g b d (c+1)))<|.i [rn 5,.frz 111 2 (jN b)] [hk Node.av b,.q (p:=AV.frzOk 2 4 (jN b) (jN b) (.agg [(.gl 2 4 0 b.length false),(.gl 3 1 0 d.length false),(nI 0),(iC e.cons)])) (by simp [AV.frzOk,AV.frzOkL,List.take_of_length_le])]<|.i [.frz 111 3 (jI d)] [hk aP d,.q (p:=AV.frzOk 3 1 (jI d) (jI d) (.agg [(iN b),(.gl 3 1 0 d.length false),(nI 0),(iC e.cons)])) (by simp [AV.frzOk,AV.frzOkL,List.take_of_length_le])]<|gpI 0 138 [(.agg [(iN b),(iI d),(nI 0),(iC e.cons)])]<|fun a=>gE 4 4 (bV (a==0))
def aXo:=fun d e f g i j k l a b c m n o p q r=>aEO d e f g i j|>.t l a b k c m|>.t n|>.t o p|>.t q a b c r ⟨kk,⟨kk,trivial⟩⟩
def aXp:=fun a b c d e f g i j k l m n o p q r=>aEO a b c d e f|>.t i j k g l m|>.t n|>.t o p|>.f q r ⟨kk,⟨kk,trivial⟩⟩
def aXq:=fun a b c d e f g i j k l m n o p=>aEO a b c d e f|>.t i j k g l m|>.t n|>.f o p ⟨kk,⟨kk,trivial⟩⟩
def aOt:=fun a b c d e f g i j k l m n o=>aEO a b c d e f|>.t i j k g l m|>.f n o ⟨kk,⟨kk,trivial⟩⟩
def aOu:=fun a b c d e f g i j=>aEO a b c d e f|>.f i g j tv
def bBf(a:Bool)(b:Int):TS:=dB PP 67 [(bV a),(nI b)] [] 0
def bBg(a:aC):TS:=dB PP 141 [(aB a)] [] 0
def aTG(a:Bool)(b:Int):=tT 0 (bBf a b)<|.b 4 4 a (gQ 6 0 [((.iface 201 (.agg [(nI b)])),false)])<|gE 3 0 (.tup [])
def aXr:=fun a b c=>aTG a b|>.t c tv
def aXs:=fun a b c=>aTG a b|>.f c tv
def aXt (a:aC):=(tT 0 (bBg a)<|gE 10 0 (aB a)) tv
end
end Go.Hb

set_option linter.defProp false
set_option linter.unusedVariables false
set_option linter.unusedSimpArgs false
set_option linter.unusedSectionVars false
set_option maxRecDepth 100000
set_option maxHeartbeats 4000000
namespace Go.Hb
open AV (ilst keyless keylessL)
open Bool (and_eq_true eq_false_iff not_eq_true not_eq_true')
open Eq (mp)
open Int (toNat_natCast)
open List (all_cons append_assoc append_nil getElem?_map length length_cons length_map map map_id map_nil mem_cons_of_mem mem_cons_self mem_of_getElem? nil_append nodup_append range zipWith)
open Go.Proofs Tryz
noncomputable section
theorem bAu (e:Int) :Pure PP 67 [.bool false,.int .i64 e] (.tup []) :=
 aQ (by kernel_rfl) rfl rfl (aXs false e rfl)
theorem bAv (e:Int) :aG3 PP 67 [.bool true,.int .i64 e] [((.iface 201 (.agg [(.int .i64 e)])),false)] :=
 throws_at (by kernel_rfl) rfl (fun x hx=>by rw [List.mem_singleton.1 hx];rfl) (aXr true e rfl)
theorem aEP (s:aC) :Pure PP 141 [aB s] (aB s) :=aQ (by kernel_rfl) rfl rfl (aXt s)
theorem wE (c:Con) :Pure PP 159 [.agg [aB c.name,.int .i64 c.args]] (aB c.name) :=
 eM (s:=aZt c) (by kernel_rfl) (by kernel_rfl) rfl rfl (aWW c)
theorem aK6 (u:LUnit)(hl:u.funs.length≤1000) :∀ (t:List LFun) (i:Nat) (acc:List aC),u.funs.drop i=t→acc.length=i→Ends PP 0 (aIs u (i:Int) acc).as (.ret (.ilst 1 (map aB (acc++t.map LFun.name)) false)) (aG [] 0)
 | [],i,acc,h,ha=>by
  have:=bD h;rw [map_nil,append_nil];exact aWV u i acc sd
 | c::t,i,acc,h,ha=>by
  obtain⟨q1,q2,q3⟩ :=bC h;have hi:= (List.getElem?_eq_some_iff.1 q1).1;refine(aWU u i acc c sd sd sd (by simp;omega) sd).ends ?_;have:=aK6 u hl t (i+1) (acc++ [c.name]) q2 (by simp [ha]);rw [append_assoc]at this;exact this
theorem aK7 (u:LUnit)(hl:u.funs.length≤1000) :Pure PP 161 [LUnit.av u] (.ilst 1 (map aB (aE u)) false) :=
 eM (s:=aZs u) (by kernel_rfl) (by kernel_rfl) (by simp [keylessL,vW]) (by simp [keyless]) ((aWT u).ends (aK6 u hl u.funs 0 [] rfl rfl))
theorem aK8 (l:List aC)(s:aC)(hl:l.length<1000000) :∀ (t:List aC) (i:Nat),l.drop i=t→Ends PP 0 (aIv l s (i:Int)).as (.ret (.int .i64 (dR s t i))) (aG [] 0)
 | [],i,h=>by
  have:=bD h;exact aXd l s i sd
 | c ::t,i,h=>by
  obtain⟨q1,q2,q3⟩ :=bC h;rw [dR];by_cases e:c=s
  · rw [if_pos e];exact aXb l s i c sd sd sd (by rw [dQ];simp [e])
  · rw [if_neg e];exact(aXc l s i c sd sd sd (by rw [dQ];simp [Ne.symm e]) sd).ends (aK8 l s hl t (i+1) q2)
theorem aTH (l:List aC)(s:aC)(hl:l.length<1000000) :Pure PP 151 [.ilst 1 (map aB l) false,aB s] (.int .i64 (dR s l 0)) :=
 aQ (by kernel_rfl) rfl rfl ((aXa l s).ends (aK8 l s hl l 0 rfl))
theorem aK9 (l:List Con)(s:aC)(hl:l.length<1000000) :∀ (t:List Con) (i:Nat),l.drop i=t→Ends PP 0 (aIu l s (i:Int)).as (.ret (.int .i64 (fP s t i))) (aG [] 0)
 | [],i,h=>by
  have:=bD h;exact aW9 l s i sd
 | c ::t,i,h=>by
  obtain⟨q1,q2,q3⟩ :=bC h;rw [fP];by_cases e:c.name=s
  · rw [if_pos e];exact aW7 l s i c _ sd sd sd (wE c) (by rw [dQ];simp [e])
  · rw [if_neg e];exact(aW8 l s i c _ sd sd sd (wE c) (by rw [dQ];simp [e]) sd).ends (aK9 l s hl t (i+1) q2)
theorem aTI (l:List Con)(s:aC)(hl:l.length<1000000) :Pure PP 158 [.ilst 2 (map Con.av l) false,.func 159 [] [],aB s] (.int .i64 (fP s l 0)) :=
 eM (s:=aZu l s) (by kernel_rfl) (by kernel_rfl) rfl rfl ((aW6 l s).ends (aK9 l s hl l 0 rfl))
def aTJ (pre:List aC)(m:List (aC×Bool)) :Prop:=∀s,dU s m=if bL pre s=true then some true else none
theorem aQq {pre:List aC}{m:List (aC×Bool)}(h:aTJ pre m)(s:aC) :aTJ (pre++ [s]) (bX s true m) :=fun k=>by
 rw [qH,h k];by_cases e:k=s
 ·rw [if_pos e,if_pos (by rw [hasS_mem,e];simp)]
 · rw [if_neg e];have: (bL (pre++ [s]) k=true) = (bL pre k=true) :=by
    rw [hasS_mem,hasS_mem];simp [e]
   simp only [this]
theorem aZw (l:List aC)(hl:l.length<1000000) :∀ (t:List aC) (i:Nat) (m:List (aC×Bool)),l.drop i=t→aTJ (l.take i) m→Ends PP 0 (aBV l (i:Int) m).as (.ret (.bool (cK (l.take i) t))) (aG [] 0)
 | [],i,m,h,hm=>by
  have:=bD h;exact aW3 l i m sd
 | s::t,i,m,h,hm=>by
  obtain⟨q1,q2,q3⟩ :=bC h;have g:=hm s;rw [cK];cases e:bL (l.take i) s with
  | true=>
   rw [e,if_pos rfl]at g;exact aW1 l i m s s true sd sd sd (aEP s) g rfl
  | false=>
   rw [e,if_neg (by simp)]at g;have h1:=aW2 l i m s s s sd sd sd (aEP s) g (aEP s) sd;have ih:=aZw l hl t (i+1) (bX s true m) q2 (by rw [aC2 q1];exact aQq hm s);rw [aC2 q1]at ih;exact h1.ends ih
theorem aZx (l:List aC)(hl:l.length<1000000) :∀ (t:List aC) (i:Nat),l.drop i=t→Ends PP 0 (aIt l (i:Int)).as (.ret (.bool (t.all qG&&cN l))) (aG [] 0)
 | [],i,h=>by
  have:=bD h;have h2:=aZw l hl l 0 [] rfl (fun s=>by simp [dU,bL]);exact(aW0 l i sd).ends h2
 | s::t,i,h=>by
  obtain⟨q1,q2,q3⟩ :=bC h;have hn:=aKr s;rw [all_cons];cases e:qG s with
  |false=>rw [e]at hn;exact aWY l i s false sd sd sd hn rfl (by simp)
  |true=>rw [e]at hn;rw [Bool.true_and];exact(aWZ l i s true sd sd sd hn rfl sd).ends (aZx l hl t (i+1) q2)
theorem aEQ (l:List aC)(hl:l.length<1000000) :Pure PP 139 [.ilst 1 (map aB l) false] (.bool (iH l)) :=
 aQ (by kernel_rfl) rfl rfl ((aWX l).ends (aZx l hl l 0 rfl))
abbrev aIy (a b:List aC) :AObj:=.cells (putCells .leaf 0 [.ilst 1 (map aB a) false,.ilst 1 (map aB b) false]) 2 [] false
theorem aLa (a b:List aC)(ha:a.length≤1000)(hb:b.length≤1000) :aFM PP 1 (.enter 160 [.slice 0 0 2 2 1 true]) (aG [(0,aIy a b,false)] 1) (.ret (.ilst 1 (map aB (a++b)) false)) (aG [(0,aIy a b,false)] 1) :=by
 suffices hh:Ends PP 1 (aTD a b).as (.ret (.ilst 1 (map aB (a++b)) false)) (aG [(0,aIy a b,false)] 1)from⟨(aTD a b).as.fr,by kernel_rfl,mp (by kernel_rfl) hh⟩
 have w1:IntKind.i64.wrap ((0:Int) + ((length a:Nat) :Int)) = (0:Int) + ((length a:Nat) :Int) :=by apply wrap64<;>omega
 have w2:IntKind.i64.wrap (((0:Int) + ((length a:Nat) :Int)) + ((length b:Nat) :Int)) = ((0:Int) + ((length a:Nat) :Int)) + ((length b:Nat) :Int) :=by apply wrap64<;>omega
 have w3:IntKind.i64.wrap ((((0:Int) + ((length a:Nat) :Int)) + ((length b:Nat) :Int)) - (0:Int)) = (((0:Int) + ((length a:Nat) :Int)) + ((length b:Nat) :Int)) - (0:Int) :=by apply wrap64<;>omega
 by_cases h:a.length+b.length=0
 · have h1:=aW5 a b w1 (decide_eq_false (by omega)) w2 (decide_eq_false (by omega)) w3 (decide_eq_false (by omega)) (by simp;omega) (by simp;omega);rw [nil_append]at h1;exact h1
 ·exact aW4 a b w1 (decide_eq_false (by omega)) w2 (decide_eq_false (by omega)) w3 (decide_eq_true (by omega)) (by omega) (by omega) (by omega) (by omega) (by omega) (by simp;omega)
theorem aTK (xs:List Node)(h:xs.length≤1000000) :aAI PP (.enter 189 [.ilst 4 (map Node.av xs) false]) (aG [] 0) (.ret (.gl 0 4 0 (length xs) false)) (aG [(0,.lst 4 (map Node.av xs),true)] 1) :=by
 suffices hh:Ends PP 0 (aTC xs).as (.ret (.gl 0 4 0 (length xs) false)) (aG [(0,.lst 4 (map Node.av xs),true)] 1)from⟨(aTC xs).as.fr,by kernel_rfl,mp (by kernel_rfl) hh⟩
 refine(bBc xs).ends ?_;refine aQ5 (j:=3) (e:=4) (ex:=false) (xs:=map Node.av xs) (by kernel_rfl) (fun hx=>?_) (fun a n c=>?_)
 · have hx:xs= [] :=by simpa using hx
   subst hx;exact mp (by kernel_rfl) (bBd [])
 · have h1:=bBe xs a n c (by simpa using h);rw [nil_append]at h1;exact mp (by kernel_rfl) h1
theorem sY (l:List aC) :cN l=true↔l.Nodup:=
 ⟨fun h=> (sU l [] h).1,fun h=>sV l [] h (fun _ _ hx=>by cases hx)⟩
theorem aNp (a b:List aC)(ha:iH a=true)(hb:iH b=true) :iH (a++b) =b.all (fun s=> !bL a s) :=by
 simp only [iH,and_eq_true,sY]at ha hb;have hn: (a++b).all qG=true:=by rw [List.all_append,ha.1,hb.1];rfl
 rw [iH,hn,Bool.true_and];rw [Bool.eq_iff_iff,sY,nodup_append,List.all_eq_true];constructor
 · intro h s hs;rw [not_eq_true',eq_false_iff];intro hh;exact h.2.2 s (hasS_mem.1 hh) s hs rfl
 · intro h;refine⟨ha.2,hb.2,fun x hx y hy e=>?_⟩;have:=h y hy;rw [not_eq_true',eq_false_iff]at this;exact this (hasS_mem.2 (e ▸ hx))
def NumU (u:LUnit) :Prop:=∀x∈u.nodes,-9223372036854775808≤x.n∧x.n≤9223372036854775807
theorem aQr {n:Int}(h: -9223372036854775808≤n∧n≤9223372036854775807) :IntKind.i64.wrap ((-1:Int) -n) = (-1:Int) -n:=by apply wrap64<;>omega
theorem aGw (b:Bool) : (checkN b== (0:Int)) =b:=by cases b<;>rfl
section
variable (u :LUnit) (hu:FewU u) (hi:NumU u)
include hu hi
theorem aZy (l3:List Int)(h3:l3=bO u) :∀ (t:List Node) (i:Nat),u.nodes.drop i=t→i≤u.nodes.length→Ends PP 0 (sX u (aE u) ((u.nodes.length:Nat) :Int) (qK (fF u.funs.length u.needs.length) u.nodes i) l3 (i:Int)).as (.ret (.bool (aY (fG u)))) (aG [] 0)
 | [],i,h,hi=>by
  have hd:=bD h;rw [aKO (by omega),h3];have h1:=aOu u (aE u) ((u.nodes.length:Nat) :Int) (fG u).nodes (fG u).funs i _ sd (aKB (jU hu));rw [aGw]at h1;exact h1
 | x :: t,i,h,hi2=>by
  obtain⟨q1,q2,q3⟩ :=bC h;have hi3:= (List.getElem?_eq_some_iff.1 q1).1;have hn:u.nodes.length≤320:=by have:=hu.p;simp only [aN,and_eq_true,decide_eq_true_eq]at this;exact this.1.1.1.1
  have hf:=hu.f;have hd:=hu.n;have hl: (qK (fF u.funs.length u.needs.length) u.nodes i).length=u.nodes.length:=aEw;have ho: (aE u).length=u.funs.length:=by simp [aE]
  have hg:=aKP (f:=fF u.funs.length u.needs.length) q1;have w1:=aQr (hi x (mem_of_getElem? q1));have w2:IntKind.i64.wrap (((length (aE u) :Nat) :Int) + ((length u.needs:Nat) :Int)) = ((length (aE u) :Nat) :Int) + ((length u.needs:Nat) :Int) :=by apply wrap64<;>omega
  have ih:=aZy l3 h3 t (i+1) q2 (by omega);by_cases h4:x.op=4
  · by_cases ha: ((length (aE u) :Nat) :Int) ≤ -1-x.n
    · by_cases hb: -1-x.n< ((length (aE u) :Nat) :Int) + ((length u.needs:Nat) :Int)
      · have ef:fF u.funs.length u.needs.length x= ⟨x.op,-1,x.kids,x.pats⟩ :=by unfold fF;rw [if_pos ⟨h4,by omega⟩]
        have h1:=aXo u (aE u) ((u.nodes.length:Nat) :Int) _ l3 i x sd sd (by rw [hl];omega) (by rw [toNat_natCast];exact hg) w1 (by simp [h4]) (decide_eq_true ha) w2 (decide_eq_true hb) sd;rw [toNat_natCast,←ef,aKQ q1]at h1;exact h1.ends ih
      · have ef:fF u.funs.length u.needs.length x=x:=by unfold fF;rw [if_neg (fun g=>by have:=g.2;omega)]
        have h1:=aXp u (aE u) ((u.nodes.length:Nat) :Int) _ l3 i x sd sd (by rw [hl];omega) (by rw [toNat_natCast];exact hg) w1 (by simp [h4]) (decide_eq_true ha) w2 (decide_eq_false hb) sd;rw [qL q1 ef]at h1 hl ⊢;exact h1.ends ih
    · have ef:fF u.funs.length u.needs.length x=x:=by unfold fF;rw [if_neg (fun g=>by have:=g.2;omega)]
      have h1:=aXq u (aE u) ((u.nodes.length:Nat) :Int) _ l3 i x sd sd (by rw [hl];omega) (by rw [toNat_natCast];exact hg) w1 (by simp [h4]) (decide_eq_false ha) sd;rw [qL q1 ef]at h1 hl ⊢;exact h1.ends ih
  · have ef:fF u.funs.length u.needs.length x=x:=by unfold fF;rw [if_neg (fun g=>h4 g.1)]
    have h1:=aOt u (aE u) ((u.nodes.length:Nat) :Int) _ l3 i x sd sd (by rw [hl];omega) (by rw [toNat_natCast];exact hg) w1 (by simp [h4]) sd;rw [qL q1 ef]at h1 hl ⊢;exact h1.ends ih
theorem aTL :Ends PP 0 (sX u (aE u) (((length [(Node.mk 3 0 [] [])]) :Nat) :Int) [(Node.mk 3 0 [] [])] [0] 0).as (.ret (.bool (aY (yP u)))) (aG [] 0) :=by
 have h0:=aOt u (aE u) 1 [(Node.mk 3 0 [] [])] [0] 0 ⟨3,0,[],[]⟩ (by decide) (by decide) (by decide) rfl (by decide) (by decide) (by decide);have h1:=aOu u (aE u) 1 (yP u).nodes (yP u).funs 1 _ (by decide) (aKB (zW hu));rw [aGw]at h1;exact h0.ends h1
theorem aZz (b:Bool)(hb:b=if u.funs.length=0 then decide (u.nodes.length=0) &&aY (yP u)else aY (fG u)) :∀ (t:List LFun) (i:Nat) (acc:List Int),u.funs.drop i=t→acc.length=i→acc++t.map LFun.body=bO u→Ends PP 0 (aIw u (aE u) (i:Int) acc).as (.ret (.bool b)) (aG [] 0)
 | [], i,acc,h,ha,e=>by
  have:=bD h;have ho: (aE u).length=u.funs.length:=by simp [aE]
  rw [map_nil,append_nil]at e;by_cases h0:u.funs.length=0
  · rw [if_pos h0]at hb;by_cases h1:u.nodes.length=0
    · rw [decide_eq_true h1,Bool.true_and]at hb;rw [hb];exact(aXm u (aE u) i acc sd (by rw [ho,h0];rfl) (by rw [h1];rfl)).ends (aTL u hu hi)
    · rw [decide_eq_false h1,Bool.false_and]at hb;rw [hb];exact aXl u (aE u) i acc sd (by rw [ho,h0];rfl) (decide_eq_true (by omega))
  · rw [if_neg h0]at hb;rw [hb];have h2:=aZy u hu hi acc e u.nodes 0 rfl (Nat.zero_le _);rw [aGh]at h2;exact(aXn u (aE u) i acc sd (beq_eq_false_iff_ne.2 (by rw [ho];omega))).ends h2
 | f::t,i,acc,h,ha,e=>by
  obtain⟨q1,q2,q3⟩ :=bC h;have hf:=hu.f;exact(aXk u (aE u) i acc f sd sd sd (by simp;omega) sd).ends (aZz b hb t (i+1) (acc++ [f.body]) q2 (by simp [ha]) (by simpa using e))
theorem aTM :Pure PP 121 [LUnit.av u] (.bool (iK u)) :=by
 have hf:=hu.f;have hd:=hu.n;refine eM (s:=aZv u) (by kernel_rfl) (by kernel_rfl) (by simp [keylessL,vW]) (by simp [keyless]) ?_;have hnl: (aE u).length=u.funs.length:=by simp [aE]
 have a0:=aK7 u (by omega);have a1:=aKr u.name;have a2:=aEQ (aE u) (by omega);have a3:=aEQ u.needs (by omega);have a4:=aEQ (aE u++u.needs) (by simp;omega);have hn:u.nodes.length≤320:=by have:=hu.p;simp only [aN,and_eq_true,decide_eq_true_eq]at this;exact this.1.1.1.1
 have hc:=aLa (aE u) u.needs (by omega) (by omega)
 have hc':=lA (m:=1) (ks:=[1]) (n2:=2) (n3:=2) (v':=.ilst 1 (map aB (aE u++u.needs)) false) (args':=[.slice 1 0 2 2 1 true])
  (lc:=[(0,aGn u,false),(1,aIy (aE u) u.needs,false)]) (lc':=[(0,aGn u,false),(1,aIy (aE u) u.needs,false)])
  hc (by rfl) (by kernel_rfl) (by kernel_rfl) (by rfl) (by rfl) (by kernel_rfl) (by kernel_rfl) trivial (by kernel_rfl) trivial
 have hk:=aAJ (ks:=[]) (n2:=3) (args':=[.ilst 4 (map Node.av u.nodes) false])
  (lc:=[(0,aGn u,false),(1,aIy (aE u) u.needs,false)]) (x:=[(0,aGn u,false),(1,aIy (aE u) u.needs,false)])
  (aTK u.nodes (by omega)) (by kernel_rfl) (by kernel_rfl) (by kernel_rfl) trivial (by kernel_rfl) (by kernel_rfl) (by kernel_rfl) (by kernel_rfl) ⟨aJ _ (fun _=>rfl) _,trivial⟩ (by kernel_rfl)
 unfold iK;cases e1:qG u.name with
 |false=>rw [e1]at a1;simp only [Bool.false_and];exact aXe u (aE u) false a0 a1 rfl
 | true =>
  rw [e1]at a1;by_cases e2:u.needs.length≤20
  · rw [decide_eq_true e2];cases e3:iH (aE u)with
    |false=>rw [e3]at a2;simp only [Bool.true_and,Bool.false_and,Bool.and_false];exact aXg u (aE u) true false a0 a1 rfl (by simp;omega) a2 rfl
    | true=>
     rw [e3]at a2;cases e4:iH u.needs with
     |false=>rw [e4]at a3;simp only [Bool.true_and,Bool.false_and,Bool.and_false];exact aXh u (aE u) true true false a0 a1 rfl (by simp;omega) a2 rfl a3 rfl
     | true=>
      rw [e4]at a3;rw [aNp _ _ e3 e4]at a4;simp only [Bool.true_and];cases e5:u.needs.all (fun s=> !bL (aE u) s)with
      | false=>
       rw [e5]at a4;rw [Bool.false_and];exact aXi u (aE u) true true true false a0 a1 rfl (by simp;omega) a2 rfl a3 rfl (mp (by kernel_rfl) hc') a4 rfl
      | true=>
       rw [e5]at a4;rw [Bool.true_and];exact(aXj u (aE u) true true true true a0 a1 rfl (by simp;omega) a2 rfl a3 rfl (mp (by kernel_rfl) hc') a4 rfl (mp (by kernel_rfl) hk)).ends (aZz u hu hi _ rfl u.funs 0 [] rfl rfl rfl)
  · rw [decide_eq_false e2];simp only [Bool.and_false,Bool.false_and];exact aXf u (aE u) true a0 a1 rfl (by simp;omega)
end
def aTN(a:List LUnit):TS:=dB PP 63 [(.ilst 5 (map LUnit.av a) false)] [] 0
def aBX(a:List LUnit)(e:Int)(f:Bool)(b c:List (aC×Int))(d:List aC):TS:=⟨(tf 63 87 [(2,.nilp),kp 3 0,(19,(.ilst 5 (map LUnit.av a) false)),(20,(nI (a.length:Int))),(21,(nI e))] [kc f63 244,kl f63 244,.inBlock 0,kc f63 31]),[],[oC 0 [(.ilst 5 (map LUnit.av a) false),(.map 1),(.map 2),(.gl 3 1 0 d.length false),(bV f)],(1,(.map (aF aB aP 0 b) b.length),true),(2,(.map (aF aB aP 0 c) c.length),true),oL 3 1 (map aB d)],4⟩
def aER(a:List LUnit)(e:List LFun)(f g:Int)(i:Bool)(b:List aC)(c d:List (aC×Int))(j k:Int):TS:=⟨(tf 63 87 [(2,.nilp),kp 3 0,(4,(nI j)),(19,(.ilst 5 (map LUnit.av a) false)),(20,(nI (a.length:Int))),(21,(nI k)),(31,(.ilst 2 (map LFun.av e) false)),(32,(nI f)),(33,(nI g))] [kc f63 125340,kl f63 125340,.inBlock 2,.inBlock 1,kc f63 1959,kl f63 244,.inBlock 0,kc f63 31]),[],[oC 0 [(.ilst 5 (map LUnit.av a) false),(.map 1),(.map 2),(.gl 3 1 0 b.length false),(bV i)],(1,(.map (aF aB aP 0 c) c.length),true),(2,(.map (aF aB aP 0 d) d.length),true),oL 3 1 (map aB b)],4⟩
def aTO(d:List LUnit)(a b:List (aC×Int))(c:List aC)(e:Bool):TS:=dB PP 64 [(.ptr 0 0)] [oC 0 [(.ilst 5 (map LUnit.av d) false),(.map 1),(.map 2),(.gl 3 1 0 c.length false),(bV e)],(1,(.map (aF aB aP 0 a) a.length),true),(2,(.map (aF aB aP 0 b) b.length),true),oL 3 1 (map aB c)] 4
def aES(a:List LUnit)(b c:List (aC×Int))(d:List aC)(f:Bool)(g:Int)(e:List aC):TS:=⟨(tf 64 50 [kp 0 0,(2,.nils),(3,(.gl 4 1 0 e.length false)),(13,(.ilst 5 (map LUnit.av a) false)),(14,(nI (a.length:Int))),(15,(nI g))] [kc f64 116,kl f64 116,.inBlock 0,kc f64 15]),[],[oC 0 [(.ilst 5 (map LUnit.av a) false),(.map 1),(.map 2),(.gl 3 1 0 d.length false),(bV f)],(1,(.map (aF aB aP 0 b) b.length),true),(2,(.map (aF aB aP 0 c) c.length),true),oL 3 1 (map aB d),oL 4 1 (map aB e)],5⟩
def wF(a:List LUnit)(b c:List (aC×Int))(d:List aC)(f:Bool)(g:List aC)(i j:Int)(e:List aC)(k:Int):TS:=⟨(tf 64 50 [kp 0 0,(2,.nils),(3,(.gl 4 1 0 e.length false)),(13,(.ilst 5 (map LUnit.av a) false)),(14,(nI (a.length:Int))),(15,(nI k)),(20,(iS g)),(21,(nI i)),(22,(nI j))] [kc f64 29900,kl f64 29900,.inBlock 2,.inBlock 1,kc f64 935,kl f64 116,.inBlock 0,kc f64 15]),[],[oC 0 [(.ilst 5 (map LUnit.av a) false),(.map 1),(.map 2),(.gl 3 1 0 d.length false),(bV f)],(1,(.map (aF aB aP 0 b) b.length),true),(2,(.map (aF aB aP 0 c) c.length),true),oL 3 1 (map aB d),oL 4 1 (map aB e)],5⟩
def aIz(c:List LUnit)(d e:List (aC×Int))(f:List aC)(g:Bool)(b:aC)(i:List aC)(j k l m n:Int)(a:List aC):TS:=⟨(tf 151 19 [(0,(.gl 4 1 0 a.length false)),(1,(aB b)),(4,(nI 0)),(7,(nI m)),(8,(nI l))] [kc f151 52,kl f151 52,.inBlock 0,kc f151 7]),[(tf 58 9 [(4,(bV false)),(5,(.gl 4 1 0 a.length false)),(6,(aB b))] [ko f58 6 2,kc f58 7]),(tf 64 50 [kp 0 0,(2,.nils),(3,(.gl 4 1 0 a.length false)),(7,(aB b)),(13,(.ilst 5 (map LUnit.av c) false)),(14,(nI (c.length:Int))),(15,(nI n)),(20,(iS i)),(21,(nI j)),(22,(nI k)),(37,(bV true)),(38,(.gl 4 1 0 a.length false)),(39,(aB b))] [ko f64 3827302 5,kc f64 3827303,.inBlock 3,kc f64 239207,kl f64 29900,.inBlock 2,.inBlock 1,kc f64 935,kl f64 116,.inBlock 0,kc f64 15])],[oC 0 [(.ilst 5 (map LUnit.av c) false),(.map 1),(.map 2),(.gl 3 1 0 f.length false),(bV g)],(1,(.map (aF aB aP 0 d) d.length),true),(2,(.map (aF aB aP 0 e) e.length),true),oL 3 1 (map aB f),oL 4 1 (map aB a)],5⟩
def aTP(d:List LUnit)(a b:List (aC×Int))(c:List aC)(e:Bool):TS:=dB PP 77 [(.ptr 0 0)] [oC 0 [(.ilst 5 (map LUnit.av d) false),(.map 1),(.map 2),(.gl 3 1 0 c.length false),(bV e)],(1,(.map (aF aB aP 0 a) a.length),true),(2,(.map (aF aB aP 0 b) b.length),true),oL 3 1 (map aB c)] 4
def aBY(a:List LUnit)(b c:List (aC×Int))(d:List aC)(f:Bool)(g:Int)(e:List Con):TS:=⟨(tf 77 51 [(2,.nils),(3,(.gl 4 2 0 e.length false)),(12,(.ilst 5 (map LUnit.av a) false)),(13,(nI (a.length:Int))),(14,(nI g))] [kc f77 436,kl f77 436,.inBlock 0,kc f77 55,.inScope (kd f77 6)]),[],[oC 0 [(.ilst 5 (map LUnit.av a) false),(.map 1),(.map 2),(.gl 3 1 0 d.length false),(bV f)],(1,(.map (aF aB aP 0 b) b.length),true),(2,(.map (aF aB aP 0 c) c.length),true),oL 3 1 (map aB d),oL 4 2 (jC e)],5⟩
def wG(a:List LUnit)(b c:List (aC×Int))(d:List aC)(f:Bool)(g:List Con)(i j k:Int)(e:List Con):TS:=⟨(tf 77 51 [(2,.nils),(3,(.gl 4 2 0 e.length false)),(12,(.ilst 5 (map LUnit.av a) false)),(13,(nI (a.length:Int))),(14,(nI j)),(23,(iC g)),(24,(nI i)),(25,(nI k))] [kc f77 223644,kl f77 223644,.inBlock 2,.inBlock 1,kc f77 3495,kl f77 436,.inBlock 0,kc f77 55,.inScope (kd f77 6)]),[],[oC 0 [(.ilst 5 (map LUnit.av a) false),(.map 1),(.map 2),(.gl 3 1 0 d.length false),(bV f)],(1,(.map (aF aB aP 0 b) b.length),true),(2,(.map (aF aB aP 0 c) c.length),true),oL 3 1 (map aB d),oL 4 2 (jC e)],5⟩
def aBZ(b:List LUnit)(c d:List (aC×Int))(e:List aC)(f:Bool)(g:Int)(i:List Con)(j:Int)(k l m:aC)(n o p q:Int)(a:List Con):TS:=⟨(tf 223 19 [(0,(.gl 4 2 0 a.length false)),(1,(.func 224 [] [(.ptr 5 0),(.ptr 6 0)])),(4,(nI 0)),(7,(nI p)),(8,(nI o))] [kc f223 52,kl f223 52,.inBlock 0,kc f223 7]),[(tf 158 10 [(6,(nI 0)),(7,(.gl 4 2 0 a.length false)),(8,(.func 224 [] [(.ptr 5 0),(.ptr 6 0)]))] [ko f158 6 2,kc f158 7]),(tf 77 51 [(2,.nils),(3,(.gl 4 2 0 a.length false)),kp 7 7,(12,(.ilst 5 (map LUnit.av b) false)),(13,(nI (b.length:Int))),(14,(nI g)),(23,(iC i)),(24,(nI j)),(25,(nI q)),(29,(.gl 4 2 0 a.length false)),(31,(aB k))] [ko f77 14313266 3,kc f77 14313267,.inBlock 3,kc f77 1789159,kl f77 223644,.inBlock 2,.inBlock 1,kc f77 3495,kl f77 436,.inBlock 0,kc f77 55,.inScope (kd f77 6)])],[oC 0 [(.ilst 5 (map LUnit.av b) false),(.map 1),(.map 2),(.gl 3 1 0 e.length false),(bV f)],(1,(.map (aF aB aP 0 c) c.length),true),(2,(.map (aF aB aP 0 d) d.length),true),oL 3 1 (map aB e),oL 4 2 (jC a),oC 5 [(.func 159 [] [])],oC 6 [(aB l)],oC 7 [(aB m),(nI n)]],8⟩
theorem aXu (l:List LUnit)(mf: (List (aC×Int)))(mh: (List (aC×Int)))(od:List aC)(tw:Bool)(t14:Int)(t23:List Con)(t24:Int)(t31 c6_0 c7_0:aC)(c7_1 t8:Int)(t7 t25:Int)(l4:List Con)(y0:Con)(y1:aC)(h0:decide (t8<t7) =true)(h1:0≤t8)(h2:t8< ((l4.length:Nat) :Int))(h3: ((l4)[t8.toNat]?) =some y0)(h4:Pure PP 159 [(.agg [(aB y0.name),(nI y0.args)])] (aB y1))(h5: (bF y1.length (aA y1) c6_0.length (aA c6_0)) =true)(h6:decide (t8< (0:Int)) =false)(h7:Spec PP (.enter 67 [(bV (y0.args != c7_1)),(nI 7)]) (aG [oC 0 [(.ilst 5 (map LUnit.av l) false),(.map 1),(.map 2),(.gl 3 1 0 od.length false),(bV tw)],(1,(.map (aF aB aP 0 mf) mf.length),true),(2,(.map (aF aB aP 0 mh) mh.length),true),oL 3 1 (map aB od),oL 4 2 (jC l4),oC 5 [(.func 159 [] [])],oC 6 [(aB c6_0)],oC 7 [(aB c7_0),(nI c7_1)],oC 8 [(aB y0.name),(nI y0.args)]] 9) (.pan [((.iface 201 (.agg [(nI 7)])),false)]) (aG [oC 0 [(.ilst 5 (map LUnit.av l) false),(.map 1),(.map 2),(.gl 3 1 0 od.length false),(bV tw)],(1,(.map (aF aB aP 0 mf) mf.length),true),(2,(.map (aF aB aP 0 mh) mh.length),true),oL 3 1 (map aB od),oL 4 2 (jC l4),oC 5 [(.func 159 [] [])],oC 6 [(aB c6_0)],oC 7 [(aB c7_0),(nI c7_1)],oC 8 [(aB y0.name),(nI y0.args)]] 9)) :
  Ends PP 4 (aBZ l mf mh od tw t14 t23 t24 t31 c6_0 c7_0 c7_1 t8 t7 t25 l4).as (.pan [((.iface 201 (.agg [(nI 7)])),false)]) (aG [oC 0 [(.ilst 5 (map LUnit.av l) false),(.map 1),(.map 2),(.gl 3 1 0 od.length false),(bV tw)],(1,(.map (aF aB aP 0 mf) mf.length),true),(2,(.map (aF aB aP 0 mh) mh.length),true),oL 3 1 (map aB od)] 4) :=
 aNi (n1:=9) (ks:=[]) (e:=8) (is1:=[.d,.d,.ans (.ix),.d,.ans (.idx (Con.av y0)),.d,.d,.d]) (v:= (.tup [])) (h2:=aG [oC 0 [(.ilst 5 (map LUnit.av l) false),(.map 1),(.map 2),(.gl 3 1 0 od.length false),(bV tw)],(1,(.map (aF aB aP 0 mf) mf.length),true),(2,(.map (aF aB aP 0 mh) mh.length),true),oL 3 1 (map aB od),oL 4 2 (jC l4),oC 5 [(.func 159 [] [])],oC 6 [(aB c6_0)],oC 7 [(aB c7_0),(nI c7_1)],oC 8 [(aB y0.name),(nI y0.args)]] 9) (is2:=[]) (os:=[]) (h':=aG [oC 0 [(.ilst 5 (map LUnit.av l) false),(.map 1),(.map 2),(.gl 3 1 0 od.length false),(bV tw)],(1,(.map (aF aB aP 0 mf) mf.length),true),(2,(.map (aF aB aP 0 mh) mh.length),true),oL 3 1 (map aB od),oL 4 2 (jC l4),oC 5 [(.func 159 [] [])],oC 6 [(aB c6_0)],oC 7 [(aB c7_0),(nI c7_1)],oC 8 [(aB y0.name),(nI y0.args)]] 9) (hp:=[oC 0 [(.ilst 5 (map LUnit.av l) false),(.map 1),(.map 2),(.gl 3 1 0 od.length false),(bV tw)],(1,(.map (aF aB aP 0 mf) mf.length),true),(2,(.map (aF aB aP 0 mh) mh.length),true),oL 3 1 (map aB od)]) (ch:=[((.iface 201 (.agg [(nI 7)])),false)]) (ps:=[decide (t8<t7) =true,0≤t8,t8< ((l4.length:Nat) :Int),(jC l4)[(0+t8.toNat)]?=some (Con.av y0),Pure PP 159 [(.agg [(aB y0.name),(nI y0.args)])] (aB y1),(aB c6_0) = (aB c6_0),(aB c6_0) = (aB c6_0),(bF y1.length (aA y1) c6_0.length (aA c6_0)) =true,decide (t8< (0:Int)) =false,0≤t8,t8< ((l4.length:Nat) :Int),(jC l4)[(0+t8.toNat)]?=some (Con.av y0),Spec PP (.enter 67 [(bV (y0.args != c7_1)),(nI 7)]) (aG [oC 0 [(.ilst 5 (map LUnit.av l) false),(.map 1),(.map 2),(.gl 3 1 0 od.length false),(bV tw)],(1,(.map (aF aB aP 0 mf) mf.length),true),(2,(.map (aF aB aP 0 mh) mh.length),true),oL 3 1 (map aB od),oL 4 2 (jC l4),oC 5 [(.func 159 [] [])],oC 6 [(aB c6_0)],oC 7 [(aB c7_0),(nI c7_1)],oC 8 [(aB y0.name),(nI y0.args)]] 9) (.pan [((.iface 201 (.agg [(nI 7)])),false)]) (aG [oC 0 [(.ilst 5 (map LUnit.av l) false),(.map 1),(.map 2),(.gl 3 1 0 od.length false),(bV tw)],(1,(.map (aF aB aP 0 mf) mf.length),true),(2,(.map (aF aB aP 0 mh) mh.length),true),oL 3 1 (map aB od),oL 4 2 (jC l4),oC 5 [(.func 159 [] [])],oC 6 [(aB c6_0)],oC 7 [(aB c7_0),(nI c7_1)],oC 8 [(aB y0.name),(nI y0.args)]] 9)]) (is:=[.run 5,.b 9 true,.run 14,.ans (.ix),.ans (.idx (Con.av y0)),.run 7,.reg [.d,.d,.pure (aB y1),.d,.d,.d],.run 3,.b 16 true,.run 20,.b 34 false,.run 2]) (by kernel_rfl) (by kernel_rfl) ⟨aO (fun _=>rfl) (fun _=>rfl) _ _ _,⟨aO (fun _=>rfl) (fun _=>rfl) _ _ _,⟨(aJ _ (fun _=>rfl) _),trivial⟩⟩⟩ ⟨h0,h1,h2,(gI h3),h4,rfl,rfl,h5,h6,h1,h2,(gI h3),h7⟩
def aTQ(d:List LUnit)(a b:List (aC×Int))(c:List aC)(e:Bool):TS:=dB PP 78 [(.ptr 0 0)] [oC 0 [(.ilst 5 (map LUnit.av d) false),(.map 1),(.map 2),(.gl 3 1 0 c.length false),(bV e)],(1,(.map (aF aB aP 0 a) a.length),true),(2,(.map (aF aB aP 0 b) b.length),true),oL 3 1 (map aB c)] 4
def aIA(a:List LUnit)(b c:List (aC×Int))(d:List aC)(e:Bool)(f g:Int):TS:=⟨(tf 78 22 [(2,(nI 0)),(3,(nI f)),(9,(.ilst 5 (map LUnit.av a) false)),(10,(nI (a.length:Int))),(11,(nI g))] [kc f78 116,kl f78 116,.inBlock 0,kc f78 15]),[],[oC 0 [(.ilst 5 (map LUnit.av a) false),(.map 1),(.map 2),(.gl 3 1 0 d.length false),(bV e)],(1,(.map (aF aB aP 0 b) b.length),true),(2,(.map (aF aB aP 0 c) c.length),true),oL 3 1 (map aB d)],4⟩
def aTR(a:List LUnit):=tT 0 (aTN a)<|gl 7 LUnit.av a<|gd 6 4 ((a.length:Int) >10) (gQ 7 0 [((.iface 201 (.agg [(nI 2)])),false)])<|.i [rn 9,.mset 0 (aF aB aP 0 ([] :List (aC×Int))) ([] :List (aC×Int)).length] [hr (aF aB aP 0 ([] :List (aC×Int))),hr (length ([] :List (aC×Int)))]<|.i [rn 1,.mset 1 (aF aB aP 0 ([] :List (aC×Int))) ([] :List (aC×Int)).length] [hr (aF aB aP 0 ([] :List (aC×Int))),hr (length ([] :List (aC×Int)))]<|gl 8 LUnit.av a<|.i [rn 4,.cnil 2 3 1] []<|gu 0 3 (map aB ([] :List aC))<|gv 0 2 3 (.gl 3 1 0 ([] :List aC).length false)<|.W 0 4 [2,0,1,3] (aBX a 0 false ([] :List (aC×Int)) ([] :List (aC×Int)) ([] :List aC))
def aXv:=fun a b=>aTR a|>.t b tv
def aOv:=fun a b=>aTR a|>.f b ⟨aO (fun _=>rfl) (fun _=>rfl) _ _ _,⟨aO (fun _=>rfl) (fun _=>rfl) _ _ _,⟨kk,trivial⟩⟩⟩
def aNq(b:List LUnit)(c:Int)(g:Bool)(d e:List (aC×Int))(f:List aC):=tT 0 (aBX b c g d e f)<|gd 5 22 (c< (b.length:Int)) (gX LUnit.av 7 b c<|fun a=>fQ 8 121 [(.agg [(aB a.name),(iC a.cons),(.ilst 2 (map LFun.av a.funs) false),(iS a.needs),(iN a.nodes)])]<|fun i=>.b 6 4 (!i) (gQ 7 5 [((.iface 201 (.agg [(nI 2)])),false)])<|gl 9 LFun.av a.funs<|.W 4 5 [0,1,2,3] (aER b a.funs (a.funs.length:Int) 0 g f d e c c))<|.E 8 4 [0,1,2,3] (.ptr 0 0) [oC 0 [(.ilst 5 (map LUnit.av b) false),(.map 1),(.map 2),(.gl 3 1 0 f.length false),(bV g)],(1,(.map (aF aB aP 0 d) d.length),true),(2,(.map (aF aB aP 0 e) e.length),true),oL 3 1 (map aB f)] 4
def aXw:=fun a b c d e f g i j k l m n=>aNq a b c d e f|>.t j g k l i m|>.t n tv
def aXx:=fun a b c d e f g i j k l m n=>aNq a b c d e f|>.t j g k l i m|>.f n ⟨aO (fun _=>rfl) (fun _=>rfl) _ _ _,⟨aO (fun _=>rfl) (fun _=>rfl) _ _ _,⟨kk,trivial⟩⟩⟩
def aXy:=fun a b c d e f g=>aNq a b c d e f|>.f g ⟨aO (fun _=>rfl) (fun _=>rfl) _ _ _,⟨aO (fun _=>rfl) (fun _=>rfl) _ _ _,⟨kk,trivial⟩⟩⟩
def aNr(i:List LUnit)(j:List LFun)(k f:Int)(l:Bool)(c:List aC)(b d:List (aC×Int))(e g:Int):=tT 0 (aER i j k f l c b d e g)<|gd 5 34 (f<k) (gX LFun.av 6 j f<|fun a=>.o (.y fun m:Int=>.i [rn 6,.reg (rd 6 (.ans (.look (some (vK a.name b,(aP m))))::rd 5 [])),rn 11,.reg (rd 8 (.app (map aB (c++ [a.name])) (c++ [a.name]).length::rd 3 []))] [.a (dU a.name b=some m) (p':=eP (aB a.name) (aF aB aP 0 b) 0=some (some (vK a.name b,(aP m)))) (pZ fY),hb aB c,hA (length (c++ [a.name]) ≤1000000),hc aB c [a.name],he aB c [a.name]]<|gw 3 84 (f+1)<|.W 3 7 [0,1,2,6] (aER i j k (f+1) true (c++ [a.name]) b d e g))<|.i [rn 6,.reg (rd 6 (.ans (.look none)::rd 5 [])),rn 5,.reg (rd 18 [.mval (.tup [(nI 0),(nI (b.length:Int))]) (aF aB aP 0 (bX a.name 0 b)) (bX a.name 0 b).length,.d,.mval .undef (aF aB aP 0 (bX a.name (c.length:Int) b)) (bX a.name (c.length:Int) b).length,.mval (.tup [(nI 0),(nI (d.length:Int))]) (aF aB aP 0 (bX a.name 0 d)) (bX a.name 0 d).length,.d,.mval .undef (aF aB aP 0 (bX a.name e d)) (bX a.name e d).length]),.reg (rd 8 (.app (map aB (c++ [a.name])) (c++ [a.name]).length::rd 3 []))] [.a (dU a.name b=none) (p':=eP (aB a.name) (aF aB aP 0 b) 0=some none) (pY fY),.a (dU a.name b=none) (p':=aBw (aF aB aP 0 b) b.length (aB a.name) (aP 0) =some ((.tup [(nI 0),(nI (b.length:Int))]),(aF aB aP 0 (bX a.name 0 b)),length (bX a.name 0 b))) (fun h=>(aOg fY h _)),.q (p:=0≤ (b.length:Int)) (Int.natCast_nonneg _),.a (dU a.name b=none) (p':=iZ (aP (c.length:Int)) (b.length:Int).toNat (aF aB aP 0 (bX a.name 0 b)) =some (aF aB aP 0 (bX a.name (c.length:Int) b))) (fun h=>(aKI h _ _)),.a (dU a.name b=none) (p':=(bX a.name 0 b).length=length (bX a.name (c.length:Int) b)) (fun h=>(aOh h _ _)),hr AV.undef,.a (dU a.name d=none) (p':=aBw (aF aB aP 0 d) d.length (aB a.name) (aP 0) =some ((.tup [(nI 0),(nI (d.length:Int))]),(aF aB aP 0 (bX a.name 0 d)),length (bX a.name 0 d))) (fun h=>(aOg fY h _)),.q (p:=0≤ (d.length:Int)) (Int.natCast_nonneg _),.a (dU a.name d=none) (p':=iZ (aP e) (d.length:Int).toNat (aF aB aP 0 (bX a.name 0 d)) =some (aF aB aP 0 (bX a.name e d))) (fun h=>(aKI h _ _)),.a (dU a.name d=none) (p':=(bX a.name 0 d).length=length (bX a.name e d)) (fun h=>(aOh h _ _)),hr AV.undef,hr (nI (c.length:Int)),hr (nI (c.length:Int)),hr (AV.gl 3 1 0 c.length false),hr (AV.gl 3 1 0 c.length false),hr (aB a.name),hr (aB a.name),hr (aB a.name),hb aB c,hA (length (c++ [a.name]) ≤1000000),hc aB c [a.name],he aB c [a.name]]<|gw 3 84 (f+1)<|.W 3 7 [0,1,2,6] (aER i j k (f+1) l (c++ [a.name]) (bX a.name (c.length:Int) b) (bX a.name e d) e g))<|gw 5 85 (g+1)<|.W 3 4 [0,1,2,3] (aBX i (g+1) l b d c)
def aXz:=fun a b c d e f g i j k l m n o p q r s=>aNr a b c d e f g i j k|>.t n l o p|>.1 m q r s ⟨aO (fun _=>rfl) (fun _=>rfl) _ _ _,⟨aO (fun _=>rfl) (fun _=>rfl) _ _ _,⟨kk,trivial⟩⟩⟩
def aXA:=fun c d e f g i j k l m n o p q a b r s=>aNr c d e f g i j k l m|>.t o n p q|>.2 a a a a b b b r s ⟨aO (fun _=>rfl) (fun _=>rfl) _ _ _,⟨aO (fun _=>rfl) (fun _=>rfl) _ _ _,⟨kk,trivial⟩⟩⟩
def aXB:=fun a b c d e f g i j k l m=>aNr a b c d e f g i j k|>.f l m ⟨aO (fun _=>rfl) (fun _=>rfl) _ _ _,⟨aO (fun _=>rfl) (fun _=>rfl) _ _ _,⟨kk,trivial⟩⟩⟩
def aXC (a:List LUnit)(b c:List (aC×Int))(d:List aC)(e:Bool):=(tT 4 (aTO a b c d e)<|gl 15 LUnit.av a<|.i [rn 4,.nilL 3 1] []<|gu 0 4 (map aB ([] :List aC))<|gs 0 3 (.gl 4 1 0 ([] :List aC).length false)<|.W 0 5 [4] (aES a b c d e 0 ([] :List aC))) ⟨aO (fun _=>rfl) (fun _=>rfl) _ _ _,⟨aO (fun _=>rfl) (fun _=>rfl) _ _ _,⟨kk,⟨kk,trivial⟩⟩⟩⟩
def aTS(a:List LUnit)(b c:List (aC×Int))(d:List aC)(g:Bool)(e:Int)(f:List aC):=tT 4 (aES a b c d g e f)<|gd 5 16 (e< (a.length:Int)) (gX LUnit.av 6 a e<|fun i=>gl 8 aB i.needs<|.W 4 6 [4] (wF a b c d g i.needs (i.needs.length:Int) 0 f e))<|gz 8 2 4 1 aB f false<|.E 0 5 [] (iS f) [oC 0 [(.ilst 5 (map LUnit.av a) false),(.map 1),(.map 2),(.gl 3 1 0 d.length false),(bV g)],(1,(.map (aF aB aP 0 b) b.length),true),(2,(.map (aF aB aP 0 c) c.length),true),oL 3 1 (map aB d)] 4
def aXD:=fun a b c d e f g i j k l=>aTS a b c d e f g|>.t j i k l ⟨aO (fun _=>rfl) (fun _=>rfl) _ _ _,⟨aO (fun _=>rfl) (fun _=>rfl) _ _ _,⟨kk,⟨kk,trivial⟩⟩⟩⟩
def aXE:=fun a b c d e f g i=>aTS a b c d e f g|>.f i ⟨aO (fun _=>rfl) (fun _=>rfl) _ _ _,⟨aO (fun _=>rfl) (fun _=>rfl) _ _ _,⟨kk,trivial⟩⟩⟩
def aNs(f:List LUnit)(a g:List (aC×Int))(i:List aC)(j:Bool)(k:List aC)(l c:Int)(d:List aC)(e:Int):=tT 4 (wF f a g i j k l c d e)<|gd 5 23 (c<l) (gX aB 6 k c<|fun b=>.o (.y fun m:Int=>.i [rn 10,.ans (.look (some (vK b a,(aP m))))] [.a (dU b a=some m) (p':=eP (aB b) (aF aB aP 0 a) 0=some (some (vK b a,(aP m)))) (pZ fY)]<|gw 22 47 (c+1)<|.W 3 5 [4] (wF f a g i j k l (c+1) d e))<|.i [rn 10,.ans (.look none)] [.a (dU b a=none) (p':=eP (aB b) (aF aB aP 0 a) 0=some none) (pY fY)]<|.W 36 5 [4] (aIz f a g i j b k l c 0 (d.length:Int) e d))<|gw 5 48 (e+1)<|.W 3 5 [4] (aES f a g i j (e+1) d)
def aXF:=fun a b c d e f g i j k l m n o p q r=>aNs a b c d e f g i j k|>.t n l o p|>.1 m q r ⟨aO (fun _=>rfl) (fun _=>rfl) _ _ _,⟨aO (fun _=>rfl) (fun _=>rfl) _ _ _,⟨kk,⟨kk,trivial⟩⟩⟩⟩
def aXG:=fun a b c d e f g i j k l m n o p=>aNs a b c d e f g i j k|>.t m l n o|>.2 p ⟨aO (fun _=>rfl) (fun _=>rfl) _ _ _,⟨aO (fun _=>rfl) (fun _=>rfl) _ _ _,⟨kk,⟨kk,trivial⟩⟩⟩⟩
def aXH:=fun a b c d e f g i j k l m=>aNs a b c d e f g i j k|>.f l m ⟨aO (fun _=>rfl) (fun _=>rfl) _ _ _,⟨aO (fun _=>rfl) (fun _=>rfl) _ _ _,⟨kk,⟨kk,trivial⟩⟩⟩⟩
def aNt(e:List LUnit)(f g:List (aC×Int))(i:List aC)(j:Bool)(b:aC)(k:List aC)(l c d n m:Int)(a:List aC):=tT 4 (aIz e f g i j b k l c d n m a)<|gd 5 9 (d<n) (.i [rn 14,.ans (.ix)] [hA (0≤d),hA (d< (a.length:Int))]<|.y fun o:aC=>gj aB 0 a d.toNat o<|.b 2 16 (bF b.length (aA b) o.length (aA o)) (.b 16 42 (!(decide (d≥0))) (ga 5 aB a [b]<|gw 5 47 (c+1)<|.W 3 7 [6] (wF e f g i j k l (c+1) (a++ [b]) m))<|gw 5 47 (c+1)<|.W 3 5 [4] (wF e f g i j k l (c+1) a m))<|gw 5 18 (d+1)<|.W 3 5 [4] (aIz e f g i j b k l c (d+1) n m a))<|ga 21 aB a [b]<|gw 5 47 (c+1)<|.W 3 7 [6] (wF e f g i j k l (c+1) (a++ [b]) m)
def aXI:=fun a b c d e f g i j k l m n o p q r s t u v=>aNt a b c d e f g i j k l m n|>.t p q r o s|>.t t|>.f u v ⟨aO (fun _=>rfl) (fun _=>rfl) _ _ _,⟨aO (fun _=>rfl) (fun _=>rfl) _ _ _,⟨kk,⟨kk,trivial⟩⟩⟩⟩
def aXJ:=fun a b c d e f g i j k l m n o p q r s t u=>aNt a b c d e f g i j k l m n|>.t p q r o s|>.f t u ⟨aO (fun _=>rfl) (fun _=>rfl) _ _ _,⟨aO (fun _=>rfl) (fun _=>rfl) _ _ _,⟨kk,⟨kk,trivial⟩⟩⟩⟩
def aXK:=fun a b c d e f g i j k l m n o p q=>aNt a b c d e f g i j k l m n|>.f o p q ⟨aO (fun _=>rfl) (fun _=>rfl) _ _ _,⟨aO (fun _=>rfl) (fun _=>rfl) _ _ _,⟨kk,⟨kk,trivial⟩⟩⟩⟩
def aXL (a:List LUnit)(b c:List (aC×Int))(d:List aC)(e:Bool):=(tT 4 (aTP a b c d e)<|gl 18 LUnit.av a<|.i [rn 4,.nilL 3 2] []<|gu 0 4 (jC ([] :List Con))<|gs 0 3 (.gl 4 2 0 ([] :List Con).length false)<|.W 0 5 [4] (aBY a b c d e 0 ([] :List Con))) ⟨aO (fun _=>rfl) (fun _=>rfl) _ _ _,⟨aO (fun _=>rfl) (fun _=>rfl) _ _ _,⟨kk,⟨kk,trivial⟩⟩⟩⟩
def aNu(a:List LUnit)(c d:List (aC×Int))(e:List aC)(i:Bool)(b:Int)(f:List Con):=tT 4 (aBY a c d e i b f)<|gd 5 15 (b< (a.length:Int)) (gX LUnit.av 6 a b<|fun g=>gl 9 Con.av g.cons<|.b 2 21 ((g.cons.length:Int) ==0) (gw 4 49 (b+1)<|.W 3 6 [4] (aBY a c d e i (b+1) f))<|gl 6 Con.av g.cons<|.W 4 6 [4] (wG a c d e i g.cons (g.cons.length:Int) b 0 f))<|gz 8 2 4 2 Con.av f false<|.E 0 5 [] (iC f) [oC 0 [(.ilst 5 (map LUnit.av a) false),(.map 1),(.map 2),(.gl 3 1 0 e.length false),(bV i)],(1,(.map (aF aB aP 0 c) c.length),true),(2,(.map (aF aB aP 0 d) d.length),true),oL 3 1 (map aB e)] 4
def aXM:=fun a b c d e f g i j k l m n=>aNu a b c d e f g|>.t j i k l|>.t m n ⟨aO (fun _=>rfl) (fun _=>rfl) _ _ _,⟨aO (fun _=>rfl) (fun _=>rfl) _ _ _,⟨kk,⟨kk,trivial⟩⟩⟩⟩
def aXN:=fun a b c d e f g i j k l m=>aNu a b c d e f g|>.t j i k l|>.f m ⟨aO (fun _=>rfl) (fun _=>rfl) _ _ _,⟨aO (fun _=>rfl) (fun _=>rfl) _ _ _,⟨kk,⟨kk,trivial⟩⟩⟩⟩
def aXO:=fun a b c d e f g i=>aNu a b c d e f g|>.f i ⟨aO (fun _=>rfl) (fun _=>rfl) _ _ _,⟨aO (fun _=>rfl) (fun _=>rfl) _ _ _,⟨kk,trivial⟩⟩⟩
def aTT(e:List LUnit)(f g:List (aC×Int))(i:List aC)(j:Bool)(k:List Con)(l a b:Int)(c:List Con):=tT 4 (wG e f g i j k l a b c)<|gd 5 26 (b<l) (gX Con.av 6 k b<|fun d=>.W 34 8 [4,6,7,5] (aBZ e f g i j a k l d.name d.name d.name d.args 0 (c.length:Int) b c))<|gw 5 49 (a+1)<|.W 3 5 [4] (aBY e f g i j (a+1) c)
def aXP:=fun a b c d e f g i j k l m n o=>aTT a b c d e f g i j k|>.t m l n o ⟨aO (fun _=>rfl) (fun _=>rfl) _ _ _,⟨aO (fun _=>rfl) (fun _=>rfl) _ _ _,⟨kk,⟨kk,trivial⟩⟩⟩⟩
def aXQ:=fun a b c d e f g i j k l m=>aTT a b c d e f g i j k|>.f l m ⟨aO (fun _=>rfl) (fun _=>rfl) _ _ _,⟨aO (fun _=>rfl) (fun _=>rfl) _ _ _,⟨kk,⟨kk,trivial⟩⟩⟩⟩
def aNv(k:List LUnit)(c d:List (aC×Int))(e:List aC)(l:Bool)(n:Int)(o:List Con)(p:Int)(s i j:aC)(g f r m:Int)(a:List Con):=tT 4 (aBZ k c d e l n o p s i j g f r m a)<|gd 5 9 (f<r) (.i [rn 14,.ans (.ix)] [hA (0≤f),hA (f< (a.length:Int))]<|.y fun b:Con=>gj Con.av 0 a f.toNat b<|.y fun q:aC=>.i [rn 7,.reg (.d::.d::.pure (aB q)::rd 3 [])] [hA (Pure PP 159 [(.agg [(aB b.name),(nI b.args)])] (aB q)),hr (aB i),hr (aB i)]<|.b 3 16 (bF q.length (aA q) i.length (aA i)) (gd 20 34 (f<0) (ga 6 Con.av a [(Con.mk j g)]<|gw 5 48 (m+1)<|.W 3 11 [10] (wG k c d e l o p n (m+1) (a++ [(Con.mk j g)])))<|.i [rn 2,.reg (.d::.d::.ans (.ix)::.d::.ans (.idx (Con.av b))::rd 3 [.call (.tup []) (aG [oC 0 [(.ilst 5 (map LUnit.av k) false),(.map 1),(.map 2),(.gl 3 1 0 e.length false),(bV l)],(1,(.map (aF aB aP 0 c) c.length),true),(2,(.map (aF aB aP 0 d) d.length),true),oL 3 1 (map aB e),oL 4 2 (jC a),oC 5 [(.func 159 [] [])],oC 6 [(aB i)],oC 7 [(aB j),(nI g)],oC 8 [(aB b.name),(nI b.args)]] 9)])] [hA (0≤f),hA (f< (a.length:Int)),.a (((a)[f.toNat]?) =some b) (gI (f:=Con.av)),hA (Spec PP (.enter 67 [(bV (b.args != g)),(nI 7)]) (aG [oC 0 [(.ilst 5 (map LUnit.av k) false),(.map 1),(.map 2),(.gl 3 1 0 e.length false),(bV l)],(1,(.map (aF aB aP 0 c) c.length),true),(2,(.map (aF aB aP 0 d) d.length),true),oL 3 1 (map aB e),oL 4 2 (jC a),oC 5 [(.func 159 [] [])],oC 6 [(aB i)],oC 7 [(aB j),(nI g)],oC 8 [(aB b.name),(nI b.args)]] 9) (.ret (.tup [])) (aG [oC 0 [(.ilst 5 (map LUnit.av k) false),(.map 1),(.map 2),(.gl 3 1 0 e.length false),(bV l)],(1,(.map (aF aB aP 0 c) c.length),true),(2,(.map (aF aB aP 0 d) d.length),true),oL 3 1 (map aB e),oL 4 2 (jC a),oC 5 [(.func 159 [] [])],oC 6 [(aB i)],oC 7 [(aB j),(nI g)],oC 8 [(aB b.name),(nI b.args)]] 9))]<|gw 3 48 (m+1)<|.W 3 9 [4] (wG k c d e l o p n (m+1) a))<|gw 5 18 (f+1)<|.W 3 9 [4,5,6,7] (aBZ k c d e l n o p s i j g (f+1) r m a))<|ga 26 Con.av a [(Con.mk j g)]<|gw 5 48 (m+1)<|.W 3 10 [9] (wG k c d e l o p n (m+1) (a++ [(Con.mk j g)]))
def aXR:=fun d e f g i j k l m n o p q r s t u v w a b c x y z A B=>aNv d e f g i j k l m n o p q r s t|>.t w a b u c v x|>.t y|>.f z a b c A B ⟨aO (fun _=>rfl) (fun _=>rfl) _ _ _,⟨aO (fun _=>rfl) (fun _=>rfl) _ _ _,⟨kk,⟨kk,trivial⟩⟩⟩⟩
def aXS:=fun a b c d e f g i j k l m n o p q r s t u v w x y z=>aNv a b c d e f g i j k l m n o p q|>.t t u v r w s x|>.f y z ⟨aO (fun _=>rfl) (fun _=>rfl) _ _ _,⟨aO (fun _=>rfl) (fun _=>rfl) _ _ _,⟨kk,⟨kk,trivial⟩⟩⟩⟩
def aXT:=fun a b c d e f g i j k l m n o p q r s t=>aNv a b c d e f g i j k l m n o p q|>.f r s t ⟨aO (fun _=>rfl) (fun _=>rfl) _ _ _,⟨aO (fun _=>rfl) (fun _=>rfl) _ _ _,⟨kk,⟨kk,trivial⟩⟩⟩⟩
def aXU (a:List LUnit)(b c:List (aC×Int))(d:List aC)(e:Bool):=(tT 4 (aTQ a b c d e)<|gl 15 LUnit.av a<|.W 4 4 [] (aIA a b c d e 0 0)) ⟨aO (fun _=>rfl) (fun _=>rfl) _ _ _,⟨aO (fun _=>rfl) (fun _=>rfl) _ _ _,⟨kk,trivial⟩⟩⟩
def aTU(a:List LUnit)(c d:List (aC×Int))(e:List aC)(g:Bool)(f b:Int):=tT 4 (aIA a c d e g f b)<|gd 5 12 (b< (a.length:Int)) (gX LUnit.av 6 a b<|fun i=>gl 8 Node.av i.nodes<|gw 1 19 (f+ (i.nodes.length:Int))<|gw 5 20 (b+1)<|.W 3 5 [] (aIA a c d e g (f+ (i.nodes.length:Int)) (b+1)))<|.E 8 4 [] (nI f) [oC 0 [(.ilst 5 (map LUnit.av a) false),(.map 1),(.map 2),(.gl 3 1 0 e.length false),(bV g)],(1,(.map (aF aB aP 0 c) c.length),true),(2,(.map (aF aB aP 0 d) d.length),true),oL 3 1 (map aB e)] 4
def aXV:=fun a b c d e f g i j k l m n=>aTU a b c d e f g|>.t j i k l m n ⟨aO (fun _=>rfl) (fun _=>rfl) _ _ _,⟨aO (fun _=>rfl) (fun _=>rfl) _ _ _,⟨kk,trivial⟩⟩⟩
def aXW:=fun a b c d e f g i=>aTU a b c d e f g|>.f i ⟨aO (fun _=>rfl) (fun _=>rfl) _ _ _,⟨aO (fun _=>rfl) (fun _=>rfl) _ _ _,⟨kk,trivial⟩⟩⟩
abbrev aNw (l:List LUnit)(a b c:Nat)(od:List aC)(tw:Bool) :AObj:=.cells (putCells .leaf 0 [.ilst 5 (map LUnit.av l) false,.map a,.map b,.gl c 1 0 (length od) false,.bool tw]) 5 [] false
abbrev MTb (m:List (aC×Int)) :AObj:=.map (aF aB aP 0 m) (length m)
abbrev aLb (l:List aC) :AObj:=.lst 1 (map aB l)
abbrev THp (l:List LUnit)(mf mh:List (aC×Int))(od:List aC)(tw:Bool) :List (Nat×AObj×Bool) :=[(0,aNw l 1 2 3 od tw,false),(1,MTb mf,true),(2,MTb mh,true),(3,aLb od,true)]
theorem wH (m:List (aC×Int)) : (MTb m).kl:=aO (fun _=>rfl) (fun _=>rfl) _ _ _
theorem aC4 (l:List aC) : (aLb l).kl:=aJ _ (fun _=>rfl) _
theorem nV (a b:List aC)(s:aC) :bL (a++b) s= (bL a s||bL b s) :=by simp [bL]
theorem aB0 (s:aC) :∀ (a b:List aC) (i:Nat),dR s (a++b) i=if bL a s=true then dR s a i else dR s b (i+a.length)
 | [],b,i=>by simp [bL]
 | x ::a,b,i=>by
  rw [List.cons_append,dR,dR,wW];by_cases e:x=s
  ·rw [if_pos e,if_pos e,decide_eq_true e,Bool.true_or,if_pos rfl]
  · rw [if_neg e,if_neg e,decide_eq_false e,Bool.false_or,aB0 s a b (i+1)];rw [length_cons,show i+1+a.length=i+ (a.length+1)by omega]
theorem lD (s:aC) :∀ (a:List aC) (i:Nat),dR s a i<0↔bL a s=false
 | [],i=>by simp [dR,bL]
 | x ::a,i=>by
  rw [dR,wW];by_cases e:x=s
  · rw [if_pos e,decide_eq_true e,Bool.true_or];constructor
    ·intro h;omega
    ·intro h;cases h
  ·rw [if_neg e,decide_eq_false e,Bool.false_or,lD s a (i+1)]
theorem aBa (a:List aC)(s:aC) :cN (a++ [s]) = (cN a&& !bL a s) :=by
 rw [Bool.eq_iff_iff,sY,and_eq_true,sY,not_eq_true',eq_false_iff,Ne,hasS_mem,nodup_append];constructor
 · intro h;exact⟨h.1,fun hm=>h.2.2 s hm s (by simp) rfl⟩
 · intro h;refine⟨h.1,by simp,fun x hx y hy e=>?_⟩;rw [List.mem_singleton.1 hy]at e;exact h.2 (e ▸ hx)
structure TabI (od:List aC) (tw:Bool) (mf mh:List (aC×Int)) :Prop where
 tw:tw= !cN od
 f:∀s,dU s mf=if bL od s=true then some (dR s od 0)else none
 h:∀s,bL od s=false→dU s mh=none
theorem TabI.nil :TabI [] false [] [] := ⟨rfl,fun s=>by simp [dU,bL],fun s _=>rfl⟩
theorem TabI.old {od:List aC}{tw:Bool}{mf mh:List (aC×Int)}(t:TabI od tw mf mh){s:aC}(h:bL od s=true) :TabI (od++ [s]) true mf mh:=by
 refine⟨by rw [aBa,h];simp,fun k=>?_,fun k hk=>?_⟩
 · rw [t.f k,nV,aB0];by_cases e:bL od k=true
   ·rw [if_pos e,if_pos e,e,Bool.true_or,if_pos rfl]
   · rw [if_neg e,if_neg];rw [not_eq_true]at e;rw [e,Bool.false_or,wW];intro hh;have:s=k:=by simpa [bL]using hh
     rw [this,e]at h;cases h
 · rw [nV,Bool.or_eq_false_iff]at hk;exact t.h k hk.1
theorem TabI.new {od:List aC}{tw:Bool}{mf mh:List (aC×Int)}(t:TabI od tw mf mh){s:aC}(h:bL od s=false)(i:Int) :TabI (od++ [s]) tw (bX s ((od.length:Nat) :Int) mf) (bX s i mh) :=by
 refine⟨by rw [aBa,h,t.tw];simp,fun k=>?_,fun k hk=>?_⟩
 · rw [qH,nV,aB0,t.f k];by_cases e:k=s
   · subst e;rw [if_pos rfl,h];simp [bL,dR]
   · rw [if_neg e];have:bL [s] k=false:=by simp [bL,Ne.symm e]
     rw [this,Bool.or_false];by_cases e2:bL od k=true
     ·rw [if_pos e2,if_pos e2,if_pos e2]
     ·rw [if_neg e2,if_neg e2]
 · rw [nV,Bool.or_eq_false_iff]at hk;have:k≠s:=fun e=>by rw [e]at hk;simp [bL]at hk
   rw [qH,if_neg this];exact t.h k hk.1
section
variable (l :List LUnit)
theorem aTV (u:LUnit)(hf:u.funs.length≤30)(i:Nat)(hi:i<1000) :∀ (t:List LFun) (k:Nat) (od:List aC) (tw:Bool) (m1 m2:List (aC×Int)),u.funs.drop k=t→od.length+t.length≤1000→TabI od tw m1 m2 →
  ∃tw' m1' m2',TabI (od++t.map LFun.name) tw' m1' m2'∧LeadsM PP 0 (aER l u.funs ((u.funs.length:Nat) :Int) (k:Int) tw od m1 m2 (i:Int) (i:Int)).as (aBX l ((i:Int) +1) tw' m1' m2' (od++t.map LFun.name)).as
 | [],k,od,tw,m1,m2,h,ho,ht=>by
  have:=bD h;rw [map_nil,append_nil];exact⟨tw,m1,m2,ht,aXB l u.funs _ k tw od m1 m2 i i sd sd⟩
 | f::t,k,od,tw,m1,m2,h,ho,ht=>by
  obtain⟨q1,q2,q3⟩ :=bC h;simp only [length_cons]at ho;have g:=ht.f f.name;cases e:bL od f.name with
  | true=>
   rw [e,if_pos rfl]at g;obtain⟨tw',m1',m2',h1,h2⟩ :=aTV u hf i hi t (k+1) (od++ [f.name]) true m1 m2 q2 (by simp;omega) (ht.old e);refine⟨tw',m1',m2',by simpa using h1,?_⟩;rw [append_assoc]at h2;exact(aXz l u.funs _ k tw od m1 m2 i i f _ sd sd sd g (by simp;omega) sd).trans h2
  | false=>
   rw [e,if_neg (by simp)]at g;obtain⟨tw',m1',m2',h1,h2⟩ :=aTV u hf i hi t (k+1) (od++ [f.name]) tw (bX f.name ((od.length:Nat) :Int) m1) (bX f.name (i:Int) m2) q2 (by simp;omega) (ht.new e i);refine⟨tw',m1',m2',by simpa using h1,?_⟩;rw [append_assoc]at h2;exact(aXA l u.funs _ k tw od m1 m2 i i f sd sd sd g (ht.h _ e) (by simp;omega) sd).trans h2
abbrev aC5 (e:Int) :Res:=.pan [((.iface 201 (.agg [(.int .i64 e)])),false)]
theorem aTW (hl:l.length≤10)(hu:∀u∈l,FewU u∧NumU u) :∀ (t:List LUnit) (i:Nat) (od:List aC) (tw:Bool) (m1 m2:List (aC×Int)),l.drop i=t→od.length≤30*i→TabI od tw m1 m2 →
  (t.all iK=true→∃tw' mf mh,TabI (od++bI t) tw' mf mh∧Ends PP 0 (aBX l (i:Int) tw m1 m2 od).as (.ret (.ptr 0 0)) (aG (THp l mf mh (od++bI t) tw') 4)) ∧
  (t.all iK=false→Ends PP 0 (aBX l (i:Int) tw m1 m2 od).as (aC5 2) (aG [] 0))
 | [],i,od,tw,m1,m2,h,ho,ht=>by
  have:=bD h;refine⟨fun _=> ⟨tw,m1,m2,?_,?_⟩,fun h=>by simp at h⟩
  ·rw [show bI [] = []from rfl,append_nil];exact ht
  ·rw [show bI [] = []from rfl,append_nil];exact aXy l i tw m1 m2 od sd
 | u ::t,i,od,tw,m1,m2,h,ho,ht=>by
  obtain⟨q1,q2,q3⟩ :=bC h;have hh:=hu u (mem_of_getElem? q1);have hf:=hh.1.f;have hp:=aTM u hh.1 hh.2;rw [all_cons];cases e:iK u with
  | false=>
   rw [e]at hp;refine⟨fun h=>by simp at h,fun _=>?_⟩;exact aXw l i tw m1 m2 od u false sd sd sd hp rfl
  | true=>
   rw [e]at hp;rw [Bool.true_and];obtain⟨tw',m1',m2',h1,h2⟩ :=aTV l u hf i (by omega) u.funs 0 od tw m1 m2 rfl (by omega) ht;have h0:=aXx l i tw m1 m2 od u true sd sd sd hp rfl;have ih:=aTW hl hu t (i+1) (od++aE u) tw' m1' m2' q2 (by simp [aE];omega) h1;refine⟨fun hg=>?_,fun hg=>?_⟩
   · obtain⟨tw2,mf,mh,g1,g2⟩ :=ih.1 hg;rw [append_assoc]at g1 g2;exact⟨tw2,mf,mh,g1,h0.ends (h2.ends g2)⟩
   ·exact h0.ends (h2.ends (ih.2 hg))
theorem bAw (hu:∀u∈l,FewU u∧NumU u)(h:iL l=false) :aG3 PP 63 [.ilst 5 (map LUnit.av l) false] [((.iface 201 (.agg [(.int .i64 2)])),false)] :=by
 refine throws_at (by kernel_rfl) (by simp [keylessL,keyless]) (fun x hx=>by rw [List.mem_singleton.1 hx];rfl) ?_;by_cases hl:l.length≤10
 · rw [iL,decide_eq_true hl,Bool.true_and]at h;exact(aOv l (by simp;omega)).ends ((aTW l hl hu l 0 [] false [] [] rfl (by simp) TabI.nil).2 h)
 ·exact aXv l (by simp;omega)
theorem aTX (hu:∀u∈l,FewU u∧NumU u)(h:iL l=true) :∃mf mh,TabI (bI l) (!cN (bI l)) mf mh ∧
  aAI PP (.enter 63 [.ilst 5 (map LUnit.av l) false]) (aG [] 0) (.ret (.ptr 0 0)) (aG (THp l mf mh (bI l) (!cN (bI l))) 4) :=by
 simp only [iL,and_eq_true,decide_eq_true_eq]at h;obtain⟨tw,mf,mh,h1,h2⟩ := (aTW l h.1 hu l 0 [] false [] [] rfl (by simp) TabI.nil).1 h.2;rw [nil_append]at h1 h2;have e:=h1.tw;subst e;refine⟨mf,mh,h1,?_⟩
 suffices hh:Ends PP 0 (aTN l).as (.ret (.ptr 0 0)) (aG (THp l mf mh (bI l) (!cN (bI l))) 4)from⟨(aTN l).as.fr,by kernel_rfl,mp (by kernel_rfl) hh⟩
 exact(aOv l (by simp;omega)).ends h2
end
section
variable (l :List LUnit) (mf mh:List (aC×Int)) (od:List aC) (tw:Bool)
theorem aZA (s:aC)(nd:List aC)(hn:nd.length≤1000)(k:Nat)(hk:k<1000)(i:Int)(acc:List aC)(ha:acc.length≤100000) :∀ (t:List aC) (j:Nat),acc.drop j=t →
  LeadsM PP 4 (aIz l mf mh od tw s nd ((nd.length:Nat) :Int) (k:Int) (j:Int) ((acc.length:Nat) :Int) i acc).as (wF l mf mh od tw nd ((nd.length:Nat) :Int) ((k:Int) +1) (if bL t s=true then acc else acc++ [s]) i).as
 | [],j,h=>by
  have:=bD h;exact aXK l mf mh od tw s nd _ k j _ i acc sd (by simp;omega) sd
 | x ::t,j,h=>by
  obtain⟨q1,q2,q3⟩ :=bC h;rw [wW];by_cases e:x=s
  · rw [decide_eq_true e,Bool.true_or,if_pos rfl];exact aXI l mf mh od tw s nd _ k j _ i acc x sd sd sd sd (by rw [dQ];simp [e]) (by simp) sd
  · rw [decide_eq_false e,Bool.false_or];exact(aXJ l mf mh od tw s nd _ k j _ i acc x sd sd sd sd (by rw [dQ];simp [Ne.symm e]) sd).trans (aZA s nd hn k hk i acc ha t (j+1) q2)
theorem aTY (ht:TabI od tw mf mh)(nd:List aC)(hn:nd.length≤25)(i:Nat)(hi:i<1000) :∀ (t:List aC) (k:Nat) (acc:List aC),nd.drop k=t→acc.length≤25*i+k →
  LeadsM PP 4 (wF l mf mh od tw nd ((nd.length:Nat) :Int) (k:Int) acc (i:Int)).as (aES l mf mh od tw ((i:Int) +1) (vX od acc t)).as
 | [],k,acc,h,ha=>by
  have:=bD h;exact aXH l mf mh od tw nd _ k acc i sd sd
 | s::t,k,acc,h,ha=>by
  obtain⟨q1,q2,q3⟩ :=bC h;have g:=ht.f s;rw [vX];cases e:bL od s with
  | true=>
   rw [e,if_pos rfl]at g;rw [if_pos (.inl rfl)];exact(aXF l mf mh od tw nd _ k acc i s _ sd sd sd g sd).trans (aTY ht nd hn i hi t (k+1) acc q2 (by omega))
  | false=>
   rw [e,if_neg (by simp)]at g;have h1:=aXG l mf mh od tw nd ((nd.length:Nat) :Int) k acc i s sd sd sd g;have h2:=aZA l mf mh od tw s nd (by omega) k (by omega) i acc (by omega) acc 0 rfl;have e2: (if false=true∨bL acc s=true then acc else acc++ [s]) = (if bL acc s=true then acc else acc++ [s]) :=by simp
   rw [e2];exact h1.trans (h2.trans (aTY ht nd hn i hi t (k+1) _ q2 (by split<;>first|omega| (simp;omega))))
theorem aZB (ht:TabI od tw mf mh)(hl:l.length≤11)(hu:∀u∈l,FewU u) :∀ (t:List LUnit) (i:Nat) (acc:List aC),l.drop i=t→acc.length≤25*i →
  Ends PP 4 (aES l mf mh od tw (i:Int) acc).as (.ret (.ilst 1 (map aB (aA3 od acc t)) false)) (aG (THp l mf mh od tw) 4)
 | [],i,acc,h,ha=>by
  have:=bD h;exact aXE l mf mh od tw i acc sd
 | u::t,i,acc,h,ha=>by
  obtain⟨q1,q2,q3⟩ :=bC h;have hn:= (hu u (mem_of_getElem? q1)).n;have hlen:=aGj od u.needs acc;exact(aXD l mf mh od tw i acc u sd sd sd).ends ((aTY l mf mh od tw ht u.needs hn i (by omega) u.needs 0 acc rfl (by omega)).ends (aZB ht hl hu t (i+1) _ q2 (by omega)))
theorem aTZ (ht:TabI od tw mf mh)(hl:l.length≤11)(hu:∀u∈l,FewU u) :Spec PP (.enter 64 [.ptr 0 0]) (aG (THp l mf mh od tw) 4) (.ret (.ilst 1 (map aB (aA3 od [] l)) false)) (aG (THp l mf mh od tw) 4) :=by
 suffices hh:Ends PP 4 (aTO l mf mh od tw).as (.ret (.ilst 1 (map aB (aA3 od [] l)) false)) (aG (THp l mf mh od tw) 4)from⟨(aTO l mf mh od tw).as.fr,by kernel_rfl,mp (by kernel_rfl) hh⟩
 exact(aXC l mf mh od tw).ends (aZB l mf mh od tw ht hl hu l 0 [] rfl (by simp))
theorem aZC (hl:l.length≤11)(hu:∀u∈l,u.nodes.length≤320) :∀ (t:List LUnit) (i n:Nat),l.drop i=t→n+aT t=aT l→n≤320*i →
  Ends PP 4 (aIA l mf mh od tw (n:Int) (i:Int)).as (.ret (.int .i64 (aT l:Int))) (aG (THp l mf mh od tw) 4)
 | [],i,n,h,hn,hb=>by
  have:=bD h;simp only [aT]at hn;obtain rfl:n=aT l:=by omega
  exact aXW l mf mh od tw _ i sd
 | u::t,i,n,h,hn,hb=>by
  obtain⟨q1,q2,q3⟩ :=bC h;simp only [aT]at hn;have hs:=hu u (mem_of_getElem? q1);have h1:=aXV l mf mh od tw n i u sd sd sd sd sd;have ih:=aZC hl hu t (i+1) (n+u.nodes.length) q2 (by omega) (by omega);rw [Int.natCast_add,Int.natCast_add]at ih;exact h1.ends ih
theorem aT0 (hl:l.length≤11)(hu:∀u∈l,u.nodes.length≤320) :Spec PP (.enter 78 [.ptr 0 0]) (aG (THp l mf mh od tw) 4) (.ret (.int .i64 (aT l:Int))) (aG (THp l mf mh od tw) 4) :=by
 suffices hh:Ends PP 4 (aTQ l mf mh od tw).as (.ret (.int .i64 (aT l:Int))) (aG (THp l mf mh od tw) 4)from⟨(aTQ l mf mh od tw).as.fr,by kernel_rfl,mp (by kernel_rfl) hh⟩
 exact(aXU l mf mh od tw).ends (aZC l mf mh od tw hl hu l 0 0 rfl (by omega) (by omega))
def aIB (out:List Con)(c:Con)(t:List Con) :Option (List Con) :=match t.find? (fun d=>decide (d.name=c.name))with
 |none=>some (out++ [c])
 |some d=>if d.args=c.args then some out else none
theorem aLc (out:List Con)(c:Con) :aGk out c=aIB out c out:=rfl
theorem aZD (i:Int)(cl:List Con)(hcl:cl.length≤1000)(c:Con)(k:Nat)(hk:k<1000)(acc:List Con)(ha:acc.length<100000) :∀ (t:List Con) (j:Nat),acc.drop j=t →
  (match aIB acc c t with
  |some o=>LeadsM PP 4 (aBZ l mf mh od tw i cl ((cl.length:Nat) :Int) c.name c.name c.name c.args (j:Int) ((acc.length:Nat) :Int) (k:Int) acc).as (wG l mf mh od tw cl ((cl.length:Nat) :Int) i ((k:Int) +1) o).as
  |none=>Ends PP 4 (aBZ l mf mh od tw i cl ((cl.length:Nat) :Int) c.name c.name c.name c.args (j:Int) ((acc.length:Nat) :Int) (k:Int) acc).as (aC5 7) (aG (THp l mf mh od tw) 4))
 | [],j,h=>by
  have:=bD h;exact aXT l mf mh od tw i cl _ c.name c.name c.name c.args j _ k acc sd (by simp;omega) sd
 | d ::t,j,h=>by
  obtain⟨q1,q2,q3⟩ :=bC h;unfold aIB;by_cases e:d.name=c.name
  · rw [List.find?_cons_of_pos (by simpa using e)];by_cases e2:d.args=c.args
    · dsimp only;rw [if_pos e2];exact aXR l mf mh od tw i cl _ c.name c.name c.name c.args j _ k acc d d.name sd sd sd sd (wE d) (by rw [dQ];simp [e]) sd (by rw [show(d.args != c.args) =false by simp [e2]];exact bAu 7 _) sd
    · dsimp only;rw [if_neg e2];exact aXu l mf mh od tw i cl _ c.name c.name c.name c.args j _ k acc d d.name sd sd sd sd (wE d) (by rw [dQ];simp [e]) sd (by rw [show(d.args != c.args) =true by simp [e2]];exact bAv 7 _)
  · rw [List.find?_cons_of_neg (by simpa using e)];have ih:=aZD i cl hcl c k hk acc ha t (j+1) q2;unfold aIB at ih;have h1:=aXS l mf mh od tw i cl ((cl.length:Nat) :Int) c.name c.name c.name c.args j ((acc.length:Nat) :Int) k acc d d.name sd sd sd sd (wE d) (by rw [dQ];simp [e]) sd;split at ih
    ·rename_i o ho;first|exact h1.trans ih| (rw [ho];exact h1.trans ih)
    ·rename_i ho;first|exact h1.ends ih| (rw [ho];exact h1.ends ih)
theorem aZE (cl:List Con)(i:Nat)(hi2:i<1000)(hn:cl.length≤25) :∀ (t:List Con) (k:Nat) (acc:List Con),cl.drop k=t→acc.length≤25*i+k →
  (match aA5 acc t with
  |some o=>LeadsM PP 4 (wG l mf mh od tw cl ((cl.length:Nat) :Int) (i:Int) (k:Int) acc).as (aBY l mf mh od tw ((i:Int) +1) o).as
  |none=>Ends PP 4 (wG l mf mh od tw cl ((cl.length:Nat) :Int) (i:Int) (k:Int) acc).as (aC5 7) (aG (THp l mf mh od tw) 4))
 | [],k,acc,h,ha=>by
  have:=bD h;exact aXQ l mf mh od tw cl _ i k acc sd sd
 | c ::t,k,acc,h,ha=>by
  obtain⟨q1,q2,q3⟩ :=bC h;have h1:=aXP l mf mh od tw cl ((cl.length:Nat) :Int) i k acc c sd sd sd;have h2:=aZD l mf mh od tw i cl (by omega) c k (by omega) acc (by omega) acc 0 rfl;rw [aA5,aLc];split at h2
  · rename_i o ho
    try rw [ho]
    have hl:=aGm (out:=acc) (c:=c) (o:=o) (by rw [aLc];exact ho);have h3:=aZE cl i hi2 hn t (k+1) o q2 (by omega);dsimp only;split at h3
    ·rename_i o2 ho2;first|exact h1.trans (h2.trans h3) | (rw [ho2];exact h1.trans (h2.trans h3))
    ·rename_i ho2;first|exact h1.ends (h2.ends h3) | (rw [ho2];exact h1.ends (h2.ends h3))
  · rename_i ho
    try rw [ho]
    exact h1.ends h2
abbrev aET (o:Option (List Con)) :Res:=match o with
 |some o=>.ret (.ilst 2 (map Con.av o) false)
 |none=>aC5 7
theorem aT1 (hl:l.length≤11)(hu:∀u∈l,u.cons.length≤25) :∀ (t:List LUnit) (i:Nat) (acc:List Con),l.drop i=t→acc.length≤25*i →
  Ends PP 4 (aBY l mf mh od tw (i:Int) acc).as (aET (vY acc t)) (aG (THp l mf mh od tw) 4)
 | [],i,acc,h,ha=>by
  have:=bD h;exact aXO l mf mh od tw i acc sd
 | u ::t,i,acc,h,ha=>by
  obtain⟨q1,q2,q3⟩ :=bC h;have hn:=hu u (mem_of_getElem? q1);by_cases h0:u.cons= []
  · have e:vY acc (u::t) =vY acc t:=by rw [vY,h0,aA5]
    rw [e];exact(aXM l mf mh od tw i acc u sd sd sd (by rw [h0];rfl) sd).ends (aT1 hl hu t (i+1) acc q2 (by omega))
  · have hp:0<u.cons.length:=List.length_pos_iff.2 h0;have h1:=aXN l mf mh od tw i acc u sd sd sd (beq_eq_false_iff_ne.2 (by omega));have h2:=aZE l mf mh od tw u.cons i (by omega) hn u.cons 0 acc rfl (by omega);rw [vY];split at h2
    · rename_i o ho
      try rw [ho]
      have:=aBQ ho;exact h1.ends (h2.ends (aT1 hl hu t (i+1) o q2 (by omega)))
    · rename_i ho
      try rw [ho]
      exact h1.ends h2
theorem aT2 (hl:l.length≤11)(hu:∀u∈l,u.cons.length≤25) :Spec PP (.enter 77 [.ptr 0 0]) (aG (THp l mf mh od tw) 4) (aET (aGl l)) (aG (THp l mf mh od tw) 4) :=by
 suffices hh:Ends PP 4 (aTP l mf mh od tw).as (aET (aGl l)) (aG (THp l mf mh od tw) 4)from⟨(aTP l mf mh od tw).as.fr,by kernel_rfl,mp (by kernel_rfl) hh⟩
 exact(aXL l mf mh od tw).ends (aT1 l mf mh od tw hl hu l 0 [] rfl (by simp))
end
def aT3(d:List LUnit)(a b:List (aC×Int))(c:List aC)(e:Bool)(f:List Con)(g:List aC):TS:=dB PP 79 [(.ptr 0 0),(iC f),(iS g)] [oC 0 [(.ilst 5 (map LUnit.av d) false),(.map 1),(.map 2),(.gl 3 1 0 c.length false),(bV e)],(1,(.map (aF aB aP 0 a) a.length),true),(2,(.map (aF aB aP 0 b) b.length),true),oL 3 1 (map aB c)] 4
def aEU(a:List LUnit)(b c:List (aC×Int))(d:List aC)(g:Bool)(i:List Con)(j:List aC)(k:Int)(l:List Node)(m n:List Int)(e:List LFun)(f:List ONode):TS:=⟨(tf 79 129 [kp 0 0,(1,(iC i)),(2,(iS j)),(6,.nils),(7,.nils),(8,(.gl 4 2 0 e.length false)),kp 9 5,(25,(.ilst 5 (map LUnit.av a) false)),(26,(nI (a.length:Int))),(27,(nI k))] [kc f79 244,kl f79 244,.inBlock 0,kc f79 31]),[],[oC 0 [(.ilst 5 (map LUnit.av a) false),(.map 1),(.map 2),(.gl 3 1 0 d.length false),(bV g)],(1,(.map (aF aB aP 0 b) b.length),true),(2,(.map (aF aB aP 0 c) c.length),true),oL 3 1 (map aB d),oL 4 2 (map LFun.av e),oC 5 [(iN l),(.gl 6 4 0 f.length false),(iI m),(iI n)],oL 6 4 (map ONode.av f)],7⟩
def aEV(a:List LUnit)(b c:List (aC×Int))(d:List aC)(i:Bool)(j:List Con)(k l:List aC)(m:Int)(n:List Node)(o:aC)(p:List Con)(q:List LFun)(r:List aC)(s:List Node)(t:Int)(e:List Int)(u:Int)(f:List LFun)(g:List ONode):TS:=⟨(tf 79 129 [kp 0 0,(1,(iC j)),(2,(iS k)),(6,.nils),(7,.nils),(8,(.gl 4 2 0 f.length false)),kp 9 5,kp 11 6,(25,(.ilst 5 (map LUnit.av a) false)),(26,(nI (a.length:Int))),(27,(nI u)),(47,(iS l)),(48,(nI m)),(49,(nI t))] [kc f79 250676,kl f79 250676,.inBlock 2,kc f79 31335,.inBlock 1,kc f79 1959,kl f79 244,.inBlock 0,kc f79 31]),[],[oC 0 [(.ilst 5 (map LUnit.av a) false),(.map 1),(.map 2),(.gl 3 1 0 d.length false),(bV i)],(1,(.map (aF aB aP 0 b) b.length),true),(2,(.map (aF aB aP 0 c) c.length),true),oL 3 1 (map aB d),oL 4 2 (map LFun.av f),oC 5 [(iN n),(.gl 7 4 0 g.length false),(.gl 8 1 0 e.length false),(.gl 9 1 0 ([] :List Int).length false)],oC 6 [(aB o),(iC p),(.ilst 2 (map LFun.av q) false),(iS r),(iN s)],oL 7 4 (map ONode.av g),oL 8 1 (jI e),oL 9 1 (jI ([] :List Int))],10⟩
def aEW(a:List LUnit)(b c:List (aC×Int))(d:List aC)(k:Bool)(l:List Con)(m:List aC)(e:List Con)(n:Int)(o:List Node)(p:aC)(q:List LFun)(r:List aC)(s:List Node)(f:List Int)(t:Int)(g:List Int)(u:Int)(i:List LFun)(j:List ONode):TS:=⟨(tf 79 129 [kp 0 0,(1,(iC l)),(2,(iS m)),(6,.nils),(7,.nils),(8,(.gl 4 2 0 i.length false)),kp 9 5,kp 11 6,(25,(.ilst 5 (map LUnit.av a) false)),(26,(nI (a.length:Int))),(27,(nI u)),(85,(iC e)),(86,(nI n)),(87,(nI t))] [kc f79 501364,kl f79 501364,.inBlock 4,kc f79 62671,.inBlock 1,kc f79 1959,kl f79 244,.inBlock 0,kc f79 31]),[],[oC 0 [(.ilst 5 (map LUnit.av a) false),(.map 1),(.map 2),(.gl 3 1 0 d.length false),(bV k)],(1,(.map (aF aB aP 0 b) b.length),true),(2,(.map (aF aB aP 0 c) c.length),true),oL 3 1 (map aB d),oL 4 2 (map LFun.av i),oC 5 [(iN o),(.gl 7 4 0 j.length false),(.gl 8 1 0 f.length false),(.gl 9 1 0 g.length false)],oC 6 [(aB p),(iC e),(.ilst 2 (map LFun.av q) false),(iS r),(iN s)],oL 7 4 (map ONode.av j),oL 8 1 (jI f),oL 9 1 (jI g)],10⟩
def aEX(a:List LUnit)(b c:List (aC×Int))(d:List aC)(g:Bool)(i:List Con)(j:List aC)(k:List LFun)(l:Int)(m:List Node)(n o:List Int)(p:Int)(e:List LFun)(f:List ONode)(q:Int):TS:=⟨(tf 79 129 [kp 0 0,(1,(iC i)),(2,(iS j)),(6,.nils),(7,.nils),(8,(.gl 4 2 0 e.length false)),kp 9 5,(25,(.ilst 5 (map LUnit.av a) false)),(26,(nI (a.length:Int))),(27,(nI q)),(106,(.ilst 2 (map LFun.av k) false)),(107,(nI l)),(108,(nI p))] [kc f79 501372,kl f79 501372,.inBlock 6,.inBlock 1,kc f79 1959,kl f79 244,.inBlock 0,kc f79 31]),[],[oC 0 [(.ilst 5 (map LUnit.av a) false),(.map 1),(.map 2),(.gl 3 1 0 d.length false),(bV g)],(1,(.map (aF aB aP 0 b) b.length),true),(2,(.map (aF aB aP 0 c) c.length),true),oL 3 1 (map aB d),oL 4 2 (map LFun.av e),oC 5 [(iN m),(.gl 6 4 0 f.length false),(iI n),(iI o)],oL 6 4 (map ONode.av f)],7⟩
def aOw(a:List LUnit):TS:=dB PP 24 [(.ilst 5 (map LUnit.av a) false)] [] 0
def aIC(i:List LUnit)(b:List LFun)(c:Int)(d:List Node)(e:Int)(f:List Con)(g:Int)(a:List Int):TS:=⟨(tf 24 74 [kp 2 0,kp 3 1,(59,(.ilst 2 (map LFun.av b) false)),(60,(nI c)),(61,(nI g))] [kc f24 16372,kl f24 16372,.inBlock 0,kc f24 2047] (defers:=[.fn 61 [(.ptr 1 0),(.func 76 [] [(.ptr 0 0)])]])),[],[oC 0 [(iN d),(.gl 2 1 0 a.length false),(nI e),(iC f)],oC 1 [(nI 0)],oL 2 1 (jI a)],3⟩
def aXX (a:List LUnit)(b c:List (aC×Int))(d:List aC)(e:Bool)(f:List Con)(g:List aC):=(tT 4 (aT3 a b c d e f g)<|.i [rn 17,.cnilI 4 0 4] []<|.i [.cweak 4 0] []<|.i [.cnilI 4 2 1] []<|.i [.cweak 4 2] []<|.i [.cnilI 4 3 1] []<|.i [.cweak 4 3] []<|gl 5 LUnit.av a<|.i [rn 4,.nilL 8 2] []<|gu 0 5 (map LFun.av ([] :List LFun))<|gs 0 8 (.gl 5 2 0 ([] :List LFun).length false)<|.i [.cnil 4 1 4] []<|gu 0 6 (map ONode.av ([] :List ONode))<|gv 0 4 1 (.gl 6 4 0 ([] :List ONode).length false)<|.W 0 7 [5,4,6] (aEU a b c d e f g 0 ([] :List Node) ([] :List Int) ([] :List Int) ([] :List LFun) ([] :List ONode))) ⟨aO (fun _=>rfl) (fun _=>rfl) _ _ _,⟨aO (fun _=>rfl) (fun _=>rfl) _ _ _,⟨kk,⟨kk,⟨(aJ _ (fun _=>bB _) _),trivial⟩⟩⟩⟩⟩
def aT4(g:List LUnit)(d e:List (aC×Int))(f:List aC)(k:Bool)(m:List Con)(n:List aC)(l:Int)(o:List Node)(p q:List Int)(j:List LFun)(b:List ONode):=tT 4 (aEU g d e f k m n l o p q j b)<|gd 5 28 (l< (g.length:Int)) (gX LUnit.av 6 g l<|fun a=>.y fun c:List aC=>.i [rn 23,.reg (.d::.pure (iS c)::rd 3 [.call (iS (c++a.needs)) (aG [oC 0 [(.ilst 5 (map LUnit.av g) false),(.map 1),(.map 2),(.gl 3 1 0 f.length false),(bV k)],(1,(.map (aF aB aP 0 d) d.length),true),(2,(.map (aF aB aP 0 e) e.length),true),oL 3 1 (map aB f),oL 4 2 (map LFun.av j),oC 5 [(iN a.nodes),(.gl 6 4 0 b.length false),.nils,.nils],oL 6 4 (map ONode.av b),oC 7 [(aB a.name),(iC a.cons),(.ilst 2 (map LFun.av a.funs) false),(iS a.needs),(iN a.nodes)],oC 8 [(iS c),(iS a.needs)]] 9),.ans (.len ((c++a.needs).length:Int)),.d])] [hA (Pure PP 161 [(.agg [(aB a.name),(iC a.cons),(.ilst 2 (map LFun.av a.funs) false),(iS a.needs),(iN a.nodes)])] (iS c)),hA (Spec PP (.enter 160 [(.slice 8 0 2 2 1 true)]) (aG [oC 0 [(.ilst 5 (map LUnit.av g) false),(.map 1),(.map 2),(.gl 3 1 0 f.length false),(bV k)],(1,(.map (aF aB aP 0 d) d.length),true),(2,(.map (aF aB aP 0 e) e.length),true),oL 3 1 (map aB f),oL 4 2 (map LFun.av j),oC 5 [(iN a.nodes),(.gl 6 4 0 b.length false),.nils,.nils],oL 6 4 (map ONode.av b),oC 7 [(aB a.name),(iC a.cons),(.ilst 2 (map LFun.av a.funs) false),(iS a.needs),(iN a.nodes)],oC 8 [(iS c),(iS a.needs)]] 9) (.ret (iS (c++a.needs))) (aG [oC 0 [(.ilst 5 (map LUnit.av g) false),(.map 1),(.map 2),(.gl 3 1 0 f.length false),(bV k)],(1,(.map (aF aB aP 0 d) d.length),true),(2,(.map (aF aB aP 0 e) e.length),true),oL 3 1 (map aB f),oL 4 2 (map LFun.av j),oC 5 [(iN a.nodes),(.gl 6 4 0 b.length false),.nils,.nils],oL 6 4 (map ONode.av b),oC 7 [(aB a.name),(iC a.cons),(.ilst 2 (map LFun.av a.funs) false),(iS a.needs),(iN a.nodes)],oC 8 [(iS c),(iS a.needs)]] 9)),hl aB (c++a.needs),hr (ilst 1 (map aB a.needs) false),hr (ilst 1 (map aB a.needs) false)]<|.i [rn 2,.cnil 5 2 1] []<|gu 0 9 (jI ([] :List Int))<|gv 0 5 2 (.gl 9 1 0 ([] :List Int).length false)<|.i [.cnil 5 3 1] []<|gu 0 10 (jI ([] :List Int))<|gv 0 5 3 (.gl 10 1 0 ([] :List Int).length false)<|.W 0 11 [4,5,7,6,9,10] (aEV g d e f k m n (c++a.needs) ((c++a.needs).length:Int) a.nodes a.name a.cons a.funs a.needs a.nodes 0 ([] :List Int) l j b))<|.i [rn 3,.reg (rd 7 [])] []<|.y fun i:List Node=>.i [rn 1,.lset 6 (jN i)] [.a (b=map Node.o i) (p':=(map ONode.av b) = (jN i)) aNa]<|.i [.set 7 (.gl 6 4 0 i.length false)] [.a (i.length=b.length) (p':=(AV.gl 6 4 0 b.length false) = (.gl 6 4 0 i.length false)) (fun h=>(cF h.symm))]<|gz 0 6 4 2 LFun.av j false<|gz 0 7 6 4 Node.av i false<|.E 0 7 [] (.tup [(.ilst 2 (map LFun.av j) false),(iN i)]) [oC 0 [(.ilst 5 (map LUnit.av g) false),(.map 1),(.map 2),(.gl 3 1 0 f.length false),(bV k)],(1,(.map (aF aB aP 0 d) d.length),true),(2,(.map (aF aB aP 0 e) e.length),true),oL 3 1 (map aB f)] 4
def aXY:=fun a b c d e f g i j k l m n o p q r s t u=>aT4 a b c d e f g i j k l m n|>.t q o r s p t u ⟨aO (fun _=>rfl) (fun _=>rfl) _ _ _,⟨aO (fun _=>rfl) (fun _=>rfl) _ _ _,⟨kk,⟨kk,⟨(aJ _ (fun _=>bB _) _),⟨kk,⟨kk,trivial⟩⟩⟩⟩⟩⟩⟩
def aXZ:=fun a b c d e f g i j k l m n o p q r=>aT4 a b c d e f g i j k l m n|>.f p o q r ⟨aO (fun _=>rfl) (fun _=>rfl) _ _ _,⟨aO (fun _=>rfl) (fun _=>rfl) _ _ _,⟨kk,trivial⟩⟩⟩
def aNy(j:List LUnit)(a k:List (aC×Int))(b:List aC)(l:Bool)(m:List Con)(i n:List aC)(o:Int)(p:List Node)(q:aC)(f:List Con)(r:List LFun)(s:List aC)(t:List Node)(d:Int)(g:List Int)(u:Int)(v:List LFun)(w:List ONode):=tT 4 (aEV j a k b l m i n o p q f r s t d g u v w)<|gd 5 50 (d<o) (gX aB 6 n d<|fun e=>.o (.y fun c:Int=>.i [rn 10,.ans (.look (some (vK e a,(aP c))))] [.a (dU e a=some c) (p':=eP (aB e) (aF aB aP 0 a) 0=some (some (vK e a,(aP c)))) (pZ fY)]<|ga 22 aP g [c]<|gw 7 83 (d+1)<|.W 3 12 [4,5,6,7,11,9] (aEV j a k b l m i n o p q f r s t (d+1) (g++ [c]) u v w))<|.i [rn 10,.ans (.look none)] [.a (dU e a=none) (p':=eP (aB e) (aF aB aP 0 a) 0=some none) (pY fY)]<|.y fun c:Int=>.i [rn 13,.reg (rd 7 [.pure (nI c),.d,.d])] [hA (Pure PP 151 [(iS i),(aB e)] (nI c)),hr (nI (b.length:Int)),hr (nI (b.length:Int)),hr (AV.gl 3 1 0 b.length false),hr (AV.gl 3 1 0 b.length false)]<|ga 8 aP g [(IntKind.i64.wrap ((b.length:Int) +c))]<|gw 7 83 (d+1)<|.W 3 12 [4,5,6,7,11,9] (aEV j a k b l m i n o p q f r s t (d+1) (g++ [(IntKind.i64.wrap ((b.length:Int) +c))]) u v w))<|gl 7 Con.av f<|.W 4 10 [4,5,6,7,8,9] (aEW j a k b l m i f (f.length:Int) p q r s t g 0 ([] :List Int) u v w)
def aX0:=fun a b c d e f g i j k l m n o p q r s t u v w x y z A B C=>aNy a b c d e f g i j k l m n o p q r s t u|>.t x v y z|>.1 w A B C ⟨aO (fun _=>rfl) (fun _=>rfl) _ _ _,⟨aO (fun _=>rfl) (fun _=>rfl) _ _ _,⟨kk,⟨kk,⟨(aJ _ (fun _=>bB _) _),⟨kk,⟨kk,trivial⟩⟩⟩⟩⟩⟩⟩
def aX1:=fun a b c d e f g i j k l m n o p q r s t u v w x y z A B C D=>aNy a b c d e f g i j k l m n o p q r s t u|>.t x v y z|>.2 A w B C D ⟨aO (fun _=>rfl) (fun _=>rfl) _ _ _,⟨aO (fun _=>rfl) (fun _=>rfl) _ _ _,⟨kk,⟨kk,⟨(aJ _ (fun _=>bB _) _),⟨kk,⟨kk,trivial⟩⟩⟩⟩⟩⟩⟩
def aX2:=fun a b c d e f g i j k l m n o p q r s t u v=>aNy a b c d e f g i j k l m n o p q r s t u|>.f v ⟨aO (fun _=>rfl) (fun _=>rfl) _ _ _,⟨aO (fun _=>rfl) (fun _=>rfl) _ _ _,⟨kk,⟨kk,⟨(aJ _ (fun _=>bB _) _),⟨kk,⟨kk,trivial⟩⟩⟩⟩⟩⟩⟩
def aT5(g:List LUnit)(i j:List (aC×Int))(k:List aC)(l:Bool)(e:List Con)(m:List aC)(n:List Con)(o:Int)(p:List Node)(t:aC)(c:List LFun)(u:List aC)(v:List Node)(f:List Int)(d:Int)(a:List Int)(q:Int)(r:List LFun)(s:List ONode):=tT 4 (aEW g i j k l e m n o p t c u v f d a q r s)<|gd 5 88 (d<o) (gX Con.av 6 n d<|fun w=>.y fun b:Int=>.i [rn 4,.reg (rd 8 (.pure (nI b)::.d::.app (jI (a++ [b])) (a++ [b]).length::rd 3 []))] [hA (Pure PP 158 [(iC e),(.func 159 [] []),(aB w.name)] (nI b)),hb aP a,hA (length (a++ [b]) ≤1000000),hc aP a [b],he aP a [b],hr (AV.gl 9 1 0 a.length false),hr (AV.gl 9 1 0 a.length false)]<|gw 3 104 (d+1)<|.W 3 13 [4,5,6,7,8,12] (aEW g i j k l e m n o p t c u v f (d+1) (a++ [b]) q r s))<|gy 3 5 2 8 1 aP f false<|gy 0 5 3 9 1 aP a false<|gl 3 LFun.av c<|.W 4 10 [4,5,7] (aEX g i j k l e m c (c.length:Int) p f a 0 r s q)
def aX3:=fun a b c d e f g i j k l m n o p q r s t u v w x y z A B C=>aT5 a b c d e f g i j k l m n o p q r s t u|>.t x v y z w A B C ⟨aO (fun _=>rfl) (fun _=>rfl) _ _ _,⟨aO (fun _=>rfl) (fun _=>rfl) _ _ _,⟨kk,⟨kk,⟨(aJ _ (fun _=>bB _) _),⟨kk,⟨kk,trivial⟩⟩⟩⟩⟩⟩⟩
def aX4:=fun a b c d e f g i j k l m n o p q r s t u v=>aT5 a b c d e f g i j k l m n o p q r s t u|>.f v ⟨aO (fun _=>rfl) (fun _=>rfl) _ _ _,⟨aO (fun _=>rfl) (fun _=>rfl) _ _ _,⟨kk,⟨kk,⟨(aJ _ (fun _=>bB _) _),trivial⟩⟩⟩⟩⟩
def aT6(g:List LUnit)(d e:List (aC×Int))(f:List aC)(i:Bool)(p:List Con)(q:List aC)(r:List LFun)(s:Int)(j:List Node)(k l:List Int)(m:Int)(c:List LFun)(a:List ONode)(o:Int):=tT 4 (aEX g d e f i p q r s j k l m c a o)<|gd 5 109 (m<s) (gX LFun.av 6 r m<|fun b=>.y fun n:List Node=>.i [rn 4,.reg (rd 6 [.call (nI (a.length:Int)) (aG [oC 0 [(.ilst 5 (map LUnit.av g) false),(.map 1),(.map 2),(.gl 3 1 0 f.length false),(bV i)],(1,(.map (aF aB aP 0 d) d.length),true),(2,(.map (aF aB aP 0 e) e.length),true),oL 3 1 (map aB f),oL 4 2 (map LFun.av c),oC 5 [(iN j),(.gl 9 4 0 (a++map Node.o n).length false),(iI k),(iI l)],oC 7 [(aB b.name),(nI b.body)],oL 9 4 (map ONode.av (a++map Node.o n))] 10),.d,.d,.app (map LFun.av (c++ [(LFun.mk b.name (a.length:Int))])) (c++ [(LFun.mk b.name (a.length:Int))]).length,.d])] [hA (Spec PP (.enter 144 [(.ptr 5 0),(nI b.body)]) (aG [oC 0 [(.ilst 5 (map LUnit.av g) false),(.map 1),(.map 2),(.gl 3 1 0 f.length false),(bV i)],(1,(.map (aF aB aP 0 d) d.length),true),(2,(.map (aF aB aP 0 e) e.length),true),oL 3 1 (map aB f),oL 4 2 (map LFun.av c),oC 5 [(iN j),(.gl 6 4 0 a.length false),(iI k),(iI l)],oL 6 4 (map ONode.av a),oC 7 [(aB b.name),(nI b.body)]] 9) (.ret (nI (a.length:Int))) (aG [oC 0 [(.ilst 5 (map LUnit.av g) false),(.map 1),(.map 2),(.gl 3 1 0 f.length false),(bV i)],(1,(.map (aF aB aP 0 d) d.length),true),(2,(.map (aF aB aP 0 e) e.length),true),oL 3 1 (map aB f),oL 4 2 (map LFun.av c),oC 5 [(iN j),(.gl 9 4 0 (a++map Node.o n).length false),(iI k),(iI l)],oC 7 [(aB b.name),(nI b.body)],oL 9 4 (map ONode.av (a++map Node.o n))] 10)),hb LFun.av c,hA (length (c++ [(LFun.mk b.name (a.length:Int))]) ≤1000000),hc LFun.av c [(LFun.mk b.name (a.length:Int))],he LFun.av c [(LFun.mk b.name (a.length:Int))],hr (aB b.name),hr (aB b.name)]<|gw 3 122 (m+1)<|.W 3 11 [10,5,9] (aEX g d e f i p q r s j k l (m+1) (c++ [(LFun.mk b.name (a.length:Int))]) (a++map Node.o n) o))<|gw 5 123 (o+1)<|.W 3 7 [4,5,6] (aEU g d e f i p q (o+1) j k l c a)
def aX5:=fun a b c d e f g i j k l m n o p q r s t u v w x y=>aT6 a b c d e f g i j k l m n o p q|>.t t r u v s w x y ⟨aO (fun _=>rfl) (fun _=>rfl) _ _ _,⟨aO (fun _=>rfl) (fun _=>rfl) _ _ _,⟨kk,⟨kk,⟨(aJ _ (fun _=>bB _) _),trivial⟩⟩⟩⟩⟩
def aX6:=fun a b c d e f g i j k l m n o p q r s=>aT6 a b c d e f g i j k l m n o p q|>.f r s ⟨aO (fun _=>rfl) (fun _=>rfl) _ _ _,⟨aO (fun _=>rfl) (fun _=>rfl) _ _ _,⟨kk,⟨kk,⟨(aJ _ (fun _=>bB _) _),trivial⟩⟩⟩⟩⟩
def sZ(d:List LUnit):=tT 0 (aOw d)<|.o (gK 13 (.enter 63 [(.ilst 5 (map LUnit.av d) false)]) [oC 0 [.nils,.nils,(nI 0),.nils],oC 1 [(nI 0)]] 2 [((.iface 201 (.agg [(nI 2)])),false)] [oC 0 [.nils,.nils,(nI 0),.nils],oC 1 [(nI 0)]] 2<|.i [rn 44,.cnilI 0 0 4] []<|.i [.cnilI 0 1 1] []<|.i [.cnilI 0 3 2] []<|gE 0 3 (.tup [(.agg [(.ilst 4 (jN ([] :List Node)) true),(.ilst 1 (jI ([] :List Int)) true),(nI 0),(.ilst 2 (jC ([] :List Con)) true)]),(nI 2)]))<|.y fun a:List (aC×Int)=>.y fun b:List (aC×Int)=>.y fun c:List aC=>.y fun e:Bool=>gk 13 (.enter 63 [(.ilst 5 (map LUnit.av d) false)]) [oC 0 [.nils,.nils,(nI 0),.nils],oC 1 [(nI 0)]] 2 (.ptr 2 0) [oC 0 [.nils,.nils,(nI 0),.nils],oC 1 [(nI 0)],oC 2 [(.ilst 5 (map LUnit.av d) false),(.map 3),(.map 4),(.gl 5 1 0 c.length false),(bV e)],(3,(.map (aF aB aP 0 a) a.length),true),(4,(.map (aF aB aP 0 b) b.length),true),oL 5 1 (map aB c)] 6<|.o (gK 5 (.enter 77 [(.ptr 2 0)]) [oC 0 [.nils,.nils,(nI 0),.nils],oC 1 [(nI 0)],oC 2 [(.ilst 5 (map LUnit.av d) false),(.map 3),(.map 4),(.gl 5 1 0 c.length false),(bV e)],(3,(.map (aF aB aP 0 a) a.length),true),(4,(.map (aF aB aP 0 b) b.length),true),oL 5 1 (map aB c)] 6 [((.iface 201 (.agg [(nI 7)])),false)] [oC 0 [.nils,.nils,(nI 0),.nils],oC 1 [(nI 0)],oC 2 [(.ilst 5 (map LUnit.av d) false),(.map 3),(.map 4),(.gl 5 1 0 c.length false),(bV e)],(3,(.map (aF aB aP 0 a) a.length),true),(4,(.map (aF aB aP 0 b) b.length),true),oL 5 1 (map aB c)] 6<|.i [rn 44,.cnilI 0 0 4] []<|.i [.cnilI 0 1 1] []<|.i [.cnilI 0 3 2] []<|gE 0 7 (.tup [(.agg [(.ilst 4 (jN ([] :List Node)) true),(.ilst 1 (jI ([] :List Int)) true),(nI 0),(.ilst 2 (jC ([] :List Con)) true)]),(nI 7)]))<|.y fun f:List Con=>gk 5 (.enter 77 [(.ptr 2 0)]) [oC 0 [.nils,.nils,(nI 0),.nils],oC 1 [(nI 0)],oC 2 [(.ilst 5 (map LUnit.av d) false),(.map 3),(.map 4),(.gl 5 1 0 c.length false),(bV e)],(3,(.map (aF aB aP 0 a) a.length),true),(4,(.map (aF aB aP 0 b) b.length),true),oL 5 1 (map aB c)] 6 (iC f) [oC 0 [.nils,.nils,(nI 0),.nils],oC 1 [(nI 0)],oC 2 [(.ilst 5 (map LUnit.av d) false),(.map 3),(.map 4),(.gl 5 1 0 c.length false),(bV e)],(3,(.map (aF aB aP 0 a) a.length),true),(4,(.map (aF aB aP 0 b) b.length),true),oL 5 1 (map aB c)] 6<|.o (.y fun g:Int=>.i [rn 8,.ans (.look (some (vK (strOf [109,97,105,110]) a,(aP g))))] [.a (dU (strOf [109,97,105,110]) a=some g) (p':=eP (aB (strOf [109,97,105,110])) (aF aB aP 0 a) 0=some (some (vK (strOf [109,97,105,110]) a,(aP g)))) (pZ fY)]<|.b 13 29 e (.i [rn 65,.cnilI 0 0 4] []<|.i [.cnilI 0 1 1] []<|.i [.cnilI 0 3 2] []<|gE 0 7 (.tup [(.agg [(.ilst 4 (jN ([] :List Node)) true),(.ilst 1 (jI ([] :List Int)) true),(nI 0),(.ilst 2 (jC ([] :List Con)) true)]),(nI 7)]))<|.y fun j:List aC=>gk 5 (.enter 64 [(.ptr 2 0)]) [oC 0 [.nils,.nils,(nI 0),.nils],oC 1 [(nI 0)],oC 2 [(.ilst 5 (map LUnit.av d) false),(.map 3),(.map 4),(.gl 5 1 0 c.length false),(bV e)],(3,(.map (aF aB aP 0 a) a.length),true),(4,(.map (aF aB aP 0 b) b.length),true),oL 5 1 (map aB c)] 6 (iS j) [oC 0 [.nils,.nils,(nI 0),.nils],oC 1 [(nI 0)],oC 2 [(.ilst 5 (map LUnit.av d) false),(.map 3),(.map 4),(.gl 5 1 0 c.length false),(bV e)],(3,(.map (aF aB aP 0 a) a.length),true),(4,(.map (aF aB aP 0 b) b.length),true),oL 5 1 (map aB c)] 6<|gl 0 aB j<|gd 7 4 ((j.length:Int) >0) (.i [rn 51,.cnilI 0 0 4] []<|.i [.cnilI 0 1 1] []<|.i [.cnilI 0 3 2] []<|gE 0 7 (.tup [(.agg [(.ilst 4 (jN ([] :List Node)) true),(.ilst 1 (jI ([] :List Int)) true),(nI 0),(.ilst 2 (jC ([] :List Con)) true)]),(nI 7)]))<|.y fun k:Int=>gk 8 (.enter 78 [(.ptr 2 0)]) [oC 0 [.nils,.nils,(nI 0),.nils],oC 1 [(nI 0)],oC 2 [(.ilst 5 (map LUnit.av d) false),(.map 3),(.map 4),(.gl 5 1 0 c.length false),(bV e)],(3,(.map (aF aB aP 0 a) a.length),true),(4,(.map (aF aB aP 0 b) b.length),true),oL 5 1 (map aB c)] 6 (nI k) [oC 0 [.nils,.nils,(nI 0),.nils],oC 1 [(nI 0)],oC 2 [(.ilst 5 (map LUnit.av d) false),(.map 3),(.map 4),(.gl 5 1 0 c.length false),(bV e)],(3,(.map (aF aB aP 0 a) a.length),true),(4,(.map (aF aB aP 0 b) b.length),true),oL 5 1 (map aB c)] 6<|gd 2 43 (k>300) (.i [rn 60,.cnilI 0 0 4] []<|.i [.cnilI 0 1 1] []<|.i [.cnilI 0 3 2] []<|gE 0 7 (.tup [(.agg [(.ilst 4 (jN ([] :List Node)) true),(.ilst 1 (jI ([] :List Int)) true),(nI 0),(.ilst 2 (jC ([] :List Con)) true)]),(nI 3)]))<|gl 1 Con.av f<|gd 7 4 ((f.length:Int) >20) (.i [rn 51,.cnilI 0 0 4] []<|.i [.cnilI 0 1 1] []<|.i [.cnilI 0 3 2] []<|gE 0 7 (.tup [(.agg [(.ilst 4 (jN ([] :List Node)) true),(.ilst 1 (jI ([] :List Int)) true),(nI 0),(.ilst 2 (jC ([] :List Con)) true)]),(nI 3)]))<|.y fun i:List LFun=>.y fun l:List Node=>gk 9 (.enter 79 [(.ptr 2 0),(iC f),.nils]) [oC 0 [.nils,.nils,(nI 0),.nils],oC 1 [(nI 0)],oC 2 [(.ilst 5 (map LUnit.av d) false),(.map 3),(.map 4),(.gl 5 1 0 c.length false),(bV e)],(3,(.map (aF aB aP 0 a) a.length),true),(4,(.map (aF aB aP 0 b) b.length),true),oL 5 1 (map aB c)] 6 (.tup [(.ilst 2 (map LFun.av i) false),(iN l)]) [oC 0 [.nils,.nils,(nI 0),.nils],oC 1 [(nI 0)],oC 2 [(.ilst 5 (map LUnit.av d) false),(.map 3),(.map 4),(.gl 5 1 0 c.length false),(bV e)],(3,(.map (aF aB aP 0 a) a.length),true),(4,(.map (aF aB aP 0 b) b.length),true),oL 5 1 (map aB c)] 6<|gl 18 LFun.av i<|.i [rn 4,.cnil 0 1 1] []<|gu 0 6 (jI ([] :List Int))<|gv 0 0 1 (.gl 6 1 0 ([] :List Int).length false)<|.W 0 7 [0,1,6] (aIC d i (i.length:Int) l g f 0 ([] :List Int)))<|.i [rn 8,.ans (.look none)] [.a (dU (strOf [109,97,105,110]) a=none) (p':=eP (aB (strOf [109,97,105,110])) (aF aB aP 0 a) 0=some none) (pY fY)]<|.b 13 29 e (.i [rn 65,.cnilI 0 0 4] []<|.i [.cnilI 0 1 1] []<|.i [.cnilI 0 3 2] []<|gE 0 7 (.tup [(.agg [(.ilst 4 (jN ([] :List Node)) true),(.ilst 1 (jI ([] :List Int)) true),(nI 0),(.ilst 2 (jC ([] :List Con)) true)]),(nI 7)]))<|.i [rn 65,.cnilI 0 0 4] []<|.i [.cnilI 0 1 1] []<|.i [.cnilI 0 3 2] []<|gE 0 7 (.tup [(.agg [(.ilst 4 (jN ([] :List Node)) true),(.ilst 1 (jI ([] :List Int)) true),(nI 0),(.ilst 2 (jC ([] :List Con)) true)]),(nI 7)])
def aX7:=fun a b=>sZ a|>.1 b tv
def aX8:=fun a b c d e f g=>sZ a|>.2 b c d e f|>.1 g tv
def aX9:=fun a b c d e f g i j k l=>sZ a|>.2 b c d e i|>.2 f j|>.1 g k|>.t l tv
def aYa:=fun a b c d e f g i j k l m n o=>sZ a|>.2 b c d e j|>.2 f k|>.1 g l|>.f m i n|>.t o tv
def aYb:=fun a b c d e f g i j k l m n o p q r=>sZ a|>.2 b c d e k|>.2 f l|>.1 g m|>.f n i o|>.f p j q|>.t r tv
def aYc:=fun a b c d e f g i j k l m n o p q r s=>sZ a|>.2 b c d e k|>.2 f l|>.1 g m|>.f n i o|>.f p j q|>.f r|>.t s tv
def aYd:=fun a b c d e f g i j k l m n o p q r s t u v=>sZ a|>.2 b c d e m|>.2 f n|>.1 g o|>.f p i q|>.f r j s|>.f t|>.f u k l v ⟨kk,trivial⟩
def aYe:=fun a b c d e f g i j k=>sZ a|>.2 b c d e g|>.2 f i|>.2 j|>.t k tv
def aYf:=fun a b c d e f g i j k=>sZ a|>.2 b c d e g|>.2 f i|>.2 j|>.f k tv
def aT7(i:List LUnit)(c:List LFun)(d:Int)(e:List Node)(f:Int)(g:List Con)(a:Int)(b:List Int):=tT 0 (aIC i c d e f g a b)<|gd 5 62 (a<d) (gX LFun.av 6 c a<|fun j=>ga 10 aP b [j.body]<|gw 6 72 (a+1)<|.W 3 6 [0,1,5] (aIC i c d e f g (a+1) (b++ [j.body])))<|gy 3 0 1 2 1 aP b false<|gE 23 3 (.tup [(.agg [(iN e),(iI b),(nI f),(iC g)]),(nI 0)])
def aYg:=fun a b c d e f g i j k l m n o=>aT7 a b c d e f g i|>.t k j l m n o ⟨kk,trivial⟩
def aYh:=fun a b c d e f g i j=>aT7 a b c d e f g i|>.f j tv
section
variable (l :List LUnit) (mf mh:List (aC×Int)) (od:List aC) (tw:Bool) (cs:List Con) (ls:List aC) (hT:od.length≤1000) (hls:ls.length≤1000) (hcs:cs.length≤1000) (ht:TabI od tw mf mh)
include hT hls ht in
theorem aT8 (u:LUnit)(c50:List Node)(cl:List aC)(hcl:cl.length≤1000)(i:Int)(fs:List LFun)(L:List ONode) :∀ (t:List aC) (k:Nat) (acc:List Int),cl.drop k=t→acc.length=k →
  LeadsM PP 4 (aEV l mf mh od tw cs ls cl ((cl.length:Nat) :Int) c50 u.name u.cons u.funs u.needs u.nodes (k:Int) acc i fs L).as (aEW l mf mh od tw cs ls u.cons ((u.cons.length:Nat) :Int) c50 u.name u.funs u.needs u.nodes (acc++t.map (wA od ls)) 0 [] i fs L).as
 | [],k,acc,h,ha=>by
  have:=bD h;rw [map_nil,append_nil];exact aX2 l mf mh od tw cs ls cl _ c50 u.name u.cons u.funs u.needs u.nodes k acc i fs L sd
 | s ::t,k,acc,h,ha=>by
  obtain⟨q1,q2,q3⟩ :=bC h;have ih:=aT8 u c50 cl hcl i fs L t (k+1) (acc++ [wA od ls s]) q2 (by simp [ha]);rw [append_assoc]at ih;have r2:=hY s ls 0;have g:=ht.f s;have hng:=lD s od 0;by_cases hn:bL od s=true
  · rw [if_pos hn]at g;have ef:wA od ls s=dR s od 0:=by unfold wA;rw [if_neg (fun h=>by rw [hng.1 h]at hn;cases hn)]
    have h1:=aX0 l mf mh od tw cs ls cl ((cl.length:Nat) :Int) c50 u.name u.cons u.funs u.needs u.nodes k acc i fs L s _ sd sd sd g (by simp;omega) sd;rw [←ef]at h1;exact h1.trans ih
  · rw [if_neg hn]at g;rw [not_eq_true]at hn;have ef:wA od ls s= (od.length:Int) +dR s ls 0:=by unfold wA;rw [if_pos (hng.2 hn)]
    have hw:IntKind.i64.wrap (((length od:Nat) :Int) +dR s ls 0) = (od.length:Int) +dR s ls 0:=by apply wrap64<;>omega
    have h1:=aX1 l mf mh od tw cs ls cl ((cl.length:Nat) :Int) c50 u.name u.cons u.funs u.needs u.nodes k acc i fs L s _ sd sd sd g (aTH ls s (by omega)) (by simp;omega) sd;rw [hw,←ef]at h1;exact h1.trans ih
include hcs in
theorem aT9 (u:LUnit)(c50:List Node)(hu:u.cons.length≤1000)(F:List Int)(i:Int)(fs:List LFun)(L:List ONode) :∀ (t:List Con) (k:Nat) (acc:List Int),u.cons.drop k=t→acc.length=k →
  LeadsM PP 4 (aEW l mf mh od tw cs ls u.cons ((u.cons.length:Nat) :Int) c50 u.name u.funs u.needs u.nodes F (k:Int) acc i fs L).as (aEX l mf mh od tw cs ls u.funs ((u.funs.length:Nat) :Int) c50 F (acc++t.map (fun c=>fP c.name cs 0)) 0 fs L i).as
 | [],k,acc,h,ha=>by
  have:=bD h;rw [map_nil,append_nil];exact aX4 l mf mh od tw cs ls u.cons _ c50 u.name u.funs u.needs u.nodes F k acc i fs L sd
 | c::t,k,acc,h,ha=>by
  obtain⟨q1,q2,q3⟩ :=bC h;have ih:=aT9 u c50 hu F i fs L t (k+1) (acc++ [fP c.name cs 0]) q2 (by simp [ha]);rw [append_assoc]at ih;exact(aX3 l mf mh od tw cs ls u.cons _ c50 u.name u.funs u.needs u.nodes F k acc i fs L c _ sd sd sd (aTI cs c.name (by omega)) (by simp;omega) sd).trans ih
abbrev aZF (f:LFun) :AObj:=.cells (putCells .leaf 0 [aB f.name,.int .i64 f.body]) 2 [] false
abbrev LFs (fs:List LFun) :AObj:=.lst 2 (map LFun.av fs)
theorem aUa (u:LUnit)(hu:u.funs.length≤1000)(hx:∀x∈u.nodes,pC x.pats=true)(F C:List Int)(K:Nat)(i:Nat)(hi:i<1000) :∀ (t:List LFun) (k:Nat) (fs:List LFun) (L:List ONode) (ks:List Int) (r:List Node),u.funs.drop k=t→fs.length+t.length≤100000 →
  gV (cP (kO u) F C K) L.length (t.map LFun.body) =some (ks,r) →
  LeadsM PP 4 (aEX l mf mh od tw cs ls u.funs ((u.funs.length:Nat) :Int) u.nodes F C (k:Int) fs L (i:Int)).as (aEU l mf mh od tw cs ls ((i:Int) +1) u.nodes F C (fs++zipWith LFun.mk (t.map LFun.name) ks) (L++map Node.o r)).as
 | [],k,fs,L,ks,r,h,hf,hm=>by
  have:=bD h;cases hm;simp only [map_nil,List.zipWith_nil_left,append_nil];exact aX6 l mf mh od tw cs ls u.funs _ u.nodes F C k fs L i sd sd
 | f :: t,k,fs,L,ks,r,h,hf,hm=>by
  obtain⟨q1,q2,q3⟩ :=bC h;simp only [length_cons]at hf;simp only [List.map_cons,gV]at hm;split at hm
  · rename_i ns hns;split at hm
    · rename_i ks1 r1 hm1;cases hm;have hs:=mNd_spec (kO u) F C hx K L f.body ns hns;unfold MNS at hs
      have hs':=lA (m:=1) (ks:=[5,6]) (n2:=9) (n3:=10) (v':=.int .i64 ((length L:Nat) :Int)) (args':=[.ptr 5 0,.int .i64 f.body])
       (lc:=[(0,aNw l 1 2 3 od tw,false),(1,MTb mf,true),(2,MTb mh,true),(3,aLb od,true),(4,LFs fs,true),(5,MC u.nodes F C 6 (length L),false),(6,OL L,true),(7,aZF f,false)])
       (lc':=[(0,aNw l 1 2 3 od tw,false),(1,MTb mf,true),(2,MTb mh,true),(3,aLb od,true),(4,LFs fs,true),(5,MC u.nodes F C 9 (length (L++map Node.o ns)),false),(7,aZF f,false),(9,OL (L++map Node.o ns),true)])
       hs (by rfl) (by rfl) (by kernel_rfl) (by rfl) (by rfl) (by kernel_rfl) (by kernel_rfl) ⟨tU _,trivial⟩ (by kernel_rfl) ⟨tU _,trivial⟩
      have h1:=aX5 l mf mh od tw cs ls u.funs ((u.funs.length:Nat) :Int) u.nodes F C k fs L i f ns sd sd sd (mp (by kernel_rfl) hs') (by simp;omega) sd;have h3:=aUa u hu hx F C K i hi t (k+1) (fs++ [(⟨f.name,((L.length:Nat) :Int)⟩ :LFun)]) (L++map Node.o ns) ks1 r1 q2 (by simp;omega) (by rw [List.length_append,length_map];exact hm1);have e1:fs++zipWith LFun.mk (map LFun.name (f::t)) (((L.length:Nat) :Int) ::ks1) = (fs++ [(⟨f.name,((L.length:Nat) :Int)⟩ :LFun)]) ++zipWith LFun.mk (map LFun.name t) ks1:=by simp
      have e2:L++map Node.o (ns++r1) = (L++map Node.o ns) ++map Node.o r1:=by simp
      rw [e1,e2];exact h1.trans h3
    ·cases hm
  ·cases hm
include hT hls hcs ht in
theorem aUb (hl:l.length≤11)(hu:∀u∈l,FewU u∧∀x∈u.nodes,pC x.pats=true) :∀ (t:List LUnit) (i:Nat) (a0:List Node) (a1 a2:List Int) (fs:List LFun) (ns:List Node) (fs':List LFun) (ns':List Node),l.drop i=t→fs.length≤30*i→aEG od ls cs fs ns t=some (fs',ns') →
  Ends PP 4 (aEU l mf mh od tw cs ls (i:Int) a0 a1 a2 fs (map Node.o ns)).as (.ret (.tup [.ilst 2 (map LFun.av fs') false,.ilst 4 (map Node.av ns') false])) (aG (THp l mf mh od tw) 4)
 | [],i,a0,a1,a2,fs,ns,fs',ns',h,ha,hm=>by
  have:=bD h;cases hm;exact aXZ l mf mh od tw cs ls i a0 a1 a2 fs (map Node.o ns) ns sd rfl (by simp)
 | u ::t,i,a0,a1,a2,fs,ns,fs',ns',h,ha,hm=>by
  obtain⟨q1,q2,q3⟩ :=bC h;have hf:= (hu u (mem_of_getElem? q1)).1;have hx:= (hu u (mem_of_getElem? q1)).2;have f1:=hf.f;have f2:=hf.n;have f3:u.cons.length≤25:=by have:=hf.p;simp only [aN,and_eq_true,decide_eq_true_eq]at this;exact this.1.1.2
  have hnm: (aE u).length=u.funs.length:=by simp [aE]
  rw [aEG]at hm;split at hm
  · rename_i ks r hk;have hkl:=aBT hk;have hc:=aLa (aE u) u.needs (by omega) (by omega)
    have hc':=lA (m:=1) (ks:=[8]) (n2:=9) (n3:=9) (v':=.ilst 1 (map aB (aE u++u.needs)) false) (args':=[.slice 8 0 2 2 1 true])
     (lc:=[(0,aNw l 1 2 3 od tw,false),(1,MTb mf,true),(2,MTb mh,true),(3,aLb od,true),(4,LFs fs,true),(5,.cells (putCells .leaf 0 [.ilst 4 (map Node.av u.nodes) false,.gl 6 4 0 (length (map Node.o ns)) false,.nils,.nils]) 4 [] false,false),(6,OL (map Node.o ns),true),(7,aGn u,false),(8,aIy (aE u) u.needs,false)])
     (lc':=[(0,aNw l 1 2 3 od tw,false),(1,MTb mf,true),(2,MTb mh,true),(3,aLb od,true),(4,LFs fs,true),(5,.cells (putCells .leaf 0 [.ilst 4 (map Node.av u.nodes) false,.gl 6 4 0 (length (map Node.o ns)) false,.nils,.nils]) 4 [] false,false),(6,OL (map Node.o ns),true),(7,aGn u,false),(8,aIy (aE u) u.needs,false)])
     hc (by rfl) (by kernel_rfl) (by kernel_rfl) (by rfl) (by rfl) (by kernel_rfl) (by kernel_rfl) trivial (by kernel_rfl) trivial
    have h0:=aXY l mf mh od tw cs ls i a0 a1 a2 fs (map Node.o ns) u (aE u) sd sd sd (aK7 u (by omega)) (mp (by kernel_rfl) hc');have h1:=aT8 l mf mh od tw cs ls hT hls ht u u.nodes (aE u++u.needs) (by simp;omega) i fs (map Node.o ns) (aE u++u.needs) 0 [] rfl rfl;have h2:=aT9 l mf mh od tw cs ls hcs u u.nodes (by omega) (qM od ls u) i fs (map Node.o ns) u.cons 0 [] rfl rfl;have h3:=aUa l mf mh od tw cs ls u (by omega) hx (qM od ls u) (sW cs u) u.nodes.length i (by omega) u.funs 0 fs (map Node.o ns) ks r rfl (by omega) (by rw [length_map];exact hk);rw [←List.map_append]at h3;have hb: (bO u).length=u.funs.length:=by simp [bO]
    exact h0.ends (h1.ends (h2.ends (h3.ends (aUb hl hu t (i+1) _ _ _ _ (ns++r) fs' ns' q2 (by simp;omega) hm))))
  ·cases hm
include hT hls hcs ht in
theorem aUc (hl:l.length≤11)(hu:∀u∈l,FewU u∧∀x∈u.nodes,pC x.pats=true){fs:List LFun}{ns:List Node}(h:aEG od ls cs [] [] l=some (fs,ns)) :
  Spec PP (.enter 79 [.ptr 0 0,.ilst 2 (map Con.av cs) false,.ilst 1 (map aB ls) false]) (aG (THp l mf mh od tw) 4) (.ret (.tup [.ilst 2 (map LFun.av fs) false,.ilst 4 (map Node.av ns) false])) (aG (THp l mf mh od tw) 4) :=by
 suffices hh:Ends PP 4 (aT3 l mf mh od tw cs ls).as (.ret (.tup [.ilst 2 (map LFun.av fs) false,.ilst 4 (map Node.av ns) false])) (aG (THp l mf mh od tw) 4)from⟨(aT3 l mf mh od tw cs ls).as.fr,by kernel_rfl,mp (by kernel_rfl) hh⟩
 exact(aXX l mf mh od tw cs ls).ends (aUb l mf mh od tw cs ls hT hls hcs ht hl hu l 0 [] [] [] [] [] fs ns rfl (by simp) h)
end
theorem aQs {f:Nat}{args args':List AV}{h h':Hp}{res:Res}(hs:Spec PP (.enter f args) h res h')(hl:args'.length=args.length)(ha:∀ (E:Emb) (i:Nat) (a a':AV) (c:Value),args[i]?=some a→args'[i]?=some a'→VR E a' c→VR E a c) :Spec PP (.enter f args') h res h':=by
 obtain⟨g,hg,he⟩ :=hs;simp only [dP,cE]at hg;split at hg
 · rename_i fn hfn;split at hg
   · rename_i c hc;cases hg;refine⟨_,by simp only [dP,cE,hfn,hc];rfl,?_⟩;intro hm E fr ccs w hfr fs r cl base;refine he hm E fr ccs w ?_ fs r cl base;refine⟨hfr.fn,⟨by have:=hfr.tm.1;rw [hl]at this;exact this,fun t a e=>?_⟩,hfr.todo,hfr.defers,hfr.mode,hfr.kind,hfr.round⟩;have ht:t<args.length∧args[t]?=some a:=by
      have e': (cT .leaf 0 args).at t=some a:=e;unfold cT at e';rw [bW]at e';split at e'
      ·rename_i hlt;exact⟨hlt,e'⟩
      ·cases e'
     have ht':args'[t]?=some args'[t] :=List.getElem?_eq_getElem (by omega)
     obtain⟨cv,g1,g2⟩ :=hfr.tm.2 t args'[t] (by
      show(cT .leaf 0 args').at t=_;unfold cT;rw [bW,if_pos (by omega)];exact ht')
     exact⟨cv,g1,ha E t _ _ cv ht.2 ht' g2⟩
   ·cases hg
 ·cases hg
theorem qO (s:aC) :∀ (l:List LUnit) (i:Nat),aEs s l i<0↔bL (bI l) s=false
 | [],i=>by simp [aEs,bL,bI]
 | u ::l,i=>by
  rw [aEs,qJ,nV];by_cases e:bL (aE u) s=true
  · rw [if_pos e,e,Bool.true_or];constructor
    ·intro h;omega
    ·intro h;cases h
  · rw [if_neg e,qO s l (i+1)];rw [not_eq_true]at e;rw [e,Bool.false_or]
abbrev aGx :AObj:=.cells (putCells .leaf 0 [.int .i64 0]) 1 [] false
abbrev aNz :AObj:=.cells (putCells .leaf 0 [.nils,.nils,.int .i64 0,.nils]) 4 [] false
abbrev aGy (l:List LUnit)(mf mh:List (aC×Int))(od:List aC)(tw:Bool) :List (Nat×AObj×Bool) :=[(0,aNz,false),(1,aGx,false),(2,aNw l 3 4 5 od tw,false),(3,MTb mf,true),(4,MTb mh,true),(5,aLb od,true)]
section
variable (l :List LUnit) (mf mh:List (aC×Int)) (od:List aC) (tw:Bool)
theorem aUd {f:Nat}{args args':List AV}{res:Res}(hs:Spec PP (.enter f args) (aG (THp l mf mh od tw) 4) res (aG (THp l mf mh od tw) 4))(hargs:AV.renL (eF 0 4 6 [2,3,4,5]) args=args')(hv:aAK res) :
  Spec PP (.enter f args') (aG (aGy l mf mh od tw) 6) res (aG (aGy l mf mh od tw) 6) :=
 aDH (ks:=[2,3,4,5]) (n2:=6) (lc:=aGy l mf mh od tw) (lc':=aGy l mf mh od tw) hs hargs hv (by kernel_rfl) (by kernel_rfl) ⟨wH _,wH _,aC4 _,trivial⟩ (by kernel_rfl) ⟨wH _,wH _,aC4 _,trivial⟩
theorem bBh (hs:aAI PP (.enter 63 [.ilst 5 (map LUnit.av l) false]) (aG [] 0) (.ret (.ptr 0 0)) (aG (THp l mf mh od tw) 4)) :
  Spec PP (.enter 63 [.ilst 5 (map LUnit.av l) false]) (aG [(0,aNz,false),(1,aGx,false)] 2) (.ret (.ptr 2 0)) (aG (aGy l mf mh od tw) 6) :=
 lA (m:=0) (ks:=[]) (n2:=2) (n3:=6) (v':=.ptr 2 0) (args':=[.ilst 5 (map LUnit.av l) false]) (lc:=[(0,aNz,false),(1,aGx,false)]) (lc':=aGy l mf mh od tw)
  hs (by rfl) (by rfl) (by kernel_rfl) (by rfl) (by rfl) (by kernel_rfl) (by kernel_rfl) trivial (by kernel_rfl) ⟨wH _,wH _,aC4 _,trivial⟩
end
section
variable (l :List LUnit) (mf mh:List (aC×Int)) (od:List aC) (tw:Bool)
end
theorem aZG (l:List LUnit)(fs:List LFun)(ns:List Node)(mn:Int)(c:List Con)(hf:fs.length≤1000) :∀ (t:List LFun) (i:Nat) (acc:List Int),fs.drop i=t→acc.length=i →
  Ends PP 0 (aIC l fs ((fs.length:Nat) :Int) ns mn c (i:Int) acc).as (.ret (.tup [Prog.av ⟨ns,acc++t.map LFun.body,mn,c⟩,.int .i64 0])) (aG [] 0)
 | [],i,acc,h,ha=>by
  have:=bD h;rw [map_nil,append_nil];exact aYh l fs _ ns mn c i acc sd
 | f::t,i,acc,h,ha=>by
  obtain⟨q1,q2,q3⟩ :=bC h;have ih:=aZG l fs ns mn c hf t (i+1) (acc++ [f.body]) q2 (by simp [ha]);rw [append_assoc]at ih;exact(aYg l fs _ ns mn c i acc f sd sd sd (by simp;omega) sd).ends ih
theorem aNA (l:List LUnit)(hl:l.length≤11)(hu:∀u∈l,FewU u∧NumU u) :Pure PP 24 [.ilst 5 (map LUnit.av l) false] (.tup [Prog.av (wC l).1,.int .i64 (wC l).2]) :=by
 have hf:=fun u h=> (hu u h).1;have hal:=aEx l hf;have err:∀e:Int,Ends PP 0 (aOw l).as (.ret (.tup [aH2,.int .i64 e])) (aG [] 0) →Pure PP 24 [.ilst 5 (map LUnit.av l) false] (.tup [Prog.av yT,.int .i64 e]) :=fun e h=>
  aP8 (eM (s:=aOw l) (by kernel_rfl) (by kernel_rfl) (by simp [keylessL,keyless]) (by simp [keylessL,keyless]) h) (fun E cv hv=>aVU hv)
 unfold wC;by_cases h0:iL l=true
 · rw [if_pos h0];obtain⟨hl10,hg⟩ :=mS hf h0;obtain⟨mf,mh,ht,hs⟩ :=aTX l hu h0;have s0:=bBh l mf mh _ _ hs;have hc25:∀u∈l,u.cons.length≤25:=fun u h=> (hg u h).small.2;have s1:=aT2 l mf mh (bI l) (!cN (bI l)) hl hc25;have s2:=aTZ l mf mh (bI l) (!cN (bI l)) ht hl hf;have s3:=aT0 l mf mh (bI l) (!cN (bI l)) hl (fun u h=> (hg u h).small.1);have s2':=aUd l mf mh _ _ s2 (args':=[.ptr 2 0]) (by rfl) (by simp [aAK,keyless]);have s3':=aUd l mf mh _ _ s3 (args':=[.ptr 2 0]) (by rfl) (by simp [aAK,keyless]);have hm:=ht.f gW;cases hc:aGl l with
   | none=>
    rw [hc]at s1;exact err 7 (aX8 l mf mh (bI l) _ s0 (aUd l mf mh _ _ s1 (args':=[.ptr 2 0]) (by rfl) (by simp [aAK,keyless,keylessL])))
   | some c =>
    rw [hc]at s1;have s1':=aUd l mf mh _ _ s1 (args':=[.ptr 2 0]) (by rfl) (by simp [aAK,keyless]);have hcl:=aGr hf hc;dsimp only;cases h5:bL (bI l) gW with
    | false=>
     rw [h5,if_neg (by simp)]at hm;rw [if_neg (fun h=>h.2.2 ((qO gW l 0).2 h5))];cases h3:cN (bI l)with
     | false=>
      rw [h3]at s0 s1';exact err 7 (aYe l mf mh (bI l) true c s0 s1' hm rfl)
     | true=>
      rw [h3]at s0 s1';exact err 7 (aYf l mf mh (bI l) false c s0 s1' hm rfl)
    | true =>
     rw [h5,if_pos rfl]at hm;have h5':¬aEs gW l 0<0:=fun h=>by rw [(qO gW l 0).1 h]at h5;cases h5
     cases h3:cN (bI l)with
     | false=>
      rw [h3]at s0 s1';rw [if_neg (fun h=>by cases h.1)];exact err 7 (aX9 l mf mh (bI l) true c _ s0 s1' hm rfl)
     | true =>
      by_cases h4:aA4 l= []
      · rw [if_pos ⟨rfl,h4,h5'⟩];have hp:=aZr (ls:=[]) (cs:=c) hl10 hg (by simp);have s4:=aUc l mf mh (bI l) (!cN (bI l)) c [] (by omega) (by simp) (by simp at hcl;omega) ht hl (fun u h=> ⟨hf u h,aWQ (hg u h)⟩) hp.eq;have s4a:=aUd l mf mh _ _ s4 (args':=[.ptr 2 0,.ilst 2 (map Con.av c) false,.ilst 1 (map aB []) false]) (by kernel_rfl) (by simp [aAK,keyless,keylessL])
        have s4':=aQs s4a (args':=[.ptr 2 0,.ilst 2 (map Con.av c) false,.nils]) rfl (fun E i a a' cv e1 e2 hv=>by
         match i with
         |0=>simp only [List.getElem?_cons_zero,Option.some.injEq]at e1 e2;rw [←e1,e2];exact hv
         |1=>simp only [List.getElem?_cons_succ,List.getElem?_cons_zero,Option.some.injEq]at e1 e2;rw [←e1,e2];exact hv
         | 2=>
          simp only [List.getElem?_cons_succ,List.getElem?_cons_zero,Option.some.injEq]at e1 e2;rw [←e1];rw [←e2]at hv;exact aA1 _ hv
         |i+3=>simp at e1)
        rw [h3]at s0 s1' s2' s3' s4';have e4:aA3 (bI l) [] l= [] :=h4;rw [e4]at s2';by_cases h6:aT l≤300
        · by_cases h7:c.length≤20
          · rw [if_pos ⟨h6,h7⟩];have hff:=hp.funs
            exact eM (s:=aOw l) (by kernel_rfl) (by kernel_rfl) (by simp [keylessL,keyless]) (by simp [keylessL,keyless,Prog.av])
             ((aYd l mf mh (bI l) false c _ [] _ (zZ [] c l).1 (zZ [] c l).2 s0 s1' hm rfl s2' rfl s3' (by simp;omega) (by simp;omega) s4').ends
              (aZG l (zZ [] c l).1 (zZ [] c l).2 _ c (by omega) (zZ [] c l).1 0 [] rfl rfl))
          · rw [if_neg (fun h=>h7 h.2)];exact err 3 (aYc l mf mh (bI l) false c _ [] _ s0 s1' hm rfl s2' rfl s3' (by simp;omega) (by simp;omega))
        · rw [if_neg (fun h=>h6 h.1)];exact err 3 (aYb l mf mh (bI l) false c _ [] _ s0 s1' hm rfl s2' rfl s3' (by simp;omega))
      · rw [if_neg (fun h=>h4 h.2.1)];have:0< (aA4 l).length:=List.length_pos_iff.2 h4;rw [h3]at s0 s1' s2';exact err 7 (aYa l mf mh (bI l) false c _ (aA4 l) s0 s1' hm rfl s2' (decide_eq_true (by omega)))
 · rw [if_neg h0];rw [not_eq_true]at h0;exact err 2 (aX7 l (bAw l hu h0 _))
theorem aLd {out o:List Con}{c:Con}(h:aGk out c=some o)(hd: (out.map Con.name).Nodup) : (o.map Con.name).Nodup∧ (∀d∈o,d∈out∨d=c) ∧ (∀d∈out,d∈o) ∧c∈o:=by
 unfold aGk at h;split at h
 · rename_i hf;cases h
   have hno:c.name∉out.map Con.name:=fun hm=>by
    obtain⟨d,hd1,hd2⟩ :=List.mem_map.1 hm;have:=List.find?_eq_none.1 hf d hd1;simp [hd2]at this
   refine⟨?_,fun d h=>by simpa using h,fun d h=>by simp [h],by simp⟩;rw [List.map_append,nodup_append];refine⟨hd,by simp,fun a ha b hb e=>?_⟩;simp at hb;exact hno (by rw [←hb,←e];exact ha)
 · rename_i d hf;split at h
   · rename_i ha;cases h;have h1:=List.mem_of_find?_eq_some hf;have h2:=List.find?_some hf;have h3:d.name=c.name:=by simpa using h2
     have e:c=d:=by
      obtain⟨a,b⟩ :=c;obtain⟨a',b'⟩ :=d;simp only at ha h3;rw [ha,h3]
     exact⟨hd,fun d h=>.inl h,fun d h=>h,by rw [e];exact h1⟩
   ·cases h
theorem aCv :∀ {t out o:List Con},aA5 out t=some o→ (out.map Con.name).Nodup→ (o.map Con.name).Nodup∧ (∀d∈o,d∈out∨d∈t) ∧ (∀d∈out,d∈o) ∧∀c∈t,c∈o
 | [],out,o,h,hd=>by cases h;exact⟨hd,fun d h=>.inl h,fun d h=>h,fun c h=>by cases h⟩
 | c :: t,out,o,h,hd=>by
  rw [aA5]at h;split at h
  · rename_i o1 h1;obtain⟨a1,a2,a3,a4⟩ :=aLd h1 hd;obtain⟨b1,b2,b3,b4⟩ :=aCv h a1;refine⟨b1,fun d hd=>?_,fun d hd=>b3 d (a3 d hd),fun d hd=>?_⟩
    · rcases b2 d hd with g|g
      · rcases a2 d g with g|g
        ·exact .inl g
        ·exact .inr (by rw [g];exact mem_cons_self ..)
      ·exact .inr (mem_cons_of_mem _ g)
    · rcases List.mem_cons.1 hd with g|g
      ·rw [g];exact b3 c a4
      ·exact b4 d g
  ·cases h
theorem wI :∀ {l:List LUnit} {out o:List Con},vY out l=some o→ (out.map Con.name).Nodup→ (o.map Con.name).Nodup∧ (∀d∈o,d∈out∨∃u∈l,d∈u.cons) ∧ (∀d∈out,d∈o) ∧∀u∈l,∀c∈u.cons,c∈o
 | [],out,o,h,hd=>by cases h;exact⟨hd,fun d h=>.inl h,fun d h=>h,fun c h=>by cases h⟩
 | u :: l,out,o,h,hd=>by
  rw [vY]at h;split at h
  · rename_i o1 h1;obtain⟨a1,a2,a3,a4⟩ :=aCv h1 hd;obtain⟨b1,b2,b3,b4⟩ :=wI h a1;refine⟨b1,fun d hd=>?_,fun d hd=>b3 d (a3 d hd),fun v hv=>?_⟩
    · rcases b2 d hd with g| ⟨v,g1,g2⟩
      · rcases a2 d g with g|g
        ·exact .inl g
        ·exact .inr ⟨u,mem_cons_self ..,g⟩
      ·exact .inr ⟨v,mem_cons_of_mem _ g1,g2⟩
    · rcases List.mem_cons.1 hv with g|g
      ·rw [g];exact fun c hc=>b3 c (a4 c hc)
      ·exact b4 v g
  ·cases h
theorem aCw (own:List aC) :∀ (t out:List aC),(∀s,bL out s=true→bL (vX own out t) s=true) ∧∀s∈t,bL own s=true∨bL (vX own out t) s=true
 | [],out=> ⟨fun s h=>h,fun s h=>by cases h⟩
 | x :: t,out=>by
  rw [vX];obtain⟨h1,h2⟩ :=aCw own t (if bL own x=true∨bL out x=true then out else out++ [x])
  have h0:∀s,bL out s=true→bL (if bL own x=true∨bL out x=true then out else out++ [x]) s=true:=fun s h=>by
   split
   ·exact h
   ·rw [nV,h];rfl
  refine⟨fun s h=>h1 s (h0 s h),fun s hs=>?_⟩;rcases List.mem_cons.1 hs with rfl|hs
  · by_cases ho:bL own s=true
    ·exact .inl ho
    · refine .inr (h1 s ?_);split
      · rename_i g;exact g.resolve_left ho
      ·rw [nV];simp [bL]
  ·exact h2 s hs
theorem wJ (own:List aC) :∀ (l:List LUnit) (out:List aC),(∀s,bL out s=true→bL (aA3 own out l) s=true) ∧∀u∈l,∀s∈u.needs,bL own s=true∨bL (aA3 own out l) s=true
 | [],out=> ⟨fun s h=>h,fun u h=>by cases h⟩
 | u::l,out=>by
  rw [aA3];obtain⟨h1,h2⟩ :=wJ own l (vX own out u.needs);obtain⟨g1,g2⟩ :=aCw own u.needs out;refine⟨fun s h=>h1 s (g1 s h),fun v hv s hs=>?_⟩;rcases List.mem_cons.1 hv with rfl|hv
  ·exact(g2 s hs).imp_right (h1 s)
  ·exact h2 v hv s hs
theorem aLe {l:List LUnit}{u:LUnit}(hu:u∈l){s:aC}(hs:s∈aE u) :s∈bI l:=List.mem_flatten.2 ⟨aE u,List.mem_map.2 ⟨u,hu,rfl⟩,hs⟩
theorem aNB {l:List LUnit}{u:LUnit}(hu:u∈l) :aOr (bI l) (aA4 l) u:=fun s hs=>by
 unfold wA;split
 · rename_i h;have h1:bL (bI l) s=false:= (lD s _ 0).1 h;have h2:bL (aA4 l) s=true:=by
    rcases List.mem_append.1 hs with g|g
    ·rw [hasS_mem.2 (aLe hu g)]at h1;cases h1
    · rcases(wJ (bI l) l []).2 u hu s g with g|g
      ·rw [g]at h1;cases h1
      ·exact g
   have:¬dR s (aA4 l) 0<0:=fun g=>by rw [(lD s _ 0).1 g]at h2;cases h2
   omega
 ·omega
def fH (l:List LUnit)(cs:List Con) :Prog:= ⟨lU (bI l) [] cs 0 l,iY 0 l,dR gW (bI l) 0,cs⟩
structure LinkOk (l:List LUnit) (cs:List Con) :Prop where
 hl:l.length≤10
 good:∀u∈l,GoodU u
 cons:aGl l=some cs
 differ:cN (bI l) =true
 lost:aA4 l= []
 main:¬aEs gW l 0<0
 size:aT l≤300
 c20:cs.length≤20
theorem aYi {ls:List aC}{cs:List Con}{l:List LUnit}(hl:l.length≤10)(hg:∀u∈l,GoodU u)(hls:ls.length≤1000)(hn:∀u∈l,aOr (bI l) ls u) :zZ ls cs l= (aEK 0 l,lU (bI l) ls cs 0 l) :=by
 have h1:=aEx l (fun u h=> (hg u h).few);have h2:=aEJ hg;unfold zZ;rw [aOs (by omega) hls l [] [] (fun u hu=> ⟨hg u hu,hn u hu⟩) (by simp;omega)];rfl
theorem aLf {l:List LUnit}(hu:∀u∈l,FewU u) : (wC l).1=yT∧ (wC l).2≠0∨∃cs,LinkOk l cs∧wC l= (fH l cs,0) :=by
 unfold wC;split
 · rename_i h0;obtain⟨hl10,hg⟩ :=mS hu h0;split
   ·exact .inl ⟨rfl,by simp⟩
   · rename_i c hc;split
     · rename_i h1;split
       · rename_i h6;refine .inr ⟨c,⟨hl10,hg,hc,h1.1,h1.2.1,h1.2.2,h6.1,h6.2⟩,?_⟩;have:=aYi (cs:=c) hl10 hg (ls:=[]) (by simp) (fun u hu=>by have:=aNB hu;rw [h1.2.1]at this;exact this);rw [this];simp only [aA9];rfl
       ·exact .inl ⟨rfl,by simp⟩
     ·exact .inl ⟨rfl,by simp⟩
 ·exact .inl ⟨rfl,by simp⟩
theorem aOx :∀ (l:List LUnit) (i:Nat),i<aT l→∃l1 u l2 j,l=l1++u::l2∧j<u.nodes.length∧i=aT l1+j
 | [],i,h=>by simp [aT]at h
 | u ::l,i,h=>by
  rw [aT]at h;by_cases hi:i<u.nodes.length
  ·exact⟨[],u,l,i,rfl,hi,by simp [aT]⟩
  · obtain⟨l1,v,l2,j,h1,h2,h3⟩ :=aOx l (i-u.nodes.length) (by omega);exact⟨u::l1,v,l2,j,by rw [h1];rfl,h2,by rw [aT];omega⟩
theorem aNC {u:LUnit}(h:GoodU u)(off:Nat) :∀f∈aIr off u,(off:Int) ≤f∧f<off+u.nodes.length:=fun f hf=>by
 have hw:=mT h;obtain⟨k,hk,rfl⟩ :=List.mem_map.1 hf;have hr:=hw.fine.funs k hk;obtain⟨j,hj⟩ :=hw.mem hr.1 hr.2;have h1:= (List.getElem?_eq_some_iff.1 hj).1;rw [hw.len]at h1
 change j<u.nodes.length at h1
 rw [hw.toL off j k hj];omega
theorem aCx :∀ (l:List LUnit) (off:Nat),(∀u∈l,GoodU u) →∀f∈iY off l,(off:Int) ≤f∧f<off+aT l
 | [],off,_,f,hf=>by cases hf
 | u ::l,off,hg,f,hf=>by
  rw [iY]at hf;rw [aT];rcases List.mem_append.1 hf with h|h
  · have:=aNC (hg u (mem_cons_self ..)) off f h;omega
  · have:=aCx l _ (fun x hx=>hg x (mem_cons_of_mem _ hx)) f h;omega
theorem aYj {u:LUnit}(h:GoodU u) : (aE u).length≤u.nodes.length:=by
 unfold aE;rw [length_map];rcases h.cases with⟨h0,_⟩ | ⟨_,hr⟩
 ·rw [h0];simp
 · have:= (Fs.of (jU h.few) hr).head.2.2.1;simpa [fG,bO]using this
theorem aC6 :∀ (l:List LUnit),(∀u∈l,GoodU u) → (bI l).length≤aT l
 | [],_=>by simp [bI]
 | u::l,hg=>by
  have:=aYj (hg u (mem_cons_self ..));have:=aC6 l (fun x hx=>hg x (mem_cons_of_mem _ hx));rw [qJ,aT,List.length_append];omega
theorem aQt {u:LUnit}(h:GoodU u){c:Con}(hc:c∈u.cons) :fC c=true∧c.name.length≤40:=by
 have hp:=h.few.p;simp only [aN,and_eq_true,fN]at hp;refine⟨?_,by simpa using List.all_eq_true.1 hp.1.2 c hc⟩;have hf:=h.formed;unfold iK at hf;simp only [and_eq_true]at hf;have h2:=hf.2;split at h2
 · simp only [and_eq_true]at h2;exact(Fs.of (zW h.few) h2.2).head.2.2.2.2.2.2 c hc
 ·exact(Fs.of (jU h.few) h2).head.2.2.2.2.2.2 c hc
section
variable {l :List LUnit} {cs:List Con}
theorem LinkOk.laid (h:LinkOk l cs){l1 l2:List LUnit}{u:LUnit}(hl:l=l1++u::l2) :Laid (fH l cs) (aT l1) (dF u) (mfU (bI l) [] u) (mcU cs u) (toL (dF u) (aT l1)) :=
 aEM h.good rfl hl
theorem aOy {l:List LUnit}{cs:List Con}(hc:aGl l=some cs){u:LUnit}(hu:u∈l){i:Nat}{d:Con}(hd:u.cons[i]?=some d) :0≤kN (mcU cs u) (i:Int) ∧cs[(kN (mcU cs u) (i:Int)).toNat]?=some d:=by
 have hf:=wI hc (by simp);have hm:=hf.2.2.2 u hu d (mem_of_getElem? hd);obtain⟨j,hj⟩ :=List.mem_iff_getElem?.1 hm;have e:=aIj cs u.cons 0 [] i d hd;rw [show(0:Int) + (i:Int) =i by omega,aTl hf.1 hj]at e;unfold mcU;rw [e];exact⟨by omega,by rw [toNat_natCast];exact hj⟩
theorem aLg {T ls:List aC}{s:aC}(h:bL T s=true) :0≤wA T ls s∧wA T ls s<T.length∧T[(wA T ls s).toNat]?=some s:=by
 unfold wA;split
 · rename_i g;rw [(lD s T 0).1 g]at h;cases h
 · rename_i g;rcases hY s T 0 with r| ⟨_,r1,r2⟩
   ·omega
   ·exact⟨by omega,by omega,by simpa using r2⟩
theorem LinkOk.own (h:LinkOk l cs){u:LUnit}(hu:u∈l){s:aC}(hs:s∈aE u++u.needs) :bL (bI l) s=true:=by
 rcases List.mem_append.1 hs with g|g
 ·exact hasS_mem.2 (aLe hu g)
 · rcases(wJ (bI l) l []).2 u hu s g with g|g
   ·exact g
   · change bL (aA4 l) s=true at g
     rw [h.lost]at g;cases g
theorem LinkOk.maps (h:LinkOk l cs){u:LUnit}(hu:u∈l) :MapsOk (qN u) (fH l cs) (mfU (bI l) [] u) (mcU cs u) :=by
 refine⟨fun i h0 h1=>?_,fun i d hd=>aOy h.cons hu hd⟩;have hw: (qN u).funs.length=u.funs.length+u.needs.length:=by simp [qN]
 rw [hw]at h1;obtain⟨s,hs,e⟩ :=aNj (T:=bI l) (ls:=[]) (u:=u) h0 (by omega);have:=aLg (ls:=[]) (h.own hu (mem_of_getElem? hs));rw [e];have e2: (fH l cs).funs.length= (bI l).length:=mZ l 0;omega
theorem LinkOk.len (h:LinkOk l cs) : (fH l cs).nodes.length=aT l:=aBU l 0 h.good
theorem LinkOk.walk (h:LinkOk l cs) :dM (fH l cs) = (range (aT l)).map fun(i:Nat) => (i:Int) :=by
 have e:=aEN (T:=bI l) (ls:=[]) (cs:=cs) (a:=fH l cs) h.good rfl (N:= (fH l cs).nodes.length) (by rw [h.len];exact Nat.le_refl _) l [] rfl;unfold dM
 change ((iY (aT []) l).map _).flatten=_
 rw [e];refine List.map_congr_left (fun i _=>?_);simp [aT]
theorem LinkOk.fs (h:LinkOk l cs) :Fs (fH l cs) :=by
 have hf:=wI h.cons (by simp);have hm:0≤dR gW (bI l) 0∧dR gW (bI l) 0< (bI l).length:=by
  have g:¬dR gW (bI l) 0<0:=fun g=>h.main ((qO gW l 0).2 ((lD gW (bI l) 0).1 g));rcases hY gW (bI l) 0 with r|r<;>omega
 have hfl: (fH l cs).funs.length= (bI l).length:=mZ l 0;refine aIk (N:=aT l) h.len h.size (by omega) (by rw [hfl];exact aC6 l h.good) hm.1 (by rw [hfl];exact hm.2) h.c20 (fun c hc=>?_) hf.1 (fun i x hx=>?_) (fun f hf=>?_) h.walk
 · rcases hf.2.1 c hc with g| ⟨u,g1,g2⟩
   ·cases g
   ·exact aQt (h.good u g1) g2
 · have hi:= (List.getElem?_eq_some_iff.1 hx).1;rw [h.len]at hi;obtain⟨l1,u,l2,j,h1,h2,h3⟩ :=aOx l i hi;have hu:u∈l:=by rw [h1];simp
   have hg:=h.good u hu;have hw:=mT hg;have hL:=h.laid h1;have hsz:aT l=aT l1+ (u.nodes.length+aT l2) :=by rw [h1,wZ,aT]
   obtain⟨k,hk⟩ :∃k,(dM (dF u))[j]?=some k:= ⟨_,List.getElem?_eq_getElem (by rw [hw.len];exact h2)⟩;have hkr:=hw.into k (mem_of_getElem? hk);obtain⟨y,hy⟩ :∃y,u.nodes[k.toNat]?=some y:= ⟨_,List.getElem?_eq_getElem (by have:=hkr.2;change k<u.nodes.length at this;omega)⟩;have e:=hL.node j k hk;rw [←h3,hx,jV (p:=dF u) hy]at e;have e:=Option.some.inj e;obtain⟨n1,_,n3⟩ :=wY hg hy;rw [e];refine⟨aTk (h.maps hu) _ n1,aKU _ n3,fun c hc=>?_⟩;obtain⟨c0,hc0,rfl⟩ :=List.mem_map.1 hc;have ek:dL (dF u) k=y.kids:=by unfold dL;rw [show(dF u).nodes=u.nodes from rfl,hy]
   obtain⟨j2,hj,e2⟩ :=hw.after j k c0 hk (by rw [ek];exact hc0);rw [hL.to j2 c0 e2];have:= (List.getElem?_eq_some_iff.1 e2).1;rw [hw.len]at this
   change j2<u.nodes.length at this
   omega
 · have:=aCx l 0 h.good f hf;omega
end
mutual
theorem aQu {cons:List Con}:∀q:Pat,cD cons q=true→nX (sM cons.length) q=q
 | .mk f n s ps,h=>by
  rw [cD,and_eq_true]at h;rw [nX,aAa ps h.2];by_cases e:f=6
  · rw [if_pos e];have h1:=h.1;simp [cO,e,cX]at h1;rw [aKA (by omega) (by omega)]
  ·rw [if_neg e]
theorem aAa {cons:List Con}:∀ps:List Pat,bQ cons ps=true→dX (sM cons.length) ps=ps
 | [],_=>rfl
 | q::ps,h=>by
  rw [bQ,and_eq_true]at h;rw [dX,aQu q h.1,aAa ps h.2]
end
theorem aND {p:Prog}{x:Node}(h:bH p x=true){to:List Int}(ht:∀c∈x.kids,eD to c=c) :dN (sM p.funs.length) (sM p.cons.length) to x=x:=by
 have hp:dX (sM p.cons.length) x.pats=x.pats:=aAa x.pats (nT fun q hq=> ((aCZ h).pats q hq).2);have hk:x.kids.map (eD to) =x.kids:=by
  conv=>rhs;rw [←map_id x.kids]
  exact List.map_congr_left ht
 have hn:bN (sM p.funs.length) (sM p.cons.length) x.op x.n=x.n:=by
  simp only [bH,fO,and_eq_true]at h;have h1:=h.1.1.1;unfold bN;by_cases e4:x.op=4
  · rw [if_pos e4];rw [e4]at h1;simp [bK,cX]at h1;by_cases g:0≤x.n
    ·rw [if_pos g]
    ·rw [if_neg g,aKA (by omega) (by omega)];omega
  · rw [if_neg e4];by_cases e14:x.op=14
    · rw [if_pos e14];rw [e14]at h1;simp [bK,cX]at h1;rw [aKA (by omega) (by omega)]
    ·rw [if_neg e14]
 unfold dN;rw [hn,hk,hp]
theorem aNE {a:Prog}(h:Fs a)(hw:dM a= (range a.nodes.length).map fun(i:Nat) => (i:Int)) :aCY a a.nodes.length=some a:=by
 have hs:=h.fine.small
 have hto:∀k:Int,0≤k→k<a.nodes.length→eD ((range a.nodes.length).map fun(i:Nat) => (i:Int)) k=k:=fun k h0 h1=>by
  unfold eD;rw [List.getD_eq_getElem?_getD,getElem?_map,List.getElem?_range (by omega)];simp only [Option.map_some,Option.getD_some];omega
 have hwat:∀ (i:Nat) (b:Int),(dM a)[i]?=some b→b= (i:Int) ∧i<a.nodes.length:=fun i b hb=>by
  rw [hw,getElem?_map]at hb;have hi:i<a.nodes.length:=by
   by_cases g:i<a.nodes.length
   ·exact g
   ·rw [List.getElem?_eq_none (by simp;omega)]at hb;cases hb
  rw [List.getElem?_range hi]at hb;exact⟨(Option.some.inj hb).symm,hi⟩
 have hm:MOk a (sM a.funs.length) (sM a.cons.length) (numsL 0 a.funs.length) (numsL 0 a.cons.length) :=fun i x hx=> (aGc h.fine.fsmall (h.node i x hx).1 (h.node i x hx).2).1
 have e:=aAZ (to:= (range a.nodes.length).map fun(i:Nat) => (i:Int)) (g:=cP a (numsL 0 a.funs.length) (numsL 0 a.cons.length) a.nodes.length) (h:=wB a (sM a.funs.length) (sM a.cons.length) ((range a.nodes.length).map fun(i:Nat) => (i:Int)) a.nodes.length) (q:=pre a a.nodes.length) a.funs 0 (fun k hk len h1 h2=>by
   have:=h.fine.funs k hk;exact aBL h.fine hm _ k len this.1 this.2 (by omega) h1 h2) (fun k hk=>by
   have:=h.fine.funs k hk;obtain⟨y,g,_,_,h3⟩ :=vU h.fine (f:=a.nodes.length) (a:=k) this.1 this.2 (by omega);exact⟨aH0 _ _ _ _ _,by rw [h3];rfl⟩) (by have:=h.len;omega) (fun i b hb=>by
   obtain⟨rfl,hi⟩ :=hwat i b hb;rw [hto _ (by omega) (by omega)];omega)
 unfold aCY;rw [e];simp only;have ef:a.funs.map (eD ((range a.nodes.length).map fun(i:Nat) => (i:Int))) =a.funs:=by
  conv=>rhs;rw [←map_id a.funs]
  exact List.map_congr_left (fun k hk=>by have:=h.fine.funs k hk;exact hto k this.1 this.2)
 have en: (a.funs.map (wB a (sM a.funs.length) (sM a.cons.length) ((range a.nodes.length).map fun(i:Nat) => (i:Int)) a.nodes.length)).flatten=a.nodes:=by
  rw [show(a.funs.map (wB a (sM a.funs.length) (sM a.cons.length) ((range a.nodes.length).map fun(i:Nat) => (i:Int)) a.nodes.length)).flatten=aM4 a (sM a.funs.length) (sM a.cons.length) ((range a.nodes.length).map fun(i:Nat) => (i:Int)) a.nodes.length from rfl,aEz,hw,List.map_map];refine List.ext_getElem? (fun i=>?_);rw [getElem?_map];by_cases hi:i<a.nodes.length
  · have hx:a.nodes[i]?=some a.nodes[i] :=List.getElem?_eq_getElem hi;rw [List.getElem?_range hi,hx];simp only [Option.map_some,Function.comp];rw [jV (p:=a) (k:= (i:Int)) (by rw [toNat_natCast];exact hx)];congr 1
    exact aND (h.node i _ hx).1 (fun c hc=>by
     have:= (h.fine.node i _ hx).2.2 c hc;exact hto c (by omega) this.2)
  ·rw [List.getElem?_eq_none (by simp;omega),List.getElem?_eq_none (by omega)];rfl
 rw [ef,en]
def bBi(a:List LUnit):TS:=dB PP 35 [(.ilst 5 (map LUnit.av a) false)] [] 0
def bBj(a:Prog):TS:=dB PP 41 [(Prog.av a)] [] 0
def aZH(a:List LUnit):TS:=dB PP 17 [(.ilst 5 (map LUnit.av a) false)] [] 0
def aID(a:List LUnit)(c d e:Int)(b:List LPlace):TS:=⟨(tf 17 35 [kp 2 0,kp 3 1,(4,(nI c)),(5,(nI d)),(11,(.ilst 5 (map LUnit.av a) false)),(12,(nI (a.length:Int))),(13,(nI e))] [kc f17 500,kl f17 500,.inBlock 0,kc f17 63] (defers:=[.fn 61 [(.ptr 1 0),(.func 70 [] [(.ptr 0 0)])]])),[],[oC 0 [(.gl 2 2 0 b.length false)],oC 1 [(nI 0)],oL 2 2 (map LPlace.av b)],3⟩
def aUe(a:List LUnit):=tT 0 (bBi a)<|fQ 7 13 [(.ilst 5 (map LUnit.av a) false)]<|fun b=>.b 1 5 b (fQ 1 18 [(.ilst 5 (map LUnit.av a) false)]<|fun c=>gE 4 0 (bV c))<|gE 6 0 (bV false)
def aYk:=fun a b c d e f=>aUe a b d|>.t e c f tv
def aYl:=fun a b c d=>aUe a b c|>.f d tv
def aYm (a:Prog):=fun b c d e=>(tT 0 (bBj a)<|.y fun b:Prog=>.y fun c:Bool=>.i [rn 6,.reg [.d,.d,.pure (Prog.av b),.pure (bV c),.d]] [hA (Pure PP 54 [(Prog.av a)] (Prog.av b)),hA (Pure PP 26 [(Prog.av a),(Prog.av b)] (bV c)),hr (Prog.av a),hr (Prog.av a)]<|gE 1 1 (bV c)) b c d e tv
def aYn (a:List LUnit):=fun b c d e f=>(tT 0 (aZH a)<|.y fun b:List (aC×Int)=>.y fun c:List (aC×Int)=>.y fun d:List aC=>.y fun e:Bool=>gk 13 (.enter 63 [(.ilst 5 (map LUnit.av a) false)]) [oC 0 [.nils],oC 1 [(nI 0)]] 2 (.ptr 2 0) [oC 0 [.nils],oC 1 [(nI 0)],oC 2 [(.ilst 5 (map LUnit.av a) false),(.map 3),(.map 4),(.gl 5 1 0 d.length false),(bV e)],(3,(.map (aF aB aP 0 b) b.length),true),(4,(.map (aF aB aP 0 c) c.length),true),oL 5 1 (map aB d)] 6<|gl 10 LUnit.av a<|.i [rn 4,.cnil 0 0 2] []<|gu 0 6 (map LPlace.av ([] :List LPlace))<|gv 0 0 0 (.gl 6 2 0 ([] :List LPlace).length false)<|.W 0 7 [0,1,6] (aID a 0 0 0 ([] :List LPlace))) b c d e f ⟨kk,trivial⟩
def aUf(d:List LUnit)(e f b:Int)(c:List LPlace):=tT 0 (aID d e f b c)<|gd 5 14 (b< (d.length:Int)) (gX LUnit.av 6 d b<|fun a=>ga 11 LPlace.av c [(LPlace.mk e f)]<|.i [rn 2,.reg (rd 3 (.ans (.len (a.nodes.length:Int))::rd 4 (.ans (.len (a.funs.length:Int))::rd 3 [])))] [hl Node.av a.nodes,hl LFun.av a.funs]<|gw 3 33 (b+1)<|.W 3 6 [0,1,5] (aID d (IntKind.i64.wrap (e+ (a.nodes.length:Int))) (IntKind.i64.wrap (f+ (a.funs.length:Int))) (b+1) (c++ [(LPlace.mk e f)])))<|gy 3 0 0 2 2 LPlace.av c false<|gE 23 3 (.tup [(.ilst 2 (map LPlace.av c) false),(nI 0)])
def aYo:=fun a b c d e f g i j k l=>aUf a b c d e|>.t g f i j k l ⟨kk,trivial⟩
def aYp:=fun a b c d e f=>aUf a b c d e|>.f f tv
structure Mover where
 unit:LUnit
 prog:Prog
 names:List aC
def Mover.av (m:Mover) :AV:=.agg [aB m.unit.name,.ilst 2 (map Con.av m.unit.cons) false,.ilst 2 (map LFun.av m.unit.funs) false,.ilst 1 (map aB m.unit.needs) false,.ilst 4 (map Node.av m.unit.nodes) false,.ilst 4 (map Node.av m.prog.nodes) false,.ilst 1 (map aP m.prog.funs) false,.int .i64 m.prog.main,.ilst 2 (map Con.av m.prog.cons) false,.ilst 1 (map aB m.names) false]
end
end Go.Hb

set_option linter.defProp false
set_option linter.unusedVariables false
set_option linter.unusedSimpArgs false
set_option linter.unusedSectionVars false
set_option maxRecDepth 100000
set_option maxHeartbeats 4000000
namespace Go.Hb
open AV (ilst keyless keylessL)
open List (drop getElem?_eq_getElem getElem?_map length length_cons map map_map mem_of_getElem? range take)
open Go.Proofs Tryz
noncomputable section
def aZI(a:Mover)(b c:Int)(d:aC)(e:List Pat)(f g:Int)(i:aC)(j:List Pat):TS:=dB PP 120 [(.agg [(aB a.unit.name),(iC a.unit.cons),(.ilst 2 (map LFun.av a.unit.funs) false),(iS a.unit.needs),(iN a.unit.nodes),(iN a.prog.nodes),(iI a.prog.funs),(nI a.prog.main),(iC a.prog.cons),(iS a.names)]),(.agg [(nI b),(nI c),(aB d),(iP e)]),(.agg [(nI f),(nI g),(aB i),(iP j)])] [] 0
def aAb(a:Mover)(c d:Int)(e:aC)(b:List Pat)(f g:Int)(i:aC)(j:List Pat)(k:Int):TS:=⟨(tf 120 76 [kp 3 0,kp 4 1,kp 5 2,(6,(bV false)),(58,(nI (b.length:Int))),(59,(nI k))] [kc f120 116,kl f120 116,.inBlock 0,kc f120 15]),[],[oC 0 [(aB a.unit.name),(iC a.unit.cons),(.ilst 2 (map LFun.av a.unit.funs) false),(iS a.unit.needs),(iN a.unit.nodes),(iN a.prog.nodes),(iI a.prog.funs),(nI a.prog.main),(iC a.prog.cons),(iS a.names)],oC 1 [(nI c),(nI d),(aB e),(iP b)],oC 2 [(nI f),(nI g),(aB i),(iP j)]],3⟩
def aZJ(a:Mover)(b c:Int):TS:=dB PP 40 [(.agg [(aB a.unit.name),(iC a.unit.cons),(.ilst 2 (map LFun.av a.unit.funs) false),(iS a.unit.needs),(iN a.unit.nodes),(iN a.prog.nodes),(iI a.prog.funs),(nI a.prog.main),(iC a.prog.cons),(iS a.names)]),(nI b),(nI c)] [] 0
def wK(a:Mover)(m n b c d:Int)(e:List Int)(f:List Pat)(g i:Int)(j:List Int)(k:List Pat)(l:Int):TS:=⟨(tf 40 146 [kp 3 0,(6,(bV false)),kp 7 1,kp 8 2,(108,(nI b)),(109,(nI l))] [kc f40 500,kl f40 500,.inBlock 1,kc f40 63]),[],[oC 0 [(aB a.unit.name),(iC a.unit.cons),(.ilst 2 (map LFun.av a.unit.funs) false),(iS a.unit.needs),(iN a.unit.nodes),(iN a.prog.nodes),(iI a.prog.funs),(nI a.prog.main),(iC a.prog.cons),(iS a.names)],oC 1 [(nI c),(nI d),(iI e),(iP f)],oC 2 [(nI g),(nI i),(iI j),(iP k)]],3⟩
def aIE(a:Mover)(m n b c d:Int)(e:List Int)(f:List Pat)(g i:Int)(j:List Int)(k:List Pat)(l:Int):TS:=⟨(tf 40 146 [kp 3 0,(6,(bV false)),kp 7 1,kp 8 2,(128,(nI b)),(129,(nI l))] [kc f40 1012,kl f40 1012,.inBlock 3,kc f40 127]),[],[oC 0 [(aB a.unit.name),(iC a.unit.cons),(.ilst 2 (map LFun.av a.unit.funs) false),(iS a.unit.needs),(iN a.unit.nodes),(iN a.prog.nodes),(iI a.prog.funs),(nI a.prog.main),(iC a.prog.cons),(iS a.names)],oC 1 [(nI c),(nI d),(iI e),(iP f)],oC 2 [(nI g),(nI i),(iI j),(iP k)]],3⟩
def aUg(i:Mover)(b d:Int)(k:aC)(a:List Pat)(j e:Int)(l:aC)(c:List Pat):=tT 0 (aZI i b d k a j e l c)<|.o (.y fun f:Con=>.y fun g:Con=>.i [rn 9,.reg (rd 6 (.b 13 false::.d::.d::.ans (.len (a.length:Int))::.d::.d::.ans (.len (c.length:Int))::rd 3 (.b 22 false::rd 4 (.b 26 true::rd 8 (.b 34 false::rd 4 (.b 38 true::rd 5 (.ans (.idx (Con.av f))::rd 6 (.ans (.idx (Con.av g))::rd 4 []))))))))] [hA ((b != j) =false),hm aD a,hm aD c,hA (((a.length:Int) != (c.length:Int)) =false),hA ((b != 6) =true),hA ((d != e) =false),hA ((b==6) =true),hA (0≤d),.a (((i.unit.cons)[d.toNat]?) =some f) (bS (f:=Con.av)),hA (0≤e),.a (((i.prog.cons)[e.toNat]?) =some g) (bS (f:=Con.av))]<|.b 0 55 (!((bF f.name.length (aA f.name) g.name.length (aA g.name)) && ((f.args==g.args) &&true))) .x<|gm 7 aD a<|.W 4 3 [0,1,2] (aAb i b d k a j e l c 0))<|.o (.i [rn 9,.reg (rd 6 (.b 13 false::.d::.d::.ans (.len (a.length:Int))::.d::.d::.ans (.len (c.length:Int))::rd 3 (.b 22 false::rd 4 (.b 26 true::rd 8 (.b 34 false::rd 4 (.b 38 false::rd 17 []))))))] [hA ((b != j) =false),hm aD a,hm aD c,hA (((a.length:Int) != (c.length:Int)) =false),hA ((b != 6) =true),hA ((d != e) =false),hA ((b==6) =false)]<|gm 7 aD a<|.W 4 3 [0,1,2] (aAb i b d k a j e l c 0))<|.o (.y fun f:Con=>.y fun g:Con=>.i [rn 9,.reg (rd 6 (.b 13 false::.d::.d::.ans (.len (a.length:Int))::.d::.d::.ans (.len (c.length:Int))::rd 3 (.b 22 false::rd 4 (.b 26 false::rd 12 (.b 38 true::rd 5 (.ans (.idx (Con.av f))::rd 6 (.ans (.idx (Con.av g))::rd 4 [])))))))] [hA ((b != j) =false),hm aD a,hm aD c,hA (((a.length:Int) != (c.length:Int)) =false),hA ((b != 6) =false),hA ((b==6) =true),hA (0≤d),.a (((i.unit.cons)[d.toNat]?) =some f) (bS (f:=Con.av)),hA (0≤e),.a (((i.prog.cons)[e.toNat]?) =some g) (bS (f:=Con.av))]<|.b 0 55 (!((bF f.name.length (aA f.name) g.name.length (aA g.name)) && ((f.args==g.args) &&true))) .x<|gm 7 aD a<|.W 4 3 [0,1,2] (aAb i b d k a j e l c 0))<|.i [rn 9,.reg (rd 6 (.b 13 false::.d::.d::.ans (.len (a.length:Int))::.d::.d::.ans (.len (c.length:Int))::rd 3 (.b 22 false::rd 4 (.b 26 false::rd 12 (.b 38 false::rd 17 [])))))] [hA ((b != j) =false),hm aD a,hm aD c,hA (((a.length:Int) != (c.length:Int)) =false),hA ((b != 6) =false),hA ((b==6) =false)]<|gm 7 aD a<|.W 4 3 [0,1,2] (aAb i b d k a j e l c 0)
def aYq:=fun a b c d e f g i j k l m n o=>aUg a b c d e f g i j|>.2|>.1 k l m n o tv
def aYr:=fun a b c d e f g i j k l m n o p q r s t u=>aUg a b c d e f g i j|>.2|>.2|>.1 k l m n o p q r s t|>.f u tv
def aUh(a:Mover)(o p:Int)(q:aC)(c:List Pat)(r s:Int)(t:aC)(d:List Pat)(b:Int):=tT 0 (aAb a o p q c r s t d b)<|gd 5 60 (b< (c.length:Int)) (.y fun e:Int=>.y fun f:Int=>.y fun g:aC=>.y fun i:List Pat=>.y fun j:Int=>.y fun k:Int=>.y fun l:aC=>.y fun m:List Pat=>.y fun n:Bool=>.i [rn 10,.reg (rd 4 (.ans (.idx (Pat.av (Pat.mk e f g i)))::rd 4 [.ans (.idx (Pat.av (Pat.mk j k l m))),.d,.pure (bV n),.d]))] [hA (0≤b),.a (((c)[b.toNat]?) =some (Pat.mk e f g i)) (gJ aD),hA (0≤b),.a (((d)[b.toNat]?) =some (Pat.mk j k l m)) (gJ aD),hA (Pure PP 120 [(.agg [(aB a.unit.name),(iC a.unit.cons),(.ilst 2 (map LFun.av a.unit.funs) false),(iS a.unit.needs),(iN a.unit.nodes),(iN a.prog.nodes),(iI a.prog.funs),(nI a.prog.main),(iC a.prog.cons),(iS a.names)]),(.agg [(nI e),(nI f),(aB g),(iP i)]),(.agg [(nI j),(nI k),(aB l),(iP m)])] (bV n))]<|.b 0 74 (!n) .x<|gw 5 75 (b+1)<|.W 3 3 [0,1,2] (aAb a o p q c r s t d (b+1)))<|gE 7 3 (bV true)
def aYs:=fun b c d e f g i j k l m n o p q r s t u v a w x y z A=>aUh b c d e f g i j k l|>.t v m n o p q r s t u a w a x y|>.f z A tv
def aYt:=fun a b c d e f g i j k l=>aUh a b c d e f g i j k|>.f l tv
def aIF(b:Mover)(g i:Int):=tT 0 (aZJ b g i)<|.y fun a:Node=>.y fun c:Node=>.i [rn 6,.reg (rd 4 (.ans (.idx (Node.av a))::rd 5 (.ans (.idx (Node.av c))::rd 5 [])))] [hA (0≤g),.a (((b.unit.nodes)[g.toNat]?) =some a) (bS (f:=Node.av)),hA (0≤i),.a (((b.prog.nodes)[i.toNat]?) =some c) (bS (f:=Node.av)),hr (Node.av c),hr (Node.av c),hr (ilst 4 (jN b.prog.nodes) false),hr (ilst 4 (jN b.prog.nodes) false)]<|.b 9 29 (a.op != c.op) .x<|gl 2 aP a.kids<|gl 2 aP c.kids<|.b 3 38 ((a.kids.length:Int) != (c.kids.length:Int)) .x<|gm 2 aD a.pats<|gm 2 aD c.pats<|.b 3 46 ((a.pats.length:Int) != (c.pats.length:Int)) .x<|.b 10 56 (a.op==4) (gd 6 52 (a.n<0) (.y fun e:List aC=>.y fun d:aC=>.y fun j:aC=>.i [rn 2,.reg (.d::.d::.call (.gl 3 1 0 e.length false) (aG [oC 0 [(aB b.unit.name),(iC b.unit.cons),(.ilst 2 (map LFun.av b.unit.funs) false),(iS b.unit.needs),(iN b.unit.nodes),(iN b.prog.nodes),(iI b.prog.funs),(nI b.prog.main),(iC b.prog.cons),(iS b.names)],oC 1 [(nI a.op),(nI a.n),(iI a.kids),(iP a.pats)],oC 2 [(nI c.op),(nI c.n),(iI c.kids),(iP c.pats)],oL 3 1 (map aB e)] 4)::rd 3 [.app (map aB (e++b.unit.needs)) (e++b.unit.needs).length,.d]),rn 1,.reg (rd 4 (.b 71 false::rd 5 (.ans (.idx (aB d))::rd 5 [.ans (.ix),.ans (.idx (aB j)),.d,.d])))] [hA (Spec PP (.enter 39 [(.agg [(aB b.unit.name),(iC b.unit.cons),(.ilst 2 (map LFun.av b.unit.funs) false),(iS b.unit.needs),(iN b.unit.nodes)])]) (aG [oC 0 [(aB b.unit.name),(iC b.unit.cons),(.ilst 2 (map LFun.av b.unit.funs) false),(iS b.unit.needs),(iN b.unit.nodes),(iN b.prog.nodes),(iI b.prog.funs),(nI b.prog.main),(iC b.prog.cons),(iS b.names)],oC 1 [(nI a.op),(nI a.n),(iI a.kids),(iP a.pats)],oC 2 [(nI c.op),(nI c.n),(iI c.kids),(iP c.pats)]] 3) (.ret (.gl 3 1 0 e.length false)) (aG [oC 0 [(aB b.unit.name),(iC b.unit.cons),(.ilst 2 (map LFun.av b.unit.funs) false),(iS b.unit.needs),(iN b.unit.nodes),(iN b.prog.nodes),(iI b.prog.funs),(nI b.prog.main),(iC b.prog.cons),(iS b.names)],oC 1 [(nI a.op),(nI a.n),(iI a.kids),(iP a.pats)],oC 2 [(nI c.op),(nI c.n),(iI c.kids),(iP c.pats)],oL 3 1 (map aB e)] 4)),hb aB e,hA (length (e++b.unit.needs) ≤1000000),hc aB e b.unit.needs,he aB e b.unit.needs,hr (ilst 1 (map aB b.unit.needs) false),hr (ilst 1 (map aB b.unit.needs) false),hA (decide (c.n≥0) =false),hA (0≤ (IntKind.i64.wrap ((-1:Int) -c.n))),.a (((b.names)[(IntKind.i64.wrap ((-1:Int) -c.n)).toNat]?) =some d) (bS (f:=aB)),hA (0≤ (IntKind.i64.wrap ((-1:Int) -a.n))),hA ((IntKind.i64.wrap ((-1:Int) -a.n)) < (((e++b.unit.needs).length:Nat) :Int)),.a ((((e++b.unit.needs))[(IntKind.i64.wrap ((-1:Int) -a.n)).toNat]?) =some j) (gI (f:=aB))]<|.b 0 86 (!(bF d.length (aA d) j.length (aA j))) .x<|gm 8 aD a.pats<|.W 4 5 [0,1,2] (wK b g i (a.pats.length:Int) a.op a.n a.kids a.pats c.op c.n c.kids c.pats 0))<|.b 8 87 (a.op==14) (.y fun f:Con=>.y fun d:Con=>.i [rn 2,.reg (rd 5 (.ans (.idx (Con.av f))::rd 6 [.ans (.idx (Con.av d)),.d,.d]))] [hA (0≤a.n),.a (((b.unit.cons)[a.n.toNat]?) =some f) (bS (f:=Con.av)),hA (0≤c.n),.a (((b.prog.cons)[c.n.toNat]?) =some d) (bS (f:=Con.av))]<|.b 0 105 (!((bF f.name.length (aA f.name) d.name.length (aA d.name)) && ((f.args==d.args) &&true))) .x<|gm 8 aD a.pats<|.W 4 3 [0,1,2] (wK b g i (a.pats.length:Int) a.op a.n a.kids a.pats c.op c.n c.kids c.pats 0))<|.b 9 51 (a.n != c.n) .x<|gm 8 aD a.pats<|.W 4 3 [0,1,2] (wK b g i (a.pats.length:Int) a.op a.n a.kids a.pats c.op c.n c.kids c.pats 0))<|.b 14 87 (a.op==14) (.y fun f:Con=>.y fun d:Con=>.i [rn 2,.reg (rd 5 (.ans (.idx (Con.av f))::rd 6 [.ans (.idx (Con.av d)),.d,.d]))] [hA (0≤a.n),.a (((b.unit.cons)[a.n.toNat]?) =some f) (bS (f:=Con.av)),hA (0≤c.n),.a (((b.prog.cons)[c.n.toNat]?) =some d) (bS (f:=Con.av))]<|.b 0 105 (!((bF f.name.length (aA f.name) d.name.length (aA d.name)) && ((f.args==d.args) &&true))) .x<|gm 8 aD a.pats<|.W 4 3 [0,1,2] (wK b g i (a.pats.length:Int) a.op a.n a.kids a.pats c.op c.n c.kids c.pats 0))<|.b 9 51 (a.n != c.n) .x<|gm 8 aD a.pats<|.W 4 3 [0,1,2] (wK b g i (a.pats.length:Int) a.op a.n a.kids a.pats c.op c.n c.kids c.pats 0)
def aYu:=fun a b c d e f g i j k l m n o p q r s t u v w x y z A=>aIF a b c d e j k l m|>.f n|>.f o|>.f p|>.t q|>.t r f g i s t u v w x y z|>.f A tv
def aYv:=fun a b c d e f g i j k l m n o p q=>aIF a b c d e f g i j|>.f k|>.f l|>.f m|>.t n|>.f o|>.f p|>.f q tv
def aUi:=fun a b c d e f g i j k l m n o p q r s t u v=>aIF a b c d e i j k l|>.f m|>.f n|>.f o|>.f p|>.t q f g r s t u|>.f v tv
def aUj:=fun a b c d e f g i j k l m n o p=>aIF a b c d e f g i j|>.f k|>.f l|>.f m|>.f n|>.f o|>.f p tv
def aUk(a:Mover)(f g i j k:Int)(c:List Int)(d:List Pat)(l m:Int)(n:List Int)(e:List Pat)(b:Int):=tT 0 (wK a f g i j k c d l m n e b)<|gd 5 110 (b<i) (.y fun o:Int=>.y fun p:Int=>.y fun q:aC=>.y fun r:List Pat=>.y fun s:Int=>.y fun t:Int=>.y fun u:aC=>.y fun v:List Pat=>.y fun w:Bool=>.i [rn 10,.reg (rd 4 (.ans (.idx (Pat.av (Pat.mk o p q r)))::rd 4 [.ans (.idx (Pat.av (Pat.mk s t u v))),.d,.pure (bV w),.d]))] [hA (0≤b),.a (((d)[b.toNat]?) =some (Pat.mk o p q r)) (gJ aD),hA (0≤b),.a (((e)[b.toNat]?) =some (Pat.mk s t u v)) (gJ aD),hA (Pure PP 120 [(.agg [(aB a.unit.name),(iC a.unit.cons),(.ilst 2 (map LFun.av a.unit.funs) false),(iS a.unit.needs),(iN a.unit.nodes),(iN a.prog.nodes),(iI a.prog.funs),(nI a.prog.main),(iC a.prog.cons),(iS a.names)]),(.agg [(nI o),(nI p),(aB q),(iP r)]),(.agg [(nI s),(nI t),(aB u),(iP v)])] (bV w))]<|.b 0 124 (!w) .x<|gw 5 125 (b+1)<|.W 3 3 [0,1,2] (wK a f g i j k c d l m n e (b+1)))<|gl 7 aP c<|.W 4 3 [0,1,2] (aIE a f g (c.length:Int) j k c d l m n e 0)
def aYw:=fun b c d e f g i j k l m n o p q r s t u v w x y a z A B C D=>aUk b c d e f g i j k l m n o|>.t y p q r s t u v w x a z a A B|>.f C D tv
def aYx:=fun a b c d e f g i j k l m n o=>aUk a b c d e f g i j k l m n|>.f o tv
def aUl(a:Mover)(j k c l m:Int)(d:List Int)(n:List Pat)(o p:Int)(e:List Int)(q:List Pat)(b:Int):=tT 0 (aIE a j k c l m d n o p e q b)<|gd 5 130 (b<c) (.y fun f:Int=>.y fun g:Int=>.y fun i:Bool=>.i [rn 10,.reg (rd 4 (.ans (.idx (aP f))::rd 4 [.ans (.idx (aP g)),.d,.pure (bV i),.d]))] [hA (0≤b),.a (((d)[b.toNat]?) =some f) (bS (f:=aP)),hA (0≤b),.a (((e)[b.toNat]?) =some g) (bS (f:=aP)),hA (Pure PP 40 [(.agg [(aB a.unit.name),(iC a.unit.cons),(.ilst 2 (map LFun.av a.unit.funs) false),(iS a.unit.needs),(iN a.unit.nodes),(iN a.prog.nodes),(iI a.prog.funs),(nI a.prog.main),(iC a.prog.cons),(iS a.names)]),(nI f),(nI g)] (bV i))]<|.b 0 144 (!i) .x<|gw 5 145 (b+1)<|.W 3 3 [0,1,2] (aIE a j k c l m d n o p e q (b+1)))<|gE 7 3 (bV true)
def aYy:=fun b c d e f g i j k l m n o p q r s a t u v w x=>aUl b c d e f g i j k l m n o|>.t s p q r a t a u v|>.f w x tv
def aYz:=fun a b c d e f g i j k l m n o=>aUl a b c d e f g i j k l m n|>.f o tv
theorem aNF (l:List LUnit) :Pure PP 35 [.ilst 5 (map LUnit.av l) false] (.bool (iJ l&&iL l)) :=by
 have h0:=aQj l;refine aQ (by kernel_rfl) rfl rfl ?_;cases e:iJ l with
 |false=>rw [e]at h0;exact aYl l false h0 rfl
 | true=>
  rw [e]at h0;have h1:=aTh l (fun u h=>aEt ((aCs e).2 u h));exact aYk l true _ h0 rfl h1
theorem aUm {p:Prog}(h:Pure PP 54 [Prog.av p] (Prog.av p))(hp:FitP p) :Pure PP 41 [Prog.av p] (.bool true) :=
 aQ (by kernel_rfl) rfl rfl (aYm p p true h (aM7 p hp))
def iM :Nat→Nat→List LUnit→List LPlace
 |_,_,[] =>[]
 |n,f,u::l=> ⟨(n:Int),(f:Int)⟩ ::iM (n+u.nodes.length) (f+u.funs.length) l
theorem aCy :∀ (l:List LUnit) (n f:Nat),(iM n f l).length=l.length
 | [],n,f=>rfl
 |u::l,n,f=>by rw [iM,length_cons,length_cons,aCy l]
theorem aEY :∀ (l1 l2:List LUnit) (u:LUnit) (n f:Nat),(iM n f (l1++u::l2))[l1.length]?=some ⟨((n+aT l1:Nat) :Int),((f+ (bI l1).length:Nat) :Int)⟩
 | [],l2,u,n,f=>by simp [iM,aT,bI]
 | v::l1,l2,u,n,f=>by
  rw [List.cons_append,iM,length_cons,List.getElem?_cons_succ,aEY l1 l2 u,aT,qJ,List.length_append];simp [aE];omega
section
variable (l :List LUnit)
abbrev aNG :AObj:=.cells (putCells .leaf 0 [.nils]) 1 [] false
abbrev aZK (l:List LUnit)(mf mh:List (aC×Int))(od:List aC)(tw:Bool) :List (Nat×AObj×Bool) :=[(0,aNG,false),(1,aGx,false),(2,aNw l 3 4 5 od tw,false),(3,MTb mf,true),(4,MTb mh,true),(5,aLb od,true)]
theorem bBk (mf mh:List (aC×Int))(od:List aC)(tw:Bool)(hs:aAI PP (.enter 63 [.ilst 5 (map LUnit.av l) false]) (aG [] 0) (.ret (.ptr 0 0)) (aG (THp l mf mh od tw) 4)) :
  Spec PP (.enter 63 [.ilst 5 (map LUnit.av l) false]) (aG [(0,aNG,false),(1,aGx,false)] 2) (.ret (.ptr 2 0)) (aG (aZK l mf mh od tw) 6) :=
 lA (m:=0) (ks:=[]) (n2:=2) (n3:=6) (v':=.ptr 2 0) (args':=[.ilst 5 (map LUnit.av l) false]) (lc:=[(0,aNG,false),(1,aGx,false)]) (lc':=aZK l mf mh od tw)
  hs (by rfl) (by rfl) (by kernel_rfl) (by rfl) (by rfl) (by kernel_rfl) (by kernel_rfl) trivial (by kernel_rfl) ⟨wH _,wH _,aC4 _,trivial⟩
theorem aZL (hl:l.length≤11)(hu:∀u∈l,u.nodes.length≤320∧u.funs.length≤30) :∀ (t:List LUnit) (i n f:Nat) (acc:List LPlace),l.drop i=t→acc.length=i→n≤320*i→f≤30*i →
  Ends PP 0 (aID l (n:Int) (f:Int) (i:Int) acc).as (.ret (.tup [.ilst 2 (map LPlace.av (acc++iM n f t)) false,.int .i64 0])) (aG [] 0)
 | [],i,n,f,acc,h,ha,_,_=>by
  have:=bD h;rw [iM,List.append_nil];exact aYp l n f i acc sd
 | u::t,i,n,f,acc,h,ha,hn,hf=>by
  obtain⟨q1,q2,q3⟩ :=bC h;have hi:= (List.getElem?_eq_some_iff.1 q1).1;obtain⟨b1,b2⟩ :=hu u (mem_of_getElem? q1);have ih:=aZL hl hu t (i+1) (n+u.nodes.length) (f+u.funs.length) (acc++ [⟨(n:Int),(f:Int)⟩]) q2 (by simp [ha]) (by omega) (by omega);rw [List.append_assoc]at ih;have st:=aYo l n f i acc u sd sd sd (by simp;omega) sd;rw [wrap64 (by omega) (by omega),wrap64 (by omega) (by omega),show((n:Int) + ((u.nodes.length:Nat) :Int)) = ((n+u.nodes.length:Nat) :Int)by omega,show((f:Int) + ((u.funs.length:Nat) :Int)) = ((f+u.funs.length:Nat) :Int)by omega]at st;exact st.ends ih
theorem aIG (hl:l.length≤11)(hu:∀u∈l,FewU u∧NumU u)(h0:iL l=true) :Pure PP 17 [.ilst 5 (map LUnit.av l) false] (.tup [.ilst 2 (map LPlace.av (iM 0 0 l)) false,.int .i64 0]) :=by
 obtain⟨hl10,hg⟩ :=mS (fun u h=> (hu u h).1) h0;obtain⟨mf,mh,ht,hs⟩ :=aTX l hu h0
 exact eM (s:=aZH l) (by kernel_rfl) (by kernel_rfl) (by simp [keylessL,keyless]) (by simp [keylessL,keyless])
  ((aYn l mf mh _ _ (bBk l mf mh _ _ hs)).ends (aZL l hl (fun u h=> ⟨(hg u h).small.1,(hu u h).1.f⟩) l 0 0 0 [] rfl rfl (by omega) (by omega)))
end
def ConsTo (uc pc:List Con)(mc:List (Int×Int)) :Prop:=∀ (i:Nat) (d:Con),uc[i]?=some d→0≤kN mc (i:Int) ∧pc[(kN mc (i:Int)).toNat]?=some d
theorem aLh (c:Con) : (!((bF (length c.name) (aA c.name) (length c.name) (aA c.name)) && ((c.args==c.args) &&true))) =false:=by
 rw [dQ];simp
theorem ConsTo.at {uc pc:List Con}{mc:List (Int×Int)}(h:ConsTo uc pc mc){n:Int}(h0:0≤n)(h1:n<uc.length) :∃d,uc[n.toNat]?=some d∧0≤kN mc n∧pc[(kN mc n).toNat]?=some d:=by
 have e:uc[n.toNat]?=some (uc[n.toNat]'(by omega)) :=getElem?_eq_getElem (by omega);have:=h n.toNat _ e;rw [show((n.toNat:Nat) :Int) =n by omega]at this;exact⟨_,e,this.1,this.2⟩
section
variable (m :Mover) (mc:List (Int×Int))
abbrev MPP (m:Mover)(mc:List (Int×Int))(q:Pat) :Prop:=cD m.unit.cons q=true→cC q<1000000→Pure PP 120 [Mover.av m,Pat.av q,Pat.av (nX mc q)] (.bool true)
theorem aEZ (mc:List (Int×Int)) :∀ (ps:List Pat) (i:Nat) (q:Pat),ps[i]?=some q→ (dX mc ps)[i]?=some (nX mc q)
 | [],i,q,h=>by simp at h
 |x::ps,0,q,h=>by simp at h;rw [dX,h];rfl
 |x::ps,i+1,q,h=>by simp at h;rw [dX,List.getElem?_cons_succ];exact aEZ mc ps i q h
theorem aE0 {cons:List Con}:∀ {ps:List Pat} {q:Pat},bQ cons ps=true→q∈ps→cD cons q=true
 | [],q,_,h=>by cases h
 | x::ps,q,h,hq=>by
  rw [bQ,Bool.and_eq_true]at h;rcases List.mem_cons.1 hq with rfl|hq
  ·exact h.1
  ·exact aE0 h.2 hq
theorem aE1 :∀ {ps:List Pat} {q:Pat},q∈ps→cC q≤aX ps
 | [],q,h=>by cases h
 | x::ps,q,hq=>by
  rw [aX];rcases List.mem_cons.1 hq with rfl|hq
  ·omega
  ·have:=aE1 hq;omega
theorem aLi (f n:Int)(s:aC)(ps:List Pat)(n':Int)(hl:ps.length<1000000)(hok:bQ m.unit.cons ps=true)(hsz:aX ps<1000000)(ih:∀q∈ps,MPP m mc q) :∀ (t:List Pat) (i:Nat),ps.drop i=t →
  Ends PP 0 (aAb m f n s ps f n' s (dX mc ps) (i:Int)).as (.ret (.bool true)) (aG [] 0)
 | [],i,h=>by
  have:=bD h;exact aYt m f n s ps f n' s _ i sd
 | .mk a b c d::t,i,h=>by
  obtain⟨q1,q2,q3⟩ :=bC h;have hi:= (List.getElem?_eq_some_iff.1 q1).1;have hm:=mem_of_getElem? q1;have h2:=aEZ mc ps i _ q1;have hp:=ih _ hm (aE0 hok hm) (by have:=aE1 hm;omega);rw [nX]at h2 hp;exact(aYs m f n s ps f n' s _ i a b c d _ _ _ _ true sd sd sd (by simpa using h2) hp rfl sd).ends (aLi f n s ps n' hl hok hsz ih t (i+1) q2)
mutual
theorem aLj (hc:ConsTo m.unit.cons m.prog.cons mc) :∀q:Pat,MPP m mc q
 | .mk f n s ps,hok,hsz=>by
  simp only [cC]at hsz;rw [cD,Bool.and_eq_true]at hok;have:=eJ ps;refine eM (s:=aZI m f n s ps f (if f=6 then kN mc n else n) s (dX mc ps)) (by kernel_rfl) (by kernel_rfl) (by simp [keylessL,mB,keyless,Mover.av,aB]) (by simp [keyless]) ?_;have hloop:=aLi m mc f n s ps (if f=6 then kN mc n else n) (by omega) hok.2 (by omega) (aOz hc ps) ps 0 rfl;by_cases e:f=6
  · have h1:=hok.1;simp [cO,e,cX]at h1;obtain⟨d,d1,d2,d3⟩ :=hc.at (n:=n) (by omega) (by omega);rw [if_pos e]at hloop ⊢;exact(aYr m f n s ps f _ s _ d d (by simp) (by rw [lB];simp) (by simp [e]) (by simp [e]) (by omega) d1 d2 d3 (aLh d)).ends hloop
  · rw [if_neg e]at hloop ⊢;exact(aYq m f n s ps f _ s _ (by simp) (by rw [lB];simp) (by simp [e]) (by simp) (by simp [e])).ends hloop
theorem aOz (hc:ConsTo m.unit.cons m.prog.cons mc) :∀ps:List Pat,∀q∈ps,MPP m mc q
 | [],q,hq=>by cases hq
 | x::ps,q,hq=>by
  rcases List.mem_cons.1 hq with e|hq
  ·rw [e];exact aLj hc x
  ·exact aOz hc ps q hq
end
end
structure MvOk (m:Mover) (off:Nat) (mf mc:List (Int×Int)) (to:List Int) :Prop where
 good:GoodU m.unit
 laid:Laid m.prog off (dF m.unit) mf mc to
 cons:ConsTo m.unit.cons m.prog.cons mc
 funs:∀i:Int,0≤i→i<m.unit.funs.length+m.unit.needs.length→∃s,(aE m.unit++m.unit.needs)[i.toNat]?=some s∧0≤kN mf i∧kN mf i<1000000∧m.names[(kN mf i).toNat]?=some s
section
variable {m :Mover} {off:Nat} {mf mc:List (Int×Int)} {to:List Int}
theorem aZM (a b:Int)(o n n':Int)(ks:List Int)(ps ps':List Pat)(hk:ks.length≤10)(ih:∀c∈ks,Pure PP 40 [Mover.av m,.int .i64 c,.int .i64 (eD to c)] (.bool true)) :∀ (t:List Int) (i:Nat),ks.drop i=t →
  Ends PP 0 (aIE m a b ((ks.length:Nat) :Int) o n ks ps o n' (ks.map (eD to)) ps' (i:Int)).as (.ret (.bool true)) (aG [] 0)
 | [],i,h=>by
  have:=bD h;exact aYz m a b _ o n ks ps o n' _ ps' i sd
 | c::t,i,h=>by
  obtain⟨q1,q2,q3⟩ :=bC h;have hi:= (List.getElem?_eq_some_iff.1 q1).1;exact(aYy m a b _ o n ks ps o n' _ ps' i c (eD to c) true sd sd sd (by rw [Int.toNat_natCast,getElem?_map,q1];rfl) (ih c (mem_of_getElem? q1)) rfl sd).ends (aZM a b o n n' ks ps ps' hk ih t (i+1) q2)
theorem aZN (hc:ConsTo m.unit.cons m.prog.cons mc)(a b:Int)(o n n':Int)(ks:List Int)(ps:List Pat)(hk:ks.length≤10)(hp:ps.length≤10)(hok:∀q∈ps,cD m.unit.cons q=true∧cC q<1000000)(ih:∀c∈ks,Pure PP 40 [Mover.av m,.int .i64 c,.int .i64 (eD to c)] (.bool true)) :∀ (t:List Pat) (i:Nat),ps.drop i=t →
  Ends PP 0 (wK m a b ((ps.length:Nat) :Int) o n ks ps o n' (ks.map (eD to)) (dX mc ps) (i:Int)).as (.ret (.bool true)) (aG [] 0)
 | [],i,h=>by
  have:=bD h;exact(aYx m a b _ o n ks ps o n' _ _ i sd).ends (aZM a b o n n' ks ps _ hk ih ks 0 rfl)
 | .mk c d e f::t,i,h=>by
  obtain⟨q1,q2,q3⟩ :=bC h;have hi:= (List.getElem?_eq_some_iff.1 q1).1;have h2:=aEZ mc ps i _ q1;have hm:=hok _ (mem_of_getElem? q1);have hpp:=aLj m mc hc _ hm.1 hm.2;rw [nX]at h2 hpp;exact(aYw m a b _ o n ks ps o n' _ _ i c d e f _ _ _ _ true sd sd sd (by simpa using h2) hpp rfl sd).ends (aZN hc a b o n n' ks ps hk hp hok ih t (i+1) q2)
abbrev aOA (m:Mover) :AObj:=.cells (putCells .leaf 0 [aB m.unit.name,.ilst 2 (map Con.av m.unit.cons) false,.ilst 2 (map LFun.av m.unit.funs) false,.ilst 1 (map aB m.unit.needs) false,.ilst 4 (map Node.av m.unit.nodes) false,.ilst 4 (map Node.av m.prog.nodes) false,.ilst 1 (map aP m.prog.funs) false,.int .i64 m.prog.main,.ilst 2 (map Con.av m.prog.cons) false,.ilst 1 (map aB m.names) false]) 10 [] false
theorem aUn (x y:Node)(hf:m.unit.funs.length≤1000) :Spec PP (.enter 39 [UAV m.unit]) (aG [(0,aOA m,false),(1,yQ x,false),(2,yQ y,false)] 3) (.ret (.gl 3 1 0 (length (aE m.unit)) false)) (aG [(0,aOA m,false),(1,yQ x,false),(2,yQ y,false),(3,.lst 1 (map aB (aE m.unit)),true)] 4) :=by
 have hs':=aAJ (ks:=[]) (n2:=3) (args':=[UAV m.unit]) (lc:=[(0,aOA m,false),(1,yQ x,false),(2,yQ y,false)]) (x:=[(0,aOA m,false),(1,yQ x,false),(2,yQ y,false)])
  (aTd m.unit hf) (by kernel_rfl) (by kernel_rfl) (by kernel_rfl) trivial (by kernel_rfl) (by kernel_rfl) (by kernel_rfl) (by kernel_rfl) ⟨aJ _ (fun _=>rfl) _,trivial⟩ (by kernel_rfl)
 exact Eq.mp (by kernel_rfl) hs'
theorem aLk (h:MvOk m off mf mc to) :∀ (k:Nat) (a:Int),0≤a→a<m.unit.nodes.length→m.unit.nodes.length-a.toNat≤k→Pure PP 40 [Mover.av m,.int .i64 a,.int .i64 (eD to a)] (.bool true)
 |0,a,h0,h1,h2=>by omega
 | k + 1,a,h0,h1,h2=>by
  have hw:=mT h.good;obtain⟨x,hx⟩ :∃x,m.unit.nodes[a.toNat]?=some x:= ⟨_,getElem?_eq_getElem (by omega)⟩;obtain⟨b0,b1⟩ :=h.laid.atW hw h0 h1;rw [jV (p:=dF m.unit) hx]at b1;obtain⟨n1,n2,n3⟩ :=wY h.good hx;have hk:= (hw.fine.node _ x hx).2.2;have hk10:= (hw.fine.node _ x hx).2.1
  have hp:∀q∈x.pats,cD m.unit.cons q=true∧cC q<1000000:=fun q hq=>by
   have:= (aCZ n1).pats q hq;exact⟨this.2,by omega⟩
  have ih:∀c∈x.kids,Pure PP 40 [Mover.av m,.int .i64 c,.int .i64 (eD to c)] (.bool true) :=fun c hc=>by
   have:=hk c hc;exact aLk h k c (by omega) (by have:=this.2;exact this) (by omega)
  refine eM (s:=aZJ m a (eD to a)) (by kernel_rfl) (by kernel_rfl) (by simp [keylessL,keyless,Mover.av,aB]) (by simp [keyless]) ?_;have hloop:=fun n'=>aZN (to:=to) h.cons a (eD to a) x.op x.n n' x.kids x.pats hk10 n2 hp ih x.pats 0 rfl;have hh:=n1;simp only [bH,fO,Bool.and_eq_true]at hh;have hh1:=hh.1.1.1;have hwl: (qN m.unit).funs.length=m.unit.funs.length+m.unit.needs.length:=by simp [qN]
  have hff:=h.good.few.f;have hnd:=h.good.few.n;have e1: (dN mf mc to x).n=bN mf mc x.op x.n:=rfl;have el1: (((x.kids.length:Nat) :Int) != (((dN mf mc to x).kids.length:Nat) :Int)) =false:=by simp [dN]
  have el2: (((x.pats.length:Nat) :Int) != (((dN mf mc to x).pats.length:Nat) :Int)) =false:=by
   have: (dN mf mc to x).pats.length=x.pats.length:=lB mc _;rw [this];simp
  have eo: (x.op != (dN mf mc to x).op) =false:=by simp [dN]
  by_cases e4:x.op=4
  · rw [e4]at hh1;simp [bK,cX,hwl]at hh1;by_cases hn:x.n<0
    · obtain⟨s,s1,s2,s3,s4⟩ :=h.funs (-1-x.n) (by omega) (by omega);have en: (dN mf mc to x).n= -1-kN mf (-1-x.n) :=by rw [e1];unfold bN;rw [if_pos e4,if_neg (by omega)]
      have w1:IntKind.i64.wrap ((-1:Int) -x.n) = -1-x.n:=by apply wrap64<;>omega
      have w2:IntKind.i64.wrap ((-1:Int) - (dN mf mc to x).n) =kN mf (-1-x.n) :=by rw [en,wrap64 (by omega) (by omega)];omega
      have hun: (aE m.unit).length=m.unit.funs.length:=by simp [aE]
      exact(aYu m a (eD to a) x (dN mf mc to x) (aE m.unit) s s h0 hx b0 b1 eo el1 el2 (by simp [e4]) (by simp [hn]) (aUn x _ (by omega)) (by simp;omega) (by rw [en];simp;omega) (by rw [w2];exact s2) (by rw [w2];exact s4) (by rw [w1];omega) (by rw [w1,List.length_append];omega) (by rw [w1];exact s1) (by rw [dQ];simp)).ends (hloop _)
    · have en: (dN mf mc to x).n=x.n:=by rw [e1];unfold bN;rw [if_pos e4,if_pos (by omega)]
      exact(aYv m a (eD to a) x (dN mf mc to x) h0 hx b0 b1 eo el1 el2 (by simp [e4]) (by simp;omega) (by simp [e4]) (by rw [en];simp)).ends (hloop _)
  · by_cases e14:x.op=14
    · rw [e14]at hh1;simp [bK,cX]at hh1;obtain⟨d,d1,d2,d3⟩ :=h.cons.at (n:=x.n) (by omega) (by have:=hh1.2;change x.n≤ ((m.unit.cons.length:Nat) :Int) -1 at this;omega);have en: (dN mf mc to x).n=kN mc x.n:=by rw [e1];unfold bN;rw [if_neg e4,if_pos e14]
      exact(aUi m a (eD to a) x (dN mf mc to x) d d h0 hx b0 b1 eo el1 el2 (by simp [e4]) (by simp [e14]) (by omega) d1 (by rw [en];exact d2) (by rw [en];exact d3) (aLh d)).ends (hloop _)
    · have en: (dN mf mc to x).n=x.n:=by rw [e1];unfold bN;rw [if_neg e4,if_neg e14]
      exact(aUj m a (eD to a) x (dN mf mc to x) h0 hx b0 b1 eo el1 el2 (by simp [e4]) (by simp [e14]) (by rw [en];simp)).ends (hloop _)
end
section
variable {P :Program}
def aQv (P:Program)(is:List Ins)(s:TS) :Option (AV×Nat×List Prop) :=
 match yL P is s.as with
 | some (s1,ps) =>match s1.cs,s1.fr.kind,s1.fr.mode,s1.fr.roundOf,s1.fr.defers with
  | [],.normal,.ret,none,[] =>match P.funcs[s1.fr.fn]? with
   | some fd=>match jZ P s1.h s1.fr.tm fd.results.toList with
    |some [v] =>some (v,s1.fr.fn,ps)
    |_=>none
   |none=>none
  |_,_,_,_,_=>none
 |none=>none
theorem aIH {f : Nat} {args : List AV} {is : List Ins}{b:Bool}{ps:List Prop}{cargs:List Value}(hb:jE P f=true)(hk:keylessL args=true)(h0:aQv P is (start P f args) =some (.bool b,f,ps))(hps:AllP ps)(w:World)(hv:VRs (embOf w) args cargs) :
  Calls P f ⟨cargs⟩ w fun e w'=>e= .returned (.bool b) ∧GrownO w w':=by
 intro base;unfold jE at hb;split at hb
 · rename_i fn hf;split at hb
   · rename_i c hc;have hg:cE P f args .normal=some ⟨f,cT .leaf 0 args,max fn.ntmps args.length,[.code c],[],.run,.normal,none⟩ :=by simp [cE,hf,hc]
     have fr':FR (embOf w) _ (Frame.enter P f ⟨cargs⟩ .normal) :=fM hg hv;have f1:FR (embOf w) (start P f args).as.fr (Frame.enter P f ⟨cargs⟩ .normal) :=by
      have e1: (start P f args).as.fr= ⟨f,mkT ((range args.length).zip args),max fn.ntmps args.length,[.code c],[],.run,.normal,none⟩ :=by simp [start,hf,hc,TS.as,TF.fr]
      rw [e1];refine⟨fr'.fn,⟨fr'.tm.1,fun t a e=>?_⟩,fr'.todo,fr'.defers,fr'.mode,fr'.kind,fr'.round⟩;have h1:=aAF (vF e);have hlt:= (List.getElem?_eq_some_iff.1 h1).1;have h2: (cT .leaf 0 args).at t=some a:=by
       unfold cT;rw [bW,if_pos hlt];exact h1
      exact fr'.tm.2 t a h2
     have e2 : (start P f args).as.cs = [] := by unfold start;split; · split<;>rfl
                                                 ·rfl
     have e3 : (start P f args).as.h = ⟨.leaf, 0⟩ := by unfold start;split; · split<;>rfl
                                                        ·rfl
     unfold aQv at h0;split at h0
     · rename_i s1 qs h1;split at h0
       · rename_i hcs hkd hmo hro hde;split at h0
         · rename_i fd hfd;split at h0
           · rename_i v hrs;simp only [Option.some.injEq,Prod.mk.injEq]at h0;obtain⟨rfl,hfn,rfl⟩ :=h0;have hl:LeadsM P 0 (start P f args).as s1:=hM h1 (fun p hpp=>hps.mem p hpp);obtain⟨E',g,ccs,w',s2,f2,fs2,r2,x⟩ :=hl (by rw [e3];exact Nat.le_refl _) (embOf w) _ [] w base f1 (by rw [e2];rfl) (by rw [e3];exact aFQ w);rw [hcs]at fs2;have:=fs2.nil_inv;subst this;obtain⟨cv,g1,g2⟩ :=oR r2 f2.tm hrs;simp only [yZ,VR]at g2;subst g2;have fm:=f2.mode;rw [hmo]at fm;simp only [MR]at fm;have fdd:=f2.defers;rw [hde]at fdd;rw [e3]at x;have hno:∀ {b o},¬ (⟨.leaf,0⟩ :Hp).look b=some o:=fun {b o} e=>by simp [Hp.look,T.at_leaf]at e
             refine⟨.returned (.bool b),w',g,⟨rfl,⟨x.os,x.output,fun i hi=>?_⟩,x.froz,x.size⟩,s2,by rw [f2.fn,hfn],fm,fdd.nil_inv,by rw [f2.kind,hkd],fd,by rw [f2.fn];exact hfd,g1⟩;have:=x.keep i hi (fun b o L e=>absurd e hno);rw [this];cases w.heap[i]? with
             |none=>rfl
             |some ob=>cases ob<;>simp
           ·cases h0
         ·cases h0
       ·cases h0
     ·cases h0
   ·cases hb
 ·cases hb
theorem aCG {f : Nat} {args : List AV} {is : List Ins}{b:Bool}{ps:List Prop}{cargs:List Value}{t:TS}(hb:jE P f=true)(hk:keylessL args=true)(hl0:LeadsM P 0 (start P f args).as t.as)(h0:aQv P is t=some (.bool b,f,ps))(hps:AllP ps)(w:World)(hv:VRs (embOf w) args cargs) :
  Calls P f ⟨cargs⟩ w fun e w'=>e= .returned (.bool b) ∧GrownO w w':=by
 intro base;unfold jE at hb;split at hb
 · rename_i fn hf;split at hb
   · rename_i c hc;have hg:cE P f args .normal=some ⟨f,cT .leaf 0 args,max fn.ntmps args.length,[.code c],[],.run,.normal,none⟩ :=by simp [cE,hf,hc]
     have fr':FR (embOf w) _ (Frame.enter P f ⟨cargs⟩ .normal) :=fM hg hv;have f1:FR (embOf w) (start P f args).as.fr (Frame.enter P f ⟨cargs⟩ .normal) :=by
      have e1: (start P f args).as.fr= ⟨f,mkT ((range args.length).zip args),max fn.ntmps args.length,[.code c],[],.run,.normal,none⟩ :=by simp [start,hf,hc,TS.as,TF.fr]
      rw [e1];refine⟨fr'.fn,⟨fr'.tm.1,fun t a e=>?_⟩,fr'.todo,fr'.defers,fr'.mode,fr'.kind,fr'.round⟩;have h1:=aAF (vF e);have hlt:= (List.getElem?_eq_some_iff.1 h1).1;have h2: (cT .leaf 0 args).at t=some a:=by
       unfold cT;rw [bW,if_pos hlt];exact h1
      exact fr'.tm.2 t a h2
     have e2 : (start P f args).as.cs = [] := by unfold start;split; · split<;>rfl
                                                 ·rfl
     have e3 : (start P f args).as.h = ⟨.leaf, 0⟩ := by unfold start;split; · split<;>rfl
                                                        ·rfl
     unfold aQv at h0;split at h0
     · rename_i s1 qs h1;split at h0
       · rename_i hcs hkd hmo hro hde;split at h0
         · rename_i fd hfd;split at h0
           · rename_i v hrs;simp only [Option.some.injEq,Prod.mk.injEq]at h0;obtain⟨rfl,hfn,rfl⟩ :=h0;have hl:LeadsM P 0 (start P f args).as s1:=hl0.trans (hM h1 (fun p hpp=>hps.mem p hpp));obtain⟨E',g,ccs,w',s2,f2,fs2,r2,x⟩ :=hl (by rw [e3];exact Nat.le_refl _) (embOf w) _ [] w base f1 (by rw [e2];rfl) (by rw [e3];exact aFQ w);rw [hcs]at fs2;have:=fs2.nil_inv;subst this;obtain⟨cv,g1,g2⟩ :=oR r2 f2.tm hrs;simp only [yZ,VR]at g2;subst g2;have fm:=f2.mode;rw [hmo]at fm;simp only [MR]at fm;have fdd:=f2.defers;rw [hde]at fdd;rw [e3]at x;have hno:∀ {b o},¬ (⟨.leaf,0⟩ :Hp).look b=some o:=fun {b o} e=>by simp [Hp.look,T.at_leaf]at e
             refine⟨.returned (.bool b),w',g,⟨rfl,⟨x.os,x.output,fun i hi=>?_⟩,x.froz,x.size⟩,s2,by rw [f2.fn,hfn],fm,fdd.nil_inv,by rw [f2.kind,hkd],fd,by rw [f2.fn];exact hfd,g1⟩;have:=x.keep i hi (fun b o L e=>absurd e hno);rw [this];cases w.heap[i]? with
             |none=>rfl
             |some ob=>cases ob<;>simp
           ·cases h0
         ·cases h0
       ·cases h0
     ·cases h0
   ·cases hb
 ·cases hb
theorem cW {f:Nat}{args:List AV}{b:Bool}{cargs:List Value}(L:List Pf)(is:List Ins)(w:World)(hv:VRs (embOf w) args cargs)(hb:jE P f=true:=by kernel_rfl)(hk:keylessL args=true:=by kernel_rfl)(h0:aQv P is (start P f args) =some (.bool b,f,L.map Pf.p) :=by kernel_rfl) :
    Calls P f ⟨cargs⟩ w fun e w'=>e= .returned (.bool b) ∧GrownO w w':=aIH hb hk h0 (aRf L) w hv
theorem cL {f:Nat}{args:List AV}{b:Bool}{cargs:List Value}{t:TS}(hl:LeadsM P 0 (start P f args).as t.as)(L:List Pf)(is:List Ins)(w:World)(hv:VRs (embOf w) args cargs)(hb:jE P f=true:=by kernel_rfl)(hk:keylessL args=true:=by kernel_rfl)(h0:aQv P is t=some (.bool b,f,L.map Pf.p) :=by kernel_rfl) :
    Calls P f ⟨cargs⟩ w fun e w'=>e= .returned (.bool b) ∧GrownO w w':=aCG hb hk hl h0 (aRf L) w hv
end
theorem aQw {x:Node}(h:aK0 x) :aVT x:= ⟨by have:=h.1;omega,by have:=h.2;omega⟩
theorem xA :FitP yT:= ⟨by simp [yT],by simp [yT],by simp [yT],fun x hx=>by cases hx⟩
theorem aQx {l:List LUnit}(hu:∀u∈l,FewU u) :FitP (wC l).1:=by
 unfold wC;split
 · rename_i h0;obtain⟨hl10,hg⟩ :=mS hu h0;split
   ·exact xA
   · rename_i c hc;split
     · split
       · rename_i h6;have hp:=aZr (ls:=[]) (cs:=c) hl10 hg (by simp);have h1:=hp.len;have h2:=hp.funs;exact⟨by dsimp only;omega,by simp;omega,by dsimp only;omega,fun x hx=>aQw (hp.fit x hx)⟩
       ·exact xA
     ·exact xA
 ·exact xA
def aB1(a:List LUnit)(c d:Int)(e:List LPlace)(f:List Node)(g:List Int)(i:Int)(j:List Con)(k:Int)(b:List aC):TS:=⟨(tf 8 195 [(0,(.ilst 5 (map LUnit.av a) false)),(1,(nI c)),(2,(nI d)),(6,(bV false)),kp 7 0,(9,(.ilst 2 (map LPlace.av e) false)),(11,(.gl 1 1 0 b.length false)),(95,(.ilst 5 (map LUnit.av a) false)),(96,(nI (a.length:Int))),(97,(nI k))] [kc Tryz.f8 4084,kl Tryz.f8 4084,.inBlock 0,kc Tryz.f8 511]),[],[oC 0 [(iN f),(iI g),(nI i),(iC j)],oL 1 1 (map aB b)],2⟩
def aUo (a:List LUnit)(c f:Int):=fun l i b j d k g e o p q r s m t u v w x y z A B n C D=>(tT 0 (start PP 8 [(.ilst 5 (map LUnit.av a) false),(nI c),(nI f)])<|fQ 8 35 [(.ilst 5 (map LUnit.av a) false)]<|fun l=>.b 2 18 (!l) .x<|gd 4 22 (c<0) .x<|gl 2 LUnit.av a<|gd 3 28 (c≥ (a.length:Int)) .x<|gd 4 32 (f<0) .x<|gX LUnit.av 3 a c<|fun i=>gl 2 LFun.av i.funs<|gd 3 41 (f≥ (i.funs.length:Int)) .x<|.y fun b:Prog=>.y fun j:Int=>gp 5 24 [(.ilst 5 (map LUnit.av a) false)] (.tup [(Prog.av b),(nI j)])<|.y fun d:List LPlace=>.y fun k:Int=>gp 10 17 [(.ilst 5 (map LUnit.av a) false)] (.tup [(.ilst 2 (map LPlace.av d) false),(nI k)])<|.b 12 54 (j != 0) .x<|.y fun g:Bool=>.y fun e:LPlace=>.i [rn 4,.reg (rd 3 (.b 62 false::.d::.ans (.len (d.length:Int))::.d::.ans (.len (a.length:Int))::rd 3 (.b 69 false::.d::.pure (bV g)::rd 3 (.b 74 false::.d::.d::.ans (.idx (LPlace.av e))::rd 5 (.b 82 false::.d::.d::.ans (.idx (LPlace.av e))::rd 4 (.ans (.len (b.funs.length:Int))::rd 4 []))))))] [hA ((k != 0) =false),hl LPlace.av d,hl LUnit.av a,hA (((d.length:Int) != (a.length:Int)) =false),hA (Pure PP 38 [(Prog.av b)] (bV g)),hA ((!g) =false),hA (0≤c),.a (((d)[c.toNat]?) =some e) (bS (f:=LPlace.av)),hA (decide (e.funs<0) =false),hA (0≤c),.a (((d)[c.toNat]?) =some e) (bS (f:=LPlace.av)),hl aP b.funs]<|gd 0 94 (e.funs≥ (IntKind.i64.wrap ((b.funs.length:Int) -f))) .x<|gl 10 LUnit.av a<|.i [rn 4,.nilL 11 1] []<|gu 0 1 (map aB ([] :List aC))<|gs 0 11 (.gl 1 1 0 ([] :List aC).length false)<|.W 0 2 [0,1] (aB1 a c f d b.nodes b.funs b.main b.cons 0 ([] :List aC))) l o|>.f p|>.f q|>.f r|>.f s i m t|>.f u b j v d k w|>.f x g e y z A B m n C m n|>.f D ⟨kk,trivial⟩
def aYA (d:List LUnit)(f g:Int)(i:List LPlace)(j:List Node)(k:List Int)(l:Int)(m:List Con)(b:Int)(e:List aC):=fun a c n o p q r s=>(tT 0 (aB1 d f g i j k l m b e)<|gd 5 98 (b< (d.length:Int)) (gX LUnit.av 6 d b<|fun a=>.y fun c:List aC=>gp 7 39 [(.agg [(aB a.name),(iC a.cons),(.ilst 2 (map LFun.av a.funs) false),(iS a.needs),(iN a.nodes)])] (iS c)<|ga 0 aB e c<|gw 5 105 (b+1)<|.W 3 4 [0,3] (aB1 d f g i j k l m (b+1) (e++c))) .x)|>.t n a o p c q r s ⟨kk,trivial⟩
theorem aYB (l:List LUnit)(n fi:Int)(y0 y1:Bool)(h0:Pure PP 35 [(.ilst 5 (map LUnit.av l) false)] (bV y0))(h1: (!y0) =true)(h2:Pure PP 14 [] (bV y1)) :
  ∀ (w:World) (cargs:List Value),VRs (embOf w) [.ilst 5 (map LUnit.av l) false,.int .i64 n,.int .i64 fi] cargs→Calls PP 8 ⟨cargs⟩ w fun e w'=>e= .returned (.bool y1) ∧GrownO w w':=
 fun w cargs hv=>cW [qp h0,qp h1,qp h2] [rn 8,pB y0,rn 2,bt 18,rn 27,pB y1,rn 3] w hv
theorem aYC (l:List LUnit)(n fi:Int)(y0 y1:Bool)(h0:Pure PP 35 [(.ilst 5 (map LUnit.av l) false)] (bV y0))(h1: (!y0) =false)(h2:decide (n< (0:Int)) =true)(h3:Pure PP 14 [] (bV y1)) :
  ∀ (w:World) (cargs:List Value),VRs (embOf w) [.ilst 5 (map LUnit.av l) false,.int .i64 n,.int .i64 fi] cargs→Calls PP 8 ⟨cargs⟩ w fun e w'=>e= .returned (.bool y1) ∧GrownO w w':=
 fun w cargs hv=>cW [qp h0,qp h1,qp h2,qp h3] [rn 8,pB y0,rn 2,bf 18,rn 4,bt 22,rn 23,pB y1,rn 3] w hv
theorem aYD (l:List LUnit)(n fi:Int)(y0 y1:Bool)(h0:Pure PP 35 [(.ilst 5 (map LUnit.av l) false)] (bV y0))(h1: (!y0) =false)(h2:decide (n< (0:Int)) =false)(h3:decide (n≥ (l.length:Int)) =true)(h4:Pure PP 14 [] (bV y1)) :
  ∀ (w:World) (cargs:List Value),VRs (embOf w) [.ilst 5 (map LUnit.av l) false,.int .i64 n,.int .i64 fi] cargs→Calls PP 8 ⟨cargs⟩ w fun e w'=>e= .returned (.bool y1) ∧GrownO w w':=
 fun w cargs hv=>cW [qp h0,qp h1,qp h2,ql LUnit.av l,qp h3,qp h4] [rn 8,pB y0,rn 2,bf 18,rn 4,bf 22,rn 2,aL l,rn 3,bt 28,rn 17,pB y1,rn 3] w hv
theorem aYE (l:List LUnit)(n fi:Int)(y0 y1:Bool)(h0:Pure PP 35 [(.ilst 5 (map LUnit.av l) false)] (bV y0))(h1: (!y0) =false)(h2:decide (n< (0:Int)) =false)(h3:decide (n≥ (l.length:Int)) =false)(h4:decide (fi< (0:Int)) =true)(h5:Pure PP 14 [] (bV y1)) :
  ∀ (w:World) (cargs:List Value),VRs (embOf w) [.ilst 5 (map LUnit.av l) false,.int .i64 n,.int .i64 fi] cargs→Calls PP 8 ⟨cargs⟩ w fun e w'=>e= .returned (.bool y1) ∧GrownO w w':=
 fun w cargs hv=>cW [qp h0,qp h1,qp h2,ql LUnit.av l,qp h3,qp h4,qp h5] [rn 8,pB y0,rn 2,bf 18,rn 4,bf 22,rn 2,aL l,rn 3,bf 28,rn 4,bt 32,rn 13,pB y1,rn 3] w hv
theorem aYF (l:List LUnit)(n fi:Int)(y0:Bool)(y1:LUnit)(y2:Bool)(h0:Pure PP 35 [(.ilst 5 (map LUnit.av l) false)] (bV y0))(h1: (!y0) =false)(h2:decide (n< (0:Int)) =false)(h3:decide (n≥ (l.length:Int)) =false)(h4:decide (fi< (0:Int)) =false)(h5:0≤n)(h6: ((l)[n.toNat]?) =some y1)(h7:decide (fi≥ (y1.funs.length:Int)) =true)(h8:Pure PP 14 [] (bV y2)) :
  ∀ (w:World) (cargs:List Value),VRs (embOf w) [.ilst 5 (map LUnit.av l) false,.int .i64 n,.int .i64 fi] cargs→Calls PP 8 ⟨cargs⟩ w fun e w'=>e= .returned (.bool y2) ∧GrownO w w':=
 fun w cargs hv=>cW [qp h0,qp h1,qp h2,ql LUnit.av l,qp h3,qp h4,qp h5,qg LUnit.av h6,ql LFun.av y1.funs,qp h7,qp h8] [rn 8,pB y0,rn 2,bf 18,rn 4,bf 22,rn 2,aL l,rn 3,bf 28,rn 4,bf 32,rn 3,aI (LUnit.av y1),rn 2,aL y1.funs,rn 3,bt 41,rn 3,pB y2,rn 3] w hv
theorem aYG (l:List LUnit)(n fi:Int)(y0:Bool)(y1:LUnit)(y2:Prog)(y3:Int)(y4:List LPlace)(y5:Int)(y6:Bool)(h0:Pure PP 35 [(.ilst 5 (map LUnit.av l) false)] (bV y0))(h1: (!y0) =false)(h2:decide (n< (0:Int)) =false)(h3:decide (n≥ (l.length:Int)) =false)(h4:decide (fi< (0:Int)) =false)(h5:0≤n)(h6: ((l)[n.toNat]?) =some y1)(h7:decide (fi≥ (y1.funs.length:Int)) =false)(h8:Pure PP 24 [(.ilst 5 (map LUnit.av l) false)] (.tup [(Prog.av y2),(nI y3)]))(h9:Pure PP 17 [(.ilst 5 (map LUnit.av l) false)] (.tup [(.ilst 2 (map LPlace.av y4) false),(nI y5)]))(h10: (y3 != (0:Int)) =true)(h11: (y5== (0:Int)) =true)(h12:Pure PP 14 [] (bV y6)) :
  ∀ (w:World) (cargs:List Value),VRs (embOf w) [.ilst 5 (map LUnit.av l) false,.int .i64 n,.int .i64 fi] cargs→Calls PP 8 ⟨cargs⟩ w fun e w'=>e= .returned (.bool y6) ∧GrownO w w':=
 fun w cargs hv=>cW [qp h0,qp h1,qp h2,ql LUnit.av l,qp h3,qp h4,qp h5,qg LUnit.av h6,ql LFun.av y1.funs,qp h7,qp h8,qp h9,qp h10,qp h11,qp h12] [rn 8,pB y0,rn 2,bf 18,rn 4,bf 22,rn 2,aL l,rn 3,bf 28,rn 4,bf 32,rn 3,aI (LUnit.av y1),rn 2,aL y1.funs,rn 3,bf 41,rn 5,.pure (.tup [(Prog.av y2),(nI y3)]),rn 10,.pure (.tup [(.ilst 2 (map LPlace.av y4) false),(nI y5)]),rn 12,bt 54,rn 6,bt 57,pB y6,rn 4] w hv
theorem aYH (l:List LUnit)(n fi:Int)(vy4:List LPlace)(c0_0:List Node)(c0_1:List Int)(c0_2:Int)(c0_3:List Con)(t97:Int)(l1:List aC)(y0:aC)(y1:LPlace)(y2:aC)(y3:LUnit)(y4:LFun)(y5:Int)(y6 y7:Bool)(y8:Int)(y9:Bool)(h0:decide (t97< (l.length:Int)) =false)(h1: ((l1.length:Int) != (c0_1.length:Int)) =false)(h2:0≤c0_2)(h3: ((l1)[c0_2.toNat]?) =some y0)(h4: (!(bF y0.length (aA y0) 4 1852399981)) =false)(h5:0≤n)(h6: ((vy4)[n.toNat]?) =some y1)(h7:0≤ (IntKind.i64.wrap (y1.funs+fi)))(h8: ((l1)[(IntKind.i64.wrap (y1.funs+fi)).toNat]?) =some y2)(h9: ((l)[n.toNat]?) =some y3)(h10:0≤fi)(h11: ((y3.funs)[fi.toNat]?) =some y4)(h12: (!(bF y2.length (aA y2) y4.name.length (aA y4.name))) =false)(h13: ((c0_1)[(IntKind.i64.wrap (y1.funs+fi)).toNat]?) =some y5)(h14:Pure PP 40 [(.agg [(aB y3.name),(iC y3.cons),(.ilst 2 (map LFun.av y3.funs) false),(iS y3.needs),(iN y3.nodes),(iN c0_0),(iI c0_1),(nI c0_2),(iC c0_3),(iS l1)]),(nI y4.body),(nI y5)] (bV y6))(h15:y6=true)(h16:Pure PP 41 [(.agg [(iN c0_0),(iI c0_1),(nI c0_2),(iC c0_3)])] (bV y7))(h17:y7=true)(h18:0≤y1.funs)(h19: ((c0_1)[y1.funs.toNat]?) =some y8)(h20: (y8==y1.nodes) =true)(h21:Pure PP 14 [] (bV y9))(hl:LeadsM PP 0 (start PP 8 [.ilst 5 (map LUnit.av l) false,.int .i64 n,.int .i64 fi]).as (aB1 l n fi vy4 c0_0 c0_1 c0_2 c0_3 t97 l1).as) :
  ∀ (w:World) (cargs:List Value),VRs (embOf w) [.ilst 5 (map LUnit.av l) false,.int .i64 n,.int .i64 fi] cargs→Calls PP 8 ⟨cargs⟩ w fun e w'=>e= .returned (.bool y9) ∧GrownO w w':=
 fun w cargs hv=>cL hl [qp h0,qp (p:=keylessL (map aB l1) =true) (aJ _ (fun _=>rfl) _),qp (p:=AV.frzOk 1 1 (map aB l1) (map aB l1) (.gl 1 1 0 l1.length false)) (aBD _ _),ql aB l1,ql aP c0_1,qp h1,qp h2,qg aB h3,qp h4,qp h5,qg LPlace.av h6,qp h7,qg aB h8,qp h5,qg LUnit.av h9,qp h10,qg LFun.av h11,qp h12,qp h5,qg LUnit.av h9,qp h5,qg LUnit.av h9,qp h10,qg LFun.av h11,qp h5,qg LPlace.av h6,qp h7,qg aP h13,qp h14,qp h15,qp h16,qp h17,qp h5,qg LPlace.av h6,qp h18,qg aP h19,qp h5,qg LPlace.av h6,qp h20,qp h21] [rn 5,bf 98,rn 4,.frz 11 1 (map aB l1),.reg [.d,.ans (.len (l1.length:Int)),.d,.d,.ans (.len (c0_1.length:Int)),.d,.d,.b 112 false,.d,.d,.d,.ans (.idx (aB y0)),.d,.d,.d,.d,.b 120 false,.d,.d,.d,.ans (.idx (LPlace.av y1)),.d,.d,.d,.d,.ans (.idx (aB y2)),.d,.d,.d,.ans (.idx (LUnit.av y3)),.d,.d,.d,.ans (.idx (LFun.av y4)),.d,.d,.d,.d],bf 141,rn 3,.reg [.d,.d,.ans (.idx (LUnit.av y3)),.d,.d,.d,.d,.d,.d],rn 1,.reg [.d,.d,.d,.ans (.idx (LUnit.av y3)),.d,.d,.d,.ans (.idx (LFun.av y4)),.d,.d,.d,.d,.d,.d,.ans (.idx (LPlace.av y1)),.d,.d,.d,.d,.ans (.idx (aP y5)),.d,.pure (bV y6),.d,.b 171 true,.d,.pure (bV y7),.d,.d,.b 175 true,.d,.d,.d,.d,.ans (.idx (LPlace.av y1)),.d,.d,.ans (.idx (aP y8)),.d,.d,.d,.ans (.idx (LPlace.av y1)),.d,.d,.d,.d,.d,.b 192 true,.pure (bV y9),.d,.d],rn 1] w hv
theorem aUp {α:Type}{l:List α}{k:Nat}{x:α}(h:l[k]?=some x) :∃l1 l2,l=l1++x::l2∧l1.length=k:=by
 obtain⟨hk,rfl⟩ :=List.getElem?_eq_some_iff.1 h;exact⟨l.take k,l.drop (k+1),by rw [←List.drop_eq_getElem_cons hk,List.take_append_drop],by simp;omega⟩
theorem aLl (l:List LUnit)(n fi:Int)(pl:List LPlace)(a:List Node)(b:List Int)(c:Int)(d:List Con)(hl:l.length≤11)(hu:∀u∈l,u.funs.length≤30) :∀ (t:List LUnit) (i:Nat) (acc:List aC),l.drop i=t→i≤l.length→acc.length≤30*i →
  LeadsM PP 0 (aB1 l n fi pl a b c d (i:Int) acc).as (aB1 l n fi pl a b c d (l.length:Int) (acc++bI t)).as
 | [],i,acc,h,hi,ha=>by
  have:=bD h;rw [show i=l.length by omega,show bI [] = []from rfl,List.append_nil];exact LeadsM.refl _
 | u::t,i,acc,h,_,ha=>by
  obtain⟨q1,q2,q3⟩ :=bC h;have hi:= (List.getElem?_eq_some_iff.1 q1).1;have hf:=hu u (mem_of_getElem? q1);have hn: (aE u).length≤30:=by simp [aE];omega
  have ih:=aLl l n fi pl a b c d hl hu t (i+1) (acc++aE u) q2 (by omega) (by simp;omega);rw [List.append_assoc]at ih;exact(aYA l n fi pl a b c d i acc u (aE u) sd sd sd (aKL u (by omega)) (by simp;omega) sd).trans ih
theorem aUq {u:LUnit}(h:GoodU u){f:Int}(hf: (bO u)[0]?=some f)(off:Nat) :eD (toL (dF u) off) f= (off:Int) :=by
 have hw:=mT h;have hr:=hw.fine.funs f (mem_of_getElem? hf);have e: (dM (dF u))[0]?=some f:=by
  unfold dM
  change (((bO u).map (pre (dF u) u.nodes.length)).flatten)[0]?=some f
  cases hb:bO u with
  |nil=>rw [hb]at hf;simp at hf
  | cons g r=>
   rw [hb]at hf;simp at hf;obtain⟨y,k,_,_,h3⟩ :=vU hw.fine (f:=u.nodes.length) (a:=f) hr.1 hr.2 (by change u.nodes.length-f.toNat≤u.nodes.length;omega);rw [List.map_cons,List.flatten_cons,hf,h3];rfl
 rw [hw.toL off 0 f e];simp
theorem aUr {l:List LUnit}{cs:List Con}(h:LinkOk l cs){l1 l2:List LUnit}{u:LUnit}(hl:l=l1++u::l2) :MvOk ⟨u,fH l cs,bI l⟩ (aT l1) (mfU (bI l) [] u) (mcU cs u) (toL (dF u) (aT l1)) :=by
 have hu:u∈l:=by rw [hl];simp
 have hal:=aC6 l h.good;have hsz:=h.size;refine⟨h.good u hu,h.laid hl,fun i d hd=>aOy h.cons hu hd,fun i h0 h1=>?_⟩;obtain⟨s,hs,e⟩ :=aNj (T:=bI l) (ls:=[]) (u:=u) h0 h1;have:=aLg (ls:=[]) (h.own hu (mem_of_getElem? hs));rw [←e]at this;exact⟨s,hs,this.1,by omega,this.2.2⟩
theorem lMoves_calls (l:List LUnit)(hn:∀u∈l,NumU u)(n fi:Int)(hfi: -9223372036854775808≤fi∧fi≤9223372036854775807)(hk:Pure PP 14 [] (.bool true)) :
  ∀ (w:World) (cargs:List Value),VRs (embOf w) [.ilst 5 (map LUnit.av l) false,.int .i64 n,.int .i64 fi] cargs→Calls PP 8 ⟨cargs⟩ w fun e w'=>e= .returned (.bool true) ∧GrownO w w':=by
 have h0:=aNF l;cases e:iJ l&&iL l with
 |false=>rw [e]at h0;exact aYB l n fi false true h0 rfl hk
 | true=>
  rw [e]at h0;rw [Bool.and_eq_true]at e;obtain⟨h11,hs⟩ :=aCs e.1;have hf:∀u∈l,FewU u:=fun u h=>aEt (hs u h);have hfn:∀u∈l,FewU u∧NumU u:=fun u h=> ⟨hf u h,hn u h⟩;by_cases c1:n<0
  ·exact aYC l n fi true true h0 rfl (by simp;omega) hk
  by_cases c2:n≥l.length
  ·exact aYD l n fi true true h0 rfl (by simp;omega) (by simp;omega) hk
  by_cases c3:fi<0
  ·exact aYE l n fi true true h0 rfl (by simp;omega) (by simp;omega) (by simp;omega) hk
  obtain⟨u,hu⟩ :∃u,l[n.toNat]?=some u:= ⟨_,getElem?_eq_getElem (by omega)⟩;have hum:=mem_of_getElem? hu;by_cases c4:fi≥u.funs.length
  ·exact aYF l n fi true u true h0 rfl (by simp;omega) (by simp;omega) (by simp;omega) (by omega) hu (by simp;omega) hk
  have hL:=aNA l h11 hfn;have hP:=aIG l h11 hfn e.2;rcases aLf hf with⟨z1,z2⟩ | ⟨cs,ok,z⟩
  ·exact aYG l n fi true u (wC l).1 (wC l).2 (iM 0 0 l) 0 true h0 rfl (by simp;omega) (by simp;omega) (by simp;omega) (by omega) hu (by simp;omega) hL hP (by simpa using z2) rfl hk
  · have hfit:=aQx hf;rw [z]at hL hfit;obtain⟨l1,l2,hl,hlen⟩ :=aUp hu;have hfs:=ok.fs;have hF:Pure PP 38 [Prog.av (fH l cs)] (.bool (aY (fH l cs))) :=sH _ hfs.sm;rw [hfs.fo]at hF;have hpl:=aEY l1 l2 u 0 0;rw [←hl,hlen]at hpl;have hal:=aC6 l ok.good;have hsz:=ok.size;have hallU:bI l=bI l1++ (aE u++bI l2) :=by rw [hl];simp [bI]
    have hfl: (fH l cs).funs.length= (bI l).length:=mZ l 0;have hun: (aE u).length=u.funs.length:=by simp [aE]
    have hlk: (bI l).length= (bI l1).length+ (u.funs.length+ (bI l2).length) :=by rw [hallU];simp [hun]
    have st:=aUo l n fi true u (fH l cs) 0 (iM 0 0 l) 0 true _ h0 rfl (by simp;omega) (by simp;omega) (by simp;omega) (by omega) hu (by simp;omega) hL hP rfl rfl (by rw [aCy];simp) hF rfl hpl (by simp) (by rw [wrap64 (by omega) (by omega),hfl];simp;omega);have st:=st.trans (aLl l n fi (iM 0 0 l) (fH l cs).nodes (fH l cs).funs (fH l cs).main (fH l cs).cons h11 (fun u h=> (hf u h).f) l 0 [] rfl (by omega) (by simp));rw [List.nil_append]at st;have hmain: (bI l)[((fH l cs).main).toNat]?=some gW∧0≤ (fH l cs).main:=by
     have g:¬dR gW (bI l) 0<0:=fun g=>ok.main ((qO gW l 0).2 ((lD gW (bI l) 0).1 g));rcases hY gW (bI l) 0 with r| ⟨r1,r2,r3⟩
     ·omega
     ·exact⟨by show(bI l)[(dR gW (bI l) 0).toNat]?=some gW;simpa using r3,by show 0≤dR gW (bI l) 0;omega⟩
    obtain⟨f,hfe⟩ :∃f,u.funs[fi.toNat]?=some f:= ⟨_,getElem?_eq_getElem (by omega)⟩;have ew:IntKind.i64.wrap ((((0+ (bI l1).length:Nat)) :Int) +fi) = (((bI l1).length+fi.toNat:Nat) :Int) :=by rw [wrap64 (by omega) (by omega)];omega
    have e8: (bI l)[(bI l1).length+fi.toNat]?=some f.name:=by
     rw [hallU,List.getElem?_append_right (by omega),show(bI l1).length+fi.toNat- (bI l1).length=fi.toNat by omega,List.getElem?_append_left (by omega)];unfold aE;rw [getElem?_map,hfe];rfl
    have eB: (fH l cs).funs=iY 0 l1++ (aIr (aT l1) u++iY (aT l1+u.nodes.length) l2) :=by
     show iY 0 l=_;rw [hl,aGv,iY,Nat.zero_add]
    have e13:∀k:Nat,∀g:LFun,u.funs[k]?=some g→ (fH l cs).funs[(bI l1).length+k]?=some (eD (toL (dF u) (aT l1)) g.body) :=fun k g hg=>by
     have hlt:= (List.getElem?_eq_some_iff.1 hg).1;rw [eB,List.getElem?_append_right (by rw [mZ];omega),mZ,show(bI l1).length+k- (bI l1).length=k by omega,List.getElem?_append_left (by rw [←aEL];omega)];unfold aIr bO;rw [getElem?_map,getElem?_map,hg];rfl
    obtain⟨f0,hf0⟩ :∃f0,u.funs[0]?=some f0:= ⟨_,getElem?_eq_getElem (by omega)⟩;have e19:=e13 0 f0 hf0;rw [aUq (ok.good u hum) (f:=f0.body) (by unfold bO;rw [getElem?_map,hf0];rfl)]at e19;have hb:= (mT (ok.good u hum)).fine.funs f.body (by show f.body∈bO u;exact List.mem_map.2 ⟨f,mem_of_getElem? hfe,rfl⟩);have hS:=aLk (aUr ok hl) u.nodes.length f.body hb.1 hb.2 (by change u.nodes.length-f.body.toNat≤u.nodes.length;omega);have hO:=aUm (aMZ (k:= (fH l cs).nodes.length) (by omega) (by have:=ok.c20;show cs.length<1000000;omega) (aNE hfs (by rw [ok.walk,ok.len]))) hfit
    exact aYH l n fi (iM 0 0 l) (fH l cs).nodes (fH l cs).funs (fH l cs).main (fH l cs).cons (l.length:Int) (bI l) gW _ f.name u f _ true true _ true
     (by simp) (by rw [hfl];simp) hmain.2 hmain.1 (by kernel_rfl) (by omega) hpl (by rw [ew];omega) (by rw [ew,Int.toNat_natCast];exact e8) hu (by omega) hfe (by rw [dQ];simp) (by rw [ew,Int.toNat_natCast];exact e13 fi.toNat f hfe) hS rfl hO rfl (by simp) (by simpa using e19) (by simp) hk st
section
variable {H :Type} {enc:TypeId×Value→H} {w:World} {spare:Nat→Bool} {held:Bool}
theorem bBl {α:Type}{cs:List α}(h:cs.length=5) :∃a b c d e,cs= [a,b,c,d,e] :=by
 match cs,h with
 | [a,b,c,d,e],_=>exact⟨a,b,c,d,e,rfl⟩
section
theorem cells49 :Tryz.prog.cellsOf 49=5:=by kernel_rfl
theorem cells47 :Tryz.prog.cellsOf 47=1:=by kernel_rfl
theorem aOB :Tryz.prog.cellsOf 71=2:=by kernel_rfl
theorem cells25 :Tryz.prog.cellsOf 25=1:=by kernel_rfl
abbrev aUs :={x:Node // -9223372036854775808≤x.n∧x.n≤9223372036854775807}
abbrev aZO :={u:LUnit // NumU u}
theorem aNH (fuel:Nat)(cs:List Value)(x:DataW H×List MemPlace)(h:DataW.trod enc Tryz.prog w 0 spare held fuel 98 cs=some x) :∃p:aUs,Elt w 4 (Node.av p.1) cs:=by
 obtain⟨xs,m,rfl,rfl,hl,hlen,hf⟩ :=DataW.trod_struct Tryz.underlying98 h;rw [aN3]at hl;obtain⟨c0,c1,c2,c3,rfl⟩ :=four hl;have h0:DataW.trod enc Tryz.prog w 0 spare held m 95 (([c0,c1,c2,c3].drop 0).take (Tryz.prog.cellsOf 95)) =xs[0]?:=hf 0 _ rfl;have h1:DataW.trod enc Tryz.prog w 0 spare held m 3 (([c0,c1,c2,c3].drop 1).take (Tryz.prog.cellsOf 3)) =xs[1]?:=hf 1 _ rfl;have h2:DataW.trod enc Tryz.prog w 0 spare held m 29 (([c0,c1,c2,c3].drop 2).take (Tryz.prog.cellsOf 29)) =xs[2]?:=hf 2 _ rfl;have h3:DataW.trod enc Tryz.prog w 0 spare held m 96 (([c0,c1,c2,c3].drop 3).take (Tryz.prog.cellsOf 96)) =xs[3]?:=hf 3 _ rfl;simp only [aUW,cells3,cells29,aN2,drop,take]at h0 h1 h2 h3;obtain⟨x0,h0⟩ :=got h0 hlen (by decide);obtain⟨x1,h1⟩ :=got h1 hlen (by decide);obtain⟨x2,h2⟩ :=got h2 hlen (by decide);obtain⟨x3,h3⟩ :=got h3 hlen (by decide);obtain⟨f,e0⟩ :=qB Tryz.underlying95 h0;obtain⟨n,e1,hw⟩ :=DataW.trod_int Tryz.underlying3 h1;obtain⟨ks,c,e2,v2⟩ :=aOR h2;obtain⟨ps,c',e3,v3⟩ :=hU Pat.av Tryz.underlying96 aD1 (by omega) h3 (fun fu _ cs x hx=>aRr fu cs x hx);cases e0;cases e1;cases e2;cases e3;have hr: -9223372036854775808≤n∧n≤9223372036854775807:=by
  have e1:IntKind.i64.min= -9223372036854775808:=by decide
  have e2:IntKind.i64.max=9223372036854775807:=by decide
  have hw:=hw.2;simp only [Lit.wf,Bool.and_eq_true,decide_eq_true_eq]at hw;omega
 refine⟨⟨⟨f,n,ks,ps⟩,hr⟩,?_⟩;simp only [Node.av,aD];refine aAS (VRs.cons (by simp only [VR]) (VRs.cons (by simp only [VR]) (VRs.cons v2 (VRs.cons v3 (VRs.nil _))))) ?_;rfl
theorem aQy (fuel:Nat)(cs:List Value)(x:DataW H×List MemPlace)(h:DataW.trod enc Tryz.prog w 0 spare held fuel 71 cs=some x) :∃p:LFun,Elt w 2 (LFun.av p) cs:=by
 obtain⟨xs,m,rfl,rfl,hl,hlen,hf⟩ :=DataW.trod_struct Tryz.underlying71 h;rw [aOB]at hl;obtain⟨c0,c1,rfl⟩ :=two hl;have h0:DataW.trod enc Tryz.prog w 0 spare held m 9 (([c0,c1].drop 0).take (Tryz.prog.cellsOf 9)) =xs[0]?:=hf 0 _ rfl;have h1:DataW.trod enc Tryz.prog w 0 spare held m 3 (([c0,c1].drop 1).take (Tryz.prog.cellsOf 3)) =xs[1]?:=hf 1 _ rfl;simp only [cells9,cells3,drop,take]at h0 h1;obtain⟨x0,h0⟩ :=got h0 hlen (by decide);obtain⟨x1,h1⟩ :=got h1 hlen (by decide);obtain⟨s,c,e0,v0⟩ :=vL Tryz.underlying9 h0;obtain⟨n,e1⟩ :=qB Tryz.underlying3 h1;cases e0;cases e1;refine⟨⟨s,n⟩,?_⟩;simp only [LFun.av];refine aAS (VRs.cons v0 (VRs.cons (by simp only [VR]) (VRs.nil _))) ?_;rfl
theorem aQz {fuel:Nat}{cs:List Value}{x:DataW H×List MemPlace}(h:DataW.trod enc Tryz.prog w 0 spare held fuel 25 cs=some x) :∃ (l:List aC) (c:Value),cs= [c] ∧VR (embOf w) (.ilst 1 (l.map aB) false) c:=
 hU aB Tryz.underlying25 cells9 (by omega) h (fun fu _ cs x hx=>by
  obtain⟨s,c,rfl,v⟩ :=vL Tryz.underlying9 hx;exact⟨s,aN1 v rfl (aRp v rfl)⟩)
theorem aNI (fuel:Nat)(cs:List Value)(x:DataW H×List MemPlace)(h:DataW.trod enc Tryz.prog w 0 spare held fuel 49 cs=some x) :∃p:aZO,Elt w 5 (LUnit.av p.1) cs:=by
 obtain⟨xs,m,rfl,rfl,hl,hlen,hf⟩ :=DataW.trod_struct Tryz.underlying49 h;rw [cells49]at hl;obtain⟨c0,c1,c2,c3,c4,rfl⟩ :=bBl hl;have h0:DataW.trod enc Tryz.prog w 0 spare held m 9 (([c0,c1,c2,c3,c4].drop 0).take (Tryz.prog.cellsOf 9)) =xs[0]?:=hf 0 _ rfl;have h1:DataW.trod enc Tryz.prog w 0 spare held m 41 (([c0,c1,c2,c3,c4].drop 1).take (Tryz.prog.cellsOf 41)) =xs[1]?:=hf 1 _ rfl;have h2:DataW.trod enc Tryz.prog w 0 spare held m 47 (([c0,c1,c2,c3,c4].drop 2).take (Tryz.prog.cellsOf 47)) =xs[2]?:=hf 2 _ rfl;have h3:DataW.trod enc Tryz.prog w 0 spare held m 25 (([c0,c1,c2,c3,c4].drop 3).take (Tryz.prog.cellsOf 25)) =xs[3]?:=hf 3 _ rfl;have h4:DataW.trod enc Tryz.prog w 0 spare held m 40 (([c0,c1,c2,c3,c4].drop 4).take (Tryz.prog.cellsOf 40)) =xs[4]?:=hf 4 _ rfl;simp only [cells9,cells41,cells47,cells25,cells40,drop,take]at h0 h1 h2 h3 h4;obtain⟨x0,h0⟩ :=got h0 hlen (by decide);obtain⟨x1,h1⟩ :=got h1 hlen (by decide);obtain⟨x2,h2⟩ :=got h2 hlen (by decide);obtain⟨x3,h3⟩ :=got h3 hlen (by decide);obtain⟨x4,h4⟩ :=got h4 hlen (by decide);obtain⟨s,c,e0,v0⟩ :=vL Tryz.underlying9 h0;obtain⟨ks,ck,e1,v1⟩ :=hU Con.av Tryz.underlying41 aJn (by omega) h1 (fun fu _ cs x hx=>aRs fu cs x hx);obtain⟨fs,cf,e2,v2⟩ :=hU LFun.av Tryz.underlying47 aOB (by omega) h2 (fun fu _ cs x hx=>aQy fu cs x hx);obtain⟨nd,cn,e3,v3⟩ :=aQz h3;obtain⟨ns,cx,e4,v4⟩ :=hU (fun p:aUs=>Node.av p.1) Tryz.underlying40 aN3 (by omega) h4 (fun fu _ cs x hx=>aNH fu cs x hx);cases e0;cases e1;cases e2;cases e3;cases e4;refine⟨⟨⟨s,ks,fs,nd,ns.map Subtype.val⟩,fun x hx=>?_⟩,?_⟩
 · obtain⟨p,_,rfl⟩ :=List.mem_map.1 hx;exact p.2
 · simp only [LUnit.av];rw [show ns.map (fun p:aUs=>Node.av p.1) =map Node.av (ns.map Subtype.val)by rw [map_map];rfl]at v4;refine aAS (VRs.cons v0 (VRs.cons v1 (VRs.cons v2 (VRs.cons v3 (VRs.cons v4 (VRs.nil _)))))) ?_;rfl
theorem lift_units (fuel:Nat)(cs:List Value)(x:DataW H×List MemPlace)(h:DataW.trod enc Tryz.prog w 0 spare held fuel 22 cs=some x) :∃ (l:List LUnit) (c:Value),(∀u∈l,NumU u) ∧cs= [c] ∧VR (embOf w) (.ilst 5 (map LUnit.av l) false) c:=by
 obtain⟨ys,c,e,v⟩ :=hU (fun p:aZO=>LUnit.av p.1) Tryz.underlying22 cells49 (by omega) h (fun fu _ cs x hx=>aNI fu cs x hx);refine⟨ys.map Subtype.val,c,fun u hu=>?_,e,?_⟩
 · obtain⟨p,_,rfl⟩ :=List.mem_map.1 hu;exact p.2
 ·rw [map_map];exact v
end
end
end
end Go.Hb
