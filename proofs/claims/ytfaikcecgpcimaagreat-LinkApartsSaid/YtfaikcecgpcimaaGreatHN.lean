/- A machine on abstract values, its soundness, ways, plain laws. -/
import Derived.Test.YtfaikcecgpcimaaGreatHF
import Derived.Test.YtfaikcecgpcimaaGreatHG
import Derived.Test.YtfaikcecgpcimaaGreatHK
import Derived.Test.YtfaikcecgpcimaaGreatHL
import Derived.Test.YtfaikcecgpcimaaGreatHM
import Derived.Test.YtfaikcecgpcimaaGreatHH
import Derived.Test.YtfaikcecgpcimaaGreatHI
set_option linter.defProp false
set_option linter.unusedVariables false
set_option linter.unusedSimpArgs false
set_option linter.unusedSectionVars false
set_option maxRecDepth 100000
set_option maxHeartbeats 4000000
namespace Go.Hb
open Bool (and_eq_true)
open List (append_assoc append_nil drop getElem?_eq_getElem getElem?_map length length_append length_cons length_map length_set map map_cons map_map mem_of_getElem? range set take)
open Pats (av)
open Go.Proofs Tryz
noncomputable section
def aRu(b:List Node)(c d:List Int)(a:List ONode)(e f:Int)(g:Str)(i:List Pat):TS:=dO PP 206 [(.ptr 0 0),(.agg [(nI e),(nI f),(avS g),(iP i)])] [oC 0 [(iN b),(.gl 1 4 0 a.length false),(iI c),(iI d)],oL 1 4 (map ONode.av a)] 2
def aDF(d:List Node)(e f:List Int)(a:List ONode)(g k:Int)(l:Str)(b:List Pat)(i j:Int)(c:List Pat):TS:=⟨(tf 206 42 [kp 0 0,kp 4 2,kp 5 3,(26,(iP b)),(27,(nI (b.length:Int))),(28,(nI j))] [kc f206 244,kl f206 244,.inBlock 0,kc f206 31]),[],[oC 0 [(iN d),(.gl 1 4 0 a.length false),(iI e),(iI f)],oL 1 4 (map ONode.av a),oC 2 [(nI 0),(nI 0),(.str 0 0),.nils],oC 3 [(nI g),(nI i),(.str 0 0),(.gl 4 4 0 c.length false)],oL 4 4 (av c)],5⟩
def aRv(b:List Node)(c d:List Int)(a:List ONode)(e:Int):TS:=dO PP 144 [(.ptr 0 0),(nI e)] [oC 0 [(iN b),(.gl 1 4 0 a.length false),(iI c),(iI d)],oL 1 4 (map ONode.av a)] 2
def uT(c:List Node)(d e:List Int)(a:List ONode)(p:Int)(f:List Pat)(g i j:Int)(k:List Int)(l:List Pat)(m n o:Int)(b:List Pat):TS:=⟨(tf 144 94 [kp 0 0,(4,(nI 0)),kp 5 1,kp 6 2,(56,(iP f)),(57,(nI g)),(58,(nI o))] [kc f144 500,kl f144 500,.inBlock 1,kc f144 63]),[],[oC 0 [(iN c),(.gl 3 4 0 a.length false),(iI d),(iI e)],oC 1 [(nI i),(nI j),(iI k),(iP l)],oC 2 [(nI m),(nI n),.nils,(.gl 4 4 0 b.length false)],oL 3 4 (map ONode.av a),oL 4 4 (av b)],5⟩
def aG5(d:List Node)(e f:List Int)(a:List ONode)(i:Int)(b:List Int)(g:Int)(c:List ONode):TS:=⟨(tf 207 39 [kp 0 0,(2,(nI (a.length:Int))),(3,(.func 144 [(.ptr 0 0)] [])),(11,(iI b)),(12,(nI g)),(13,(nI 0))] [kc f207 12,kl f207 12,.inBlock 0]),[(tf 144 94 [(4,(nI 0)),(9,(nI (a.length:Int))),kp 86 0,(88,(iI b)),(89,(nI (a.length:Int))),(91,(.func 144 [(.ptr 0 0)] []))] [ko f144 510 6,kc f144 511])],[oC 0 [(iN d),(.gl 1 4 0 c.length false),(iI e),(iI f)],oL 1 4 (map ONode.av c)],2⟩
def aRw(d:List Node)(e f:List Int)(a:List ONode)(j g:Int)(b:List Int)(i:Int)(c:List ONode):TS:=⟨(tf 207 39 [kp 0 0,(2,(nI (a.length:Int))),(3,(.func 144 [(.ptr 0 0)] [])),(10,(nI g)),(11,(iI b)),(12,(nI i)),(13,(nI 0))] [kc f207 819,.inBlock 1,kc f207 103,kl f207 12,.inBlock 0]),[(tf 144 94 [(4,(nI 0)),(9,(nI (a.length:Int))),kp 86 0,(88,(iI b)),(89,(nI (a.length:Int))),(91,(.func 144 [(.ptr 0 0)] []))] [ko f144 510 6,kc f144 511])],[oC 0 [(iN d),(.gl 1 4 0 c.length false),(iI e),(iI f)],oL 1 4 (map ONode.av c)],2⟩
def aMG(d:List Node)(e f:List Int)(a:List ONode)(n g:Int)(b:List Int)(i:Int)(c:List ONode)(j:Nat)(k l:Int)(m:List Pat):TS:=⟨(tf 207 39 [kp 0 0,(2,(nI (a.length:Int))),(3,(.func 144 [(.ptr 0 0)] [])),(10,(nI g)),(11,(iI b)),(12,(nI i)),(13,(nI 0))] [kc f207 819,.inBlock 1,kc f207 103,kl f207 12,.inBlock 0]),[(tf 144 94 [(4,(nI 0)),(9,(nI (a.length:Int))),kp 86 0,(88,(iI b)),(89,(nI (a.length:Int))),(91,(.func 144 [(.ptr 0 0)] []))] [ko f144 510 6,kc f144 511])],[oC 0 [(iN d),(.gl 1 4 0 c.length false),(iI e),(iI f)],(1,(.lst 4 (set (map ONode.av c) j (.agg [(nI k),(nI l),(.gl 2 1 0 ([] :List Int).length false),(iP m)]))),false),oL 2 1 (jI ([] :List Int))],3⟩
def aBf(d:List Node)(e f:List Int)(a:List ONode)(l:Int)(b:List Int)(g:Int)(c:List ONode)(i:List Int)(j:Value)(k:Int):TS:=⟨(tf 207 39 [kp 0 0,(2,(nI (a.length:Int))),(3,(.func 144 [(.ptr 0 0)] [])),(11,(iI b)),(12,(nI g)),(13,(nI k))] [kc f207 12,kl f207 12,.inBlock 0]),[(tf 144 94 [(4,(nI 0)),(9,(nI (a.length:Int))),kp 86 0,(88,(iI b)),(89,(nI (a.length:Int))),(91,(.func 144 [(.ptr 0 0)] []))] [ko f144 510 6,kc f144 511])],[oC 0 [(iN d),(.gl 1 4 0 c.length false),(iI e),(iI f)],oL 1 4 (map ONode.av c),(2,(.lstv j 1 (jI i)),true)],3⟩
def aRx(d:List Node)(e f:List Int)(a:List ONode)(m g:Int)(b:List Int)(i:Int)(c:List ONode)(j:List Int)(k:Value)(l:Int):TS:=⟨(tf 207 39 [kp 0 0,(2,(nI (a.length:Int))),(3,(.func 144 [(.ptr 0 0)] [])),(10,(nI g)),(11,(iI b)),(12,(nI i)),(13,(nI l))] [kc f207 819,.inBlock 1,kc f207 103,kl f207 12,.inBlock 0]),[(tf 144 94 [(4,(nI 0)),(9,(nI (a.length:Int))),kp 86 0,(88,(iI b)),(89,(nI (a.length:Int))),(91,(.func 144 [(.ptr 0 0)] []))] [ko f144 510 6,kc f144 511])],[oC 0 [(iN d),(.gl 1 4 0 c.length false),(iI e),(iI f)],oL 1 4 (map ONode.av c),(2,(.lstv k 1 (jI j)),true)],3⟩
def aMH(e:List Node)(f g:List Int)(a:List ONode)(p i:Int)(b:List Int)(j:Int)(c:List ONode)(d:List Int)(k:Int)(l:Nat)(m n:Int)(o:List Pat):TS:=⟨(tf 207 39 [kp 0 0,(2,(nI (a.length:Int))),(3,(.func 144 [(.ptr 0 0)] [])),(10,(nI i)),(11,(iI b)),(12,(nI j)),(13,(nI k))] [kc f207 819,.inBlock 1,kc f207 103,kl f207 12,.inBlock 0]),[(tf 144 94 [(4,(nI 0)),(9,(nI (a.length:Int))),kp 86 0,(88,(iI b)),(89,(nI (a.length:Int))),(91,(.func 144 [(.ptr 0 0)] []))] [ko f144 510 6,kc f144 511])],[oC 0 [(iN e),(.gl 1 4 0 c.length false),(iI f),(iI g)],(1,(.lst 4 (set (map ONode.av c) l (.agg [(nI m),(nI n),(.gl 2 1 0 d.length false),(iP o)]))),false),oL 2 1 (jI d)],3⟩
def aRy(e:List Node)(f c:List Int)(g:List ONode)(d a:Int)(i:Str)(b:List Pat):=tT 2 (aRu e f c g d a i b)<|.b 22 15 (d==6) (.y fun j:Int=>.i [rn 1,.reg (rd 6 (.ans (.idx (bC j))::rd 3 []))] [hA (0≤a),.a (((c)[a.toNat]?) =some j) (aK (f:=bC))]<|gm 5 aD b<|.i [rn 4,.cnil 4 3 4] []<|gu 0 5 (av ([] :List Pat))<|gv 0 4 3 (.gl 5 4 0 ([] :List Pat).length false)<|.W 0 6 [3,4,5] (aDF e f c g d a i b j 0 ([] :List Pat)))<|gm 7 aD b<|.i [rn 4,.cnil 4 3 4] []<|gu 0 5 (av ([] :List Pat))<|gv 0 4 3 (.gl 5 4 0 ([] :List Pat).length false)<|.W 0 6 [3,4,5] (aDF e f c g d a i b a 0 ([] :List Pat))
def aUk:=fun a b c d e f g i j k l m=>aRy a b c d e f g i|>.t k j l m ⟨(aC _ (fun _=>aM _) _),⟨dJ,trivial⟩⟩
def aUl:=fun a b c d e f g i j=>aRy a b c d e f g i|>.f j ⟨(aC _ (fun _=>aM _) _),⟨dJ,trivial⟩⟩
def aRz(g:List Node)(i j:List Int)(b:List ONode)(k s:Int)(t:Str)(n:List Pat)(l m:Int)(a:List Pat):=tT 2 (aDF g i j b k s t n l m a)<|gd 5 29 (m< (n.length:Int)) (aGe 6 n m<|fun o p q r=>.y fun c:Int=>.y fun d:Int=>.y fun e:Str=>.y fun f:List Pat=>.i [rn 4,.reg (rd 4 [.call (.agg [(nI c),(nI d),(avS e),(iP f)]) (aE [oC 0 [(iN g),(.gl 1 4 0 b.length false),(iI i),(iI j)],oL 1 4 (map ONode.av b),oC 2 [(nI 0),(nI 0),(.str 0 0),.nils],oC 3 [(nI k),(nI l),(.str 0 0),(.gl 4 4 0 a.length false)],oL 4 4 (av a),oC 5 [(nI o),(nI p),(avS q),(iP r)]] 7),.d,.app (av (a++ [(Pat.mk c d e f)])) (a++ [(Pat.mk c d e f)]).length,.d,.d])] [hA (Spec PP (.enter 206 [(.ptr 0 0),(.agg [(nI o),(nI p),(avS q),(iP r)])]) (aE [oC 0 [(iN g),(.gl 1 4 0 b.length false),(iI i),(iI j)],oL 1 4 (map ONode.av b),oC 2 [(nI 0),(nI 0),(.str 0 0),.nils],oC 3 [(nI k),(nI l),(.str 0 0),(.gl 4 4 0 a.length false)],oL 4 4 (av a),oC 5 [(nI o),(nI p),(avS q),(iP r)]] 7) (.ret (.agg [(nI c),(nI d),(avS e),(iP f)])) (aE [oC 0 [(iN g),(.gl 1 4 0 b.length false),(iI i),(iI j)],oL 1 4 (map ONode.av b),oC 2 [(nI 0),(nI 0),(.str 0 0),.nils],oC 3 [(nI k),(nI l),(.str 0 0),(.gl 4 4 0 a.length false)],oL 4 4 (av a),oC 5 [(nI o),(nI p),(avS q),(iP r)]] 7)),hB aD a,hA (length (a++ [(Pat.mk c d e f)]) ≤1000000),hC aD a [(Pat.mk c d e f)],hE aD a [(Pat.mk c d e f)],hr (AV.gl 4 4 0 a.length false),hr (AV.gl 4 4 0 a.length false)]<|gw 3 40 (m+1)<|.W 3 8 [2,3,7] (aDF g i j b k s t n l (m+1) (a++ [(Pat.mk c d e f)])))<|gY 8 2 3 4 4 aD dJ a false<|.E 0 5 [] (.agg [(nI k),(nI l),(.str 0 0),(iP a)]) [oC 0 [(iN g),(.gl 1 4 0 b.length false),(iI i),(iI j)],oL 1 4 (map ONode.av b)] 2
def aUm:=fun a b c d e f g i j k l m n o p q r s t u v w x y z=>aRz a b c d e f g i j k l|>.t u m n o p v w q r s t x y z ⟨(aC _ (fun _=>aM _) _),⟨dJ,trivial⟩⟩
def aUn:=fun a b c d e f g i j k l m=>aRz a b c d e f g i j k l|>.f m ⟨(aC _ (fun _=>aM _) _),trivial⟩
def aG6(d:List Node)(e c:List Int)(g:List ONode)(f:Int):=tT 1 (aRv d e c g f)<|gX Node.av 11 d f<|fun a=>.b 22 26 (a.op==4) (gd 6 22 (a.n<0) (.y fun b:Int=>.i [rn 1,.reg (rd 7 (.ans (.idx (bC b))::rd 4 []))] [hA (0≤ (IntKind.i64.wrap ((-1:Int) -a.n))),.a (((e)[(IntKind.i64.wrap ((-1:Int) -a.n)).toNat]?) =some b) (aK (f:=bC))]<|gm 6 aD a.pats<|.i [rn 4,.cnil 3 3 4] []<|gu 0 4 (av ([] :List Pat))<|gv 0 3 3 (.gl 4 4 0 ([] :List Pat).length false)<|.W 0 5 [2,3,1,4] (uT d e c g f a.pats (a.pats.length:Int) a.op a.n a.kids a.pats a.op (IntKind.i64.wrap ((-1:Int) -b)) 0 ([] :List Pat)))<|.b 8 42 (a.op==14) (.y fun b:Int=>.i [rn 1,.reg (rd 6 (.ans (.idx (bC b))::rd 3 []))] [hA (0≤a.n),.a (((c)[a.n.toNat]?) =some b) (aK (f:=bC))]<|gm 6 aD a.pats<|.i [rn 4,.cnil 3 3 4] []<|gu 0 4 (av ([] :List Pat))<|gv 0 3 3 (.gl 4 4 0 ([] :List Pat).length false)<|.W 0 5 [2,3,1,4] (uT d e c g f a.pats (a.pats.length:Int) a.op a.n a.kids a.pats a.op b 0 ([] :List Pat)))<|gm 8 aD a.pats<|.i [rn 4,.cnil 3 3 4] []<|gu 0 4 (av ([] :List Pat))<|gv 0 3 3 (.gl 4 4 0 ([] :List Pat).length false)<|.W 0 5 [2,3,1,4] (uT d e c g f a.pats (a.pats.length:Int) a.op a.n a.kids a.pats a.op a.n 0 ([] :List Pat)))<|.b 14 42 (a.op==14) (.y fun b:Int=>.i [rn 1,.reg (rd 6 (.ans (.idx (bC b))::rd 3 []))] [hA (0≤a.n),.a (((c)[a.n.toNat]?) =some b) (aK (f:=bC))]<|gm 6 aD a.pats<|.i [rn 4,.cnil 3 3 4] []<|gu 0 4 (av ([] :List Pat))<|gv 0 3 3 (.gl 4 4 0 ([] :List Pat).length false)<|.W 0 5 [2,3,1,4] (uT d e c g f a.pats (a.pats.length:Int) a.op a.n a.kids a.pats a.op b 0 ([] :List Pat)))<|gm 8 aD a.pats<|.i [rn 4,.cnil 3 3 4] []<|gu 0 4 (av ([] :List Pat))<|gv 0 3 3 (.gl 4 4 0 ([] :List Pat).length false)<|.W 0 5 [2,3,1,4] (uT d e c g f a.pats (a.pats.length:Int) a.op a.n a.kids a.pats a.op a.n 0 ([] :List Pat))
def aUo:=fun a b c d e f g i j k l m n=>aG6 a b c d e f i j|>.t k|>.t l g m n ⟨(aC _ (fun _=>aM _) _),⟨dJ,trivial⟩⟩
def aUp:=fun a b c d e f g i j k l=>aG6 a b c d e f g i|>.t j|>.f k|>.f l ⟨(aC _ (fun _=>aM _) _),⟨dJ,trivial⟩⟩
def aUq:=fun a b c d e f g i j k l m n=>aG6 a b c d e f i j|>.f k|>.t l g m n ⟨(aC _ (fun _=>aM _) _),⟨dJ,trivial⟩⟩
def aUr:=fun a b c d e f g i j k=>aG6 a b c d e f g i|>.f j|>.f k ⟨(aC _ (fun _=>aM _) _),⟨dJ,trivial⟩⟩
def aRA(k:List Node)(l m:List Int)(b:List ONode)(v:Int)(w:List Pat)(x n o:Int)(e:List Int)(p:List Pat)(c d q:Int)(a:List Pat):=tT 1 (uT k l m b v w x n o e p c d q a)<|gd 5 59 (q<x) (aGe 6 w q<|fun r s t u=>.y fun f:Int=>.y fun g:Int=>.y fun i:Str=>.y fun j:List Pat=>.i [rn 4,.reg (rd 4 [.call (.agg [(nI f),(nI g),(avS i),(iP j)]) (aE [oC 0 [(iN k),(.gl 3 4 0 b.length false),(iI l),(iI m)],oC 1 [(nI n),(nI o),(iI e),(iP p)],oC 2 [(nI c),(nI d),.nils,(.gl 4 4 0 a.length false)],oL 3 4 (map ONode.av b),oL 4 4 (av a),oC 5 [(nI r),(nI s),(avS t),(iP u)]] 7),.d,.app (av (a++ [(Pat.mk f g i j)])) (a++ [(Pat.mk f g i j)]).length,.d,.d])] [hA (Spec PP (.enter 206 [(.ptr 0 0),(.agg [(nI r),(nI s),(avS t),(iP u)])]) (aE [oC 0 [(iN k),(.gl 3 4 0 b.length false),(iI l),(iI m)],oC 1 [(nI n),(nI o),(iI e),(iP p)],oC 2 [(nI c),(nI d),.nils,(.gl 4 4 0 a.length false)],oL 3 4 (map ONode.av b),oL 4 4 (av a),oC 5 [(nI r),(nI s),(avS t),(iP u)]] 7) (.ret (.agg [(nI f),(nI g),(avS i),(iP j)])) (aE [oC 0 [(iN k),(.gl 3 4 0 b.length false),(iI l),(iI m)],oC 1 [(nI n),(nI o),(iI e),(iP p)],oC 2 [(nI c),(nI d),.nils,(.gl 4 4 0 a.length false)],oL 3 4 (map ONode.av b),oL 4 4 (av a),oC 5 [(nI r),(nI s),(avS t),(iP u)]] 7)),hB aD a,hA (length (a++ [(Pat.mk f g i j)]) ≤1000000),hC aD a [(Pat.mk f g i j)],hE aD a [(Pat.mk f g i j)],hr (AV.gl 4 4 0 a.length false),hr (AV.gl 4 4 0 a.length false)]<|gw 3 70 (q+1)<|.W 3 8 [1,2,3,7] (uT k l m b v w x n o e p c d (q+1) (a++ [(Pat.mk f g i j)])))<|gY 12 2 3 4 4 aD dJ a false<|.i [.reg (rd 7 (.app (map ONode.av (b++ [(ONode.mk c d KV.nil a)])) (b++ [(ONode.mk c d KV.nil a)]).length::rd 3 []))] [hb ONode.av b,hA (length (b++ [(ONode.mk c d KV.nil a)]) ≤1000000),hc ONode.av b [(ONode.mk c d KV.nil a)],he ONode.av b [(ONode.mk c d KV.nil a)]]<|gl 12 bC e<|.W 4 7 [6] (aG5 k l m b v e (e.length:Int) (b++ [(ONode.mk c d KV.nil a)]))
def aUs:=fun a b c d e f g i j k l m n o p q r s t u v w x y z A B C D=>aRA a b c d e f g i j k l m n o p|>.t y q r s t z A u v w x B C D ⟨(aC _ (fun _=>aM _) _),⟨dJ,trivial⟩⟩
def aUt:=fun a b c d e f g i j k l m n o p q r=>aRA a b c d e f g i j k l m n o p|>.f q r ⟨(aC _ (fun _=>aM _) _),trivial⟩
def aRB(d:List Node)(e f:List Int)(c:List ONode)(k:Int)(g:List Int)(i:Int)(b:List ONode):=tT 1 (aG5 d e f c k g i b)<|gd 5 14 (0<i) (gX bC 6 g 0<|fun a=>.y fun j:List Node=>gk 7 (.enter 144 [(.ptr 0 0),(nI a)]) [oC 0 [(iN d),(.gl 1 4 0 b.length false),(iI e),(iI f)],oL 1 4 (map ONode.av b)] 2 (nI (b.length:Int)) [oC 0 [(iN d),(.gl 2 4 0 (b++map Node.o j).length false),(iI e),(iI f)],oL 2 4 (map ONode.av (b++map Node.o j))] 3<|.W 2 3 [2] (aRw d e f c k (b.length:Int) g i (b++map Node.o j)))<|.y fun a:ONode=>.i [rn 11,.lw 1 (map ONode.av (set b c.length (ONode.mk a.op a.n (KV.row []) a.pats)))] [.a (b[c.length]?=some a) (p':=(map ONode.av b) ≠ []) aGh,.a (b[c.length]?=some a∧a.kv=KV.nil) (p':=VW (map ONode.av b) (map ONode.av (set b c.length (ONode.mk a.op a.n (KV.row []) a.pats)))) fun⟨ha,hb⟩=>(aPM ha hb)]<|.i [.cset 0 1 (.gl 1 4 0 (set b c.length (ONode.mk a.op a.n (KV.row []) a.pats)).length false)] [.q (p:=(AV.gl 1 4 0 b.length false) = (.gl 1 4 0 (set b c.length (ONode.mk a.op a.n (KV.row []) a.pats)).length false)) (bT (length_set ..).symm)]<|.E 0 2 [1] (nI (c.length:Int)) [oC 0 [(iN d),(.gl 1 4 0 (set b c.length (ONode.mk a.op a.n (KV.row []) a.pats)).length false),(iI e),(iI f)],oL 1 4 (map ONode.av (set b c.length (ONode.mk a.op a.n (KV.row []) a.pats)))] 2
def aUu:=fun a b c d e f g i j k l m n o=>aRB a b c d e f g i|>.t l j m n k o ⟨(aC _ (fun _=>aM _) _),trivial⟩
def aUv:=fun b c d e f g i j k l a m=>aRB b c d e f g i j|>.f l k a ⟨a,m⟩ ⟨(aC _ (fun _=>aM _) _),trivial⟩
def aRC(f:List Node)(g i:List Int)(d:List ONode)(n:Int)(k:List Int)(l:Int)(b:List ONode)(c:List Int)(e:Value)(j:Int):=tT 1 (aBf f g i d n k l b c e j)<|gd 5 14 (j<l) (gX bC 6 k j<|fun a=>.y fun m:List Node=>gk 7 (.enter 144 [(.ptr 0 0),(nI a)]) [oC 0 [(iN f),(.gl 1 4 0 b.length false),(iI g),(iI i)],oL 1 4 (map ONode.av b),(2,(.lstv e 1 (jI c)),true)] 3 (nI (b.length:Int)) [oC 0 [(iN f),(.gl 3 4 0 (b++map Node.o m).length false),(iI g),(iI i)],(2,(.lstv e 1 (jI c)),true),oL 3 4 (map ONode.av (b++map Node.o m))] 4<|.W 2 4 [3,2] (aRx f g i d n (b.length:Int) k l (b++map Node.o m) c e j))<|.y fun a:ONode=>.i [rn 11,.vfrz 2 1 (map ONode.av (set b d.length (ONode.mk a.op a.n (KV.row c) a.pats)))] [.a (b[d.length]?=some a) (p':=(map ONode.av b) ≠ []) aGh,hk bC c,.a (b[d.length]?=some a∧a.kv=KV.val e) (p':=VQ e 1 (jI c) (map ONode.av b) (map ONode.av (set b d.length (ONode.mk a.op a.n (KV.row c) a.pats)))) fun⟨ha,hb⟩=>(aPN ha hb)]<|.i [.cset 0 1 (.gl 1 4 0 (set b d.length (ONode.mk a.op a.n (KV.row c) a.pats)).length false)] [.q (p:=(AV.gl 1 4 0 b.length false) = (.gl 1 4 0 (set b d.length (ONode.mk a.op a.n (KV.row c) a.pats)).length false)) (bT (length_set ..).symm)]<|.E 0 3 [1] (nI (d.length:Int)) [oC 0 [(iN f),(.gl 1 4 0 (set b d.length (ONode.mk a.op a.n (KV.row c) a.pats)).length false),(iI g),(iI i)],oL 1 4 (map ONode.av (set b d.length (ONode.mk a.op a.n (KV.row c) a.pats)))] 2
def aUw:=fun a b c d e f g i j k l m n o p q r=>aRC a b c d e f g i j k l|>.t o m p q n r ⟨(aC _ (fun _=>aM _) _),⟨kk,trivial⟩⟩
def aUx:=fun b c d e f g i j k l m n o a p=>aRC b c d e f g i j k l m|>.f o n a ⟨a,p⟩ ⟨(aC _ (fun _=>aM _) _),trivial⟩
theorem aUy (fr:List Node)(fs cs:List Int)(L:List ONode)(at0 n10:Int)(c1_2:List Int)(t12:Int)(l1:List ONode)(ix:Nat)(w_op w_n:Int)(w_pats:List Pat)(h0:0≤ ((L.length:Nat) :Int))(h1: ((L.length:Nat) :Int) < ((l1.length:Nat) :Int))(h2: ((L.length:Nat) :Int).toNat=ix)(h3:ix<length l1)(h4:length (([] :List Int) ++ [n10]) ≤1000000){res:Res}{h':Hp}(hk:∀ua un uc,Ends PP 1 (let u:=Value.slice ua un uc; (aBf fr fs cs L at0 c1_2 t12 (set l1 ix (ONode.mk w_op w_n (KV.val u) w_pats)) (([] :List Int) ++ [n10]) u 1)).as res h') :
  Ends PP 1 (aMG fr fs cs L at0 n10 c1_2 t12 l1 ix w_op w_n w_pats).as res h':=
 aDD (n1:=5) (t:=fun u=> (aBf fr fs cs L at0 c1_2 t12 (set l1 ix (ONode.mk w_op w_n (KV.val u) w_pats)) (([] :List Int) ++ [n10]) u 1)) (k:=1) (b:=4) (i:=ix) (o:=2) (ys:=fun u=> (map ONode.av (set l1 ix (ONode.mk w_op w_n (KV.val u) w_pats)))) (ks:=[1,4]) (ps:=fun u=>[NQ (set (map ONode.av l1) ix (.agg [(nI w_op),(nI w_n),(.gl 4 1 0 (([] :List Int) ++ [n10]).length false),(iP w_pats)])) ix 2 4 1 (jI (([] :List Int) ++ [n10])).length u (map ONode.av (set l1 ix (ONode.mk w_op w_n (KV.val u) w_pats))),0≤ ((L.length:Nat) :Int),((L.length:Nat) :Int) < ((l1.length:Nat) :Int),(set (map ONode.av l1) ix (.agg [(nI w_op),(nI w_n),(.gl 2 1 0 ([] :List Int).length false),(iP w_pats)]))[(0+ ((L.length:Nat) :Int).toNat)]?=some (.agg [(nI w_op),(nI w_n),(.gl 2 1 0 ([] :List Int).length false),(iP w_pats)]),0+ ([] :List Int).length≤length (jI ([] :List Int)),length (([] :List Int) ++ [n10]) ≤1000000,take ([] :List Int).length (drop 0 (jI ([] :List Int))) ++ (jI [n10]) = (jI (([] :List Int) ++ [n10])),([] :List Int).length+length (jI [n10]) =length (([] :List Int) ++ [n10]),0≤ ((L.length:Nat) :Int),((L.length:Nat) :Int) < ((l1.length:Nat) :Int),(set (map ONode.av l1) ix (.agg [(nI w_op),(nI w_n),(.gl 2 1 0 ([] :List Int).length false),(iP w_pats)]))[(0+ ((L.length:Nat) :Int).toNat)]?=some (.agg [(nI w_op),(nI w_n),(.gl 2 1 0 ([] :List Int).length false),(iP w_pats)]),nN (.agg [(nI w_op),(nI w_n),(.gl 2 1 0 ([] :List Int).length false),(iP w_pats)]) 2 [(.gl 4 1 0 (([] :List Int) ++ [n10]).length false)] =some (.agg [(nI w_op),(nI w_n),(.gl 4 1 0 (([] :List Int) ++ [n10]).length false),(iP w_pats)]),(AV.gl 1 4 0 l1.length false) = (AV.gl 1 4 0 l1.length false),(AV.gl 1 4 0 l1.length false) = (AV.gl 1 4 0 l1.length false),(set (map ONode.av l1) ix (.agg [(nI w_op),(nI w_n),(.gl 2 1 0 ([] :List Int).length false),(iP w_pats)])).set (0+ ((L.length:Nat) :Int).toNat) (.agg [(nI w_op),(nI w_n),(.gl 4 1 0 (([] :List Int) ++ [n10]).length false),(iP w_pats)]) = (set (map ONode.av l1) ix (.agg [(nI w_op),(nI w_n),(.gl 4 1 0 (([] :List Int) ++ [n10]).length false),(iP w_pats)])),(AV.gl 1 4 0 l1.length false) = (.gl 1 4 0 (set l1 ix (ONode.mk w_op w_n (KV.val u) w_pats)).length false),(AV.gl 1 4 0 l1.length false) = (.gl 1 4 0 (set l1 ix (ONode.mk w_op w_n (KV.val u) w_pats)).length false),(AV.gl 1 4 0 l1.length false) = (.gl 1 4 0 (set l1 ix (ONode.mk w_op w_n (KV.val u) w_pats)).length false)]) (is:=[.reg [.d,.d,.d,.d,.d,.d,.d,.d,.d,.d,.ans (.ix),.d,.ans (.idx (.agg [(nI w_op),(nI w_n),(.gl 2 1 0 ([] :List Int).length false),(iP w_pats)])),.d,.d,.app (jI (([] :List Int) ++ [n10])) (([] :List Int) ++ [n10]).length,.ans (.ix),.d,.st (.agg [(nI w_op),(nI w_n),(.gl 2 1 0 ([] :List Int).length false),(iP w_pats)]) (.agg [(nI w_op),(nI w_n),(.gl 4 1 0 (([] :List Int) ++ [n10]).length false),(iP w_pats)])],.lset 1 (set (map ONode.av l1) ix (.agg [(nI w_op),(nI w_n),(.gl 4 1 0 (([] :List Int) ++ [n10]).length false),(iP w_pats)])),.run 1]) (is2:=fun u=>[.set 23 (.gl 1 4 0 (set l1 ix (ONode.mk w_op w_n (KV.val u) w_pats)).length false),.set 28 (.gl 1 4 0 (set l1 ix (ONode.mk w_op w_n (KV.val u) w_pats)).length false),.cset 0 1 (.gl 1 4 0 (set l1 ix (ONode.mk w_op w_n (KV.val u) w_pats)).length false),.run 5]) (fun u=>by kernel_rfl) (fun u=>by kernel_rfl) (fun u=> ⟨(aC _ (fun _=>aM _) _),⟨(aC _ (fun _=>rfl) _),trivial⟩⟩) (fun u=> ⟨(aV7 [(nI w_op),(nI w_n)] [(iP w_pats)] h3 (length_map ..) (by simp) rfl),h0,h1,(aG3 h2 h3),(aF7 _ _),h4,(aF8 _ _ _),(aF9 _ _ _),h0,h1,(aG3 h2 h3),rfl,rfl,rfl,(aRs h2),(bT (length_set ..).symm),(bT (length_set ..).symm),(bT (length_set ..).symm)⟩) hk
theorem aUz (fr:List Node)(fs cs:List Int)(L:List ONode)(at0 n10:Int)(c1_2:List Int)(t12:Int)(l1:List ONode)(k2:List Int)(t13:Int)(ix:Nat)(w_op w_n:Int)(w_pats:List Pat)(h0:0≤ ((L.length:Nat) :Int))(h1: ((L.length:Nat) :Int) < ((l1.length:Nat) :Int))(h2: ((L.length:Nat) :Int).toNat=ix)(h3:ix<length l1)(h4:length (k2++ [n10]) ≤1000000)(h5: (IntKind.i64.wrap (t13+ (1:Int))) = (t13+ (1:Int))){res:Res}{h':Hp}(hk:∀ua un uc,Ends PP 1 (let u:=Value.slice ua un uc; (aBf fr fs cs L at0 c1_2 t12 (set l1 ix (ONode.mk w_op w_n (KV.val u) w_pats)) (k2++ [n10]) u (t13+ (1:Int)))).as res h') :
  Ends PP 1 (aMH fr fs cs L at0 n10 c1_2 t12 l1 k2 t13 ix w_op w_n w_pats).as res h':=
 aDD (n1:=5) (t:=fun u=> (aBf fr fs cs L at0 c1_2 t12 (set l1 ix (ONode.mk w_op w_n (KV.val u) w_pats)) (k2++ [n10]) u (t13+ (1:Int)))) (k:=1) (b:=4) (i:=ix) (o:=2) (ys:=fun u=> (map ONode.av (set l1 ix (ONode.mk w_op w_n (KV.val u) w_pats)))) (ks:=[1,4]) (ps:=fun u=>[NQ (set (map ONode.av l1) ix (.agg [(nI w_op),(nI w_n),(.gl 4 1 0 (k2++ [n10]).length false),(iP w_pats)])) ix 2 4 1 (jI (k2++ [n10])).length u (map ONode.av (set l1 ix (ONode.mk w_op w_n (KV.val u) w_pats))),0≤ ((L.length:Nat) :Int),((L.length:Nat) :Int) < ((l1.length:Nat) :Int),(set (map ONode.av l1) ix (.agg [(nI w_op),(nI w_n),(.gl 2 1 0 k2.length false),(iP w_pats)]))[(0+ ((L.length:Nat) :Int).toNat)]?=some (.agg [(nI w_op),(nI w_n),(.gl 2 1 0 k2.length false),(iP w_pats)]),0+k2.length≤length (jI k2),length (k2++ [n10]) ≤1000000,take k2.length (drop 0 (jI k2)) ++ (jI [n10]) = (jI (k2++ [n10])),k2.length+length (jI [n10]) =length (k2++ [n10]),0≤ ((L.length:Nat) :Int),((L.length:Nat) :Int) < ((l1.length:Nat) :Int),(set (map ONode.av l1) ix (.agg [(nI w_op),(nI w_n),(.gl 2 1 0 k2.length false),(iP w_pats)]))[(0+ ((L.length:Nat) :Int).toNat)]?=some (.agg [(nI w_op),(nI w_n),(.gl 2 1 0 k2.length false),(iP w_pats)]),nN (.agg [(nI w_op),(nI w_n),(.gl 2 1 0 k2.length false),(iP w_pats)]) 2 [(.gl 4 1 0 (k2++ [n10]).length false)] =some (.agg [(nI w_op),(nI w_n),(.gl 4 1 0 (k2++ [n10]).length false),(iP w_pats)]),(AV.gl 1 4 0 l1.length false) = (AV.gl 1 4 0 l1.length false),(AV.gl 1 4 0 l1.length false) = (AV.gl 1 4 0 l1.length false),(set (map ONode.av l1) ix (.agg [(nI w_op),(nI w_n),(.gl 2 1 0 k2.length false),(iP w_pats)])).set (0+ ((L.length:Nat) :Int).toNat) (.agg [(nI w_op),(nI w_n),(.gl 4 1 0 (k2++ [n10]).length false),(iP w_pats)]) = (set (map ONode.av l1) ix (.agg [(nI w_op),(nI w_n),(.gl 4 1 0 (k2++ [n10]).length false),(iP w_pats)])),(AV.gl 1 4 0 l1.length false) = (.gl 1 4 0 (set l1 ix (ONode.mk w_op w_n (KV.val u) w_pats)).length false),(AV.gl 1 4 0 l1.length false) = (.gl 1 4 0 (set l1 ix (ONode.mk w_op w_n (KV.val u) w_pats)).length false),(AV.gl 1 4 0 l1.length false) = (.gl 1 4 0 (set l1 ix (ONode.mk w_op w_n (KV.val u) w_pats)).length false),(nI (IntKind.i64.wrap (t13+ (1:Int)))) = (nI (t13+ (1:Int)))]) (is:=[.reg [.d,.d,.d,.d,.d,.d,.d,.d,.d,.d,.ans (.ix),.d,.ans (.idx (.agg [(nI w_op),(nI w_n),(.gl 2 1 0 k2.length false),(iP w_pats)])),.d,.d,.app (jI (k2++ [n10])) (k2++ [n10]).length,.ans (.ix),.d,.st (.agg [(nI w_op),(nI w_n),(.gl 2 1 0 k2.length false),(iP w_pats)]) (.agg [(nI w_op),(nI w_n),(.gl 4 1 0 (k2++ [n10]).length false),(iP w_pats)])],.lset 1 (set (map ONode.av l1) ix (.agg [(nI w_op),(nI w_n),(.gl 4 1 0 (k2++ [n10]).length false),(iP w_pats)])),.run 1]) (is2:=fun u=>[.set 23 (.gl 1 4 0 (set l1 ix (ONode.mk w_op w_n (KV.val u) w_pats)).length false),.set 28 (.gl 1 4 0 (set l1 ix (ONode.mk w_op w_n (KV.val u) w_pats)).length false),.cset 0 1 (.gl 1 4 0 (set l1 ix (ONode.mk w_op w_n (KV.val u) w_pats)).length false),.run 2,.set 38 (nI (t13+ (1:Int))),.run 3]) (fun u=>by kernel_rfl) (fun u=>by kernel_rfl) (fun u=> ⟨(aC _ (fun _=>aM _) _),⟨(aC _ (fun _=>rfl) _),trivial⟩⟩) (fun u=> ⟨(aV7 [(nI w_op),(nI w_n)] [(iP w_pats)] h3 (length_map ..) (by simp) rfl),h0,h1,(aG3 h2 h3),(aF7 _ _),h4,(aF8 _ _ _),(aF9 _ _ _),h0,h1,(aG3 h2 h3),rfl,rfl,rfl,(aRs h2),(bT (length_set ..).symm),(bT (length_set ..).symm),(bT (length_set ..).symm),(congrArg (AV.int .i64) h5)⟩) hk
abbrev MC (fr:List Node)(fs cs:List Int)(b n:Nat) :AObj:=.cells (putCells .leaf 0 [.ilst 4 (map Node.av fr) false,.gl b 4 0 n false,.ilst 1 (map bC fs) false,.ilst 1 (map bC cs) false]) 4 [] false
abbrev MHp (fr:List Node)(fs cs:List Int)(L:List ONode) :List (Nat×AObj×Bool) :=[(0,MC fr fs cs 1 (length L),false),(1,OL L,true)]
abbrev PtC (f n:Int)(s:Str)(ps:List Pat) :AObj:=.cells (putCells .leaf 0 [.int .i64 f,.int .i64 n,avS s,.ilst 4 (av ps) false]) 4 [] false
abbrev aXG (f v:Int)(b n:Nat) :AObj:=.cells (putCells .leaf 0 [.int .i64 f,.int .i64 v,.str 0 0,.gl b 4 0 n false]) 4 [] false
abbrev XC (o v:Int)(b n:Nat) :AObj:=.cells (putCells .leaf 0 [.int .i64 o,.int .i64 v,.nils,.gl b 4 0 n false]) 4 [] false
abbrev ZPt :AObj:=.cells (putCells .leaf 0 [.int .i64 0,.int .i64 0,.str 0 0,.nils]) 4 [] false
def MPS (fr:List Node)(fs cs:List Int)(L:List ONode)(p:Pat) :Prop:=∀p',aLK p=true→aGG cs p=some p'→Spec PP (.enter 206 [.ptr 0 0,Pat.av p]) (aE (MHp fr fs cs L) 2) (.ret (Pat.av p')) (aE (MHp fr fs cs L) 2)
section
variable (fr :List Node) (fs cs:List Int) (L:List ONode)
theorem aJw (f n:Int)(s:Str)(ps:List Pat)(v:Int)(hpl:ps.length<1000000)(ih:∀p∈ps,MPS fr fs cs L p) :∀ (t:List Pat) (i:Nat) (acc t':List Pat),ps.drop i=t→acc.length=i→lO t=true→jU cs t=some t' →
  Ends PP 2 (aDF fr fs cs L f n s ps v (i:Int) acc).as (.ret (.agg [.int .i64 f,.int .i64 v,.str 0 0,.ilst 4 (av (acc++t')) false])) (aE (MHp fr fs cs L) 2)
 | [],i,acc,t',h,ha,hn,ht=>by
  have:=bK h;cases ht;rw [append_nil];exact aUn fr fs cs L f n s ps v i acc sd
 | .mk f1 n1 s1 ps1::t,i,acc,t',h,ha,hn,ht=>by
  obtain⟨g1,g2,g3⟩ :=bJ h;have hi:= (List.getElem?_eq_some_iff.1 g1).1;rw [lO,and_eq_true]at hn;simp only [jU]at ht;split at ht
  · rename_i p' hp';split at ht
    · rename_i t1 ht1;cases ht;obtain⟨f2,n2,s2,ps2⟩ :=p';have hs:=ih (.mk f1 n1 s1 ps1) (mem_of_getElem? g1) _ hn.1 hp'
      have hs':=aHQ (ks:=[0,1]) (n2:=7) (args':=[.ptr 0 0,Pat.av (.mk f1 n1 s1 ps1)])
       (lc:=[(0,MC fr fs cs 1 (length L),false),(1,OL L,true),(2,ZPt,false),(3,aXG f v 4 (length acc),false),(4,.lst 4 (av acc),true),(5,PtC f1 n1 s1 ps1,false)])
       (lc':=[(0,MC fr fs cs 1 (length L),false),(1,OL L,true),(2,ZPt,false),(3,aXG f v 4 (length acc),false),(4,.lst 4 (av acc),true),(5,PtC f1 n1 s1 ps1,false)])
       hs (by kernel_rfl) (aV9 _) (by kernel_rfl) (by kernel_rfl) ⟨oI L,trivial⟩ (by kernel_rfl) ⟨oI L,trivial⟩
      refine(aUm fr fs cs L f n s ps v i acc f1 n1 s1 ps1 f2 n2 s2 ps2 sd sd sd hs' (by simp;omega) sd).ends ?_;have:=aJw f n s ps v hpl ih t (i+1) (acc++ [.mk f2 n2 s2 ps2]) t1 g2 (by simp [ha]) hn.2 ht1;rw [append_assoc]at this;exact this
    ·cases ht
  ·cases ht
mutual
theorem aRD :∀ (p:Pat),cF p<1000000→MPS fr fs cs L p
 | .mk f n s ps,h,p',hn,hp'=>by
  simp only [cF]at h;have:=eP ps;refine⟨(aRu fr fs cs L f n s ps).as.fr,by kernel_rfl,?_⟩;rw [aLK,and_eq_true,decide_eq_true_eq]at hn;simp only [aGG]at hp';split at hp'
  · rename_i n' hn';split at hp'
    · rename_i ps' hps';cases hp';have hloop:=aJw fr fs cs L f n s ps n' (by omega) (aG7 ps (by omega)) ps 0 [] ps' rfl rfl hn.2 hps';rw [List.nil_append]at hloop;have E:Ends PP 2 (aRu fr fs cs L f n s ps).as (.ret (Pat.av (.mk f n' s ps'))) (aE (MHp fr fs cs L) 2) :=by
       rw [hn.1]at hloop ⊢;unfold aDp at hn';split at hn'
       · rename_i hf;split at hn'
         · rename_i h0;exact(aUk fr fs cs L f n [] ps n' (by simp [hf]) h0 hn').ends hloop
         ·cases hn'
       · rename_i hf;cases hn';exact(aUl fr fs cs L f n [] ps (by simp [hf])).ends hloop
      exact Eq.mp (by kernel_rfl) E
    ·cases hp'
  ·cases hp'
theorem aG7 :∀ (ps:List Pat),aV ps<1000000→∀p∈ps,MPS fr fs cs L p
 | [],_,p,hp=>by cases hp
 | q::ps,h,p,hp=>by
  simp only [aV]at h;rcases List.mem_cons.1 hp with e|hp
  ·rw [e];exact aRD q (by omega)
  ·exact aG7 ps (by omega) p hp
end
end
def MNS (p:Prog)(fs cs:List Int)(at0:Int)(L:List ONode)(ns:List Node) :Prop:=
 aHR PP 1 (.enter 144 [.ptr 0 0,.int .i64 at0]) (aE (MHp p.nodes fs cs L) 2) (.ret (.int .i64 ((length L:Nat) :Int))) (aE (MHp p.nodes fs cs (L++map Node.o ns)) 2)
def aRE (p:Prog)(fs cs:List Int)(L:List ONode)(s:TS)(ns:List Node) :Prop:=Ends PP 1 s.as (.ret (.int .i64 ((length L:Nat) :Int))) (aE (MHp p.nodes fs cs (L++map Node.o ns)) 2)
section
variable (p :Prog) (fs cs:List Int) (L:List ONode) (at0:Int)
theorem aJx (x:Node)(v:Int)(hps:aV x.pats<1000000)(hl:L.length<1000000) :∀ (t:List Pat) (i:Nat) (acc t':List Pat),x.pats.drop i=t→acc.length=i→lO t=true→jU cs t=some t' →
  LeadsM PP 1 (uT p.nodes fs cs L at0 x.pats ((length x.pats:Nat) :Int) x.op x.n x.kids x.pats x.op v (i:Int) acc).as (aG5 p.nodes fs cs L at0 x.kids ((length x.kids:Nat) :Int) (L++ [⟨x.op,v,.nil,acc++t'⟩])).as
 | [],i,acc,t',h,ha,hn,ht=>by
  have:=bK h;cases ht;rw [append_nil];exact aUt p.nodes fs cs L at0 x.pats _ x.op x.n x.kids x.pats x.op v i acc sd (by simp;omega)
 | .mk f1 n1 s1 ps1::t,i,acc,t',h,ha,hn,ht=>by
  obtain⟨g1,g2,g3⟩ :=bJ h;have hi:= (List.getElem?_eq_some_iff.1 g1).1;have:=eP x.pats;rw [lO,and_eq_true]at hn;simp only [jU]at ht;split at ht
  · rename_i p' hp';split at ht
    · rename_i t1 ht1;cases ht;obtain⟨f2,n2,s2,ps2⟩ :=p';have hs:=aG7 p.nodes fs cs L x.pats hps (.mk f1 n1 s1 ps1) (mem_of_getElem? g1) _ hn.1 hp'
      have hs':=aHQ (ks:=[0,3]) (n2:=7) (args':=[.ptr 0 0,Pat.av (.mk f1 n1 s1 ps1)])
       (lc:=[(0,MC p.nodes fs cs 3 (length L),false),(1,xE x,false),(2,XC x.op v 4 (length acc),false),(3,OL L,true),(4,.lst 4 (av acc),true),(5,PtC f1 n1 s1 ps1,false)])
       (lc':=[(0,MC p.nodes fs cs 3 (length L),false),(1,xE x,false),(2,XC x.op v 4 (length acc),false),(3,OL L,true),(4,.lst 4 (av acc),true),(5,PtC f1 n1 s1 ps1,false)])
       hs (by kernel_rfl) (aV9 _) (by kernel_rfl) (by kernel_rfl) ⟨oI L,trivial⟩ (by kernel_rfl) ⟨oI L,trivial⟩
      have h1:=aUs p.nodes fs cs L at0 x.pats ((length x.pats:Nat) :Int) x.op x.n x.kids x.pats x.op v i acc f1 n1 s1 ps1 f2 n2 s2 ps2 sd sd sd hs' (by simp;omega) sd;have:=aJx x v hps hl t (i+1) (acc++ [.mk f2 n2 s2 ps2]) t1 g2 (by simp [ha]) hn.2 ht1;rw [append_assoc]at this;exact h1.trans this
    ·cases ht
  ·cases ht
theorem aOx (n10:Int)(ks:List Int)(t12:Int)(l:List ONode){ix:Nat}{a b:Int}{P:List Pat}(h:l[ix]?=some ⟨a,b,.nil,P⟩) :LeadsM PP 1 (aRw p.nodes fs cs L at0 n10 ks t12 l).as (aMG p.nodes fs cs L at0 n10 ks t12 l ix a b P).as:=
 aWR (k:=1) (e0:=4) (e:=1) (by kernel_rfl) (by kernel_rfl) (aV8 (f:=ONode.av) [.int .i64 a,.int .i64 b] [.ilst 4 (av P) false] h rfl) (by kernel_rfl)
theorem aOy (n10:Int)(ks:List Int)(t12:Int)(l:List ONode)(k2:List Int)(w:Value)(i:Int){ix:Nat}{a b:Int}{P:List Pat}(h:l[ix]?=some ⟨a,b,.val w,P⟩) :LeadsM PP 1 (aRx p.nodes fs cs L at0 n10 ks t12 l k2 w i).as (aMH p.nodes fs cs L at0 n10 ks t12 l k2 i ix a b P).as:=
 aUi (k:=1) (b:=2) (e0:=4) (e:=1) (u:=w) (xs:=map bC k2) (n:=length k2) (by kernel_rfl) (by kernel_rfl) (by decide) (length_map ..) (aV8 (f:=ONode.av) [.int .i64 a,.int .i64 b] [.ilst 4 (av P) false] h rfl) (by kernel_rfl)
variable (k :Nat) (ih:∀ (M:List ONode) (c:Int) (ns:List Node),dR p fs cs k M.length c=some ns→MNS p fs cs c M ns) (x:Node) (v:Int) (P:List Pat) (hk:x.kids.length<1000000)
include ih hk
theorem aJy :∀ (ts:List Int) (i:Nat) (w:Value) (r0:List Node) (k2 ks:List Int) (r:List Node),x.kids.drop i=ts→k2.length=i→nA (dR p fs cs k) (L.length+1+r0.length) ts=some (ks,r) →
  aRE p fs cs L (aBf p.nodes fs cs L at0 x.kids ((length x.kids:Nat) :Int) (L++ ⟨x.op,v,.val w,P⟩ ::map Node.o r0) k2 w (i:Int)) (⟨x.op,v,k2++ks,P⟩ :: (r0++r))
 | [],i,w,r0,k2,ks,r,h,hl,hm=>by
  have:=bK h;cases hm;have h1:=aUx p.nodes fs cs L at0 x.kids ((length x.kids:Nat) :Int) (L++ ⟨x.op,v,.val w,P⟩ ::map Node.o r0) k2 w i ⟨x.op,v,.val w,P⟩ sd (pN ..) rfl;rw [pO]at h1;rw [append_nil,append_nil];exact h1
 | c :: ts,i,w,r0,k2,ks,r,h,hl,hm=>by
  obtain⟨g1,g2,g3⟩ :=bJ h;have hi:= (List.getElem?_eq_some_iff.1 g1).1;simp only [nA]at hm;split at hm
  · rename_i ns hns;split at hm
    · rename_i ks1 r1 hm1;cases hm;have hlen: (L++ (⟨x.op,v,.val w,P⟩ :ONode) ::map Node.o r0).length=L.length+1+r0.length:=by simp;omega
      have hs:=ih (L++ ⟨x.op,v,.val w,P⟩ ::map Node.o r0) c ns (by rw [hlen];exact hns);unfold MNS at hs
      have hs':=aA5 (m:=1) (ks:=[0,1]) (n2:=3) (n3:=4) (v':=.int .i64 ((length (L++ (⟨x.op,v,.val w,P⟩ :ONode) ::map Node.o r0) :Nat) :Int)) (args':=[.ptr 0 0,.int .i64 c])
       (lc:=[(0,MC p.nodes fs cs 1 (length (L++ (⟨x.op,v,.val w,P⟩ :ONode) ::map Node.o r0)),false),(1,OL (L++ ⟨x.op,v,.val w,P⟩ ::map Node.o r0),true),(2,.lstv w 1 (map bC k2),true)])
       (lc':=[(0,MC p.nodes fs cs 3 (length ((L++ (⟨x.op,v,.val w,P⟩ :ONode) ::map Node.o r0) ++map Node.o ns)),false),(2,.lstv w 1 (map bC k2),true),(3,OL ((L++ ⟨x.op,v,.val w,P⟩ ::map Node.o r0) ++map Node.o ns),true)])
       hs (by rfl) (by rfl) (by kernel_rfl) (by rfl) (by rfl) (by kernel_rfl) (by kernel_rfl) ⟨oI _,trivial⟩ (by kernel_rfl) ⟨oI _,trivial⟩
      have h0:=aUw p.nodes fs cs L at0 x.kids ((length x.kids:Nat) :Int) (L++ ⟨x.op,v,.val w,P⟩ ::map Node.o r0) k2 w i c ns sd sd sd hs';have e2: (L++ (⟨x.op,v,.val w,P⟩ :ONode) ::map Node.o r0) ++map Node.o ns=L++ ⟨x.op,v,.val w,P⟩ ::map Node.o (r0++ns) :=by simp
      rw [e2,hlen]at h0;refine(h0.trans (aOy p fs cs L at0 _ _ _ _ k2 w i (pN L _ _))).ends ?_;refine aUz p.nodes fs cs L at0 _ x.kids _ _ k2 i (length L) x.op v P (by omega) (by simp;omega) (by omega) (by simp) (by simp;omega) sd (fun ua un uc=>?_);have:=aJy ts (i+1) (.slice ua un uc) (r0++ns) (k2++ [((L.length+1+r0.length:Nat) :Int)]) ks1 r1 g2 (by simp [hl]) (by rw [length_append,←Nat.add_assoc];exact hm1);dsimp only;rw [pO];simp only [append_assoc,List.singleton_append]at this ⊢;exact this
    ·cases hm
  ·cases hm
theorem aRF (ks:List Int)(r:List Node)(hm:nA (dR p fs cs k) (L.length+1) x.kids=some (ks,r)) :
  aRE p fs cs L (aG5 p.nodes fs cs L at0 x.kids ((length x.kids:Nat) :Int) (L++ [⟨x.op,v,.nil,P⟩])) (⟨x.op,v,ks,P⟩ ::r) :=by
 cases hx:x.kids with
 | nil=>
  rw [hx]at hm;cases hm;have h1:=aUv p.nodes fs cs L at0 [] ((length ([] :List Int) :Nat) :Int) (L++ [⟨x.op,v,.nil,P⟩]) ⟨x.op,v,.nil,P⟩ (by simp) (pN ..) rfl;rw [pO]at h1;exact h1
 | cons c ts=>
  have hm0:=hm;rw [hx]at hm;simp only [nA]at hm;split at hm
  · rename_i ns hns;split at hm
    · rename_i ks1 r1 hm1;cases hm;have hlen: (L++ [(⟨x.op,v,.nil,P⟩ :ONode)]).length=L.length+1:=by simp
      have hs:=ih (L++ [⟨x.op,v,.nil,P⟩]) c ns (by rw [hlen];exact hns);unfold MNS at hs
      have hs':=aA5 (m:=1) (ks:=[0,1]) (n2:=2) (n3:=3) (v':=.int .i64 ((length (L++ [(⟨x.op,v,.nil,P⟩ :ONode)]) :Nat) :Int)) (args':=[.ptr 0 0,.int .i64 c])
       (lc:=[(0,MC p.nodes fs cs 1 (length (L++ [(⟨x.op,v,.nil,P⟩ :ONode)])),false),(1,OL (L++ [⟨x.op,v,.nil,P⟩]),true)])
       (lc':=[(0,MC p.nodes fs cs 2 (length ((L++ [(⟨x.op,v,.nil,P⟩ :ONode)]) ++map Node.o ns)),false),(2,OL ((L++ [⟨x.op,v,.nil,P⟩]) ++map Node.o ns),true)])
       hs (by rfl) (by rfl) (by kernel_rfl) (by rfl) (by rfl) (by kernel_rfl) (by kernel_rfl) ⟨oI _,trivial⟩ (by kernel_rfl) ⟨oI _,trivial⟩
      have h0:=aUu p.nodes fs cs L at0 x.kids ((length x.kids:Nat) :Int) (L++ [(⟨x.op,v,.nil,P⟩ :ONode)]) c ns (by rw [hx];simp) (by omega) (by rw [hx];rfl) hs';have e2: (L++ [(⟨x.op,v,.nil,P⟩ :ONode)]) ++map Node.o ns=L++ ⟨x.op,v,.nil,P⟩ ::map Node.o ns:=by simp
      rw [e2,hlen]at h0;rw [hx]at h0;refine(h0.trans (aOx p fs cs L at0 _ _ _ _ (pN L _ _))).ends ?_;refine aUy p.nodes fs cs L at0 _ (c::ts) _ _ (length L) x.op v P (by omega) (by simp;omega) (by omega) (by simp) (by simp) (fun ua un uc=>?_);have:=aJy p fs cs L at0 k ih x v P hk ts 1 (.slice ua un uc) ns [((L.length+1:Nat) :Int)] ks1 r1 (by rw [hx];rfl) rfl hm1;rw [hx]at this;dsimp only;rw [pO];exact this
    ·cases hm
  ·cases hm
end
theorem mNd_spec (p :Prog)(fs cs:List Int)(hT:∀x∈p.nodes,lO x.pats=true) :∀ (k:Nat) (L:List ONode) (at0:Int) (ns:List Node),dR p fs cs k L.length at0=some ns→MNS p fs cs at0 L ns
 |0,L,at0,ns,h=>by cases h
 | k+1, L, at0, ns, h=>by
  simp only [dR]at h;split at h
  · rename_i hh;obtain⟨hat,hlen⟩ :=hh;split at h
    · rename_i y hy;split at h
      · rename_i hb;split at h
        · rename_i n' hn';split at h
          · rename_i ps' hps';split at h
            · rename_i ks r hks;cases h;have hC:= (aJx p fs cs L at0 y n' hb.2 hlen y.pats 0 [] ps' rfl rfl (hT y (mem_of_getElem? hy)) hps').ends (aRF p fs cs L at0 k (mNd_spec p fs cs hT k) y n' ps' hb.1 ks r hks)
              suffices hh:aRE p fs cs L (aRv p.nodes fs cs L at0) (⟨y.op,n',ks,ps'⟩ ::r)from⟨(aRv p.nodes fs cs L at0).as.fr,by kernel_rfl,Eq.mp (by kernel_rfl) hh⟩
              unfold mN at hn';split at hn'
              · rename_i h4;split at hn'
                · rename_i g hg;split at hn'
                  · rename_i hr;cases hn';have w1:IntKind.i64.wrap (-1-y.n) = -1-y.n:=aGI (by omega) (by omega);have w2:IntKind.i64.wrap (-1-g) = -1-g:=aGI (by omega) (by omega);have h0:=aUo p.nodes fs cs L at0 y g hat hy (by simp [h4.1]) (by simp [h4.2]) (by rw [w1];omega) (by rw [w1];exact hg);rw [w2]at h0;exact h0.ends hC
                  ·cases hn'
                ·cases hn'
              · rename_i h4;split at hn'
                · rename_i h14;split at hn'
                  · rename_i h0;exact(aUq p.nodes fs cs L at0 y n' hat hy (by simp [h14]) (by simp [h14]) h0 hn').ends hC
                  ·cases hn'
                · rename_i h14;cases hn';by_cases ho:y.op=4
                  ·exact(aUp p.nodes fs cs L at0 y hat hy (by simp [ho]) (by simp;omega) (by simp [ho])).ends hC
                  ·exact(aUr p.nodes fs cs L at0 y hat hy (by simp [ho]) (by simp [h14])).ends hC
            ·cases h
          ·cases h
        ·cases h
      ·cases h
    ·cases h
  ·cases h
theorem uU (s:Str) :∀ (l:List Str) (i:Nat),dH s l i= -1∨ ((i:Int) ≤dH s l i∧dH s l i<i+l.length∧l[(dH s l i).toNat-i]?=some s)
 | [],i=>.inl rfl
 | x ::l,i=>by
  rw [dH];by_cases e:x=s
  · rw [if_pos e];exact .inr ⟨by omega,by simp;omega,by simp [e]⟩
  · rw [if_neg e];rcases uU s l (i+1)with h| ⟨h1,h2,h3⟩
    ·exact .inl h
    · refine .inr ⟨by omega,by simp;omega,?_⟩;rw [show(dH s l (i+1)).toNat-i= ((dH s l (i+1)).toNat- (i+1)) +1 by omega];simpa using h3
def aOz (T ls:List Str)(s:Str) :Int:=if dH s T 0<0 then(T.length:Int) +dH s ls 0 else dH s T 0
def aFa (T ls:List Str)(u:LUnit) :List Int:= (fN u++u.needs).map (aOz T ls)
def aWV (cs:List Con)(u:LUnit) :List Int:=u.cons.map (fun c=>gR c.name cs 0)
def aWW (T ls:List Str)(cs:List Con) :List LFun→List Node→List LUnit→Option (List LFun×List Node)
 |fs,ns,[] =>some (fs,ns)
 | fs,ns,u::l=>match nA (dR (uQ u) (aFa T ls u) (aWV cs u) u.nodes.length) ns.length (hU u)with
  |some (ks,r) =>aWW T ls cs (fs++List.zipWith LFun.mk (fN u) ks) (ns++r) l
  |none=>none
theorem aFb {g:Nat→Int→Option (List Node)}:∀ {cs:List Int} {len:Nat} {ks:List Int} {r:List Node},nA g len cs=some (ks,r) →ks.length=cs.length
 | [],len,ks,r,h=>by cases h;rfl
 | c ::cs,len,ks,r,h=>by
  rw [nA]at h;split at h
  · split at h
    ·rename_i h1;cases h;rw [length_cons,length_cons,aFb h1]
    ·cases h
  ·cases h
section
variable (nm :Str) (cs:List Con) (ls:List Str) (l:List LUnit) (T:List Str) (hT:T.length≤1000) (hls:ls.length≤1000) (hcs:cs.length≤1000)
include hT hls in
include hcs in
include hT hls hcs in
end
mutual
theorem aUA {cons:List Con}{C:List Int}(hC:C.length=cons.length) :∀ (q:Pat),cN cons q=true→∃q',aGG C q=some q'∧cF q'=cF q
 | .mk f n s ps,h=>by
  rw [cN,and_eq_true]at h;obtain⟨ps',hps,hz⟩ :=aDG hC ps h.2;have hN:∃n',aDp C f n=some n':=by
   unfold aDp;by_cases hf:f=6
   · subst hf;have hh:=h.1;simp only [cQ]at hh;simp [cR]at hh;obtain⟨⟨⟨h0,h1⟩,_⟩,_⟩ :=hh;rw [if_pos rfl,if_pos h0];exact⟨_,getElem?_eq_getElem (by omega)⟩
   ·rw [if_neg hf];exact⟨_,rfl⟩
  obtain⟨n',hn⟩ :=hN;refine⟨.mk f n' [] ps',?_,by rw [cF,cF,hz]⟩;have hs:s= [] :=by have:=h.1;rw [cQ,and_eq_true]at this;simpa using this.2
  rw [aGG,hn];simp only;rw [hps,hs]
theorem aDG {cons:List Con}{C:List Int}(hC:C.length=cons.length) :∀ (ps:List Pat),bH cons ps=true→∃ps',jU C ps=some ps'∧aV ps'=aV ps
 | [],_=> ⟨[],rfl,rfl⟩
 | q::ps,h=>by
  rw [bH,and_eq_true]at h;obtain⟨q',h1,z1⟩ :=aUA hC q h.1;obtain⟨ps',h2,z2⟩ :=aDG hC ps h.2;refine⟨q'::ps',?_,by rw [aV,aV,z1,z2]⟩;rw [jU,h1];simp only;rw [h2]
end
def aOA (x:Node) :Prop:=x.kids.length≤10∧aV x.pats≤120
theorem aJz {g:Nat→Int→Option (List Node)}{q:Int→List Int}:∀ (ks:List Int) (len:Nat),
  (∀k∈ks,∀len:Nat,len+ (q k).length≤1000000→∃ns,g len k=some ns∧ns.length= (q k).length∧∀x∈ns,aOA x) →len+ ((ks.map q).flatten).length≤1000000 →
  ∃ks' r,nA g len ks=some (ks',r) ∧r.length= ((ks.map q).flatten).length∧∀x∈r,aOA x
 | [],len,_,_=> ⟨[],[],rfl,rfl,fun x hx=>by cases hx⟩
 | k ::ks,len,hg,hb=>by
  simp only [map_cons,List.flatten_cons,length_append]at hb ⊢;obtain⟨ns,e,hl,hf⟩ :=hg k (List.mem_cons_self ..) len (by omega);obtain⟨ks',r,e2,hl2,hf2⟩ :=aJz ks (len+ns.length) (fun c hc=>hg c (List.mem_cons_of_mem _ hc)) (by omega);refine⟨(len:Int) ::ks',ns++r,?_,by rw [length_append];omega,fun x hx=>?_⟩
  · rw [nA,e];simp only;rw [e2]
  · rcases List.mem_append.1 hx with h|h
    ·exact hf x h
    ·exact hf2 x h
structure MovN (p:Prog) (F C:List Int) (i:Nat) (x:Node) :Prop where
 kl:x.kids.length≤10
 kids:∀k∈x.kids,(i:Int) <k∧k<p.nodes.length
 ps:aV x.pats≤120
 n:∃n',mN F C x.op x.n=some n'
 pats:∃ps',jU C x.pats=some ps'∧aV ps'=aV x.pats
theorem aFc {p:Prog}{F C:List Int}(hN:∀ (i:Nat) (x:Node),p.nodes[i]?=some x→MovN p F C i x) :∀ (k:Nat) (a:Int) (len:Nat),0≤a→a<p.nodes.length→p.nodes.length-a.toNat≤k→len+ (pre p k a).length≤1000000 →
  ∃ns,dR p F C k len a=some ns∧ns.length= (pre p k a).length∧∀x∈ns,aOA x
 |0,a,len,ha,hn,hf,_=>by omega
 | k + 1,a,len,ha,hn,hf,hb=>by
  obtain⟨x,hx⟩ :∃x,p.nodes[a.toNat]?=some x:= ⟨_,getElem?_eq_getElem (by omega)⟩;have hm:=hN _ _ hx;have e:pre p (k+1) a=a:: (x.kids.map (pre p k)).flatten:=by rw [pre,hx]
  rw [e]at hb ⊢;simp only [length_cons]at hb ⊢
  obtain⟨ks,r,e1,e2,e3⟩ :=aJz (g:=dR p F C k) (q:=pre p k) x.kids (len+1) (fun c hc len h1=>by
   have:=hm.kids c hc;exact aFc hN k c len (by omega) (by omega) (by omega) h1) (by omega)
  obtain⟨n',hn'⟩ :=hm.n;obtain⟨ps',hp',hz⟩ :=hm.pats;have h1:=hm.kl;have h2:=hm.ps;refine⟨⟨x.op,n',ks,ps'⟩ ::r,?_,by simp [e2],fun y hy=>?_⟩
  · rw [dR,if_pos ⟨ha,by omega⟩,hx];simp only;rw [if_pos ⟨by omega,by omega⟩,hn'];simp only;rw [hp'];simp only;rw [e1]
  · rcases List.mem_cons.1 hy with h|h
    · rw [h];exact⟨by rw [aFb e1];exact h1,by rw [hz];exact h2⟩
    ·exact e3 y h
theorem aMI {p p':Prog}{f:Node→Node}(h:p'.nodes=p.nodes.map f)(hf:∀x,(f x).kids=x.kids) :∀ (k:Nat) (a:Int),pre p' k a=pre p k a
 |0,a=>rfl
 | k+1,a=>by
  have ih:pre p' k=pre p k:=funext (aMI h hf k);rw [pre,pre,h,getElem?_map];cases p.nodes[a.toNat]? with
  |none=>rfl
  |some x=>simp only [Option.map];rw [hf,ih]
theorem pR (a b:Nat)(x:Node) : (uR a b x).kids=x.kids:=by unfold uR;split<;>rfl
theorem aBg (a b:Nat)(x:Node) : (uR a b x).pats=x.pats:=by unfold uR;split<;>rfl
theorem aCl (a b:Nat)(x:Node) : (uR a b x).op=x.op:=by unfold uR;split<;>rfl
structure GoodU (u:LUnit) :Prop where
 few:FewU u
 formed:aGW u=true
theorem GoodU.small {u:LUnit}(h:GoodU u) :u.nodes.length≤320∧u.cons.length≤25:=by
 have:=h.few.p;simp only [aH,and_eq_true,decide_eq_true_eq]at this;exact⟨this.1.1.1.1,this.1.1.2⟩
theorem GoodU.cases {u:LUnit}(h:GoodU u) : (u.funs= [] ∧u.nodes= []) ∨ (u.funs≠ [] ∧aW (oZ u) =true) :=by
 have hf:=h.formed;unfold aGW at hf;simp only [and_eq_true]at hf;have h2:=hf.2;split at h2
 · rename_i h0;simp only [and_eq_true,decide_eq_true_eq]at h2;exact .inl ⟨List.eq_nil_of_length_eq_zero h0,List.eq_nil_of_length_eq_zero h2.1⟩
 · rename_i h0;exact .inr ⟨fun e=>h0 (by rw [e];rfl),h2⟩
def bP :List LUnit→Nat
 | [] =>0
 |u::l=>u.nodes.length+bP l
def nC :Str:=[109,97,105,110]
def aUB (ls:List Str)(cs:List Con)(l:List LUnit) :List LFun×List Node:= (aWW (jQ l) ls cs [] [] l).getD ([],[])
structure PutOk (ls:List Str) (cs:List Con) (l:List LUnit) :Prop where
 eq:aWW (jQ l) ls cs [] [] l=some (aUB ls cs l)
 len: (aUB ls cs l).2.length=bP l
 fit:∀x∈ (aUB ls cs l).2,aOA x
 funs: (aUB ls cs l).1.length≤300
structure Fw (p:Prog) :Prop where
 fine:FineP p
 dup: (dP p).Nodup
 len: (dP p).length=p.nodes.length
 into:∀x∈dP p,0≤x∧x<p.nodes.length
theorem Fw.of {p:Prog}(h:Fm p) :Fw p:= ⟨h.fine,h.dup,h.len,h.into⟩
section
variable {p :Prog}
theorem Fw.mem (h:Fw p){k:Int}(h0:0≤k)(h1:k<p.nodes.length) :∃i:Nat,(dP p)[i]?=some k:=by
 refine List.mem_iff_getElem?.1 ?_;have hd: ((dP p).map Int.toNat).Nodup:=by
  have hd:=h.dup;rw [List.nodup_iff_pairwise_ne]at hd ⊢;refine List.pairwise_map.2 (hd.imp_of_mem (fun {a b} ha hb hne e=>?_));have:=h.into a ha;have:=h.into b hb;exact hne (by omega)
 by_cases hm:k∈dP p
 ·exact hm
 · have h2:=mG (p.nodes.length) (k.toNat:: (dP p).map Int.toNat) (List.nodup_cons.2 ⟨fun hm2=>by
    obtain⟨y,hy,e⟩ :=List.mem_map.1 hm2;have:=h.into y hy;exact hm ((show y=k by omega) ▸ hy),hd⟩) (fun x hx=>by
    rcases List.mem_cons.1 hx with rfl|hx
    ·omega
    · obtain⟨y,hy,rfl⟩ :=List.mem_map.1 hx;have:=h.into y hy;omega)
   rw [length_cons,length_map]at h2;have:=h.len;omega
theorem Fw.after (h:Fw p) :KidsAfter p (dP p) :=KidsAfter.flatten fun l hl=>by
 obtain⟨k,hk,rfl⟩ :=List.mem_map.1 hl;have:=h.fine.funs k hk;exact aE8 h.fine _ k this.1 this.2 (by omega)
theorem Fw.toL (h:Fw p)(off:Nat) :∀ (i:Nat) (k:Int),(dP p)[i]?=some k→kF (toL p off) k= ((off+i:Nat) :Int) :=fun i k hk=>by
 have:=aE2 (dP p) (List.replicate p.nodes.length 0) off h.dup (fun x hx=>by rw [List.length_replicate];exact h.into x hx) i k hk;unfold Go.Hb.toL;rw [this];simp
end
section
variable {a p:Prog} {off:Nat} {mf mc:List (Int×Int)} {to:List Int}
theorem Laid.atW (h:Laid a off p mf mc to)(hp:Fw p){k:Int}(h0:0≤k)(h1:k<p.nodes.length) :0≤kF to k∧a.nodes[(kF to k).toNat]?=some (kZ mf mc to (nodeAt p k)) :=by
 obtain⟨i,hi⟩ :=hp.mem h0 h1;have e:=h.to i k hi;rw [e,Int.toNat_natCast];exact⟨by omega,h.node i k hi⟩
theorem aFd (h:Laid a off p mf mc to)(hp:Fw p) :∀ (f:Nat) (k:Int),0≤k→k<p.nodes.length→p.nodes.length-k.toNat≤f→pre a f (kF to k) = (pre p f k).map (kF to)
 |0,k,h0,h1,h2=>by omega
 | f+1,k,h0,h1,h2=>by
  obtain⟨x,hx⟩ :∃x,p.nodes[k.toNat]?=some x:= ⟨_,getElem?_eq_getElem (by omega)⟩;obtain⟨g0,g1⟩ :=h.atW hp h0 h1;rw [pQ hx]at g1;rw [Go.Hb.pre,Go.Hb.pre,hx,g1];simp only [map_cons,List.map_flatten,map_map,kZ];congr 2
  exact List.map_congr_left (fun c hc=>by
   have:= (hp.fine.node _ _ hx).2.2 c hc;exact aFd h hp f c (by omega) (by omega) (by omega))
theorem Laid.walkW (h:Laid a off p mf mc to)(hp:Fw p){F:Nat}(hF:p.nodes.length≤F) : ((p.funs.map (kF to)).map (Go.Hb.pre a F)).flatten= (range p.nodes.length).map fun i=> ((off+i:Nat) :Int) :=by
 have e1: (p.funs.map (kF to)).map (Go.Hb.pre a F) = (p.funs.map (Go.Hb.pre p p.nodes.length)).map (map (kF to)) :=by
  rw [map_map,map_map];refine List.map_congr_left (fun k hk=>?_);have:=hp.fine.funs k hk;show Go.Hb.pre a F (kF to k) = (Go.Hb.pre p p.nodes.length k).map (kF to);rw [aFd h hp F k this.1 this.2 (by omega),aDB hp.fine F p.nodes.length k this.1 this.2 (by omega) (by omega)]
 rw [e1,←List.map_flatten];have hlen:=hp.len;refine List.ext_getElem? (fun i=>?_);rw [getElem?_map,getElem?_map];by_cases hi:i< (dP p).length
 · rw [List.getElem?_range (by omega)];have e: (dP p)[i]?=some (dP p)[i] :=getElem?_eq_getElem hi;have: ((p.funs.map (Go.Hb.pre p p.nodes.length)).flatten)[i]?=some (dP p)[i] :=e;rw [this];simp only [Option.map_some];rw [h.to i _ e]
 · have e: (dP p)[i]?=none:=List.getElem?_eq_none (by omega);have: ((p.funs.map (Go.Hb.pre p p.nodes.length)).flatten)[i]?=none:=e;rw [this,List.getElem?_eq_none (by simp;omega)];rfl
end
def fY (u:LUnit) :Prog:= ⟨u.nodes,hU u,0,u.cons⟩
def aBP (u:LUnit) :Prog:= ⟨u.nodes,List.replicate (u.funs.length+u.needs.length) 0,0,u.cons⟩
theorem aAp {p p':Prog}(h:p'.nodes=p.nodes)(F C:List Int) :∀k:Nat,dR p' F C k=dR p F C k
 |0=>rfl
 | k+1=>by
  funext len a
  rw [dR,dR,h,aAp h F C k]
theorem aJA {u:LUnit}{x:Node}(h:aZ (oZ u) (uR u.funs.length u.needs.length x) =true) :aZ (aBP u) x=true:=by
 have hf: (oZ u).funs.length=u.funs.length:=by simp [oZ,hU]
 have hw: (aBP u).funs.length=u.funs.length+u.needs.length:=by simp [aBP]
 simp only [aZ,fJ,and_eq_true,decide_eq_true_eq]at h ⊢;rw [pR,aBg,aCl]at h;obtain⟨⟨⟨h1,h2⟩,h3⟩,h4⟩ :=h;by_cases e4:x.op=4
 · have z1:eM (aBP u) x=0:=by unfold eM;rw [if_neg (fun g=>by have:=g.1;omega)]
   have z2:eM (oZ u) (uR u.funs.length u.needs.length x) =0:=by unfold eM;rw [aCl,if_neg (fun g=>by have:=g.1;omega)]
   rw [z2]at h4;rw [z1];refine⟨⟨⟨?_,h2⟩,h3⟩,h4⟩;by_cases g: -(u.funs.length:Int) -u.needs.length≤x.n∧x.n≤ -(u.funs.length:Int) -1
   · rw [e4];simp [bL,cR,hw];omega
   · have e:uR u.funs.length u.needs.length x=x:=by unfold uR;rw [if_neg (fun k=>g k.2)]
     rw [e,e4]at h1;rw [e4];simp [bL,cR,hf,hw]at h1 ⊢;omega
 · have e:uR u.funs.length u.needs.length x=x:=by unfold uR;rw [if_neg (fun g=>e4 g.1)]
   rw [e]at h1 h4;refine⟨⟨⟨?_,h2⟩,h3⟩,h4⟩;unfold bL at h1 ⊢;rw [if_neg e4]at h1 ⊢;exact h1
theorem aOB {u:LUnit}(h:GoodU u){i:Nat}{x:Node}(hx:u.nodes[i]?=some x) :aZ (aBP u) x=true∧x.pats.length≤10∧aQ x=true:=by
 have hs:=h.few.p;simp only [aH,and_eq_true]at hs;have hsn:=List.all_eq_true.1 hs.2 x (mem_of_getElem? hx);have hsn2:=hsn;simp only [aQ,and_eq_true,decide_eq_true_eq]at hsn2;refine⟨?_,hsn2.1.2,hsn⟩;rcases h.cases with⟨_,h1⟩ | ⟨_,hr⟩
 ·rw [h1]at hx;simp at hx
 · have hx': (oZ u).nodes[i]?=some (uR u.funs.length u.needs.length x) :=by simp [oZ,getElem?_map,hx]
   exact aJA ((yM (vN h.few) hr).2.2.2 i _ hx')
theorem aAq {u:LUnit}(h:GoodU u) :Fw (fY u) :=by
 rcases h.cases with⟨h0,h1⟩ | ⟨_,hr⟩
 · have hb:hU u= [] :=by simp [hU,h0]
   have ho:dP (fY u) = [] :=by unfold dP;simp [fY,hb]
   refine⟨⟨by simp [fY,h1],by simp [fY,hb],fun i x hx=>by simp [fY,h1]at hx,fun f hf=>by simp [fY,hb]at hf⟩,by rw [ho];exact List.nodup_nil,by rw [ho];simp [fY,h1],fun x hx=>by rw [ho]at hx;cases hx⟩
 · have hs:=vN h.few;obtain⟨p1,p2,p3,p4⟩ :=yM hs hr;have hfn:=uO hs hr;have hnl: (oZ u).nodes.length=u.nodes.length:=by simp [oZ]
   have ho:dP (fY u) = ((oZ u).funs.map (pre (oZ u) (oZ u).nodes.length)).flatten:=by
    unfold dP;rw [hnl];show((hU u).map (pre (fY u) u.nodes.length)).flatten= ((hU u).map _).flatten;congr 2;exact(funext (aMI (p:=fY u) (p':=oZ u) (f:=uR u.funs.length u.needs.length) rfl (pR _ _) _)).symm
   refine⟨⟨by have:=hfn.small;rw [hnl]at this;exact this,hfn.fsmall,fun i x hx=>?_,fun f hf=>by have:=hfn.funs f hf;rw [hnl]at this;exact this⟩,by rw [ho];exact p1,by rw [ho,p2,hnl];rfl,fun x hx=>by rw [ho]at hx;have:=p3 x hx;rw [hnl]at this;exact this⟩;have hx1:u.nodes[i]?=some x:=hx;have hx': (oZ u).nodes[i]?=some (uR u.funs.length u.needs.length x) :=by simp [oZ,getElem?_map,hx1]
   obtain⟨c1,c2,c3⟩ :=hfn.node i _ hx';have m1:=c1.mat;have m2:=c1.let2;rw [aCl,pR,aBg]at m1;rw [aCl,pR]at m2;rw [pR]at c2 c3;rw [hnl]at c3;exact⟨⟨fun q hq=>c1.pats q (by rw [aBg];exact hq),m1,m2⟩,c2,c3⟩
def aG8 :List Int→Int→List (Int×Int) →List (Int×Int)
 | [],_,m=>m
 |g::t,i,m=>aG8 t (i+1) (dQ i g m)
theorem aJB :∀ (t:List Int) (i:Int) (m:List (Int×Int)) (j:Int),j<i→mF (aG8 t i m) j=mF m j
 | [],i,m,j,h=>rfl
 |c::t,i,m,j,h=>by rw [aG8,aJB t (i+1) _ j (by omega),aCk,if_neg (by omega)]
theorem aMJ :∀ (t:List Int) (i:Int) (m:List (Int×Int)) (j:Nat) (d:Int),t[j]?=some d→mF (aG8 t i m) (i+j) =d
 | [],i,m,j,d,h=>by simp at h
 | c::t,i,m,0,d,h=>by
  simp only [List.getElem?_cons_zero,Option.some.injEq]at h;subst h;rw [aG8,aJB t (i+1) _ _ (by omega),aCk,if_pos (by omega)]
 | c::t,i,m,j+1,d,h=>by
  simp only [List.getElem?_cons_succ]at h;have:=aMJ t (i+1) (dQ i c m) j d h;rw [aG8,show i+ ((j+1:Nat) :Int) =i+1+ (j:Int)by omega];exact this
theorem aG9 (F:List Int) :aE3 F.length (aG8 F 0 []) F:=fun i h0 h1=>by
 have e:F[i.toNat]?=some (F[i.toNat]'(by omega)) :=getElem?_eq_getElem (by omega);have:=aMJ F 0 [] i.toNat _ e;rw [show(0:Int) + ((i.toNat:Nat) :Int) =i by omega]at this;rw [e,this]
def mfU (T ls:List Str)(u:LUnit) :List (Int×Int) :=aG8 (aFa T ls u) 0 []
def mcU (cs:List Con)(u:LUnit) :List (Int×Int) :=aLM cs u.cons 0 []
theorem aOC (T ls:List Str)(u:LUnit) : (aFa T ls u).length=u.funs.length+u.needs.length:=by simp [aFa,fN]
theorem aWY {T ls:List Str}{u:LUnit}{i:Int}(h0:0≤i)(h1:i<u.funs.length+u.needs.length) :∃s,(fN u++u.needs)[i.toNat]?=some s∧mF (mfU T ls u) i=aOz T ls s:=by
 have hl:=aOC T ls u;have e:=aG9 (aFa T ls u) i h0 (by omega);unfold aFa at e;rw [getElem?_map]at e;cases hs: (fN u++u.needs)[i.toNat]? with
 |none=>rw [hs]at e;cases e
 |some s=>rw [hs]at e;exact⟨s,rfl,(Option.some.inj e).symm⟩
def aRG (T ls:List Str)(cs:List Con)(off:Nat)(u:LUnit) :List Node:= (dP (fY u)).map fun k=>kZ (mfU T ls u) (mcU cs u) (toL (fY u) off) (nodeAt (fY u) k)
def aRH (off:Nat)(u:LUnit) :List Int:= (hU u).map (kF (toL (fY u) off))
theorem aRI {u:LUnit}(h:GoodU u)(T ls:List Str)(cs:List Con)(off:Nat) : (aRG T ls cs off u).length=u.nodes.length:=by
 unfold aRG;rw [length_map,(aAq h).len];rfl
def pS (T ls:List Str)(cs:List Con) :Nat→List LUnit→List Node
 |_,[] =>[]
 |off,u::l=>aRG T ls cs off u++pS T ls cs (off+u.nodes.length) l
theorem aBh {T ls:List Str}{cs:List Con}:∀ (l:List LUnit) (off:Nat),(∀u∈l,GoodU u) → (pS T ls cs off l).length=bP l
 | [],off,_=>rfl
 | u::l,off,hg=>by
  rw [pS,length_append,aRI (hg u (List.mem_cons_self ..)),aBh l _ (fun x hx=>hg x (List.mem_cons_of_mem _ hx)),bP]
theorem aFe {T ls:List Str}{cs:List Con}:∀ (l m:List LUnit) (off:Nat),pS T ls cs off (l++m) =pS T ls cs off l++pS T ls cs (off+bP l) m
 | [],m,off=>by simp [pS,bP]
 | u::l,m,off=>by
  rw [List.cons_append,pS,pS,aFe l m,append_assoc,bP,Nat.add_assoc]
theorem vP :∀l m:List LUnit,bP (l++m) =bP l+bP m
 | [],m=>by simp [bP]
 |u::l,m=>by rw [List.cons_append,bP,bP,vP l m,Nat.add_assoc]
theorem aRJ (off:Nat)(u:LUnit) : (fN u).length= (aRH off u).length:=by simp [aRH,fN,hU]
def aAr :Nat→List LUnit→List Int
 |_,[] =>[]
 |off,u::l=>aRH off u++aAr (off+u.nodes.length) l
theorem aBi :∀ (l:List LUnit) (off:Nat),(aAr off l).length= (jQ l).length
 | [],off=>rfl
 |u::l,off=>by rw [aAr,length_append,←aRJ,aBi l,aBa,length_append]
section
variable {T ls:List Str} {cs:List Con} {a:Prog} {l:List LUnit}
theorem aDH (hg:∀u∈l,GoodU u)(ha:a.nodes=pS T ls cs 0 l){l1 l2:List LUnit}{u:LUnit}(hl:l=l1++u::l2) :Laid a (bP l1) (fY u) (mfU T ls u) (mcU cs u) (toL (fY u) (bP l1)) :=by
 have hw:=aAq (hg u (by rw [hl];simp));refine⟨fun i k hk=>?_,hw.toL _⟩;have h1:=aBh (T:=T) (ls:=ls) (cs:=cs) l1 0 (fun x hx=>hg x (by rw [hl];simp [hx]));have hlt:= (List.getElem?_eq_some_iff.1 hk).1;rw [ha,hl,aFe,pS,List.getElem?_append_right (by omega),h1,show bP l1+i-bP l1=i by omega,Nat.zero_add,List.getElem?_append_left (by unfold aRG;rw [length_map];exact hlt)];unfold aRG;rw [getElem?_map,hk];rfl
theorem aDI (hg:∀u∈l,GoodU u)(ha:a.nodes=pS T ls cs 0 l){N:Nat}(hN:bP l≤N) :∀ (l2 l1:List LUnit),l=l1++l2 →
  ((aAr (bP l1) l2).map (pre a N)).flatten= (range (bP l2)).map fun i=> ((bP l1+i:Nat) :Int)
 | [],l1,_=>rfl
 | u::l2,l1,hl=>by
  have hw:=aAq (hg u (by rw [hl];simp));have hsz:bP l=bP l1+ (u.nodes.length+bP l2) :=by rw [hl,vP,bP]
  have e1:= (aDH (T:=T) (ls:=ls) (cs:=cs) (a:=a) hg ha hl).walkW hw (F:=N) (by change u.nodes.length≤N;omega);have e2:=aDI hg ha hN l2 (l1++ [u]) (by rw [hl,append_assoc];rfl);have es:bP (l1++ [u]) =bP l1+u.nodes.length:=by rw [vP,bP,bP];omega
  rw [es]at e2;rw [aAr,List.map_append,List.flatten_append,e2]
  change ((aRH (bP l1) u).map (pre a N)).flatten=_ at e1
  rw [e1,bP,List.range_add,List.map_append,map_map];congr 1;refine List.map_congr_left (fun i _=>?_);simp only [Function.comp];omega
end
def aXI(a:List Str):TS:=dO PP 139 [(iS a)] [] 0
def aHa(a:List Str)(b:Int):TS:=⟨(tf 204 19 [(0,(iS a)),(1,(.func 202 [] [])),(4,(nI 0)),(7,(nI (a.length:Int))),(8,(nI b))] [kc f204 52,kl f204 52,.inBlock 0,kc f204 7]),[(tf 201 9 [(4,(bV false)),(5,(iS a)),(6,(.func 202 [] []))] [ko f201 6 2,kc f201 7]),(tf 139 10 [(0,(iS a)),(2,(bV false)),(3,(iS a))] [ko f139 6 1,kc f139 7])],[],0⟩
def aBj(a:List Str)(c:Int)(b:List (Str×Bool)):TS:=⟨(tf 203 25 [(1,(.func 141 [] [])),(4,(bV false)),(5,(.map 0)),(9,(iS a)),(10,(nI (a.length:Int))),(11,(nI c))] [kc f203 116,kl f203 116,.inBlock 0,kc f203 15]),[(tf 139 10 [(2,(bV false)),(6,(bV true)),(7,(iS a))] [ko f139 6 5,kc f139 7])],[(0,(.map (cA avS lF 0 b) b.length),true)],1⟩
def aUC (a:List Str):=(tT 0 (aXI a)<|gl 25 avS a<|.W 4 0 [] (aHa a 0)) tv
def aLO(a:List Str)(b:Int):=tT 0 (aHa a b)<|gd 5 9 (b< (a.length:Int)) (gX avS 14 a b<|fun c=>fZ 9 85 [(avS c)]<|fun d=>.b 6 16 (!d) (.b 15 6 (!(decide (b≥0))) (.i [rn 9,.mset 0 (cA avS lF 0 ([] :List (Str×Bool))) ([] :List (Str×Bool)).length] [hr (cA avS lF 0 ([] :List (Str×Bool))),hr (length ([] :List (Str×Bool)))]<|gl 6 avS a<|.W 4 1 [0] (aBj a 0 ([] :List (Str×Bool))))<|gE 6 0 (bV false))<|gw 5 18 (b+1)<|.W 3 0 [] (aHa a (b+1)))<|.i [rn 24,.mset 0 (cA avS lF 0 ([] :List (Str×Bool))) ([] :List (Str×Bool)).length] [hr (cA avS lF 0 ([] :List (Str×Bool))),hr (length ([] :List (Str×Bool)))]<|gl 6 avS a<|.W 4 1 [0] (aBj a 0 ([] :List (Str×Bool)))
def aUD:=fun a b c d e f g i j k=>aLO a b|>.t e c f g d i|>.t j|>.f k tv
def aUE:=fun a b c d e f g i j k=>aLO a b|>.t e c f g d i|>.f j k tv
def aUF:=fun a b c=>aLO a b|>.f c ⟨aGc (fun _=>rfl) (fun _=>rfl) _ _ _,trivial⟩
def aLP(f:List Str)(c:Int)(a:List (Str×Bool)):=tT 0 (aBj f c a)<|gd 5 12 (c< (f.length:Int)) (gX avS 6 f c<|fun g=>gpS 9 141 [(avS g)]<|fun d=>.o (.y fun b:Bool=>.i [.ans (.look (some (aGb d a,(lF b))))] [.a (fU d a=some b) (p':=gI (avS d) (cA avS lF 0 a) 0=some (some (aGb d a,(lF b)))) (aM7 aAb)]<|.b 1 19 b (gE 11 1 (bV false))<|gpS 6 141 [(avS g)]<|fun e=>.i [.mput (cA avS lF 0 (dQ e true a)) (dQ e true a).length] [.q (p:=qY (cA avS lF 0 a) a.length (avS e) (lF true) =some ((cA avS lF 0 (dQ e true a)),length (dQ e true a))) (aGa aAb _ _ _)]<|gw 4 24 (c+1)<|.W 3 1 [0] (aBj f (c+1) (dQ e true a)))<|.i [.ans (.look none)] [.a (fU d a=none) (p':=gI (avS d) (cA avS lF 0 a) 0=some none) (aM6 aAb)]<|gpS 7 141 [(avS g)]<|fun b=>.i [.mput (cA avS lF 0 (dQ b true a)) (dQ b true a).length] [.q (p:=qY (cA avS lF 0 a) a.length (avS b) (lF true) =some ((cA avS lF 0 (dQ b true a)),length (dQ b true a))) (aGa aAb _ _ _)]<|gw 4 24 (c+1)<|.W 3 1 [0] (aBj f (c+1) (dQ b true a)))<|gE 12 1 (bV true)
def aUG:=fun a b c d e f g i j k l m=>aLP a b c|>.t g d i j e k|>.1 f l|>.t m tv
def aUH:=fun a b c d e f g i j k l m n=>aLP a b c|>.t g d i j e k|>.2 l f m n ⟨aGc (fun _=>rfl) (fun _=>rfl) _ _ _,trivial⟩
def aUI:=fun a b c d=>aLP a b c|>.f d tv
def aWZ(a b:List Str):TS:=dO PP 21 [(iS a),(iS b)] [] 0
def aCm(a b:List Str)(c:Int):TS:=⟨(tf 21 26 [(0,(iS a)),(1,(iS b)),(4,(bV false)),(5,(nI c))] [kc f21 116,kl f21 116,.inBlock 0,kc f21 15]),[],[],0⟩
def aXJ(a:Bool)(b:Int):TS:=dO PP 67 [(bV a),(nI b)] [] 0
def aXK(a:Str):TS:=dO PP 141 [(avS a)] [] 0
def aW0(a b:List Str):=tT 0 (aWZ a b)<|gl 8 avS a<|gl 1 avS b<|.b 2 10 ((a.length:Int) != (b.length:Int)) (gE 6 0 (bV false))<|.W 9 0 [] (aCm a b 0)
def aRK:=fun a b c=>aW0 a b|>.f c tv
def aRL(b e:List Str)(a:Int):=tT 0 (aCm b e a)<|gl 5 avS b<|gd 2 14 (a< (b.length:Int)) (.y fun c:Str=>.y fun d:Str=>.i [rn 5,.reg (.d::.d::.ans (.idx (avS c))::rd 3 [.ans (.idx (avS d)),.d,.d])] [hA (0≤a),.a (((b)[a.toNat]?) =some c) (aK (f:=avS)),hA (0≤a),.a (((e)[a.toNat]?) =some d) (aK (f:=avS))]<|.b 0 25 (!(bE c.length (aA c) d.length (aA d))) (gE 6 0 (bV false))<|gw 6 16 (a+1)<|.W 3 0 [] (aCm b e (a+1)))<|gE 7 0 (bV true)
def aRM:=fun b c d e f g a i j k l=>aRL b c d|>.t g e f a i a j|>.f k l tv
def aRN:=fun a b c d=>aRL a b c|>.f d tv
def aRO(a:Bool)(b:Int):=tT 0 (aXJ a b)<|.b 4 4 a (gQ 6 0 [((.iface 201 (.agg [(nI b)])),false)])<|gE 3 0 (.tup [])
def aUJ:=fun a b c=>aRO a b|>.t c tv
def aUK:=fun a b c=>aRO a b|>.f c tv
def aUL (a:Str):=(tT 0 (aXK a)<|gE 10 0 (avS a)) tv
end
end Go.Hb

set_option linter.defProp false
set_option linter.unusedVariables false
set_option linter.unusedSimpArgs false
set_option linter.unusedSectionVars false
set_option maxRecDepth 100000
set_option maxHeartbeats 4000000
namespace Go.Hb
open List (map mem_cons_of_mem mem_cons_self)
open Go.Proofs Tryz
noncomputable section
theorem aFf (a:List Str)(ha:a.length<1000000) :∀ (t:List Str) (i:Nat),a.drop i=t→Ends PP 0 (aCm a a (i:Int)).as (.ret (.bool true)) (aE [] 0)
 | [],i,h=>by
  have:=bK h;exact aRN a a i sd
 | x::t,i,h=>by
  obtain⟨q1,q2,q3⟩ :=bJ h;exact(aRM a a i x x sd sd sd sd (by rw [nB];rfl) sd).ends (aFf a ha t (i+1) q2)
theorem aOD (a:List Str)(ha:a.length<1000000) :Pure PP 21 [.ilst 1 (map avS a) false,.ilst 1 (map avS a) false] (.bool true) :=
 aN (by kernel_rfl) rfl rfl ((aRK a a (by simp)).ends (aFf a ha a 0 rfl))
theorem aJC (u:LUnit)(hu:FitU u) :∀ (t:List LFun) (i:Nat),u.funs.drop i=t→Ends PP 0 (aGV u u (i:Int)).as (.ret (.bool true)) (aE [] 0)
 | [],i,h=>by
  have:=bK h;exact aTZ u u i true sd (aOs (aLE (uQ u) hu.p) (fun E c h=>aE5 h) (fun E c h=>aE5 h))
 | x::t,i,h=>by
  obtain⟨q1,q2,q3⟩ :=bJ h;have hf:=hu.f;exact(aTY u u i x x sd sd sd sd (by rw [nB];simp) sd).ends (aJC u hu t (i+1) q2)
theorem aJD (u:LUnit)(hu:FitU u) :Pure PP 29 [LUnit.av u,LUnit.av u] (.bool true) :=
 fW (s:=aV3 u u) (by kernel_rfl) (by kernel_rfl) (by simp [AV.keylessL,aRc]) rfl ((aTX u u true (by rw [nB];rfl) (aOD u.needs hu.n) rfl (by simp)).ends (aJC u hu u.funs 0 rfl))
theorem aW1 (e:Int) :Pure PP 67 [.bool false,.int .i64 e] (.tup []) :=
 aN (by kernel_rfl) rfl rfl (aUK false e rfl)
theorem aW2 (e:Int) :aKf PP 67 [.bool true,.int .i64 e] [((.iface 201 (.agg [(.int .i64 e)])),false)] :=
 throws_at (by kernel_rfl) rfl (fun x hx=>by rw [List.mem_singleton.1 hx];rfl) (aUJ true e rfl)
theorem uV (s:Str) :Pure PP 141 [avS s] (avS s) :=aN (by kernel_rfl) rfl rfl (aUL s)
def aRP (pre:List Str)(m:List (Str×Bool)) :Prop:=∀s,fU s m=if bO pre s=true then some true else none
theorem aOE {pre:List Str}{m:List (Str×Bool)}(h:aRP pre m)(s:Str) :aRP (pre++ [s]) (dQ s true m) :=fun k=>by
 rw [pP,h k];by_cases e:k=s
 ·rw [if_pos e,if_pos (by rw [hasS_mem,e];simp)]
 · rw [if_neg e];have: (bO (pre++ [s]) k=true) = (bO pre k=true) :=by
    rw [hasS_mem,hasS_mem];simp [e]
   simp only [this]
theorem aWb (l:List Str)(hl:l.length<1000000) :∀ (t:List Str) (i:Nat) (m:List (Str×Bool)),l.drop i=t→aRP (l.take i) m→Ends PP 0 (aBj l (i:Int) m).as (.ret (.bool (cB (l.take i) t))) (aE [] 0)
 | [],i,m,h,hm=>by
  have:=bK h;exact aUI l i m sd
 | s::t,i,m,h,hm=>by
  obtain⟨q1,q2,q3⟩ :=bJ h;have g:=hm s;rw [cB];cases e:bO (l.take i) s with
  | true=>
   rw [e,if_pos rfl]at g;exact aUG l i m s s true sd sd sd (uV s) g rfl
  | false=>
   rw [e,if_neg (by simp)]at g;have h1:=aUH l i m s s s sd sd sd (uV s) g (uV s) sd;have ih:=aWb l hl t (i+1) (dQ s true m) q2 (by rw [aMx q1];exact aOE hm s);rw [aMx q1]at ih;exact h1.ends ih
theorem aWc (l:List Str)(hl:l.length<1000000) :∀ (t:List Str) (i:Nat),l.drop i=t→Ends PP 0 (aHa l (i:Int)).as (.ret (.bool (t.all xC&&eI l))) (aE [] 0)
 | [],i,h=>by
  have:=bK h;have h2:=aWb l hl l 0 [] rfl (fun s=>by simp [fU,bO]);exact(aUF l i sd).ends h2
 | s::t,i,h=>by
  obtain⟨q1,q2,q3⟩ :=bJ h;have hn:=aQZ s;rw [List.all_cons];cases e:xC s with
  |false=>rw [e]at hn;exact aUD l i s false sd sd sd hn rfl (by simp)
  |true=>rw [e]at hn;rw [Bool.true_and];exact(aUE l i s true sd sd sd hn rfl sd).ends (aWc l hl t (i+1) q2)
theorem aRQ (l:List Str)(hl:l.length<1000000) :Pure PP 139 [.ilst 1 (map avS l) false] (.bool (oM l)) :=
 aN (by kernel_rfl) rfl rfl ((aUC l).ends (aWc l hl l 0 rfl))
theorem aDJ (l:List Str) :eI l=true↔l.Nodup:=
 ⟨fun h=> (rU l [] h).1,fun h=>rV l [] h (fun _ _ hx=>by cases hx)⟩
def aYZ (u:LUnit) :Prop:=∀x∈u.nodes,-9223372036854775808≤x.n∧x.n≤9223372036854775807
section
variable (u :LUnit) (hu:FewU u) (hi:aYZ u)
include hu hi
end
abbrev aRR (l:List Str) :AObj:=.lst 1 (map avS l)
theorem nD (a b:List Str)(s:Str) :bO (a++b) s= (bO a s||bO b s) :=by simp [bO]
theorem aBk (s:Str) :∀ (a b:List Str) (i:Nat),dH s (a++b) i=if bO a s=true then dH s a i else dH s b (i+a.length)
 | [],b,i=>by simp [bO]
 | x ::a,b,i=>by
  rw [List.cons_append,dH,dH,aBb];by_cases e:x=s
  ·rw [if_pos e,if_pos e,decide_eq_true e,Bool.true_or,if_pos rfl]
  · rw [if_neg e,if_neg e,decide_eq_false e,Bool.false_or,aBk s a b (i+1)];rw [List.length_cons,show i+1+a.length=i+ (a.length+1)by omega]
theorem aBl (s:Str) :∀ (a:List Str) (i:Nat),dH s a i<0↔bO a s=false
 | [],i=>by simp [dH,bO]
 | x ::a,i=>by
  rw [dH,aBb];by_cases e:x=s
  · rw [if_pos e,decide_eq_true e,Bool.true_or];constructor
    ·intro h;omega
    ·intro h;cases h
  ·rw [if_neg e,decide_eq_false e,Bool.false_or,aBl s a (i+1)]
theorem aAs (a:List Str)(s:Str) :eI (a++ [s]) = (eI a&& !bO a s) :=by
 rw [Bool.eq_iff_iff,aDJ,Bool.and_eq_true,aDJ,Bool.not_eq_true',Bool.eq_false_iff,Ne,hasS_mem,List.nodup_append];constructor
 · intro h;exact⟨h.1,fun hm=>h.2.2 s hm s (by simp) rfl⟩
 · intro h;refine⟨h.1,by simp,fun x hx y hy e=>?_⟩;rw [List.mem_singleton.1 hy]at e;exact h.2 (e ▸ hx)
structure TabI (od:List Str) (tw:Bool) (mf mh:List (Str×Int)) :Prop where
 tw:tw= !eI od
 f:∀s,fU s mf=if bO od s=true then some (dH s od 0)else none
 h:∀s,bO od s=false→fU s mh=none
theorem TabI.nil :TabI [] false [] [] := ⟨rfl,fun s=>by simp [fU,bO],fun s _=>rfl⟩
theorem TabI.old {od:List Str}{tw:Bool}{mf mh:List (Str×Int)}(t:TabI od tw mf mh){s:Str}(h:bO od s=true) :TabI (od++ [s]) true mf mh:=by
 refine⟨by rw [aAs,h];simp,fun k=>?_,fun k hk=>?_⟩
 · rw [t.f k,nD,aBk];by_cases e:bO od k=true
   ·rw [if_pos e,if_pos e,e,Bool.true_or,if_pos rfl]
   · rw [if_neg e,if_neg];rw [Bool.not_eq_true]at e;rw [e,Bool.false_or,aBb];intro hh;have:s=k:=by simpa [bO]using hh
     rw [this,e]at h;cases h
 · rw [nD,Bool.or_eq_false_iff]at hk;exact t.h k hk.1
theorem TabI.new {od:List Str}{tw:Bool}{mf mh:List (Str×Int)}(t:TabI od tw mf mh){s:Str}(h:bO od s=false)(i:Int) :TabI (od++ [s]) tw (dQ s ((od.length:Nat) :Int) mf) (dQ s i mh) :=by
 refine⟨by rw [aAs,h,t.tw];simp,fun k=>?_,fun k hk=>?_⟩
 · rw [pP,nD,aBk,t.f k];by_cases e:k=s
   · subst e;rw [if_pos rfl,h];simp [bO,dH]
   · rw [if_neg e];have:bO [s] k=false:=by simp [bO,Ne.symm e]
     rw [this,Bool.or_false];by_cases e2:bO od k=true
     ·rw [if_pos e2,if_pos e2,if_pos e2]
     ·rw [if_neg e2,if_neg e2]
 · rw [nD,Bool.or_eq_false_iff]at hk;have:k≠s:=fun e=>by rw [e]at hk;simp [bO]at hk
   rw [pP,if_neg this];exact t.h k hk.1
section
variable (l :List LUnit)
end
section
variable (l :List LUnit) (mf mh:List (Str×Int)) (od:List Str) (tw:Bool)
end
section
variable (l :List LUnit) (mf mh:List (Str×Int)) (od:List Str) (tw:Bool) (cs:List Con) (ls:List Str) (hT:od.length≤1000) (hls:ls.length≤1000) (hcs:cs.length≤1000) (ht:TabI od tw mf mh)
include hT hls ht in
include hcs in
include hT hls hcs ht in
include hT hls hcs ht in
end
theorem aOF {f:Nat}{args args':List AV}{h h':Hp}{res:Res}(hs:Spec PP (.enter f args) h res h')(hl:args'.length=args.length)(ha:∀ (E:Emb) (i:Nat) (a a':AV) (c:Value),args[i]?=some a→args'[i]?=some a'→VR E a' c→VR E a c) :Spec PP (.enter f args') h res h':=by
 obtain⟨g,hg,he⟩ :=hs;simp only [cO,bW]at hg;split at hg
 · rename_i fn hfn;split at hg
   · rename_i c hc;cases hg;refine⟨_,by simp only [cO,bW,hfn,hc];rfl,?_⟩;intro hm E fr ccs w hfr fs r cl base;refine he hm E fr ccs w ?_ fs r cl base;refine⟨hfr.fn,⟨by have:=hfr.tm.1;rw [hl]at this;exact this,fun t a e=>?_⟩,hfr.todo,hfr.defers,hfr.mode,hfr.kind,hfr.round⟩;have ht:t<args.length∧args[t]?=some a:=by
      have e': (cH .leaf 0 args).at t=some a:=e;unfold cH at e';rw [bM]at e';split at e'
      ·rename_i hlt;exact⟨hlt,e'⟩
      ·cases e'
     have ht':args'[t]?=some args'[t] :=List.getElem?_eq_getElem (by omega)
     obtain⟨cv,g1,g2⟩ :=hfr.tm.2 t args'[t] (by
      show(cH .leaf 0 args').at t=_;unfold cH;rw [bM,if_pos (by omega)];exact ht')
     exact⟨cv,g1,ha E t _ _ cv ht.2 ht' g2⟩
   ·cases hg
 ·cases hg
theorem aFg (s:Str) :∀ (l:List LUnit) (i:Nat),aJl s l i<0↔bO (jQ l) s=false
 | [],i=>by simp [aJl,bO,jQ]
 | u ::l,i=>by
  rw [aJl,aBa,nD];by_cases e:bO (fN u) s=true
  · rw [if_pos e,e,Bool.true_or];constructor
    ·intro h;omega
    ·intro h;cases h
  · rw [if_neg e,aFg s l (i+1)];rw [Bool.not_eq_true]at e;rw [e,Bool.false_or]
abbrev aJE :AObj:=.cells (putCells .leaf 0 [.int .i64 0]) 1 [] false
section
variable (l :List LUnit) (mf mh:List (Str×Int)) (od:List Str) (tw:Bool)
end
section
variable (l :List LUnit) (mf mh:List (Str×Int)) (od:List Str) (tw:Bool)
end
theorem aJF {out o:List Con}{c:Con}(h:aRe out c=some o)(hd: (out.map Con.name).Nodup) : (o.map Con.name).Nodup∧ (∀d∈o,d∈out∨d=c) ∧ (∀d∈out,d∈o) ∧c∈o:=by
 unfold aRe at h;split at h
 · rename_i hf;cases h
   have hno:c.name∉out.map Con.name:=fun hm=>by
    obtain⟨d,hd1,hd2⟩ :=List.mem_map.1 hm;have:=List.find?_eq_none.1 hf d hd1;simp [hd2]at this
   refine⟨?_,fun d h=>by simpa using h,fun d h=>by simp [h],by simp⟩;rw [List.map_append,List.nodup_append];refine⟨hd,by simp,fun a ha b hb e=>?_⟩;simp at hb;exact hno (by rw [←hb,←e];exact ha)
 · rename_i d hf;split at h
   · rename_i ha;cases h;have h1:=List.mem_of_find?_eq_some hf;have h2:=List.find?_some hf;have h3:d.name=c.name:=by simpa using h2
     have e:c=d:=by
      obtain⟨a,b⟩ :=c;obtain⟨a',b'⟩ :=d;simp only at ha h3;rw [ha,h3]
     exact⟨hd,fun d h=>.inl h,fun d h=>h,by rw [e];exact h1⟩
   ·cases h
theorem aBQ :∀ {t out o:List Con},aMz out t=some o→ (out.map Con.name).Nodup→ (o.map Con.name).Nodup∧ (∀d∈o,d∈out∨d∈t) ∧ (∀d∈out,d∈o) ∧∀c∈t,c∈o
 | [],out,o,h,hd=>by cases h;exact⟨hd,fun d h=>.inl h,fun d h=>h,fun c h=>by cases h⟩
 | c :: t,out,o,h,hd=>by
  rw [aMz]at h;split at h
  · rename_i o1 h1;obtain⟨a1,a2,a3,a4⟩ :=aJF h1 hd;obtain⟨b1,b2,b3,b4⟩ :=aBQ h a1;refine⟨b1,fun d hd=>?_,fun d hd=>b3 d (a3 d hd),fun d hd=>?_⟩
    · rcases b2 d hd with g|g
      · rcases a2 d g with g|g
        ·exact .inl g
        ·exact .inr (by rw [g];exact mem_cons_self ..)
      ·exact .inr (mem_cons_of_mem _ g)
    · rcases List.mem_cons.1 hd with g|g
      ·rw [g];exact b3 c a4
      ·exact b4 d g
  ·cases h
theorem uW :∀ {l:List LUnit} {out o:List Con},aMA out l=some o→ (out.map Con.name).Nodup→ (o.map Con.name).Nodup∧ (∀d∈o,d∈out∨∃u∈l,d∈u.cons) ∧ (∀d∈out,d∈o) ∧∀u∈l,∀c∈u.cons,c∈o
 | [],out,o,h,hd=>by cases h;exact⟨hd,fun d h=>.inl h,fun d h=>h,fun c h=>by cases h⟩
 | u :: l,out,o,h,hd=>by
  rw [aMA]at h;split at h
  · rename_i o1 h1;obtain⟨a1,a2,a3,a4⟩ :=aBQ h1 hd;obtain⟨b1,b2,b3,b4⟩ :=uW h a1;refine⟨b1,fun d hd=>?_,fun d hd=>b3 d (a3 d hd),fun v hv=>?_⟩
    · rcases b2 d hd with g| ⟨v,g1,g2⟩
      · rcases a2 d g with g|g
        ·exact .inl g
        ·exact .inr ⟨u,mem_cons_self ..,g⟩
      ·exact .inr ⟨v,mem_cons_of_mem _ g1,g2⟩
    · rcases List.mem_cons.1 hv with g|g
      ·rw [g];exact fun c hc=>b3 c (a4 c hc)
      ·exact b4 v g
  ·cases h
theorem aBR (own:List Str) :∀ (t out:List Str),(∀s,bO out s=true→bO (aE6 own out t) s=true) ∧∀s∈t,bO own s=true∨bO (aE6 own out t) s=true
 | [],out=> ⟨fun s h=>h,fun s h=>by cases h⟩
 | x :: t,out=>by
  rw [aE6];obtain⟨h1,h2⟩ :=aBR own t (if bO own x=true∨bO out x=true then out else out++ [x])
  have h0:∀s,bO out s=true→bO (if bO own x=true∨bO out x=true then out else out++ [x]) s=true:=fun s h=>by
   split
   ·exact h
   ·rw [nD,h];rfl
  refine⟨fun s h=>h1 s (h0 s h),fun s hs=>?_⟩;rcases List.mem_cons.1 hs with rfl|hs
  · by_cases ho:bO own s=true
    ·exact .inl ho
    · refine .inr (h1 s ?_);split
      · rename_i g;exact g.resolve_left ho
      ·rw [nD];simp [bO]
  ·exact h2 s hs
theorem aBS (own:List Str) :∀ (l:List LUnit) (out:List Str),(∀s,bO out s=true→bO (aJm own out l) s=true) ∧∀u∈l,∀s∈u.needs,bO own s=true∨bO (aJm own out l) s=true
 | [],out=> ⟨fun s h=>h,fun u h=>by cases h⟩
 | u::l,out=>by
  rw [aJm];obtain⟨h1,h2⟩ :=aBS own l (aE6 own out u.needs);obtain⟨g1,g2⟩ :=aBR own u.needs out;refine⟨fun s h=>h1 s (g1 s h),fun v hv s hs=>?_⟩;rcases List.mem_cons.1 hv with rfl|hv
  ·exact(g2 s hs).imp_right (h1 s)
  ·exact h2 v hv s hs
theorem aRS {l:List LUnit}{u:LUnit}(hu:u∈l){s:Str}(hs:s∈fN u) :s∈jQ l:=List.mem_flatten.2 ⟨fN u,List.mem_map.2 ⟨u,hu,rfl⟩,hs⟩
def aAt (l:List LUnit)(cs:List Con) :Prog:= ⟨pS (jQ l) [] cs 0 l,aAr 0 l,dH nC (jQ l) 0,cs⟩
structure LinkOk (l:List LUnit) (cs:List Con) :Prop where
 hl:l.length≤10
 good:∀u∈l,GoodU u
 cons:aV5 l=some cs
 differ:eI (jQ l) =true
 lost:aV4 l= []
 main:¬aJl nC l 0<0
 size:bP l≤300
 c20:cs.length≤20
theorem aMK :∀ (l:List LUnit) (i:Nat),i<bP l→∃l1 u l2 j,l=l1++u::l2∧j<u.nodes.length∧i=bP l1+j
 | [],i,h=>by simp [bP]at h
 | u ::l,i,h=>by
  rw [bP]at h;by_cases hi:i<u.nodes.length
  ·exact⟨[],u,l,i,rfl,hi,by simp [bP]⟩
  · obtain⟨l1,v,l2,j,h1,h2,h3⟩ :=aMK l (i-u.nodes.length) (by omega);exact⟨u::l1,v,l2,j,by rw [h1];rfl,h2,by rw [bP];omega⟩
theorem aLQ {u:LUnit}(h:GoodU u)(off:Nat) :∀f∈aRH off u,(off:Int) ≤f∧f<off+u.nodes.length:=fun f hf=>by
 have hw:=aAq h;obtain⟨k,hk,rfl⟩ :=List.mem_map.1 hf;have hr:=hw.fine.funs k hk;obtain⟨j,hj⟩ :=hw.mem hr.1 hr.2;have h1:= (List.getElem?_eq_some_iff.1 hj).1;rw [hw.len]at h1
 change j<u.nodes.length at h1
 rw [hw.toL off j k hj];omega
theorem aBT :∀ (l:List LUnit) (off:Nat),(∀u∈l,GoodU u) →∀f∈aAr off l,(off:Int) ≤f∧f<off+bP l
 | [],off,_,f,hf=>by cases hf
 | u ::l,off,hg,f,hf=>by
  rw [aAr]at hf;rw [bP];rcases List.mem_append.1 hf with h|h
  · have:=aLQ (hg u (mem_cons_self ..)) off f h;omega
  · have:=aBT l _ (fun x hx=>hg x (mem_cons_of_mem _ hx)) f h;omega
theorem aUM {u:LUnit}(h:GoodU u) : (fN u).length≤u.nodes.length:=by
 unfold fN;rw [List.length_map];rcases h.cases with⟨h0,_⟩ | ⟨_,hr⟩
 ·rw [h0];simp
 · have:= (Fs.of (vN h.few) hr).head.2.2.1;simpa [oZ,hU]using this
theorem aML :∀ (l:List LUnit),(∀u∈l,GoodU u) → (jQ l).length≤bP l
 | [],_=>by simp [jQ]
 | u::l,hg=>by
  have:=aUM (hg u (mem_cons_self ..));have:=aML l (fun x hx=>hg x (mem_cons_of_mem _ hx));rw [aBa,bP,List.length_append];omega
theorem aOG {u:LUnit}(h:GoodU u){c:Con}(hc:c∈u.cons) :eK c=true∧c.name.length≤40:=by
 have hp:=h.few.p;simp only [aH,Bool.and_eq_true,eW]at hp;refine⟨?_,by simpa using List.all_eq_true.1 hp.1.2 c hc⟩;have hf:=h.formed;unfold aGW at hf;simp only [Bool.and_eq_true]at hf;have h2:=hf.2;split at h2
 · simp only [Bool.and_eq_true]at h2;exact(Fs.of (aLJ h.few) h2.2).head.2.2.2.2.2.2 c hc
 ·exact(Fs.of (vN h.few) h2).head.2.2.2.2.2.2 c hc
section
variable {l :List LUnit} {cs:List Con}
theorem LinkOk.laid (h:LinkOk l cs){l1 l2:List LUnit}{u:LUnit}(hl:l=l1++u::l2) :Laid (aAt l cs) (bP l1) (fY u) (mfU (jQ l) [] u) (mcU cs u) (toL (fY u) (bP l1)) :=
 aDH h.good rfl hl
theorem aUN {l:List LUnit}{cs:List Con}(hc:aV5 l=some cs){u:LUnit}(hu:u∈l){i:Nat}{d:Con}(hd:u.cons[i]?=some d) :0≤mF (mcU cs u) (i:Int) ∧cs[(mF (mcU cs u) (i:Int)).toNat]?=some d:=by
 have hf:=uW hc (by simp);have hm:=hf.2.2.2 u hu d (List.mem_of_getElem? hd);obtain⟨j,hj⟩ :=List.mem_iff_getElem?.1 hm;have e:=aME cs u.cons 0 [] i d hd;rw [show(0:Int) + (i:Int) =i by omega,aRq hf.1 hj]at e;unfold mcU;rw [e];exact⟨by omega,by rw [Int.toNat_natCast];exact hj⟩
theorem aRT {T ls:List Str}{s:Str}(h:bO T s=true) :0≤aOz T ls s∧aOz T ls s<T.length∧T[(aOz T ls s).toNat]?=some s:=by
 unfold aOz;split
 · rename_i g;rw [(aBl s T 0).1 g]at h;cases h
 · rename_i g;rcases uU s T 0 with r| ⟨_,r1,r2⟩
   ·omega
   ·exact⟨by omega,by omega,by simpa using r2⟩
theorem LinkOk.own (h:LinkOk l cs){u:LUnit}(hu:u∈l){s:Str}(hs:s∈fN u++u.needs) :bO (jQ l) s=true:=by
 rcases List.mem_append.1 hs with g|g
 ·exact hasS_mem.2 (aRS hu g)
 · rcases(aBS (jQ l) l []).2 u hu s g with g|g
   ·exact g
   · change bO (aV4 l) s=true at g
     rw [h.lost]at g;cases g
theorem LinkOk.maps (h:LinkOk l cs){u:LUnit}(hu:u∈l) :MapsOk (aBP u) (aAt l cs) (mfU (jQ l) [] u) (mcU cs u) :=by
 refine⟨fun i h0 h1=>?_,fun i d hd=>aUN h.cons hu hd⟩;have hw: (aBP u).funs.length=u.funs.length+u.needs.length:=by simp [aBP]
 rw [hw]at h1;obtain⟨s,hs,e⟩ :=aWY (T:=jQ l) (ls:=[]) (u:=u) h0 (by omega);have:=aRT (ls:=[]) (h.own hu (List.mem_of_getElem? hs));rw [e];have e2: (aAt l cs).funs.length= (jQ l).length:=aBi l 0;omega
theorem LinkOk.len (h:LinkOk l cs) : (aAt l cs).nodes.length=bP l:=aBh l 0 h.good
theorem LinkOk.walk (h:LinkOk l cs) :dP (aAt l cs) = (List.range (bP l)).map fun(i:Nat) => (i:Int) :=by
 have e:=aDI (T:=jQ l) (ls:=[]) (cs:=cs) (a:=aAt l cs) h.good rfl (N:= (aAt l cs).nodes.length) (by rw [h.len];exact Nat.le_refl _) l [] rfl;unfold dP
 change ((aAr (bP []) l).map _).flatten=_
 rw [e];refine List.map_congr_left (fun i _=>?_);simp [bP]
theorem LinkOk.fs (h:LinkOk l cs) :Fs (aAt l cs) :=by
 have hf:=uW h.cons (by simp);have hm:0≤dH nC (jQ l) 0∧dH nC (jQ l) 0< (jQ l).length:=by
  have g:¬dH nC (jQ l) 0<0:=fun g=>h.main ((aFg nC l 0).2 ((aBl nC (jQ l) 0).1 g));rcases uU nC (jQ l) 0 with r|r<;>omega
 have hfl: (aAt l cs).funs.length= (jQ l).length:=aBi l 0;refine aG2 (N:=bP l) h.len h.size (by omega) (by rw [hfl];exact aML l h.good) hm.1 (by rw [hfl];exact hm.2) h.c20 (fun c hc=>?_) hf.1 (fun i x hx=>?_) (fun f hf=>?_) h.walk
 · rcases hf.2.1 c hc with g| ⟨u,g1,g2⟩
   ·cases g
   ·exact aOG (h.good u g1) g2
 · have hi:= (List.getElem?_eq_some_iff.1 hx).1;rw [h.len]at hi;obtain⟨l1,u,l2,j,h1,h2,h3⟩ :=aMK l i hi;have hu:u∈l:=by rw [h1];simp
   have hg:=h.good u hu;have hw:=aAq hg;have hL:=h.laid h1;have hsz:bP l=bP l1+ (u.nodes.length+bP l2) :=by rw [h1,vP,bP]
   obtain⟨k,hk⟩ :∃k,(dP (fY u))[j]?=some k:= ⟨_,List.getElem?_eq_getElem (by rw [hw.len];exact h2)⟩;have hkr:=hw.into k (List.mem_of_getElem? hk);obtain⟨y,hy⟩ :∃y,u.nodes[k.toNat]?=some y:= ⟨_,List.getElem?_eq_getElem (by have:=hkr.2;change k<u.nodes.length at this;omega)⟩;have e:=hL.node j k hk;rw [←h3,hx,pQ (p:=fY u) hy]at e;have e:=Option.some.inj e;obtain⟨n1,_,n3⟩ :=aOB hg hy;rw [e];refine⟨aRp (h.maps hu) _ n1,aJs _ n3,fun c hc=>?_⟩;obtain⟨c0,hc0,rfl⟩ :=List.mem_map.1 hc;have ek:dD (fY u) k=y.kids:=by unfold dD;rw [show(fY u).nodes=u.nodes from rfl,hy]
   obtain⟨j2,hj,e2⟩ :=hw.after j k c0 hk (by rw [ek];exact hc0);rw [hL.to j2 c0 e2];have:= (List.getElem?_eq_some_iff.1 e2).1;rw [hw.len]at this
   change j2<u.nodes.length at this
   omega
 · have:=aBT l 0 h.good f hf;omega
end
structure Mover where
 unit:LUnit
 prog:Prog
 names:List Str
def Mover.av (m:Mover) :AV:=.agg [avS m.unit.name,.ilst 2 (map Con.av m.unit.cons) false,.ilst 2 (map LFun.av m.unit.funs) false,.ilst 1 (map avS m.unit.needs) false,.ilst 4 (map Node.av m.unit.nodes) false,.ilst 4 (map Node.av m.prog.nodes) false,.ilst 1 (map bC m.prog.funs) false,.int .i64 m.prog.main,.ilst 2 (map Con.av m.prog.cons) false,.ilst 1 (map avS m.names) false]
end
end Go.Hb

set_option linter.defProp false
set_option linter.unusedVariables false
set_option linter.unusedSimpArgs false
set_option linter.unusedSectionVars false
set_option maxRecDepth 100000
set_option maxHeartbeats 4000000
namespace Go.Hb
open AV (ilst int keyless keylessL)
open Eq (mp)
open List (append_assoc append_nil append_of_mem flatten_append flatten_cons getElem?_eq_getElem getElem?_eq_none length length_append length_cons length_map length_replicate length_set map map_append map_cons map_nil mem_of_getElem? nil_append range replicate set)
open Go.Proofs Tryz
noncomputable section
section
variable (l :List LUnit)
end
def ConsTo (uc pc:List Con)(mc:List (Int×Int)) :Prop:=∀ (i:Nat) (d:Con),uc[i]?=some d→0≤mF mc (i:Int) ∧pc[(mF mc (i:Int)).toNat]?=some d
theorem ConsTo.at {uc pc:List Con}{mc:List (Int×Int)}(h:ConsTo uc pc mc){n:Int}(h0:0≤n)(h1:n<uc.length) :∃d,uc[n.toNat]?=some d∧0≤mF mc n∧pc[(mF mc n).toNat]?=some d:=by
 have e:uc[n.toNat]?=some (uc[n.toNat]'(by omega)) :=getElem?_eq_getElem (by omega);have:=h n.toNat _ e;rw [show((n.toNat:Nat) :Int) =n by omega]at this;exact⟨_,e,this.1,this.2⟩
section
variable (m :Mover) (mc:List (Int×Int))
end
def aBm(b:Prog)(c d:Int)(a:List Int):TS:=dO PP 142 [(Prog.av b),(nI c),(nI d),(.gl 0 1 0 a.length false)] [oL 0 1 (jI a)] 1
def aCn(b:Prog)(n c:Int)(a:List Int)(d e f g i j:Int)(k:List Int)(l:List Pat)(m:Int):TS:=⟨(tf 130 19 [(0,(.gl 0 1 0 a.length false)),(1,(nI d)),(4,(nI 0)),(7,(nI (a.length:Int))),(8,(nI m))] [kc f130 52,kl f130 52,.inBlock 0,kc f130 7]),[(tf 45 9 [(4,(bV false)),(5,(.gl 0 1 0 a.length false)),(6,(nI e))] [ko f45 6 2,kc f45 7]),(tf 142 58 [(2,(nI c)),(3,(.gl 0 1 0 a.length false)),kp 4 1,(8,.nils),kp 9 2,(10,(nI f)),(34,(bV true)),(35,(.gl 0 1 0 a.length false)),(36,(nI g))] [ko f142 58 16,kc f142 59,kc f142 15])],[oL 0 1 (jI a),oC 1 [(iN b.nodes),(iI b.funs),(nI b.main),(iC b.cons)],oC 2 [(nI i),(nI j),(iI k),(iP l)]],3⟩
def hX(a:Prog)(g c:Int)(i d:List Int)(e:Int)(b:List Int)(f:Int):TS:=⟨(tf 142 58 [(2,(nI c)),(3,(.gl 0 1 0 b.length false)),kp 4 1,(8,.nils),(45,(iI d)),(46,(nI e)),(47,(nI f))] [kc f142 244,kl f142 244,.inBlock 0,kc f142 31]),[],[oL 0 1 (jI b),oC 1 [(iN a.nodes),(iI a.funs),(nI a.main),(iC a.cons)]],2⟩
def aBn(b:Prog)(c d:Int)(a:List Int):TS:=dO PP 146 [(Prog.av b),(nI c),(nI d),(.gl 0 1 0 a.length false)] [oL 0 1 (jI a)] 1
def aAu(a:Prog)(k c:Int)(b:List Int)(d e:Int)(f:List Int)(g:List Pat)(i:Bool)(j:Int):TS:=⟨(tf 146 75 [(2,(nI c)),(3,(.gl 0 1 0 b.length false)),kp 4 1,(8,.nils),kp 9 2,(10,(bV i)),(11,(nI j))] [kc f146 1876,kl f146 1876,.inBlock 0,kc f146 235,kc f146 15]),[],[oL 0 1 (jI b),oC 1 [(iN a.nodes),(iI a.funs),(nI a.main),(iC a.cons)],oC 2 [(nI d),(nI e),(iI f),(iP g)]],3⟩
def jM(a:Prog)(j c:Int)(k:List Int)(d e:Int)(f:List Int)(g:List Pat)(b:List Int)(i:Int):TS:=⟨(tf 146 75 [(2,(nI c)),(3,(.gl 0 1 0 b.length false)),kp 4 1,(8,.nils),kp 9 2,(12,(nI i))] [kc f146 244,kl f146 244,.inBlock 2,kc f146 31]),[],[oL 0 1 (jI b),oC 1 [(iN a.nodes),(iI a.funs),(nI a.main),(iC a.cons)],oC 2 [(nI d),(nI e),(iI f),(iP g)]],3⟩
def aWd(a:Int):TS:=dO PP 148 [(nI a)] [] 0
def aHb(b c:Int)(a:List Int):TS:=⟨(tf 148 17 [(0,(nI b)),(2,.nils),(3,(.gl 0 1 0 a.length true)),(4,(nI c))] [kc f148 116,kl f148 116,.inBlock 0,kc f148 15]),[],[oL 0 1 (jI a)],1⟩
def aMM(a:Prog)(b:List Str):TS:=dO PP 145 [(Prog.av a),(iS b)] [] 0
def aW3(a b:List LUnit):TS:=dO PP 53 [(.ilst 5 (map LUnit.av a) false),(.ilst 5 (map LUnit.av b) false)] [] 0
def aCo(a b:List LUnit)(c:Int):TS:=⟨(tf 53 27 [(0,(.ilst 5 (map LUnit.av a) false)),(1,(.ilst 5 (map LUnit.av b) false)),(4,(bV false)),(5,(nI c))] [kc f53 116,kl f53 116,.inBlock 0,kc f53 15]),[],[],0⟩
def aHc(c:Prog)(d e:Int)(b:List Int):=tT 0 (aBm c d e b)<|gX Node.av 10 c.nodes d<|fun a=>gw 10 20 ((-1:Int) -a.n)<|.b 8 24 (a.op==4) (gd 5 29 (a.n<0) (.b 5 34 (((-1:Int) -a.n) != e) (.W 25 3 [0,1,2] (aCn c d e b ((-1:Int) -a.n) ((-1:Int) -a.n) ((-1:Int) -a.n) ((-1:Int) -a.n) a.op a.n a.kids a.pats 0))<|gl 13 bC a.kids<|.W 4 3 [0,1] (hX c d e b a.kids (a.kids.length:Int) b 0))<|gl 18 bC a.kids<|.W 4 3 [0,1] (hX c d e b a.kids (a.kids.length:Int) b 0))<|gl 23 bC a.kids<|.W 4 3 [0,1] (hX c d e b a.kids (a.kids.length:Int) b 0)
def aRU:=fun a b c d e f g i j k l=>aHc a b c d e f g i|>.t j|>.t k|>.t l ⟨kk,trivial⟩
def aRV:=fun a b c d e f g i j k l=>aHc a b c d e f g i|>.t j|>.t k|>.f l ⟨kk,trivial⟩
def aRW:=fun a b c d e f g i j k=>aHc a b c d e f g i|>.t j|>.f k ⟨kk,trivial⟩
def aRX:=fun a b c d e f g i j=>aHc a b c d e f g i|>.f j ⟨kk,trivial⟩
def aLR(e:Prog)(f g:Int)(a:List Int)(i j d k l m:Int)(b:List Int)(n:List Pat)(c:Int):=tT 0 (aCn e f g a i j d k l m b n c)<|gd 5 9 (c< (a.length:Int)) (.i [rn 14,.ans (.ix)] [hA (0≤c),hA (c< (a.length:Int))]<|.y fun o:Int=>gj bC 0 a c.toNat o<|.b 2 16 (i==o) (.b 16 39 (!(decide (c≥0))) (ga 5 bC a [d]<|gl 7 bC b<|.W 4 5 [4,1] (hX e f g a b (b.length:Int) (a++ [d]) 0))<|gl 7 bC b<|.W 4 3 [0,1] (hX e f g a b (b.length:Int) a 0))<|gw 5 18 (c+1)<|.W 3 3 [0,1,2] (aCn e f g a i j d k l m b n (c+1)))<|ga 21 bC a [d]<|gl 7 bC b<|.W 4 5 [4,1] (hX e f g a b (b.length:Int) (a++ [d]) 0)
def aRY:=fun a b c d e f g i j k l m n o p q r s t u=>aLR a b c d e f g i j k l m n|>.t p q r o s|>.t t|>.f u ⟨kk,trivial⟩
def aRZ:=fun a b c d e f g i j k l m n o p q r s t u=>aLR a b c d e f g i j k l m n|>.t p q r o s|>.f t u ⟨kk,trivial⟩
def aR0:=fun a b c d e f g i j k l m n o p=>aLR a b c d e f g i j k l m n|>.f o p ⟨kk,trivial⟩
def aR1(a:Prog)(i d:Int)(j e:List Int)(f:Int)(b:List Int)(c:Int):=tT 0 (hX a i d j e f b c)<|gd 5 48 (c<f) (gX bC 6 e c<|fun k=>.y fun g:List Int=>gk 8 (.enter 142 [(Prog.av a),(nI k),(nI d),(.gl 0 1 0 b.length false)]) [oL 0 1 (jI b),oC 1 [(iN a.nodes),(iI a.funs),(nI a.main),(iC a.cons)]] 2 (.gl 2 1 0 g.length false) [oC 1 [(iN a.nodes),(iI a.funs),(nI a.main),(iC a.cons)],oL 2 1 (jI g)] 3<|gw 5 56 (c+1)<|.W 3 3 [2,1] (hX a i d j e f g (c+1)))<|.E 8 2 [0] (.gl 0 1 0 b.length false) [oL 0 1 (jI b)] 1
def aR2:=fun a b c d e f g i j k l m n o p=>aR1 a b c d e f g i|>.t l j m n k o p ⟨kk,trivial⟩
def aR3:=fun a b c d e f g i j=>aR1 a b c d e f g i|>.f j ⟨kk,trivial⟩
def aHd(c:Prog)(d e:Int)(b:List Int):=tT 0 (aBn c d e b)<|gX Node.av 10 c.nodes d<|fun a=>.b 11 21 (a.op==4) (gd 5 26 (a.n<0) (gw 3 29 ((-1:Int) -a.n)<|.b 4 32 (((-1:Int) -a.n) != e) (.W 12 3 [0,1,2] (aAu c d e b a.op a.n a.kids a.pats false 0))<|.W 9 3 [0,1,2] (jM c d e b a.op a.n a.kids a.pats b 0))<|.W 16 3 [0,1,2] (jM c d e b a.op a.n a.kids a.pats b 0))<|.W 21 3 [0,1,2] (jM c d e b a.op a.n a.kids a.pats b 0)
def aR4:=fun a b c d e f g i j k l=>aHd a b c d e f g|>.t i|>.t j k|>.t l ⟨kk,trivial⟩
def aR5:=fun a b c d e f g i j k l=>aHd a b c d e f g|>.t i|>.t j k|>.f l ⟨kk,trivial⟩
def aR6:=fun a b c d e f g i j=>aHd a b c d e f g|>.t i|>.f j ⟨kk,trivial⟩
def aR7:=fun a b c d e f g i=>aHd a b c d e f g|>.f i ⟨kk,trivial⟩
def aHe(d:Prog)(e f:Int)(a:List Int)(g b:Int)(i:List Int)(j:List Pat)(k:Bool)(c:Int):=tT 0 (aAu d e f a g b i j k c)<|gd 8 36 (c< (a.length:Int)) (.o (.i [rn 4,.reg (.d::.d::.b 40 true::rd 10 [])] [hA (k=true)]<|gw 4 38 (c+1)<|.W 3 3 [0,1,2] (aAu d e f a g b i j true (c+1)))<|.y fun l:Int=>.i [rn 4,.reg (.d::.d::.b 40 false::.d::.d::.ans (.ix)::.ans (.idx (bC l))::rd 6 [])] [hA (k=false),hA (0≤c),hA (c< (a.length:Int)),.a (((a)[c.toNat]?) =some l) (fS (f:=bC))]<|gw 4 38 (c+1)<|.W 3 3 [0,1,2] (aAu d e f a g b i j (l== (IntKind.i64.wrap ((-1:Int) -b))) (c+1)))<|.b 7 51 (!k) (gw 6 55 ((-1:Int) -b)<|ga 1 bC a [((-1:Int) -b)]<|.W 9 5 [4,1,2] (jM d e f a g b i j (a++ [((-1:Int) -b)]) 0))<|.W 9 3 [0,1,2] (jM d e f a g b i j a 0)
def aR8:=fun a b c d e f g i j k l m n=>aHe a b c d e f g i j k|>.t l|>.1 m n ⟨kk,trivial⟩
def aR9:=fun a b c d e f g i j k l m n o p q r=>aHe a b c d e f g i j k|>.t m|>.2 l n o p q r ⟨kk,trivial⟩
def aSa:=fun a b c d e f g i j k l m n o=>aHe a b c d e f g i j k|>.f l|>.t m n o ⟨kk,trivial⟩
def aSb:=fun a b c d e f g i j k l m=>aHe a b c d e f g i j k|>.f l|>.f m ⟨kk,trivial⟩
def aSc(a:Prog)(l j:Int)(m:List Int)(d e:Int)(b:List Int)(f:List Pat)(g:List Int)(c:Int):=tT 0 (jM a l j m d e b f g c)<|gl 6 bC b<|gd 2 62 (c< (b.length:Int)) (.y fun k:Int=>.y fun i:List Int=>.i [rn 4,.reg (rd 4 (.ans (.idx (bC k))::rd 3 [.call (.gl 3 1 0 i.length false) (aE [oC 1 [(iN a.nodes),(iI a.funs),(nI a.main),(iC a.cons)],oC 2 [(nI d),(nI e),(iI b),(iP f)],oL 3 1 (jI i)] 4),.d]))] [hA (0≤c),.a (((b)[c.toNat]?) =some k) (aK (f:=bC)),hA (Spec PP (.enter 146 [(Prog.av a),(nI k),(nI j),(.gl 0 1 0 g.length false)]) (aE [oL 0 1 (jI g),oC 1 [(iN a.nodes),(iI a.funs),(nI a.main),(iC a.cons)],oC 2 [(nI d),(nI e),(iI b),(iP f)]] 3) (.ret (.gl 3 1 0 i.length false)) (aE [oC 1 [(iN a.nodes),(iI a.funs),(nI a.main),(iC a.cons)],oC 2 [(nI d),(nI e),(iI b),(iP f)],oL 3 1 (jI i)] 4))]<|gw 4 64 (c+1)<|.W 3 4 [3,1,2] (jM a l j m d e b f i (c+1)))<|.E 8 3 [0] (.gl 0 1 0 g.length false) [oL 0 1 (jI g)] 1
def aSd:=fun a b c d e f g i j k l m n o p q r=>aSc a b c d e f g i j k|>.t n l m o p q r ⟨kk,trivial⟩
def aSe:=fun a b c d e f g i j k l=>aSc a b c d e f g i j k|>.f l ⟨kk,trivial⟩
def aUO (a:Int):=fun b c=>(tT 0 (aWd a)<|.i [rn 7,.mk a.toNat] [hA (a= ((a.toNat:Nat) :Int)),hA (a= ((a.toNat:Nat) :Int)),hA (a.toNat<100000)]<|.i [.lset 0 (jI (replicate a.toNat (0:Int)))] [.q (p:=replicate a.toNat (bC (0:Int)) = (jI (replicate a.toNat (0:Int)))) (aCd _ _ _)]<|.i [.set 6 (.gl 0 1 0 (replicate a.toNat (0:Int)).length true)] [.q (p:=(AV.gl 0 1 0 a.toNat true) = (.gl 0 1 0 (replicate a.toNat (0:Int)).length true)) (bT (length_replicate ..).symm)]<|.W 9 1 [0] (aHb a 0 (replicate a.toNat (0:Int)))) b b c ⟨kk,trivial⟩
def aSf(c a:Int)(b:List Int):=tT 0 (aHb c a b)<|gd 7 9 (a<c) (.i [rn 8,.ans (.ix)] [hA (0≤a),hA (a< (b.length:Int))]<|.y fun d:Int=>.i [.st (bC d) (bC a)] [.a (((b)[a.toNat]?) =some d) (fS (f:=bC)),hr (some (bC a))]<|.i [.lset 0 (jI (set b a.toNat a))] [.q (p:=(jI b).set (0+a.toNat) (bC a) = (jI (set b a.toNat a))) (kY _ _ _ _)]<|.i [.set 3 (.gl 0 1 0 (set b a.toNat a).length true)] [.q (p:=(AV.gl 0 1 0 b.length true) = (.gl 0 1 0 (set b a.toNat a).length true)) (bT (length_set ..).symm)]<|.i [.set 12 (.gl 0 1 0 (set b a.toNat a).length true)] [.q (p:=(AV.gl 0 1 0 b.length true) = (.gl 0 1 0 (set b a.toNat a).length true)) (bT (length_set ..).symm)]<|gw 5 11 (a+1)<|.W 3 1 [0] (aHb c (a+1) (set b a.toNat a)))<|gz 8 2 0 1 bC b true<|gE 0 1 (.ilst 1 (jI b) true)
def aUP:=fun a b c d e f g i j=>aSf a b c|>.t e f g d i j ⟨kk,trivial⟩
def aUQ:=fun a b c d=>aSf a b c|>.f d tv
def aLS(a:Prog)(b:List Str):=tT 0 (aMM a b)<|.o (.y fun c:Bool=>.y fun d:Int=>.i [rn 6,.reg (.d::.ans (.len (b.length:Int))::.d::.d::.ans (.len (a.funs.length:Int))::.d::.d::.b 11 true::.d::.pure (bV c)::.d::.d::.b 15 true::.d::.pure (nI d)::rd 5 [])] [hl avS b,hl bC a.funs,hA (((b.length:Int) == (a.funs.length:Int)) =true),hA (Pure PP 115 [(iS b)] (bV c)),hA (c=true),hA (Pure PP 82 [(iS b),(.str 4 1852399981)] (nI d)),hr (nI a.main),hr (nI a.main)]<|gE 1 1 (bV (d==a.main)))<|.o (.y fun c:Bool=>.i [rn 6,.reg (.d::.ans (.len (b.length:Int))::.d::.d::.ans (.len (a.funs.length:Int))::.d::.d::.b 11 true::.d::.pure (bV c)::.d::.d::.b 15 false::rd 7 [])] [hl avS b,hl bC a.funs,hA (((b.length:Int) == (a.funs.length:Int)) =true),hA (Pure PP 115 [(iS b)] (bV c)),hA (c=false)]<|gE 1 1 (bV false))<|.i [rn 6,.reg (.d::.ans (.len (b.length:Int))::.d::.d::.ans (.len (a.funs.length:Int))::.d::.d::.b 11 false::rd 11 [])] [hl avS b,hl bC a.funs,hA (((b.length:Int) == (a.funs.length:Int)) =false)]<|gE 1 1 (bV false)
def aOH:=fun a b c d e f g i=>aLS a b|>.1 c d e f g i tv
def aOI:=fun a b c d e f=>aLS a b|>.2|>.1 c d e f tv
def aOJ:=fun a b c=>aLS a b|>.2|>.2 c tv
def aW4(a b:List LUnit):=tT 0 (aW3 a b)<|gl 8 LUnit.av a<|gl 1 LUnit.av b<|.b 2 10 ((a.length:Int) != (b.length:Int)) (gE 6 0 (bV false))<|.W 9 0 [] (aCo a b 0)
def aSg:=fun a b c=>aW4 a b|>.f c tv
def aSh(d e:List LUnit)(a:Int):=tT 0 (aCo d e a)<|gl 5 LUnit.av d<|gd 2 14 (a< (d.length:Int)) (.y fun b:LUnit=>.y fun c:LUnit=>.y fun f:Bool=>.i [rn 5,.reg (.d::.d::.ans (.idx (LUnit.av b))::rd 3 [.ans (.idx (LUnit.av c)),.d,.pure (bV f),.d])] [hA (0≤a),.a (((d)[a.toNat]?) =some b) (aK (f:=LUnit.av)),hA (0≤a),.a (((e)[a.toNat]?) =some c) (aK (f:=LUnit.av)),hA (Pure PP 29 [(.agg [(avS b.name),(iC b.cons),(.ilst 2 (map LFun.av b.funs) false),(iS b.needs),(iN b.nodes)]),(.agg [(avS c.name),(iC c.cons),(.ilst 2 (map LFun.av c.funs) false),(iS c.needs),(iN c.nodes)])] (bV f))]<|.b 0 26 (!f) (gE 6 0 (bV false))<|gw 6 16 (a+1)<|.W 3 0 [] (aCo d e (a+1)))<|gE 7 0 (bV true)
def aSi:=fun b c d e f g i a j k l m n=>aSh b c d|>.t i e f g a j a k l|>.f m n tv
def aSj:=fun a b c d=>aSh a b c|>.f d tv
def aAv (l:List Int)(f:Int) :Bool:=l.any fun x=>decide (x=f)
def lY (but:Int)(out:List Int)(x:Node) :List Int:=if x.op=4∧x.n<0∧ -1-x.n≠but∧aAv out (-1-x.n) =false then out++ [-1-x.n]else out
theorem aSk (but:Int)(out:List Int)(x:Node) : (lY but out x).length≤out.length+1:=by
 unfold lY;split<;>simp
def nmN (p:Prog)(but:Int) :Nat→Int→List Int→List Int
 |0,_,out=>out
 | k+1,a,out=>match p.nodes[a.toNat]? with
  |some x=>x.kids.foldl (fun o c=>nmN p but k c o) (lY but out x)
  |none=>out
theorem aHf (p:Prog)(but:Int) :∀ (k:Nat) (a:Int) (out:List Int),(nmN p but k a out).length≤out.length+ (pre p k a).length
 |0,a,out=>by simp [nmN]
 | k +1,a,out=>by
  rw [nmN,pre];cases p.nodes[a.toNat]? with
  |none=>simp
  | some x=>
   have key:∀ (cs:List Int) (o:List Int),(cs.foldl (fun o c=>nmN p but k c o) o).length≤o.length+ ((cs.map (pre p k)).flatten).length:=by
    intro cs
    induction cs with
    |nil=>intro o;simp
    | cons c cs ih=>
     intro o;have h1:=ih (nmN p but k c o);have h2:=aHf p but k c o;rw [List.foldl_cons,map_cons,flatten_cons,length_append];omega
   have h1:=key x.kids (lY but out x);have h2:=aSk but out x;simp only [length_cons];omega
abbrev PgC (p:Prog) :AObj:=.cells (putCells .leaf 0 [.ilst 4 (map Node.av p.nodes) false,.ilst 1 (map bC p.funs) false,.int .i64 p.main,.ilst 2 (map Con.av p.cons) false]) 4 [] false
abbrev LIs (l:List Int) :AObj:=.lst 1 (map bC l)
abbrev PAv (p:Prog) :AV:=.agg [.ilst 4 (map Node.av p.nodes) false,.ilst 1 (map bC p.funs) false,.int .i64 p.main,.ilst 2 (map Con.av p.cons) false]
def NMS (f:Nat)(p:Prog)(but a:Int)(l r:List Int) :Prop:=
 aCW PP (.enter f [PAv p,.int .i64 a,.int .i64 but,.gl 0 1 0 (length l) false]) (aE [(0,LIs l,true)] 1) (.ret (.gl 0 1 0 (length r) false)) (aE [(0,LIs r,true)] 1)
abbrev aB1 (r:List Int)(s:TS) :Prop:=Ends PP 0 s.as (.ret (.gl 0 1 0 (length r) false)) (aE [(0,LIs r,true)] 1)
theorem uX (l:List Int) : (LIs l).kl:=aC _ (fun _=>rfl) _
section
variable (p :Prog) (but:Int)
theorem aOK {c:Int}{l r:List Int}(h:NMS 142 p but c l r) :Spec PP (.enter 142 [PAv p,.int .i64 c,.int .i64 but,.gl 0 1 0 (length l) false]) (aE [(0,LIs l,true),(1,PgC p,false)] 2) (.ret (.gl 2 1 0 (length r) false)) (aE [(1,PgC p,false),(2,LIs r,true)] 3) :=
 mp (by kernel_rfl) (pK (ks:=[0]) (n2:=2) (lc:=[(0,LIs l,true),(1,PgC p,false)]) (x:=[(1,PgC p,false)]) (args':=[PAv p,.int .i64 c,.int .i64 but,.gl 0 1 0 (length l) false])
  h (by kernel_rfl) (by kernel_rfl) (by kernel_rfl) ⟨uX l,trivial⟩ (by kernel_rfl) (by kernel_rfl) (by kernel_rfl) (by kernel_rfl) ⟨uX r,trivial⟩ (by kernel_rfl))
theorem aOL {c:Int}{l r:List Int}(x:Node)(h:NMS 146 p but c l r) :Spec PP (.enter 146 [PAv p,.int .i64 c,.int .i64 but,.gl 0 1 0 (length l) false]) (aE [(0,LIs l,true),(1,PgC p,false),(2,xE x,false)] 3) (.ret (.gl 3 1 0 (length r) false)) (aE [(1,PgC p,false),(2,xE x,false),(3,LIs r,true)] 4) :=
 mp (by kernel_rfl) (pK (ks:=[0]) (n2:=3) (lc:=[(0,LIs l,true),(1,PgC p,false),(2,xE x,false)]) (x:=[(1,PgC p,false),(2,xE x,false)]) (args':=[PAv p,.int .i64 c,.int .i64 but,.gl 0 1 0 (length l) false])
  h (by kernel_rfl) (by kernel_rfl) (by kernel_rfl) ⟨uX l,trivial⟩ (by kernel_rfl) (by kernel_rfl) (by kernel_rfl) (by kernel_rfl) ⟨uX r,trivial⟩ (by kernel_rfl))
theorem aLT {a:Int}{l r:List Int}(h:aB1 r (aBm p a but l)) :NMS 142 p but a l r:= ⟨(aBm p a but l).as.fr,by kernel_rfl,mp (by kernel_rfl) h⟩
theorem aLU {a:Int}{l r:List Int}(h:aB1 r (aBn p a but l)) :NMS 146 p but a l r:= ⟨(aBn p a but l).as.fr,by kernel_rfl,mp (by kernel_rfl) h⟩
theorem aFh {k:Nat}(a:Int)(l:List Int)(ks:List Int)(hk:ks.length<1000000)(ih:∀c∈ks,∀o:List Int,o.length+ (pre p k c).length≤1000000→NMS 142 p but c o (nmN p but k c o)) :∀ (t:List Int) (i:Nat) (o:List Int),ks.drop i=t→o.length+ ((t.map (pre p k)).flatten).length≤1000000 →
  aB1 (t.foldl (fun o c=>nmN p but k c o) o) (hX p a but l ks ((ks.length:Nat) :Int) o (i:Int))
 | [],i,o,h,_=>by
  have:=bK h;exact aR3 p a but l ks _ o i sd
 | c::t,i,o,h,hb=>by
  obtain⟨q1,q2,q3⟩ :=bJ h;simp only [map_cons,flatten_cons,length_append]at hb;have hl:=aHf p but k c o;exact(aR2 p a but l ks _ o i c (nmN p but k c o) sd sd sd (aOK p but (ih c (mem_of_getElem? q1) o (by omega))) sd).ends (aFh a l ks hk ih t (i+1) _ q2 (by omega))
theorem aFi {k:Nat}(a:Int)(l:List Int)(x:Node)(hk:x.kids.length<1000000)(ih:∀c∈x.kids,∀o:List Int,o.length+ (pre p k c).length≤1000000→NMS 146 p but c o (nmN p but k c o)) :∀ (t:List Int) (i:Nat) (o:List Int),x.kids.drop i=t→o.length+ ((t.map (pre p k)).flatten).length≤1000000 →
  aB1 (t.foldl (fun o c=>nmN p but k c o) o) (jM p a but l x.op x.n x.kids x.pats o (i:Int))
 | [],i,o,h,_=>by
  have:=bK h;exact aSe p a but l _ _ _ _ o i sd
 | c::t,i,o,h,hb=>by
  obtain⟨q1,q2,q3⟩ :=bJ h;simp only [map_cons,flatten_cons,length_append]at hb;have hl:=aHf p but k c o;exact(aSd p a but l _ _ _ _ o i c (nmN p but k c o) sd sd sd (aOL p but x (ih c (mem_of_getElem? q1) o (by omega))) sd).ends (aFi a l x hk ih t (i+1) _ q2 (by omega))
theorem aFj (a:Int)(l:List Int)(hl:l.length+1≤1000000)(x:Node)(v f:Int){r:List Int}(hn:aAv l v=false→aB1 r (hX p a but l x.kids ((x.kids.length:Nat) :Int) (l++ [v]) 0))(ho:aAv l v=true→aB1 r (hX p a but l x.kids ((x.kids.length:Nat) :Int) l 0)) :∀ (t:List Int) (i:Nat),l.drop i=t→ (aAv l v=aAv t v) →
  aB1 r (aCn p a but l v v v v x.op x.n x.kids x.pats (i:Int))
 | [],i,h,e=>by
  have:=bK h;exact(aR0 p a but l v v v v _ _ _ _ i sd (by simp;omega)).ends (hn (by rw [e];rfl))
 | y::t,i,h,e=>by
  obtain⟨q1,q2,q3⟩ :=bJ h;by_cases g:v=y
  ·exact(aRY p a but l v v v v _ _ _ _ i y sd sd sd sd (by simp [g]) (by simp)).ends (ho (by rw [e,g];simp [aAv]))
  ·exact(aRZ p a but l v v v v _ _ _ _ i y sd sd sd sd (by simp [g]) sd).ends (aFj a l hl x v f hn ho t (i+1) q2 (by rw [e];simp [aAv,Ne.symm g]))
theorem aBo (a:Int)(l:List Int)(hl:l.length+1≤1000000)(x:Node)(hx:IntKind.i64.wrap ((-1:Int) -x.n) = -1-x.n){r:List Int}(hn:aAv l (-1-x.n) =false→aB1 r (jM p a but l x.op x.n x.kids x.pats (l++ [-1-x.n]) 0))(ho:aAv l (-1-x.n) =true→aB1 r (jM p a but l x.op x.n x.kids x.pats l 0)) :∀ (t:List Int) (i:Nat) (b:Bool),l.drop i=t→ (aAv l (-1-x.n) = (b||aAv t (-1-x.n))) →
  aB1 r (aAu p a but l x.op x.n x.kids x.pats b (i:Int))
 | [],i,b,h,e=>by
  have:=bK h;cases b with
  |true=>exact(aSb p a but l _ _ _ _ true i sd rfl).ends (ho (by rw [e];rfl))
  |false=>exact(aSa p a but l _ _ _ _ false i sd rfl hx (by simp;omega)).ends (hn (by rw [e];rfl))
 | y::t,i,b,h,e=>by
  obtain⟨q1,q2,q3⟩ :=bJ h;cases b with
  |true=>exact(aR8 p a but l _ _ _ _ true i sd rfl sd).ends (aBo a l hl x hx hn ho t (i+1) true q2 (by rw [e];simp))
  | false=>
   refine(aR9 p a but l _ _ _ _ false i y sd rfl sd sd sd sd).ends (aBo a l hl x hx hn ho t (i+1) _ q2 ?_);rw [e,hx];simp [aAv];by_cases g:y= -1-x.n<;>simp [g]
end
section
variable {p :Prog} (hp:FineP p) (hn:∀ (i:Nat) (x:Node),p.nodes[i]?=some x→ -1000000000≤x.n∧x.n≤1000000000)
include hp hn
theorem aFk (but:Int) :∀ (k:Nat) (a:Int) (l:List Int),0≤a→a<p.nodes.length→p.nodes.length-a.toNat≤k→l.length+ (pre p k a).length≤1000000→NMS 142 p but a l (nmN p but k a l)
 |0,a,l,h0,h1,h2,_=>by omega
 | k + 1, a,l,h0,h1,h2,hb=>by
  obtain⟨x,hx⟩ :∃x,p.nodes[a.toNat]?=some x:= ⟨_,getElem?_eq_getElem (by omega)⟩;have hm:=hp.node _ _ hx;have hr:=hn _ _ hx;have e:pre p (k+1) a=a:: (x.kids.map (pre p k)).flatten:=by rw [pre,hx]
  rw [e,length_cons]at hb;have w:IntKind.i64.wrap ((-1:Int) -x.n) = -1-x.n:=by apply wrap64<;>omega
  have ih:∀c∈x.kids,∀o:List Int,o.length+ (pre p k c).length≤1000000→NMS 142 p but c o (nmN p but k c o) :=fun c hc o ho=>by
   have:=hm.2.2 c hc;exact aFk but k c o (by omega) (by omega) (by omega) ho
  have hk10:x.kids.length<1000000:=by have:=hm.2.1;omega
  have er:nmN p but (k+1) a l=x.kids.foldl (fun o c=>nmN p but k c o) (lY but l x) :=by rw [nmN,hx]
  have hkids:=fun(o:List Int) (ho:o.length≤l.length+1) =>aFh p but a l x.kids hk10 ih x.kids 0 o rfl (by omega);refine aLT p but ?_;rw [er]
  have same:lY but l x=l→aB1 (x.kids.foldl (fun o c=>nmN p but k c o) (lY but l x)) (hX p a but l x.kids ((x.kids.length:Nat) :Int) l 0) :=fun g=>by
   rw [g];exact hkids l (by omega)
  by_cases e4:x.op=4
  · by_cases en:x.n<0
    · by_cases eb: -1-x.n=but
      ·exact(aRV p a but l x h0 hx w (by simp [e4]) (by simp [en]) (by simp [eb])).ends (same (by unfold lY;rw [if_neg (fun g=>g.2.2.1 eb)]))
      · refine(aRU p a but l x h0 hx w (by simp [e4]) (by simp [en]) (by simp [eb])).ends (aFj p but a l (by omega) x (-1-x.n) 0 (fun g=>?_) (fun g=>?_) l 0 rfl rfl)
        · have:lY but l x=l++ [-1-x.n] :=by unfold lY;rw [if_pos ⟨e4,en,eb,g⟩]
          rw [this];exact hkids _ (by simp)
        ·exact same (by unfold lY;rw [if_neg (fun h=>by have:=h.2.2.2;rw [g]at this;cases this)])
    ·exact(aRW p a but l x h0 hx w (by simp [e4]) (by simp;omega)).ends (same (by unfold lY;rw [if_neg (fun g=>en g.2.1)]))
  ·exact(aRX p a but l x h0 hx w (by simp [e4])).ends (same (by unfold lY;rw [if_neg (fun g=>e4 g.1)]))
theorem aBp (but:Int) :∀ (k:Nat) (a:Int) (l:List Int),0≤a→a<p.nodes.length→p.nodes.length-a.toNat≤k→l.length+ (pre p k a).length≤1000000→NMS 146 p but a l (nmN p but k a l)
 |0,a,l,h0,h1,h2,_=>by omega
 | k + 1, a,l,h0,h1,h2,hb=>by
  obtain⟨x,hx⟩ :∃x,p.nodes[a.toNat]?=some x:= ⟨_,getElem?_eq_getElem (by omega)⟩;have hm:=hp.node _ _ hx;have hr:=hn _ _ hx;have e:pre p (k+1) a=a:: (x.kids.map (pre p k)).flatten:=by rw [pre,hx]
  rw [e,length_cons]at hb;have w:IntKind.i64.wrap ((-1:Int) -x.n) = -1-x.n:=by apply wrap64<;>omega
  have ih:∀c∈x.kids,∀o:List Int,o.length+ (pre p k c).length≤1000000→NMS 146 p but c o (nmN p but k c o) :=fun c hc o ho=>by
   have:=hm.2.2 c hc;exact aBp but k c o (by omega) (by omega) (by omega) ho
  have hk10:x.kids.length<1000000:=by have:=hm.2.1;omega
  have er:nmN p but (k+1) a l=x.kids.foldl (fun o c=>nmN p but k c o) (lY but l x) :=by rw [nmN,hx]
  have hkids:=fun(o:List Int) (ho:o.length≤l.length+1) =>aFi p but a l x hk10 ih x.kids 0 o rfl (by omega);refine aLU p but ?_;rw [er]
  have same:lY but l x=l→aB1 (x.kids.foldl (fun o c=>nmN p but k c o) (lY but l x)) (jM p a but l x.op x.n x.kids x.pats l 0) :=fun g=>by
   rw [g];exact hkids l (by omega)
  by_cases e4:x.op=4
  · by_cases en:x.n<0
    · by_cases eb: -1-x.n=but
      ·exact(aR5 p a but l x h0 hx (by simp [e4]) (by simp [en]) w (by simp [eb])).ends (same (by unfold lY;rw [if_neg (fun g=>g.2.2.1 eb)]))
      · refine(aR4 p a but l x h0 hx (by simp [e4]) (by simp [en]) w (by simp [eb])).ends (aBo p but a l (by omega) x w (fun g=>?_) (fun g=>?_) l 0 false rfl rfl)
        · have:lY but l x=l++ [-1-x.n] :=by unfold lY;rw [if_pos ⟨e4,en,eb,g⟩]
          rw [this];exact hkids _ (by simp)
        ·exact same (by unfold lY;rw [if_neg (fun h=>by have:=h.2.2.2;rw [g]at this;cases this)])
    ·exact(aR6 p a but l x h0 hx (by simp [e4]) (by simp;omega)).ends (same (by unfold lY;rw [if_neg (fun g=>en g.2.1)]))
  ·exact(aR7 p a but l x h0 hx (by simp [e4])).ends (same (by unfold lY;rw [if_neg (fun g=>e4 g.1)]))
end
theorem aJG (n:Nat)(hn:n<100000) :∀ (j i:Nat) (l:List Int),i+j=n→l=numsL 0 i++replicate j 0→Ends PP 0 (aHb (n:Int) (i:Int) l).as (.ret (.ilst 1 (map bC (numsL 0 n)) true)) (aE [] 0)
 | 0,i,l,h,e=>by
  rw [List.replicate_zero,append_nil]at e;rw [show i=n by omega]at e ⊢;rw [e];exact aUQ n n _ sd
 | j +1,i,l,h,e=>by
  have hl:l.length=n:=by rw [e,length_append,bU,length_replicate];omega
  have hg:l[i]?=some 0:=by
   rw [e,List.getElem?_append_right (by rw [bU];omega),bU,Nat.sub_self];rfl
  refine(aUP n i l 0 sd sd (by rw [hl];omega) (by rw [Int.toNat_natCast];exact hg) sd).ends (aJG n hn j (i+1) _ (by omega) ?_);rw [Int.toNat_natCast,e,List.set_append,if_neg (by rw [bU];omega),bU,Nat.sub_self,List.replicate_succ,List.set_cons_zero];have:numsL 0 (i+1) =numsL 0 i++ [(i:Int)] :=by
   refine List.ext_getElem? (fun m=>?_);by_cases hm:m<i
   ·rw [iT 0 (by omega),List.getElem?_append_left (by rw [bU];exact hm),iT 0 hm]
   · by_cases hm2:m=i
     ·rw [hm2,iT 0 (by omega),List.getElem?_append_right (by rw [bU];omega),bU,Nat.sub_self];simp
     ·rw [getElem?_eq_none (by rw [bU];omega),getElem?_eq_none (by simp [bU];omega)]
  rw [this,append_assoc];rfl
theorem aSl (n:Nat)(hn:n<100000) :Pure PP 148 [.int .i64 (n:Int)] (.ilst 1 (map bC (numsL 0 n)) false) :=by
 have h:= (aUO (n:Int) (by simp) (by simpa using hn)).ends (aJG n hn n 0 _ (by omega) (by simp [numsL]));exact aA8 (fW (s:=aWd (n:Int)) (by kernel_rfl) (by kernel_rfl) rfl rfl h) (fun E cv hv=>lX hv)
def uY (p:Prog)(l:List Str) :Bool:=decide (l.length=p.funs.length) &&oM l&&decide (dH nC l 0=p.main)
theorem aJH (p:Prog)(l:List Str)(hl:l.length<1000000) :Pure PP 145 [Prog.av p,.ilst 1 (map avS l) false] (.bool (uY p l)) :=by
 refine fW (s:=aMM p l) (by kernel_rfl) (by kernel_rfl) (by simp [keylessL,keyless,Prog.av]) (by simp [keyless]) ?_;have h1:=aJk l hl;have h2:=aRd l nC hl;unfold uY;by_cases e:l.length=p.funs.length
 · cases e2:oM l with
   |false=>rw [e2]at h1;rw [Bool.and_false,Bool.false_and];exact aOI p l false (by simp [e]) h1 rfl
   | true=>
    rw [e2]at h1;rw [decide_eq_true e,Bool.true_and,Bool.true_and];exact Ends.eqv (aOH p l true _ (by simp [e]) h1 rfl h2) rfl
 · rw [decide_eq_false e,Bool.false_and,Bool.false_and];exact aOJ p l (by simp;omega)
theorem aFl (a:List LUnit)(ha:a.length<1000000)(hf:∀u∈a,FitU u) :∀ (t:List LUnit) (i:Nat),a.drop i=t→Ends PP 0 (aCo a a (i:Int)).as (.ret (.bool true)) (aE [] 0)
 | [],i,h=>by
  have:=bK h;exact aSj a a i sd
 | u::t,i,h=>by
  obtain⟨q1,q2,q3⟩ :=bJ h;exact(aSi a a i u u true sd sd sd sd (aJD u (hf u (mem_of_getElem? q1))) rfl sd).ends (aFl a ha hf t (i+1) q2)
theorem aHh (a:List LUnit)(ha:a.length<1000000)(hf:∀u∈a,FitU u) :Pure PP 53 [.ilst 5 (map LUnit.av a) false,.ilst 5 (map LUnit.av a) false] (.bool true) :=
 aN (by kernel_rfl) (by simp [keylessL,keyless]) rfl ((aSg a a (by simp)).ends (aFl a ha hf a 0 rfl))
def aMO(a:Prog)(b:List Str):TS:=dO PP 52 [(Prog.av a),(iS b)] [] 0
def aHi(a:Prog)(c:List Str)(d:Int)(b:List LUnit):TS:=⟨(tf 52 109 [(1,(iS c)),kp 2 0,(4,(.gl 1 5 0 ([] :List LUnit).length false)),(5,(nI 0)),(6,(.gl 2 5 0 b.length false)),(7,(nI d))] [kc f52 244,kl f52 244,.inBlock 0,kc f52 31]),[],[oC 0 [(iN a.nodes),(iI a.funs),(nI a.main),(iC a.cons)],oL 1 5 (map LUnit.av ([] :List LUnit)),oL 2 5 (map LUnit.av b)],3⟩
def aHj(a:Prog)(g:List Str)(b:List Int)(i:Str)(c:List LFun)(j:Int)(d:List Int)(e:List Str)(k:Int)(f:List LUnit):TS:=⟨(tf 52 109 [(1,(iS g)),kp 2 0,(4,(.gl 1 5 0 ([] :List LUnit).length false)),(5,(nI 0)),(6,(.gl 2 5 0 f.length false)),(7,(nI k)),(8,(.gl 3 1 0 b.length false)),kp 9 4,(10,(.gl 5 1 0 d.length true)),(11,(nI j))] [kc f52 500980,kl f52 500980,.inBlock 2,kc f52 62623,.inBlock 1,kc f52 979,kl f52 244,.inBlock 0,kc f52 31]),[],[oC 0 [(iN a.nodes),(iI a.funs),(nI a.main),(iC a.cons)],oL 1 5 (map LUnit.av ([] :List LUnit)),oL 2 5 (map LUnit.av f),oL 3 1 (jI b),oC 4 [(avS i),(.gl 6 2 0 a.cons.length false),(.gl 7 2 0 c.length true),(.gl 8 1 0 e.length false),.nils],oL 5 1 (jI d),oL 6 2 (jC a.cons),oL 7 2 (map LFun.av c),oL 8 1 (map avS e)],9⟩
def aLV(a:Prog)(e:List Str)(f:Str)(b:List LFun)(g:List Int)(c:List Str)(i:Int)(d:List LUnit):TS:=⟨(tf 52 109 [(1,(iS e)),kp 2 0,(4,(.gl 1 5 0 ([] :List LUnit).length false)),(5,(nI 0)),(6,(.gl 2 5 0 d.length false)),(7,(nI i)),kp 9 3,(10,(.ilst 1 (jI g) true))] [kc f52 125246,kc f52 125247,.inBlock 1,kc f52 979,kl f52 244,.inBlock 0,kc f52 31]),[],[oC 0 [(iN a.nodes),(iI a.funs),(nI a.main),(iC a.cons)],oL 1 5 (map LUnit.av ([] :List LUnit)),oL 2 5 (map LUnit.av d),oC 3 [(avS f),(.gl 4 2 0 a.cons.length false),(.gl 5 2 0 b.length true),(.gl 6 1 0 c.length false),.nils],oL 4 2 (jC a.cons),oL 5 2 (map LFun.av b),oL 6 1 (map avS c)],7⟩
def aLW(a:Prog)(b:List Str):=tT 0 (aMO a b)<|fZ 10 38 [(Prog.av a)]<|fun c=>.b 2 15 (!c) (.i [rn 13,.nilI 4 5] []<|gE 0 1 (.tup [(.ilst 5 (map LUnit.av ([] :List LUnit)) true),(nI 2)]))<|fZ 2 145 [(Prog.av a),(iS b)]<|fun d=>.b 3 20 (!d) (.i [rn 7,.nilI 4 5] []<|gE 0 1 (.tup [(.ilst 5 (map LUnit.av ([] :List LUnit)) true),(nI 2)]))<|.i [rn 13,.nilL 4 5] []<|gu 0 1 (map LUnit.av ([] :List LUnit))<|gs 0 4 (.gl 1 5 0 ([] :List LUnit).length false)<|.i [.nilL 6 5] []<|gu 0 2 (map LUnit.av ([] :List LUnit))<|gs 0 6 (.gl 2 5 0 ([] :List LUnit).length false)<|.W 0 3 [0,1,2] (aHi a b 0 ([] :List LUnit))
def aUR:=fun a b c d e=>aLW a b c d|>.t e tv
def aUS:=fun a b c d e f g i=>aLW a b c e|>.f f d g|>.t i tv
def aUT:=fun a b c d e f g i=>aLW a b c e|>.f f d g|>.f i ⟨kk,⟨kk,trivial⟩⟩
def aLX(a:Prog)(f:List Str)(c:Int)(d:List LUnit):=tT 0 (aHi a f c d)<|gl 6 bC a.funs<|gd 2 25 (c< (a.funs.length:Int)) (.y fun g:Int=>.y fun e:List Int=>.i [rn 5,.reg (rd 4 [.ans (.idx (bC g)),.d,.d,.call (.gl 3 1 0 e.length false) (aE [oC 0 [(iN a.nodes),(iI a.funs),(nI a.main),(iC a.cons)],oL 1 5 (map LUnit.av ([] :List LUnit)),oL 2 5 (map LUnit.av d),oL 3 1 (jI e)] 4),.d])] [hA (0≤c),.a (((a.funs)[c.toNat]?) =some g) (aK (f:=bC)),hA (Spec PP (.enter 146 [(Prog.av a),(nI g),(nI c),.nils]) (aE [oC 0 [(iN a.nodes),(iI a.funs),(nI a.main),(iC a.cons)],oL 1 5 (map LUnit.av ([] :List LUnit)),oL 2 5 (map LUnit.av d)] 3) (.ret (.gl 3 1 0 e.length false)) (aE [oC 0 [(iN a.nodes),(iI a.funs),(nI a.main),(iC a.cons)],oL 1 5 (map LUnit.av ([] :List LUnit)),oL 2 5 (map LUnit.av d),oL 3 1 (jI e)] 4))]<|gl 5 bC a.funs<|gd 2 40 ((a.funs.length:Int) >10) (.i [rn 12,.nilI 4 5] []<|gE 0 4 (.tup [(.ilst 5 (map LUnit.av ([] :List LUnit)) true),(nI 3)]))<|gd 5 44 (((e.length:Nat) :Int) >20) (.i [rn 7,.nilI 4 5] []<|gE 0 4 (.tup [(.ilst 5 (map LUnit.av ([] :List LUnit)) true),(nI 3)]))<|.y fun b:Str=>.i [rn 3,.reg (.d::.d::.ans (.idx (avS b))::rd 3 (.app (jC a.cons) a.cons.length::.d::.d::.ans (.idx (avS b))::rd 6 []))] [hA (0≤c),.a (((f)[c.toNat]?) =some b) (aK (f:=avS)),hA (length a.cons≤1000000),hr (jC a.cons),.q (p:=length (jC a.cons) =length a.cons) (length_map ..),hA (0≤c),.a (((f)[c.toNat]?) =some b) (aK (f:=avS)),hr (avS b),hr (avS b),hr (avS b),hr (avS b)]<|gl 4 bC a.funs<|.i [.mk a.funs.length] [hr ((a.funs.length:Nat) :Int),hr ((a.funs.length:Nat) :Int),hA (a.funs.length<100000)]<|.i [.lset 7 (jI (replicate a.funs.length (0:Int)))] [.q (p:=replicate a.funs.length (bC (0:Int)) = (jI (replicate a.funs.length (0:Int)))) (aCd _ _ _)]<|.i [.set 62 (.gl 7 1 0 (replicate a.funs.length (0:Int)).length true)] [.q (p:=(AV.gl 7 1 0 a.funs.length true) = (.gl 7 1 0 (replicate a.funs.length (0:Int)).length true)) (bT (length_replicate ..).symm)]<|.i [rn 9,.ctoL 5 2 true [(avS b),(nI 0)]] [hr (some [(avS b),(nI 0)]),hr true]<|gu 0 4 (map LFun.av [(LFun.mk b 0)])<|gv 0 5 2 (.gl 4 2 0 [(LFun.mk b 0)].length true)<|.i [.cnil 5 3 1] []<|gu 0 8 (map avS ([] :List Str))<|gv 0 5 3 (.gl 8 1 0 ([] :List Str).length false)<|.W 0 9 [0,1,2,3,5,7,6,4,8] (aHj a f e b [(LFun.mk b 0)] 0 (replicate a.funs.length (0:Int)) ([] :List Str) c d))<|gz 9 4 2 5 LUnit.av d false<|gE 0 3 (.tup [(.ilst 5 (map LUnit.av d) false),(nI 0)])
def aUU:=fun a b c d e f g i j k l=>aLX a b c d|>.t g e f i j k|>.t l tv
def aUV:=fun c d e f g i j k a l m n o b p q=>aLX c d e f|>.t k g i a l m|>.f n|>.f o j a b p a b q ⟨kk,⟨kk,⟨kk,⟨kk,⟨kk,⟨kk,⟨kk,trivial⟩⟩⟩⟩⟩⟩⟩
def aUW:=fun a b c d e=>aLX a b c d|>.f e tv
def aSm(i:Prog)(g:List Str)(f:List Int)(j:Str)(k:List LFun)(a:Int)(c:List Int)(d:List Str)(l:Int)(m:List LUnit):=tT 0 (aHj i g f j k a c d l m)<|gd 8 66 (a< (f.length:Int)) (.y fun b:Int=>.y fun e:Str=>.i [rn 5,.reg (rd 5 [.ans (.ix),.ans (.idx (bC b)),.ans (.idx (avS e)),.d,.d,.app (map avS (d++ [e])) (d++ [e]).length,.d,.d])] [hA (0≤a),hA (a< (f.length:Int)),.a (((f)[a.toNat]?) =some b) (fS (f:=bC)),hA (0≤b),.a (((g)[b.toNat]?) =some e) (aK (f:=avS)),hb avS d,hA (length (d++ [e]) ≤1000000),hc avS d [e],he avS d [e]]<|.i [rn 4,.ans (.ix)] [hA (0≤a),hA (a< (f.length:Int))]<|gj bC 0 f a.toNat b<|gw 2 87 (1+a)<|.i [.ans (.ix)] [hA (0≤b),hA (b< (c.length:Int))]<|.y fun n:Int=>.i [.st (bC n) (bC (1+a))] [.a (((c)[b.toNat]?) =some n) (fS (f:=bC)),hr (some (bC (1+a)))]<|.i [.lset 5 (jI (set c b.toNat (1+a)))] [.q (p:=(jI c).set (0+b.toNat) (bC (1+a)) = (jI (set c b.toNat (1+a)))) (kY _ _ _ _)]<|.i [.set 10 (.gl 5 1 0 (set c b.toNat (1+a)).length true)] [.q (p:=(AV.gl 5 1 0 c.length true) = (.gl 5 1 0 (set c b.toNat (1+a)).length true)) (bT (length_set ..).symm)]<|.i [.set 81 (.gl 5 1 0 (set c b.toNat (1+a)).length true)] [.q (p:=(AV.gl 5 1 0 c.length true) = (.gl 5 1 0 (set c b.toNat (1+a)).length true)) (bT (length_set ..).symm)]<|gw 5 68 (a+1)<|.W 3 11 [0,1,2,3,4,5,6,7,10] (aHj i g f j k (a+1) (set c b.toNat (1+a)) (d++ [e]) l m))<|gz 2 10 5 1 bC c true<|.W 1 9 [0,1,2,4,6,7,8] (aLV i g j k c d l m)
def aUX:=fun e f g i j k l m n o p q r s a b c d t u v w x y=>aSm e f g i j k l m n o|>.t s p q a b c d t u a b c v d w r x y ⟨kk,⟨kk,⟨kk,⟨kk,⟨kk,⟨kk,⟨kk,trivial⟩⟩⟩⟩⟩⟩⟩
def aUY:=fun a b c d e f g i j k l=>aSm a b c d e f g i j k|>.f l ⟨kk,⟨kk,⟨kk,⟨kk,⟨kk,trivial⟩⟩⟩⟩⟩
def aUZ (a:Prog)(l:List Str)(g:Str)(c:List LFun)(m:List Int)(d:List Str)(j:Int)(i:List LUnit):=fun f k e b n o p q r s t u=>(tT 0 (aLV a l g c m d j i)<|.y fun f:Int=>.y fun k:List Int=>.y fun e:List Node=>.i [.reg (rd 6 (.ans (.idx (bC f))::rd 4 [.ans (.len (a.cons.length:Int)),.pure (iI k),.call (.gl 7 4 0 (map Node.o e).length false) (aE [oC 0 [(iN a.nodes),(iI a.funs),(nI a.main),(iC a.cons)],oL 1 5 (map LUnit.av ([] :List LUnit)),oL 2 5 (map LUnit.av i),oC 3 [(avS g),(.gl 4 2 0 a.cons.length false),(.gl 5 2 0 c.length true),(.gl 6 1 0 d.length false),.nils],oL 4 2 (jC a.cons),oL 5 2 (map LFun.av c),oL 6 1 (map avS d),oL 7 4 (map ONode.av (map Node.o e))] 8),.d,.d]))] [hA (0≤j),.a (((a.funs)[j.toNat]?) =some f) (aK (f:=bC)),hl Con.av a.cons,hA (Pure PP 148 [(nI (a.cons.length:Int))] (iI k)),hA (Spec PP (.enter 147 [.nils,(.agg [(.str 0 0),.nils,.nils,.nils,(iN a.nodes)]),(nI f),(.ilst 1 (jI m) true),(iI k)]) (aE [oC 0 [(iN a.nodes),(iI a.funs),(nI a.main),(iC a.cons)],oL 1 5 (map LUnit.av ([] :List LUnit)),oL 2 5 (map LUnit.av i),oC 3 [(avS g),(.gl 4 2 0 a.cons.length false),(.gl 5 2 0 c.length true),(.gl 6 1 0 d.length false),.nils],oL 4 2 (jC a.cons),oL 5 2 (map LFun.av c),oL 6 1 (map avS d)] 7) (.ret (.gl 7 4 0 (map Node.o e).length false)) (aE [oC 0 [(iN a.nodes),(iI a.funs),(nI a.main),(iC a.cons)],oL 1 5 (map LUnit.av ([] :List LUnit)),oL 2 5 (map LUnit.av i),oC 3 [(avS g),(.gl 4 2 0 a.cons.length false),(.gl 5 2 0 c.length true),(.gl 6 1 0 d.length false),.nils],oL 4 2 (jC a.cons),oL 5 2 (map LFun.av c),oL 6 1 (map avS d),oL 7 4 (map ONode.av (map Node.o e))] 8)),hr (nI f),hr (nI f),hr (ilst 1 (jI a.funs) false),hr (ilst 1 (jI a.funs) false),hr (ilst 4 (jN a.nodes) false),hr (ilst 4 (jN a.nodes) false)]<|gy 0 3 1 4 2 Con.av a.cons false<|.i [.cweak 3 2] []<|gy 0 3 2 5 2 LFun.av c false<|gy 0 3 3 6 1 avS d false<|.y fun b:List Node=>.i [.lset 7 (jN b)] [.a ((map Node.o e) =map Node.o b) (p':=(map ONode.av (map Node.o e)) = (jN b)) aDz]<|.i [.cset 3 4 (.gl 7 4 0 b.length false)] [.a (b.length= (map Node.o e).length) (p':=(AV.gl 7 4 0 (map Node.o e).length false) = (.gl 7 4 0 b.length false)) (fun h=>(bT h.symm))]<|gy 0 3 4 7 4 Node.av b false<|ga 4 LUnit.av i [(LUnit.mk g a.cons c d b)]<|gw 6 27 (j+1)<|.W 3 10 [0,1,9] (aHi a l (j+1) (i++ [(LUnit.mk g a.cons c d b)]))) f k e n o p q b r s t u ⟨kk,⟨kk,trivial⟩⟩
theorem aSn {p:Prog}{but a:Int}{r:List Int}(h:NMS 146 p but a [] r) :aCW PP (.enter 146 [PAv p,.int .i64 a,.int .i64 but,.nils]) (aE [] 0) (.ret (.gl 0 1 0 (length r) false)) (aE [(0,LIs r,true)] 1) :=by
 obtain⟨g,hg,he⟩ :=h;have e:cO PP (aE [(0,LIs [],true)] 1) (.enter 146 [PAv p,.int .i64 a,.int .i64 but,.gl 0 1 0 (length ([] :List Int)) false]) =some (aBn p a but []).as.fr:=by kernel_rfl
 rw [e]at hg;cases hg;have lead:LeadsM PP 0 (dO PP 146 [PAv p,.int .i64 a,.int .i64 but,.nils] [] 0).as (aBn p a but []).as:=
  aAX (n1:=1) (ks:=[0]) (ps:=[([] :List AV) =map bC ([] :List Int),(AV.gl 0 1 0 0 false) = .gl 0 1 0 (length ([] :List Int)) false]) (is:=[.nilL 3 1,.lset 0 (map bC ([] :List Int)),.set 3 (.gl 0 1 0 (length ([] :List Int)) false)]) (by kernel_rfl) (by kernel_rfl) ⟨uX [],trivial⟩ ⟨rfl,rfl⟩
 have he2:Ends PP 0 (aBn p a but []).as (.ret (.gl 0 1 0 (length r) false)) (aE [(0,LIs r,true)] 1) :=mp (by kernel_rfl) he;have he3:=lead.ends he2;exact⟨(dO PP 146 [PAv p,.int .i64 a,.int .i64 but,.nils] [] 0).as.fr,by kernel_rfl,mp (by kernel_rfl) he3⟩
theorem aU0 {u:LUnit}{F C:List Int}{c:Int}{ns:List Node}(h:aBc u F C c [] ns) :aCW PP (.enter 147 [.nils,UAV u,.int .i64 c,.ilst 1 (map bC F) false,.ilst 1 (map bC C) false]) (aE [] 0) (.ret (.gl 0 4 0 (length (map Node.o ns)) false)) (aE [(0,OL (map Node.o ns),true)] 1) :=by
 obtain⟨g,hg,he⟩ :=h;have e:cO PP (aE [(0,OL [],true)] 1) (.enter 147 [.gl 0 4 0 (length ([] :List ONode)) false,UAV u,.int .i64 c,.ilst 1 (map bC F) false,.ilst 1 (map bC C) false]) =some (aE7 [] u c F C).as.fr:=by kernel_rfl
 rw [e]at hg;cases hg;have lead:LeadsM PP 0 (dO PP 147 [.nils,UAV u,.int .i64 c,.ilst 1 (map bC F) false,.ilst 1 (map bC C) false] [] 0).as (aE7 [] u c F C).as:=
  aAX (n1:=1) (ks:=[0]) (ps:=[([] :List AV) =map ONode.av ([] :List ONode),(AV.gl 0 4 0 0 false) = .gl 0 4 0 (length ([] :List ONode)) false]) (is:=[.nilL 0 4,.lset 0 (map ONode.av ([] :List ONode)),.set 0 (.gl 0 4 0 (length ([] :List ONode)) false)]) (by kernel_rfl) (by kernel_rfl) ⟨oI [],trivial⟩ ⟨rfl,rfl⟩
 have he2:Ends PP 0 (aE7 [] u c F C).as (.ret (.gl 0 4 0 (length (map Node.o ns)) false)) (aE [(0,OL (map Node.o ns),true)] 1) :=mp (by kernel_rfl) he;have he3:=lead.ends he2;exact⟨(dO PP 147 [.nils,UAV u,.int .i64 c,.ilst 1 (map bC F) false,.ilst 1 (map bC C) false] [] 0).as.fr,by kernel_rfl,mp (by kernel_rfl) he3⟩
def setF :List Int→Nat→List Int→List Int
 |F,_,[] =>F
 |F,k,y::t=>setF (F.set y.toNat (1+ (k:Int))) (k+1) t
theorem aJI :∀ (t F:List Int) (k:Nat),(setF F k t).length=F.length
 | [],F,k=>rfl
 |y::t,F,k=>by rw [setF,aJI t,length_set]
theorem aDK (B:Nat) :∀ (t F:List Int) (k:Nat),k+t.length≤B→ (∀g∈F,0≤g∧g≤B) →∀g∈setF F k t,0≤g∧g≤B
 | [],F,k,_,h=>h
 | y::t,F,k,hb,h=>by
  rw [length_cons]at hb;rw [setF];refine aDK B t _ (k+1) (by omega) (fun g hg=>?_);rcases List.mem_or_eq_of_mem_set hg with g1|g1
  ·exact h g g1
  ·rw [g1];omega
def dE (p:Prog)(i:Nat)(b:Int) :List Int:=nmN p (i:Int) p.nodes.length b []
def nE (p:Prog)(nm:List Int) :List Int:=setF (replicate p.funs.length 0) 0 nm
def lP (l:List Str)(y:Int) :Str:= (l[y.toNat]?).getD []
def lI (p:Prog)(nm:List Int)(b:Int) :List Node:= (dR p (nE p nm) (numsL 0 p.cons.length) p.nodes.length 0 b).getD []
def aJJ (p:Prog)(l:List Str)(i:Nat)(b:Int)(s:Str) :LUnit:= ⟨s,p.cons,[⟨s,0⟩],(dE p i b).map (lP l),lI p (dE p i b) b⟩
def nF (p:Prog)(l:List Str) :Nat→List Int→List Str→List LUnit
 |i,b::bs,s::ss=>aJJ p l i b s::nF p l (i+1) bs ss
 |_,_,_=>[]
def jO (p:Prog)(l:List Str) :List LUnit×Int:=
 if aW p=true∧uY p l=true then(if p.funs.length≤10 then(nF p l 0 p.funs l,0)else([],3))else([],2)
section
variable {p :Prog} (hs:aH p=true) (hr:aW p=true)
include hs hr
theorem aDL :∀ (i:Nat) (x:Node),p.nodes[i]?=some x→ -1000000000≤x.n∧x.n≤1000000000:=fun i x hx=>by
 have f:=Fs.of hs hr;have hn:= (f.node i x hx).1;have h1:=f.fine.fsmall;have h3:=f.cons;simp only [aZ,fJ,Bool.and_eq_true]at hn;have hh:=hn.1.1.1;unfold bL at hh;split at hh
 ·simp [cR]at hh;omega
 · split at hh
   ·simp [cR]at hh;omega
   · split at hh
     ·simp [cR]at hh;omega
     · split at hh
       ·simp [cR]at hh;omega
       · split at hh
         ·simp [cR]at hh;omega
         ·have:=of_decide_eq_true hh;omega
def NmI (p:Prog)(out:List Int) :Prop:=out.Nodup∧∀f∈out,0≤f∧f<p.funs.length
omit hs hr in
theorem hasI_mem {l:List Int}{f:Int}:aAv l f=true↔f∈l:=by
 unfold aAv;rw [List.any_eq_true];exact⟨fun⟨x,h1,h2⟩ =>by have:=of_decide_eq_true h2;exact this ▸ h1,fun h=> ⟨f,h,decide_eq_true rfl⟩⟩
theorem aSo (but:Int){out:List Int}(h:NmI p out){i:Nat}{x:Node}(hx:p.nodes[i]?=some x) :NmI p (lY but out x) :=by
 unfold lY;split
 · rename_i g;have hn:= ((Fs.of hs hr).node i x hx).1;simp only [aZ,fJ,Bool.and_eq_true]at hn;have hh:=hn.1.1.1;rw [g.1]at hh;simp [bL,cR]at hh;refine⟨?_,fun f hf=>?_⟩
   · rw [List.nodup_append];refine⟨h.1,by simp,fun a ha b hb e=>?_⟩;rw [List.mem_singleton.1 hb]at e;have:=hasI_mem.2 ha;rw [e,g.2.2.2]at this;cases this
   · rcases List.mem_append.1 hf with k|k
     ·exact h.2 f k
     ·rw [List.mem_singleton.1 k];omega
 ·exact h
theorem aMP (but:Int) :∀ (k:Nat) (a:Int) (out:List Int),NmI p out→NmI p (nmN p but k a out)
 |0,a,out,h=>h
 | k +1,a,out,h=>by
  rw [nmN];cases hx:p.nodes[a.toNat]? with
  |none=>exact h
  | some x=>
   have key:∀ (cs:List Int) (o:List Int),NmI p o→NmI p (cs.foldl (fun o c=>nmN p but k c o) o) :=by
    intro cs
    induction cs with
    |nil=>intro o ho;exact ho
    |cons c cs ih=>intro o ho;exact ih _ (aMP but k c o ho)
   exact key x.kids _ (aSo hs hr but h hx)
theorem aDM (i:Nat)(b:Int) :NmI p (dE p i b) ∧ (dE p i b).length≤p.funs.length:=by
 have h:NmI p (dE p i b) :=aMP hs hr _ _ b [] ⟨List.nodup_nil,fun f hf=>by cases hf⟩;refine⟨h,?_⟩;have hd: ((dE p i b).map Int.toNat).Nodup:=by
  have hd:=h.1;rw [List.nodup_iff_pairwise_ne]at hd ⊢;refine List.pairwise_map.2 (hd.imp_of_mem (fun {a b} ha hb hne e=>?_));have:=h.2 a ha;have:=h.2 b hb;exact hne (by omega)
 have:=mG p.funs.length _ hd (fun x hx=>by
  obtain⟨y,hy,rfl⟩ :=List.mem_map.1 hx;have:=h.2 y hy;omega)
 rwa [length_map]at this
theorem aDN {nm:List Int}(hl:nm.length≤p.funs.length){b:Int}(hb:b∈p.funs) :dR p (nE p nm) (numsL 0 p.cons.length) p.nodes.length 0 b=some (lI p nm b) ∧ (lI p nm b).length≤p.nodes.length∧∀x∈lI p nm b,aOA x:=by
 have f:=Fs.of hs hr;have hfs:=f.fine.fsmall;have hns:=f.fine.small;have hF: (nE p nm).length=p.funs.length:=by unfold nE;rw [aJI,length_replicate]
 have hB:∀g∈nE p nm,0≤g∧g≤ (320:Nat) :=aDK 320 nm _ 0 (by omega) (fun g hg=>by rw [(List.mem_replicate.1 hg).2];omega)
 have hN:∀ (i:Nat) (x:Node),p.nodes[i]?=some x→MovN p (nE p nm) (numsL 0 p.cons.length) i x:=fun i x hx=>by
  obtain⟨n1,n2⟩ :=f.node i x hx;obtain⟨k0,k1,k2⟩ :=f.fine.node i x hx;have hpk:bH p.cons x.pats=true:=kH fun q hq=> ((vM n1).pats q hq).2;have hsz:aV x.pats≤12*x.pats.length:=aA6 (fun q hq=> ((vM n1).pats q hq).1)
  have ha:=aJd (p:=p) (mf:=aG8 (nE p nm) 0 []) (mc:=sM p.cons.length) (F:=nE p nm) (C:=numsL 0 p.cons.length) (by rw [←hF];exact aG9 _) (aGM _) (fun j j0 j1=>by
   have e:=aG9 (nE p nm) j j0 (by omega);have:=hB _ (mem_of_getElem? e);omega) hfs n1 n2
  exact⟨k1,k2,by omega,⟨_,ha.1.2.1⟩,aDG (by rw [bU]) x.pats hpk⟩
 have hpre: (pre p p.nodes.length b).length≤p.nodes.length:=by
  obtain⟨f1,f2,e⟩ :=append_of_mem hb;have hl:=f.len;rw [e,map_append,map_cons,flatten_append,flatten_cons,length_append,length_append]at hl;omega
 obtain⟨h0,h1⟩ :=f.fine.funs b hb;obtain⟨ns,e1,e2,e3⟩ :=aFc hN p.nodes.length b 0 h0 h1 (by omega) (by omega);have e:lI p nm b=ns:=by unfold lI;rw [e1];rfl
 rw [e];exact⟨e1,by omega,e3⟩
end
abbrev LUs (l:List LUnit) :AObj:=.lst 5 (map LUnit.av l)
abbrev ApH (p:Prog)(l2:List LUnit) :List (Nat×AObj×Bool) :=[(0,PgC p,false),(1,LUs [],true),(2,LUs l2,true)]
theorem aFm (p:Prog)(l2:List LUnit){but a:Int}{r:List Int}(h:NMS 146 p but a [] r) :
  Spec PP (.enter 146 [PAv p,.int .i64 a,.int .i64 but,.nils]) (aE (ApH p l2) 3) (.ret (.gl 3 1 0 (length r) false)) (aE (ApH p l2++ [(3,LIs r,true)]) 4) :=
 mp (by kernel_rfl) (pK (ks:=[]) (n2:=3) (lc:=ApH p l2) (x:=ApH p l2) (args':=[PAv p,.int .i64 a,.int .i64 but,.nils])
  (aSn h) (by kernel_rfl) (by kernel_rfl) (by kernel_rfl) trivial (by kernel_rfl) (by kernel_rfl) (by kernel_rfl) (by kernel_rfl) ⟨uX r,trivial⟩ (by kernel_rfl))
abbrev UnA (vy:Str)(a b c:Nat)(n1 n2 n3:Nat) :AObj:=.cells (putCells .leaf 0 [avS vy,.gl a 2 0 n1 false,.gl b 2 0 n2 true,.gl c 1 0 n3 false,.nils]) 5 [] false
abbrev aOM (p:Prog)(l2:List LUnit)(vy:Str)(lf:List LFun)(o:List Str) :List (Nat×AObj×Bool) :=[(0,PgC p,false),(1,LUs [],true),(2,LUs l2,true),(3,UnA vy 4 5 6 (length p.cons) (length lf) (length o),false),(4,.lst 2 (map Con.av p.cons),true),(5,.lst 2 (map LFun.av lf),true),(6,aRR o,true)]
def aDO (p:Prog) :LUnit:= ⟨[],[],[],[],p.nodes⟩
theorem aON (p:Prog)(l2:List LUnit)(vy:Str)(lf:List LFun)(o:List Str){F C:List Int}{c:Int}{ns:List Node}(h:aBc (aDO p) F C c [] ns) :
  Spec PP (.enter 147 [.nils,.agg [.str 0 0,.nils,.nils,.nils,.ilst 4 (map Node.av p.nodes) false],.int .i64 c,.ilst 1 (map bC F) true,.ilst 1 (map bC C) false]) (aE (aOM p l2 vy lf o) 7) (.ret (.gl 7 4 0 (length (map Node.o ns)) false)) (aE (aOM p l2 vy lf o++ [(7,OL (map Node.o ns),true)]) 8) :=by
 have h1:Spec PP (.enter 147 [.nils,UAV (aDO p),.int .i64 c,.ilst 1 (map bC F) false,.ilst 1 (map bC C) false]) (aE (aOM p l2 vy lf o) 7) (.ret (.gl 7 4 0 (length (map Node.o ns)) false)) (aE (aOM p l2 vy lf o++ [(7,OL (map Node.o ns),true)]) 8) :=
  mp (by kernel_rfl) (pK (ks:=[]) (n2:=7) (lc:=aOM p l2 vy lf o) (x:=aOM p l2 vy lf o) (args':=[.nils,UAV (aDO p),.int .i64 c,.ilst 1 (map bC F) false,.ilst 1 (map bC C) false])
   (aU0 h) (by kernel_rfl) (by kernel_rfl) (by kernel_rfl) trivial (by kernel_rfl) (by kernel_rfl) (by kernel_rfl) (by kernel_rfl) ⟨oI _,trivial⟩ (by kernel_rfl))
 refine aOF h1 rfl (fun E i a a' cv e1 e2 hv=>?_)
 match i,e1,e2 with
 |0,e1,e2=>cases e1;cases e2;exact hv
 | 1,e1,e2=>
  cases e1;cases e2;simp only [VR]at hv ⊢;obtain⟨ws,rfl,h5⟩ :=hv;obtain⟨a1,w1,rfl,c1,h5⟩ :=h5.cons_inv;obtain⟨a2,w2,rfl,c2,h5⟩ :=h5.cons_inv;obtain⟨a3,w3,rfl,c3,h5⟩ :=h5.cons_inv;obtain⟨a4,w4,rfl,c4,h5⟩ :=h5.cons_inv;exact⟨_,rfl,VRs.cons c1 (VRs.cons (uP _ c2) (VRs.cons (uP _ c3) (VRs.cons (uP _ c4) h5)))⟩
 |2,e1,e2=>cases e1;cases e2;exact hv
 |3,e1,e2=>cases e1;cases e2;exact lX hv
 |4,e1,e2=>cases e1;cases e2;exact hv
 |n+5,e1,e2=>simp at e1
theorem aJK {α:Type}{l:List α}{i:Nat}{t:List α}(h:l.drop i=t)(hi:i<l.length) :∃x r,t=x::r∧l[i]?=some x∧l.drop (i+1) =r:=by
 have e:=List.drop_eq_getElem_cons hi;exact⟨l[i],l.drop (i+1),by rw [←h,e],getElem?_eq_getElem hi,rfl⟩
section
variable (p :Prog) (l:List Str) (hl:l.length=p.funs.length) (hf:p.funs.length≤1000)
include hl hf
theorem aSp (nm:List Int)(hnm:∀y∈nm,0≤y∧y<p.funs.length)(hn:nm.length≤1000)(vy:Str)(lf:List LFun)(i:Int)(l2:List LUnit) :∀ (t:List Int) (k:Nat) (F:List Int) (o:List Str),nm.drop k=t→F.length=p.funs.length→o.length=k →
  LeadsM PP 0 (aHj p l nm vy lf (k:Int) F o i l2).as (aLV p l vy lf (setF F k t) (o++t.map (lP l)) i l2).as
 | [],k,F,o,h,hF,ho=>by
  have:=bK h;rw [setF,map_nil,append_nil];exact aUY p l nm vy lf k F o i l2 sd
 | y::t,k,F,o,h,hF,ho=>by
  obtain⟨q1,q2,q3⟩ :=bJ h;have hy:=hnm y (mem_of_getElem? q1);obtain⟨s,hs⟩ :∃s,l[y.toNat]?=some s:= ⟨_,getElem?_eq_getElem (by omega)⟩;obtain⟨z,hz⟩ :∃z,F[y.toNat]?=some z:= ⟨_,getElem?_eq_getElem (by omega)⟩;have en:lP l y=s:=by unfold lP;rw [hs];rfl
  have ih:=aSp nm hnm hn vy lf i l2 t (k+1) (F.set y.toNat (1+ (k:Int))) (o++ [s]) q2 (by rw [length_set];exact hF) (by simp [ho]);rw [setF,map_cons,en,show o++s::t.map (lP l) = (o++ [s]) ++t.map (lP l)by simp];exact(aUX p l nm vy lf k F o i l2 y s z sd sd sd sd hy.1 hs (by simp;omega) sd (by omega) hz sd).trans ih
theorem aSq (hs:aH p=true)(hr:aW p=true)(h10:p.funs.length≤10) :∀ (bs:List Int) (ss:List Str) (i:Nat) (acc:List LUnit),p.funs.drop i=bs→l.drop i=ss→acc.length=i →
  Ends PP 0 (aHi p l (i:Int) acc).as (.ret (.tup [.ilst 5 (map LUnit.av (acc++nF p l i bs ss)) false,.int .i64 0])) (aE [] 0)
 | [],ss,i,acc,h,h2,ha=>by
  have:=bK h;have e:nF p l i [] ss= [] :=by cases ss<;>rfl
  rw [e,append_nil];exact aUW p l i acc sd
 | b::bs,ss,i,acc,h,h2,ha=>by
  obtain⟨q1,q2,q3⟩ :=bJ h;have hi:= (List.getElem?_eq_some_iff.1 q1).1;obtain⟨s,r,rfl,s1,s2⟩ :=aJK h2 (by omega);have f:=Fs.of hs hr;have hb:=mem_of_getElem? q1;have hbr:=f.fine.funs b hb;obtain⟨n1,n2⟩ :=aDM hs hr i b;have hsz:=f.fine.small;have hpl: (pre p p.nodes.length b).length≤1000000-0:=by
   obtain⟨f1,f2,e⟩ :=append_of_mem hb;have hl:=f.len;rw [e,map_append,map_cons,flatten_append,flatten_cons,length_append,length_append]at hl;omega
  have sp:=aBp f.fine (aDL hs hr) (i:Int) p.nodes.length b [] hbr.1 hbr.2 (by omega) (by simp;omega);obtain⟨m1,m2,m3⟩ :=aDN hs hr n2 hb
  have hT:∀x∈ (aDO p).nodes,lO x.pats=true:=fun x hx=>by
   obtain⟨j,hj⟩ :=List.mem_iff_getElem?.1 hx;exact aAm x.pats (kH fun q hq=> ((vM (f.node j x hj).1).pats q hq).2)
  have hm:dR (uQ (aDO p)) (nE p (dE p i b)) (numsL 0 p.cons.length) p.nodes.length ([] :List ONode).length b=some (lI p (dE p i b) b) :=by
   rw [aAp (p:=p) (p':=uQ (aDO p)) rfl];exact m1
  have smv:=rMv_spec (aDO p) (nE p (dE p i b)) (numsL 0 p.cons.length) hT p.nodes.length [] b _ hm;have hc:=f.cons;have ih:=aSq hs hr h10 bs r (i+1) (acc++ [aJJ p l i b s]) q2 s2 (by simp [ha]);rw [append_assoc]at ih;have t1:=aUV p l i acc b (dE p i b) s sd sd sd (mp (by kernel_rfl) (aFm p acc sp)) (by simp;omega) (by simp;omega) sd (by omega) (by omega);have t2:=aSp p l hl hf (dE p i b) n1.2 (by omega) s [⟨s,0⟩] (i:Int) acc (dE p i b) 0 (replicate p.funs.length 0) [] rfl (by simp) rfl;rw [nil_append]at t2;have t3:=aUZ p l s [⟨s,0⟩] (nE p (dE p i b)) ((dE p i b).map (lP l)) i acc b (numsL 0 p.cons.length) (lI p (dE p i b) b) (lI p (dE p i b) b) sd sd (aSl p.cons.length (by omega)) (mp (by kernel_rfl) (aON p acc s [⟨s,0⟩] ((dE p i b).map (lP l)) smv)) rfl (by simp) (by simp;omega) sd;exact((t1.trans t2).trans t3).ends ih
end
theorem aSr {E:Emb}{e:Int}{cv:Value}(h:VR E (.tup [.ilst 5 (map LUnit.av ([] :List LUnit)) true,.int .i64 e]) cv) :VR E (.tup [.ilst 5 (map LUnit.av ([] :List LUnit)) false,.int .i64 e]) cv:=by
 simp only [VR]at h ⊢;obtain⟨us,h1,h2⟩ :=h;obtain⟨u,us',rfl,h3,h4⟩ :=h2.cons_inv;exact⟨_,h1,VRs.cons (lX h3) h4⟩
theorem rW {p:Prog}{l:List Str}(h:uY p l=true) :l.length=p.funs.length∧oM l=true∧dH nC l 0=p.main:=by
 unfold uY at h;simp only [Bool.and_eq_true,decide_eq_true_eq]at h;exact⟨h.1.1,h.1.2,h.2⟩
theorem aJL (p:Prog)(l:List Str)(hs:aH p=true)(hl:l.length≤1000) :Pure PP 52 [Prog.av p,.ilst 1 (map avS l) false] (.tup [.ilst 5 (map LUnit.av (jO p l).1) false,.int .i64 (jO p l).2]) :=by
 have err:∀e:Int,Ends PP 0 (aMO p l).as (.ret (.tup [.ilst 5 (map LUnit.av ([] :List LUnit)) true,.int .i64 e])) (aE [] 0) →Pure PP 52 [Prog.av p,.ilst 1 (map avS l) false] (.tup [.ilst 5 (map LUnit.av ([] :List LUnit)) false,.int .i64 e]) :=fun e h=>
  aA8 (fW (s:=aMO p l) (by kernel_rfl) (by kernel_rfl) (by simp [keylessL,keyless,Prog.av]) (by simp [keylessL,keyless]) h) (fun E cv hv=>aSr hv)
 have hF:=aGk p hs;have hN:=aJH p l (by omega);unfold jO;cases e1:aW p with
 |false=>rw [e1]at hF;rw [if_neg (by simp)];exact err 2 (aUR p l false hF rfl)
 | true=>
  rw [e1]at hF;cases e2:uY p l with
  |false=>rw [e2]at hN;rw [if_neg (by simp)];exact err 2 (aUS p l true false hF rfl hN rfl)
  | true=>
   rw [e2]at hN;rw [if_pos ⟨rfl,rfl⟩];have f:=Fs.of hs e1;have hh:=f.head;obtain⟨n1,_,_⟩ :=rW e2;have st:=aUT p l true true hF rfl hN rfl;by_cases h10:p.funs.length≤10
   · rw [if_pos h10];have:=aSq p l n1 (by omega) hs e1 h10 p.funs l 0 [] rfl rfl rfl;rw [nil_append]at this;exact fW (s:=aMO p l) (by kernel_rfl) (by kernel_rfl) (by simp [keylessL,keyless,Prog.av]) (by simp [keylessL,keyless]) (st.ends this)
   · rw [if_neg h10];obtain⟨b,hb⟩ :∃b,p.funs[0]?=some b:= ⟨_,getElem?_eq_getElem (by omega)⟩;have hbr:=f.fine.funs b (mem_of_getElem? hb);have hpl: (pre p p.nodes.length b).length≤1000000:=by
      obtain⟨f1,f2,e⟩ :=append_of_mem (mem_of_getElem? hb);have hl:=f.len;rw [e,map_append,map_cons,flatten_append,flatten_cons,length_append,length_append]at hl;have:=f.fine.small;omega
     have sp:=aBp f.fine (aDL hs e1) 0 p.nodes.length b [] hbr.1 hbr.2 (by omega) (by simp;omega);exact err 3 (st.ends (aUU p l 0 [] b (nmN p 0 p.nodes.length b []) (by simp;omega) (by omega) hb (mp (by kernel_rfl) (aFm p [] sp)) (by simp;omega)))
theorem xH {α:Type}{f:α→AV}{l:List α}{k:Nat}(h:l.length=k) : ((length (map f l) :Nat) :Int) = (k:Int) :=by rw [length_map,h]
def aMQ(a:Prog)(b:List Str):TS:=dO PP 51 [(Prog.av a),(iS b)] [] 0
def aLY(a:Prog)(b:List Str):TS:=⟨(tf 51 137 [(1,(iS b)),kp 2 0,kp 4 1,kp 5 2] [kc f51 30,kc f51 31] (defers:=[.fn 61 [(.ptr 2 0),(.func 137 [] [(.ptr 1 0)])]])),[],[oC 0 [(iN a.nodes),(iI a.funs),(nI a.main),(iC a.cons)],oC 1 [(.gl 3 5 0 ([] :List LUnit).length false)],oC 2 [(nI 0)],oL 3 5 (map LUnit.av ([] :List LUnit))],4⟩
def aDP(a:Prog)(c:List Str)(d:Int)(b:List LUnit):TS:=⟨(tf 51 137 [(1,(iS c)),kp 2 0,kp 4 1,kp 5 2,(44,(iI a.funs)),(45,(nI (a.funs.length:Int))),(46,(nI d))] [kc f51 1012,kl f51 1012,.inBlock 0,kc f51 127] (defers:=[.fn 61 [(.ptr 2 0),(.func 137 [] [(.ptr 1 0)])]])),[],[oC 0 [(iN a.nodes),(iI a.funs),(nI a.main),(iC a.cons)],oC 1 [(.gl 3 5 0 b.length false)],oC 2 [(nI 0)],oL 3 5 (map LUnit.av b)],4⟩
def jP(a:Prog)(g:List Str)(i j:Int)(b:Str)(k:List Con)(c d:List Int)(l:Int)(e:List Str)(m:Int)(f:List LUnit):TS:=⟨(tf 51 137 [(1,(iS g)),kp 2 0,kp 4 1,kp 5 2,(7,(nI i)),kp 9 3,kp 10 4,(44,(iI a.funs)),(45,(nI (a.funs.length:Int))),(46,(nI m)),(81,(.gl 5 1 0 c.length false)),(82,(nI j)),(83,(nI l))] [kc f51 8296948,kl f51 8296948,.inBlock 2,kc f51 1037119,.inBlock 1,kc f51 8103,kl f51 1012,.inBlock 0,kc f51 127] (defers:=[.fn 61 [(.ptr 2 0),(.func 137 [] [(.ptr 1 0)])]])),[],[oC 0 [(iN a.nodes),(iI a.funs),(nI a.main),(iC a.cons)],oC 1 [(.gl 6 5 0 f.length false)],oC 2 [(nI 0)],oC 3 [(iN a.nodes),(.gl 7 4 0 ([] :List ONode).length false),(.gl 8 1 0 d.length true),(.gl 9 1 0 ([] :List Int).length false)],oC 4 [(avS b),(iC k),(.slice 10 0 1 1 2 true),(.gl 11 1 0 e.length false),.nils],oL 5 1 (jI c),oL 6 5 (map LUnit.av f),oL 7 4 (map ONode.av ([] :List ONode)),oL 8 1 (jI d),oL 9 1 (jI ([] :List Int)),oC 10 [(avS b),(nI 0)],oL 11 1 (map avS e)],12⟩
def aDQ(a:Prog)(g:List Str)(i:Int)(b:Str)(j:List Con)(c:List Int)(d:List Str)(k:Int)(e:List Int)(l:Int)(f:List LUnit):TS:=⟨(tf 51 137 [(1,(iS g)),kp 2 0,kp 4 1,kp 5 2,(7,(nI i)),kp 9 3,kp 10 4,(44,(iI a.funs)),(45,(nI (a.funs.length:Int))),(46,(nI l)),(108,(nI (a.cons.length:Int))),(109,(nI k))] [kc f51 16593908,kl f51 16593908,.inBlock 4,kc f51 2074239,.inBlock 1,kc f51 8103,kl f51 1012,.inBlock 0,kc f51 127] (defers:=[.fn 61 [(.ptr 2 0),(.func 137 [] [(.ptr 1 0)])]])),[],[oC 0 [(iN a.nodes),(iI a.funs),(nI a.main),(iC a.cons)],oC 1 [(.gl 5 5 0 f.length false)],oC 2 [(nI 0)],oC 3 [(iN a.nodes),(.gl 6 4 0 ([] :List ONode).length false),(.gl 7 1 0 c.length true),(.gl 8 1 0 e.length false)],oC 4 [(avS b),(iC j),(.slice 9 0 1 1 2 true),(.gl 10 1 0 d.length false),.nils],oL 5 5 (map LUnit.av f),oL 6 4 (map ONode.av ([] :List ONode)),oL 7 1 (jI c),oL 8 1 (jI e),oC 9 [(avS b),(nI 0)],oL 10 1 (map avS d)],11⟩
def aLZ(a:Prog)(e:List Str)(f:Int)(g:List Int)(b:Str)(i:List Con)(c:List Str)(j:List Int)(k:Int)(d:List LUnit):TS:=⟨(tf 51 137 [(1,(iS e)),kp 2 0,kp 4 1,kp 5 2,(7,(nI f)),kp 9 3,kp 10 4,(44,(iI a.funs)),(45,(nI (a.funs.length:Int))),(46,(nI k))] [kc f51 4148478,kc f51 4148479,.inBlock 1,kc f51 8103,kl f51 1012,.inBlock 0,kc f51 127] (defers:=[.fn 61 [(.ptr 2 0),(.func 137 [] [(.ptr 1 0)])]])),[],[oC 0 [(iN a.nodes),(iI a.funs),(nI a.main),(iC a.cons)],oC 1 [(.gl 5 5 0 d.length false)],oC 2 [(nI 0)],oC 3 [(iN a.nodes),(.gl 6 4 0 ([] :List ONode).length false),(iI g),(iI j)],oC 4 [(avS b),(iC i),(.slice 7 0 1 1 2 true),(.gl 8 1 0 c.length false),.nils],oL 5 5 (map LUnit.av d),oL 6 4 (map ONode.av ([] :List ONode)),oC 7 [(avS b),(nI 0)],oL 8 1 (map avS c)],9⟩
def aHk(a:Prog)(b:List Str):=tT 0 (aMQ a b)<|gpI 14 138 [(Prog.av a)]<|fun c=>.b 2 18 (c != 0) (gE 67 4 (.tup [.nils,(nI 2)]))<|gl 1 avS b<|gl 2 bC a.funs<|.b 3 26 ((b.length:Int) != (a.funs.length:Int)) (gE 59 4 (.tup [.nils,(nI 2)]))<|fZ 1 139 [(iS b)]<|fun d=>.b 7 4 (!d) (gE 50 4 (.tup [.nils,(nI 2)]))<|.i [rn 6,.cnil 1 0 5] []<|gu 0 3 (map LUnit.av ([] :List LUnit))<|gv 0 1 0 (.gl 3 5 0 ([] :List LUnit).length false)<|.W 0 4 [0,1,2,3] (aLY a b)
def aU1:=fun a b c d e=>aHk a b c d|>.t e tv
def aU2:=fun a b c d e f=>aHk a b c d|>.f e|>.t f tv
def aU3:=fun a b c d e f g i j=>aHk a b c e|>.f f|>.f g d i|>.t j tv
def aU4:=fun a b c d e f g i j=>aHk a b c e|>.f f|>.f g d i|>.f j ⟨kk,trivial⟩
def aSs(a:Prog)(b:List Str):=tT 0 (aLY a b)<|.y fun c:Int=>.i [.reg (.d::.pure (nI c)::rd 3 [.pure (.tup [])])] [hA (Pure PP 140 [(iS b),(.func 141 [] []),(.str 4 1852399981)] (nI c)),hA (Pure PP 67 [(bV (c != a.main)),(nI 2)] (.tup [])),hr (nI a.main),hr (nI a.main)]<|gl 4 bC a.funs<|gd 6 4 ((a.funs.length:Int) >10) (gE 50 5 (.tup [.nils,(nI 3)]))<|gl 10 bC a.funs<|.W 4 4 [0,1,2,3] (aDP a b 0 ([] :List LUnit))
def aU5:=fun a b c d e f=>aSs a b c d e|>.t f tv
def aU6:=fun a b c d e f=>aSs a b c d e|>.f f ⟨kk,trivial⟩
def nG(b:Prog)(e:List Str)(c:Int)(g:List LUnit):=tT 0 (aDP b e c g)<|gd 5 47 (c< (b.funs.length:Int)) (gX bC 7 b.funs c<|fun i=>.y fun f:List Int=>gk 9 (.enter 142 [(Prog.av b),(nI i),(nI c),.nils]) [oC 0 [(iN b.nodes),(iI b.funs),(nI b.main),(iC b.cons)],oC 1 [(.gl 3 5 0 g.length false)],oC 2 [(nI 0)],oL 3 5 (map LUnit.av g)] 4 (.gl 4 1 0 f.length false) [oC 0 [(iN b.nodes),(iI b.funs),(nI b.main),(iC b.cons)],oC 1 [(.gl 3 5 0 g.length false)],oC 2 [(nI 0)],oL 3 5 (map LUnit.av g),oL 4 1 (jI f)] 5<|gd 12 4 ((f.length:Int) >20) (gE 50 6 (.tup [.nils,(nI 3)]))<|.o (.y fun a:Str=>.y fun d:List Con=>.i [rn 6,.reg (rd 4 (.ans (.len 10)::rd 4 [])),rn 1,.reg (.d::.d::.ans (.idx (avS a))::rd 3 (.pure (iC d)::.d::.d::.ans (.idx (avS a))::rd 6 []))] [.a (length b.funs=10) (p':=((jI b.funs).length:Int) =10) xH,hr (ilst 4 (jN b.nodes) false),hr (ilst 4 (jN b.nodes) false),hA (0≤c),.a (((e)[c.toNat]?) =some a) (aK (f:=avS)),hA (Pure PP 143 [(iC b.cons)] (iC d)),hA (0≤c),.a (((e)[c.toNat]?) =some a) (aK (f:=avS)),hr (avS a),hr (avS a),hr (avS a),hr (avS a)]<|.i [rn 9,.cnil 6 1 4] []<|gu 0 9 (map ONode.av ([] :List ONode))<|gv 0 6 1 (.gl 9 4 0 ([] :List ONode).length false)<|.i [.ctoL 6 2 false [(nI 0),(nI 0),(nI 0),(nI 0),(nI 0),(nI 0),(nI 0),(nI 0),(nI 0),(nI 0)]] [hr (some [(nI 0),(nI 0),(nI 0),(nI 0),(nI 0),(nI 0),(nI 0),(nI 0),(nI 0),(nI 0)]),hr true]<|gu 0 5 (jI [0,0,0,0,0,0,0,0,0,0])<|gv 0 6 2 (.gl 5 1 0 [0,0,0,0,0,0,0,0,0,0].length true)<|.i [.cnil 6 3 1] []<|gu 0 10 (jI ([] :List Int))<|gv 0 6 3 (.gl 10 1 0 ([] :List Int).length false)<|.i [.cnil 8 3 1] []<|gu 0 11 (map avS ([] :List Str))<|gv 0 8 3 (.gl 11 1 0 ([] :List Str).length false)<|.W 0 12 [0,1,2,6,8,4,3,9,5,10,7,11] (jP b e i (f.length:Int) a d f [0,0,0,0,0,0,0,0,0,0] 0 ([] :List Str) c g))<|.o (.y fun a:Str=>.y fun d:List Con=>.i [rn 6,.reg (rd 4 (.ans (.len 9)::rd 4 [])),rn 1,.reg (.d::.d::.ans (.idx (avS a))::rd 3 (.pure (iC d)::.d::.d::.ans (.idx (avS a))::rd 6 []))] [.a (length b.funs=9) (p':=((jI b.funs).length:Int) =9) xH,hr (ilst 4 (jN b.nodes) false),hr (ilst 4 (jN b.nodes) false),hA (0≤c),.a (((e)[c.toNat]?) =some a) (aK (f:=avS)),hA (Pure PP 143 [(iC b.cons)] (iC d)),hA (0≤c),.a (((e)[c.toNat]?) =some a) (aK (f:=avS)),hr (avS a),hr (avS a),hr (avS a),hr (avS a)]<|.i [rn 9,.cnil 6 1 4] []<|gu 0 9 (map ONode.av ([] :List ONode))<|gv 0 6 1 (.gl 9 4 0 ([] :List ONode).length false)<|.i [.ctoL 6 2 false [(nI 0),(nI 0),(nI 0),(nI 0),(nI 0),(nI 0),(nI 0),(nI 0),(nI 0)]] [hr (some [(nI 0),(nI 0),(nI 0),(nI 0),(nI 0),(nI 0),(nI 0),(nI 0),(nI 0)]),hr true]<|gu 0 5 (jI [0,0,0,0,0,0,0,0,0])<|gv 0 6 2 (.gl 5 1 0 [0,0,0,0,0,0,0,0,0].length true)<|.i [.cnil 6 3 1] []<|gu 0 10 (jI ([] :List Int))<|gv 0 6 3 (.gl 10 1 0 ([] :List Int).length false)<|.i [.cnil 8 3 1] []<|gu 0 11 (map avS ([] :List Str))<|gv 0 8 3 (.gl 11 1 0 ([] :List Str).length false)<|.W 0 12 [0,1,2,6,8,4,3,9,5,10,7,11] (jP b e i (f.length:Int) a d f [0,0,0,0,0,0,0,0,0] 0 ([] :List Str) c g))<|.o (.y fun a:Str=>.y fun d:List Con=>.i [rn 6,.reg (rd 4 (.ans (.len 8)::rd 4 [])),rn 1,.reg (.d::.d::.ans (.idx (avS a))::rd 3 (.pure (iC d)::.d::.d::.ans (.idx (avS a))::rd 6 []))] [.a (length b.funs=8) (p':=((jI b.funs).length:Int) =8) xH,hr (ilst 4 (jN b.nodes) false),hr (ilst 4 (jN b.nodes) false),hA (0≤c),.a (((e)[c.toNat]?) =some a) (aK (f:=avS)),hA (Pure PP 143 [(iC b.cons)] (iC d)),hA (0≤c),.a (((e)[c.toNat]?) =some a) (aK (f:=avS)),hr (avS a),hr (avS a),hr (avS a),hr (avS a)]<|.i [rn 9,.cnil 6 1 4] []<|gu 0 9 (map ONode.av ([] :List ONode))<|gv 0 6 1 (.gl 9 4 0 ([] :List ONode).length false)<|.i [.ctoL 6 2 false [(nI 0),(nI 0),(nI 0),(nI 0),(nI 0),(nI 0),(nI 0),(nI 0)]] [hr (some [(nI 0),(nI 0),(nI 0),(nI 0),(nI 0),(nI 0),(nI 0),(nI 0)]),hr true]<|gu 0 5 (jI [0,0,0,0,0,0,0,0])<|gv 0 6 2 (.gl 5 1 0 [0,0,0,0,0,0,0,0].length true)<|.i [.cnil 6 3 1] []<|gu 0 10 (jI ([] :List Int))<|gv 0 6 3 (.gl 10 1 0 ([] :List Int).length false)<|.i [.cnil 8 3 1] []<|gu 0 11 (map avS ([] :List Str))<|gv 0 8 3 (.gl 11 1 0 ([] :List Str).length false)<|.W 0 12 [0,1,2,6,8,4,3,9,5,10,7,11] (jP b e i (f.length:Int) a d f [0,0,0,0,0,0,0,0] 0 ([] :List Str) c g))<|.o (.y fun a:Str=>.y fun d:List Con=>.i [rn 6,.reg (rd 4 (.ans (.len 7)::rd 4 [])),rn 1,.reg (.d::.d::.ans (.idx (avS a))::rd 3 (.pure (iC d)::.d::.d::.ans (.idx (avS a))::rd 6 []))] [.a (length b.funs=7) (p':=((jI b.funs).length:Int) =7) xH,hr (ilst 4 (jN b.nodes) false),hr (ilst 4 (jN b.nodes) false),hA (0≤c),.a (((e)[c.toNat]?) =some a) (aK (f:=avS)),hA (Pure PP 143 [(iC b.cons)] (iC d)),hA (0≤c),.a (((e)[c.toNat]?) =some a) (aK (f:=avS)),hr (avS a),hr (avS a),hr (avS a),hr (avS a)]<|.i [rn 9,.cnil 6 1 4] []<|gu 0 9 (map ONode.av ([] :List ONode))<|gv 0 6 1 (.gl 9 4 0 ([] :List ONode).length false)<|.i [.ctoL 6 2 false [(nI 0),(nI 0),(nI 0),(nI 0),(nI 0),(nI 0),(nI 0)]] [hr (some [(nI 0),(nI 0),(nI 0),(nI 0),(nI 0),(nI 0),(nI 0)]),hr true]<|gu 0 5 (jI [0,0,0,0,0,0,0])<|gv 0 6 2 (.gl 5 1 0 [0,0,0,0,0,0,0].length true)<|.i [.cnil 6 3 1] []<|gu 0 10 (jI ([] :List Int))<|gv 0 6 3 (.gl 10 1 0 ([] :List Int).length false)<|.i [.cnil 8 3 1] []<|gu 0 11 (map avS ([] :List Str))<|gv 0 8 3 (.gl 11 1 0 ([] :List Str).length false)<|.W 0 12 [0,1,2,6,8,4,3,9,5,10,7,11] (jP b e i (f.length:Int) a d f [0,0,0,0,0,0,0] 0 ([] :List Str) c g))<|.o (.y fun a:Str=>.y fun d:List Con=>.i [rn 6,.reg (rd 4 (.ans (.len 6)::rd 4 [])),rn 1,.reg (.d::.d::.ans (.idx (avS a))::rd 3 (.pure (iC d)::.d::.d::.ans (.idx (avS a))::rd 6 []))] [.a (length b.funs=6) (p':=((jI b.funs).length:Int) =6) xH,hr (ilst 4 (jN b.nodes) false),hr (ilst 4 (jN b.nodes) false),hA (0≤c),.a (((e)[c.toNat]?) =some a) (aK (f:=avS)),hA (Pure PP 143 [(iC b.cons)] (iC d)),hA (0≤c),.a (((e)[c.toNat]?) =some a) (aK (f:=avS)),hr (avS a),hr (avS a),hr (avS a),hr (avS a)]<|.i [rn 9,.cnil 6 1 4] []<|gu 0 9 (map ONode.av ([] :List ONode))<|gv 0 6 1 (.gl 9 4 0 ([] :List ONode).length false)<|.i [.ctoL 6 2 false [(nI 0),(nI 0),(nI 0),(nI 0),(nI 0),(nI 0)]] [hr (some [(nI 0),(nI 0),(nI 0),(nI 0),(nI 0),(nI 0)]),hr true]<|gu 0 5 (jI [0,0,0,0,0,0])<|gv 0 6 2 (.gl 5 1 0 [0,0,0,0,0,0].length true)<|.i [.cnil 6 3 1] []<|gu 0 10 (jI ([] :List Int))<|gv 0 6 3 (.gl 10 1 0 ([] :List Int).length false)<|.i [.cnil 8 3 1] []<|gu 0 11 (map avS ([] :List Str))<|gv 0 8 3 (.gl 11 1 0 ([] :List Str).length false)<|.W 0 12 [0,1,2,6,8,4,3,9,5,10,7,11] (jP b e i (f.length:Int) a d f [0,0,0,0,0,0] 0 ([] :List Str) c g))<|.o (.y fun a:Str=>.y fun d:List Con=>.i [rn 6,.reg (rd 4 (.ans (.len 5)::rd 4 [])),rn 1,.reg (.d::.d::.ans (.idx (avS a))::rd 3 (.pure (iC d)::.d::.d::.ans (.idx (avS a))::rd 6 []))] [.a (length b.funs=5) (p':=((jI b.funs).length:Int) =5) xH,hr (ilst 4 (jN b.nodes) false),hr (ilst 4 (jN b.nodes) false),hA (0≤c),.a (((e)[c.toNat]?) =some a) (aK (f:=avS)),hA (Pure PP 143 [(iC b.cons)] (iC d)),hA (0≤c),.a (((e)[c.toNat]?) =some a) (aK (f:=avS)),hr (avS a),hr (avS a),hr (avS a),hr (avS a)]<|.i [rn 9,.cnil 6 1 4] []<|gu 0 9 (map ONode.av ([] :List ONode))<|gv 0 6 1 (.gl 9 4 0 ([] :List ONode).length false)<|.i [.ctoL 6 2 false [(nI 0),(nI 0),(nI 0),(nI 0),(nI 0)]] [hr (some [(nI 0),(nI 0),(nI 0),(nI 0),(nI 0)]),hr true]<|gu 0 5 (jI [0,0,0,0,0])<|gv 0 6 2 (.gl 5 1 0 [0,0,0,0,0].length true)<|.i [.cnil 6 3 1] []<|gu 0 10 (jI ([] :List Int))<|gv 0 6 3 (.gl 10 1 0 ([] :List Int).length false)<|.i [.cnil 8 3 1] []<|gu 0 11 (map avS ([] :List Str))<|gv 0 8 3 (.gl 11 1 0 ([] :List Str).length false)<|.W 0 12 [0,1,2,6,8,4,3,9,5,10,7,11] (jP b e i (f.length:Int) a d f [0,0,0,0,0] 0 ([] :List Str) c g))<|.o (.y fun a:Str=>.y fun d:List Con=>.i [rn 6,.reg (rd 4 (.ans (.len 4)::rd 4 [])),rn 1,.reg (.d::.d::.ans (.idx (avS a))::rd 3 (.pure (iC d)::.d::.d::.ans (.idx (avS a))::rd 6 []))] [.a (length b.funs=4) (p':=((jI b.funs).length:Int) =4) xH,hr (ilst 4 (jN b.nodes) false),hr (ilst 4 (jN b.nodes) false),hA (0≤c),.a (((e)[c.toNat]?) =some a) (aK (f:=avS)),hA (Pure PP 143 [(iC b.cons)] (iC d)),hA (0≤c),.a (((e)[c.toNat]?) =some a) (aK (f:=avS)),hr (avS a),hr (avS a),hr (avS a),hr (avS a)]<|.i [rn 9,.cnil 6 1 4] []<|gu 0 9 (map ONode.av ([] :List ONode))<|gv 0 6 1 (.gl 9 4 0 ([] :List ONode).length false)<|.i [.ctoL 6 2 false [(nI 0),(nI 0),(nI 0),(nI 0)]] [hr (some [(nI 0),(nI 0),(nI 0),(nI 0)]),hr true]<|gu 0 5 (jI [0,0,0,0])<|gv 0 6 2 (.gl 5 1 0 [0,0,0,0].length true)<|.i [.cnil 6 3 1] []<|gu 0 10 (jI ([] :List Int))<|gv 0 6 3 (.gl 10 1 0 ([] :List Int).length false)<|.i [.cnil 8 3 1] []<|gu 0 11 (map avS ([] :List Str))<|gv 0 8 3 (.gl 11 1 0 ([] :List Str).length false)<|.W 0 12 [0,1,2,6,8,4,3,9,5,10,7,11] (jP b e i (f.length:Int) a d f [0,0,0,0] 0 ([] :List Str) c g))<|.o (.y fun a:Str=>.y fun d:List Con=>.i [rn 6,.reg (rd 4 (.ans (.len 3)::rd 4 [])),rn 1,.reg (.d::.d::.ans (.idx (avS a))::rd 3 (.pure (iC d)::.d::.d::.ans (.idx (avS a))::rd 6 []))] [.a (length b.funs=3) (p':=((jI b.funs).length:Int) =3) xH,hr (ilst 4 (jN b.nodes) false),hr (ilst 4 (jN b.nodes) false),hA (0≤c),.a (((e)[c.toNat]?) =some a) (aK (f:=avS)),hA (Pure PP 143 [(iC b.cons)] (iC d)),hA (0≤c),.a (((e)[c.toNat]?) =some a) (aK (f:=avS)),hr (avS a),hr (avS a),hr (avS a),hr (avS a)]<|.i [rn 9,.cnil 6 1 4] []<|gu 0 9 (map ONode.av ([] :List ONode))<|gv 0 6 1 (.gl 9 4 0 ([] :List ONode).length false)<|.i [.ctoL 6 2 false [(nI 0),(nI 0),(nI 0)]] [hr (some [(nI 0),(nI 0),(nI 0)]),hr true]<|gu 0 5 (jI [0,0,0])<|gv 0 6 2 (.gl 5 1 0 [0,0,0].length true)<|.i [.cnil 6 3 1] []<|gu 0 10 (jI ([] :List Int))<|gv 0 6 3 (.gl 10 1 0 ([] :List Int).length false)<|.i [.cnil 8 3 1] []<|gu 0 11 (map avS ([] :List Str))<|gv 0 8 3 (.gl 11 1 0 ([] :List Str).length false)<|.W 0 12 [0,1,2,6,8,4,3,9,5,10,7,11] (jP b e i (f.length:Int) a d f [0,0,0] 0 ([] :List Str) c g))<|.o (.y fun a:Str=>.y fun d:List Con=>.i [rn 6,.reg (rd 4 (.ans (.len 2)::rd 4 [])),rn 1,.reg (.d::.d::.ans (.idx (avS a))::rd 3 (.pure (iC d)::.d::.d::.ans (.idx (avS a))::rd 6 []))] [.a (length b.funs=2) (p':=((jI b.funs).length:Int) =2) xH,hr (ilst 4 (jN b.nodes) false),hr (ilst 4 (jN b.nodes) false),hA (0≤c),.a (((e)[c.toNat]?) =some a) (aK (f:=avS)),hA (Pure PP 143 [(iC b.cons)] (iC d)),hA (0≤c),.a (((e)[c.toNat]?) =some a) (aK (f:=avS)),hr (avS a),hr (avS a),hr (avS a),hr (avS a)]<|.i [rn 9,.cnil 6 1 4] []<|gu 0 9 (map ONode.av ([] :List ONode))<|gv 0 6 1 (.gl 9 4 0 ([] :List ONode).length false)<|.i [.ctoL 6 2 false [(nI 0),(nI 0)]] [hr (some [(nI 0),(nI 0)]),hr true]<|gu 0 5 (jI [0,0])<|gv 0 6 2 (.gl 5 1 0 [0,0].length true)<|.i [.cnil 6 3 1] []<|gu 0 10 (jI ([] :List Int))<|gv 0 6 3 (.gl 10 1 0 ([] :List Int).length false)<|.i [.cnil 8 3 1] []<|gu 0 11 (map avS ([] :List Str))<|gv 0 8 3 (.gl 11 1 0 ([] :List Str).length false)<|.W 0 12 [0,1,2,6,8,4,3,9,5,10,7,11] (jP b e i (f.length:Int) a d f [0,0] 0 ([] :List Str) c g))<|.y fun a:Str=>.y fun d:List Con=>.i [rn 6,.reg (rd 4 (.ans (.len 1)::rd 4 [])),rn 1,.reg (.d::.d::.ans (.idx (avS a))::rd 3 (.pure (iC d)::.d::.d::.ans (.idx (avS a))::rd 6 []))] [.a (length b.funs=1) (p':=((jI b.funs).length:Int) =1) xH,hr (ilst 4 (jN b.nodes) false),hr (ilst 4 (jN b.nodes) false),hA (0≤c),.a (((e)[c.toNat]?) =some a) (aK (f:=avS)),hA (Pure PP 143 [(iC b.cons)] (iC d)),hA (0≤c),.a (((e)[c.toNat]?) =some a) (aK (f:=avS)),hr (avS a),hr (avS a),hr (avS a),hr (avS a)]<|.i [rn 9,.cnil 6 1 4] []<|gu 0 9 (map ONode.av ([] :List ONode))<|gv 0 6 1 (.gl 9 4 0 ([] :List ONode).length false)<|.i [.ctoL 6 2 false [(nI 0)]] [hr (some [(nI 0)]),hr true]<|gu 0 5 (jI [0])<|gv 0 6 2 (.gl 5 1 0 [0].length true)<|.i [.cnil 6 3 1] []<|gu 0 10 (jI ([] :List Int))<|gv 0 6 3 (.gl 10 1 0 ([] :List Int).length false)<|.i [.cnil 8 3 1] []<|gu 0 11 (map avS ([] :List Str))<|gv 0 8 3 (.gl 11 1 0 ([] :List Str).length false)<|.W 0 12 [0,1,2,6,8,4,3,9,5,10,7,11] (jP b e i (f.length:Int) a d f [0] 0 ([] :List Str) c g))<|gy 3 1 0 3 5 LUnit.av g false<|gE 23 4 (.tup [(.ilst 5 (map LUnit.av g) false),(nI 0)])
def aU7:=fun c d e f g i j k l a m n o p b q=>nG c d e f|>.t l g a m i n|>.f o|>.1 j k p a b q a b ⟨kk,⟨kk,⟨(aC _ (fun _=>aM _) _),⟨kk,⟨kk,⟨kk,trivial⟩⟩⟩⟩⟩⟩
def aU8:=fun c d e f g i j k l a m n o p b q=>nG c d e f|>.t l g a m i n|>.f o|>.2|>.1 j k p a b q a b ⟨kk,⟨kk,⟨(aC _ (fun _=>aM _) _),⟨kk,⟨kk,⟨kk,trivial⟩⟩⟩⟩⟩⟩
def aU9:=fun c d e f g i j k l a m n o p b q=>nG c d e f|>.t l g a m i n|>.f o|>.2|>.2|>.1 j k p a b q a b ⟨kk,⟨kk,⟨(aC _ (fun _=>aM _) _),⟨kk,⟨kk,⟨kk,trivial⟩⟩⟩⟩⟩⟩
def aVa:=fun c d e f g i j k l a m n o p b q=>nG c d e f|>.t l g a m i n|>.f o|>.2|>.2|>.2|>.1 j k p a b q a b ⟨kk,⟨kk,⟨(aC _ (fun _=>aM _) _),⟨kk,⟨kk,⟨kk,trivial⟩⟩⟩⟩⟩⟩
def aVb:=fun c d e f g i j k l a m n o p b q=>nG c d e f|>.t l g a m i n|>.f o|>.2|>.2|>.2|>.2|>.1 j k p a b q a b ⟨kk,⟨kk,⟨(aC _ (fun _=>aM _) _),⟨kk,⟨kk,⟨kk,trivial⟩⟩⟩⟩⟩⟩
def aVc:=fun c d e f g i j k l a m n o p b q=>nG c d e f|>.t l g a m i n|>.f o|>.2|>.2|>.2|>.2|>.2|>.1 j k p a b q a b ⟨kk,⟨kk,⟨(aC _ (fun _=>aM _) _),⟨kk,⟨kk,⟨kk,trivial⟩⟩⟩⟩⟩⟩
def aVd:=fun c d e f g i j k l a m n o p b q=>nG c d e f|>.t l g a m i n|>.f o|>.2|>.2|>.2|>.2|>.2|>.2|>.1 j k p a b q a b ⟨kk,⟨kk,⟨(aC _ (fun _=>aM _) _),⟨kk,⟨kk,⟨kk,trivial⟩⟩⟩⟩⟩⟩
def aVe:=fun c d e f g i j k l a m n o p b q=>nG c d e f|>.t l g a m i n|>.f o|>.2|>.2|>.2|>.2|>.2|>.2|>.2|>.1 j k p a b q a b ⟨kk,⟨kk,⟨(aC _ (fun _=>aM _) _),⟨kk,⟨kk,⟨kk,trivial⟩⟩⟩⟩⟩⟩
def aVf:=fun c d e f g i j k l a m n o p b q=>nG c d e f|>.t l g a m i n|>.f o|>.2|>.2|>.2|>.2|>.2|>.2|>.2|>.2|>.1 j k p a b q a b ⟨kk,⟨kk,⟨(aC _ (fun _=>aM _) _),⟨kk,⟨kk,⟨kk,trivial⟩⟩⟩⟩⟩⟩
def aSt:=fun c d e f g i j k l a m n o p b q=>nG c d e f|>.t l g a m i n|>.f o|>.2|>.2|>.2|>.2|>.2|>.2|>.2|>.2|>.2 j k p a b q a b ⟨kk,⟨kk,⟨(aC _ (fun _=>aM _) _),⟨kk,⟨kk,⟨kk,trivial⟩⟩⟩⟩⟩⟩
def aSu:=fun a b c d e=>nG a b c d|>.f e tv
def aSv(f:Prog)(g:List Str)(j k:Int)(l:Str)(m:List Con)(i b:List Int)(a:Int)(d:List Str)(n:Int)(o:List LUnit):=tT 0 (jP f g j k l m i b a d n o)<|gd 5 84 (a<k) (.i [rn 7,.ans (.ix)] [hA (0≤a),hA (a< (i.length:Int))]<|.y fun c:Int=>gj bC 0 i a.toNat c<|gw 12 94 (1+a)<|.i [.ans (.ix)] [hA (0≤c),hA (c< (b.length:Int))]<|.y fun p:Int=>.i [.st (bC p) (bC (1+a))] [.a (((b)[c.toNat]?) =some p) (fS (f:=bC)),hr (some (bC (1+a)))]<|.i [.lset 8 (jI (set b c.toNat (1+a)))] [.q (p:=(jI b).set (0+c.toNat) (bC (1+a)) = (jI (set b c.toNat (1+a)))) (kY _ _ _ _)]<|.i [.set 91 (.gl 8 1 0 (set b c.toNat (1+a)).length true)] [.q (p:=(AV.gl 8 1 0 b.length true) = (.gl 8 1 0 (set b c.toNat (1+a)).length true)) (bT (length_set ..).symm)]<|.i [.cset 3 2 (.gl 8 1 0 (set b c.toNat (1+a)).length true)] [.q (p:=(AV.gl 8 1 0 b.length true) = (.gl 8 1 0 (set b c.toNat (1+a)).length true)) (bT (length_set ..).symm)]<|.y fun e:Str=>.i [rn 1,.reg (rd 4 [.ans (.idx (avS e)),.d,.d,.app (map avS (d++ [e])) (d++ [e]).length,.d,.d])] [hA (0≤c),.a (((g)[c.toNat]?) =some e) (aK (f:=avS)),hb avS d,hA (length (d++ [e]) ≤1000000),hc avS d [e],he avS d [e]]<|gw 3 105 (a+1)<|.W 3 14 [0,1,2,3,4,5,6,7,8,9,10,13] (jP f g j k l m i (set b c.toNat (1+a)) (a+1) (d++ [e]) n o))<|gl 7 Con.av f.cons<|.W 4 12 [0,1,2,3,4,6,7,8,9,10,11] (aDQ f g j l m b d 0 ([] :List Int) n o)
def aVg:=fun b c d e f g i j k l m n o p q r s t u v a w x y z A=>aSv b c d e f g i j k l m n|>.t r s t o u v a w p x q a y z A ⟨kk,⟨kk,⟨(aC _ (fun _=>aM _) _),⟨kk,⟨kk,⟨kk,trivial⟩⟩⟩⟩⟩⟩
def aVh:=fun a b c d e f g i j k l m n=>aSv a b c d e f g i j k l m|>.f n ⟨kk,⟨(aC _ (fun _=>aM _) _),⟨kk,⟨kk,⟨kk,trivial⟩⟩⟩⟩⟩
def aSw(c:Prog)(e:List Str)(f:Int)(g:Str)(i:List Con)(d:List Int)(j:List Str)(a:Int)(b:List Int)(k:Int)(l:List LUnit):=tT 0 (aDQ c e f g i d j a b k l)<|gd 5 110 (a< (c.cons.length:Int)) (ga 17 bC b [a]<|gw 7 122 (a+1)<|.W 3 13 [0,1,2,3,4,5,6,7,12,9,10] (aDQ c e f g i d j (a+1) (b++ [a]) k l))<|.i [rn 2,.cweak 3 2] []<|gy 0 3 2 7 1 bC d false<|gy 0 3 3 8 1 bC b false<|.W 1 11 [0,1,2,3,4,5,6,9,10] (aLZ c e f d g i j b k l)
def aVi:=fun a b c d e f g i j k l m n o=>aSw a b c d e f g i j k l|>.t m n o ⟨kk,⟨(aC _ (fun _=>aM _) _),⟨kk,⟨kk,⟨kk,trivial⟩⟩⟩⟩⟩
def aVj:=fun a b c d e f g i j k l m=>aSw a b c d e f g i j k l|>.f m ⟨kk,⟨(aC _ (fun _=>aM _) _),⟨kk,trivial⟩⟩⟩
def aVk (b:Prog)(l:List Str)(m:Int)(i:List Int)(a:Str)(g:List Con)(d:List Str)(j:List Int)(k:Int)(f:List LUnit):=fun e c n o p q r=>(tT 0 (aLZ b l m i a g d j k f)<|.y fun e:List Node=>gk 3 (.enter 144 [(.ptr 3 0),(nI m)]) [oC 0 [(iN b.nodes),(iI b.funs),(nI b.main),(iC b.cons)],oC 1 [(.gl 5 5 0 f.length false)],oC 2 [(nI 0)],oC 3 [(iN b.nodes),(.gl 6 4 0 ([] :List ONode).length false),(iI i),(iI j)],oC 4 [(avS a),(iC g),(.slice 7 0 1 1 2 true),(.gl 8 1 0 d.length false),.nils],oL 5 5 (map LUnit.av f),oL 6 4 (map ONode.av ([] :List ONode)),oC 7 [(avS a),(nI 0)],oL 8 1 (map avS d)] 9 (nI (([] :List ONode).length:Int)) [oC 0 [(iN b.nodes),(iI b.funs),(nI b.main),(iC b.cons)],oC 1 [(.gl 5 5 0 f.length false)],oC 2 [(nI 0)],oC 3 [(iN b.nodes),(.gl 9 4 0 (([] :List ONode) ++map Node.o e).length false),(iI i),(iI j)],oC 4 [(avS a),(iC g),(.slice 7 0 1 1 2 true),(.gl 8 1 0 d.length false),.nils],oL 5 5 (map LUnit.av f),oC 7 [(avS a),(nI 0)],oL 8 1 (map avS d),oL 9 4 (map ONode.av (([] :List ONode) ++map Node.o e))] 10<|.i [rn 10,.ctoL 4 2 true [(avS a),(nI 0)]] [hr (some [(avS a),(nI 0)]),hr true]<|gu 0 7 (map LFun.av [(LFun.mk a 0)])<|gv 0 4 2 (.gl 7 2 0 [(LFun.mk a 0)].length true)<|.i [.cweak 4 2] []<|gy 0 4 2 7 2 LFun.av [(LFun.mk a 0)] false<|gy 0 4 3 8 1 avS d false<|.y fun c:List Node=>.i [.lset 9 (jN c)] [.a ((([] :List ONode) ++map Node.o e) =map Node.o c) (p':=(map ONode.av (([] :List ONode) ++map Node.o e)) = (jN c)) aDz]<|.i [.cset 4 4 (.gl 9 4 0 c.length false)] [.a (c.length= (([] :List ONode) ++map Node.o e).length) (p':=(AV.gl 9 4 0 (([] :List ONode) ++map Node.o e).length false) = (.gl 9 4 0 c.length false)) (fun h=>(bT h.symm))]<|gy 0 4 4 9 4 Node.av c false<|ga 4 LUnit.av f [(LUnit.mk a g [(LFun.mk a 0)] d c)]<|gw 5 135 (k+1)<|.W 3 12 [0,1,2,11] (aDP b l (k+1) (f++ [(LUnit.mk a g [(LFun.mk a 0)] d c)]))) e n c o p q r ⟨kk,trivial⟩
def aWf(a:List Str)(b:Str):TS:=dO PP 140 [(iS a),(.func 141 [] []),(avS b)] [] 0
def aHl(a:List Str)(b:Str)(c:Int):TS:=⟨(tf 204 19 [(0,(iS a)),(1,(.func 205 [] [(.ptr 0 0),(.ptr 1 0)])),(4,(nI 0)),(7,(nI (a.length:Int))),(8,(nI c))] [kc f204 52,kl f204 52,.inBlock 0,kc f204 7]),[(tf 140 10 [(6,(nI 0)),(7,(iS a)),(8,(.func 205 [] [(.ptr 0 0),(.ptr 1 0)]))] [ko f140 6 2,kc f140 7])],[oC 0 [(.func 141 [] [])],oC 1 [(avS b)]],2⟩
def aVl (a:List Str)(b:Str):=(tT 0 (aWf a b)<|gl 19 avS a<|.W 4 2 [0,1] (aHl a b 0)) tv
def aL0(c:List Str)(a:Str)(b:Int):=tT 0 (aHl c a b)<|gd 5 9 (b< (c.length:Int)) (gX avS 14 c b<|fun e=>.y fun d:Str=>.i [rn 7,.reg (.d::.d::.pure (avS d)::rd 3 [])] [hA (Pure PP 141 [(avS e)] (avS d)),hr (avS a),hr (avS a)]<|.b 3 16 (bE d.length (aA d) a.length (aA a)) (gE 11 2 (nI b))<|gw 5 18 (b+1)<|.W 3 2 [0,1] (aHl c a (b+1)))<|gE 11 2 (nI (-1))
def aVm:=fun a b c d e f g i j k=>aL0 a b c|>.t f d g i e j|>.t k tv
def aVn:=fun a b c d e f g i j k l=>aL0 a b c|>.t f d g i e j|>.f k l tv
def aVo:=fun a b c d=>aL0 a b c|>.f d tv
theorem aJM (l:List Str)(s:Str)(hl:l.length<1000000) :∀ (t:List Str) (i:Nat),l.drop i=t→Ends PP 0 (aHl l s (i:Int)).as (.ret (.int .i64 (dH s t i))) (aE [] 0)
 | [],i,h=>by
  have:=bK h;exact aVo l s i sd
 | c ::t,i,h=>by
  obtain⟨q1,q2,q3⟩ :=bJ h;rw [dH];by_cases e:c=s
  · rw [if_pos e];exact aVm l s i c c sd sd sd (uV c) (by rw [hI];simp [e])
  · rw [if_neg e];exact(aVn l s i c c sd sd sd (uV c) (by rw [hI];simp [e]) sd).ends (aJM l s hl t (i+1) q2)
theorem aSx (l:List Str)(s:Str)(hl:l.length<1000000) :Pure PP 140 [.ilst 1 (map avS l) false,.func 141 [] [],avS s] (.int .i64 (dH s l 0)) :=
 fW (s:=aWf l s) (by kernel_rfl) (by kernel_rfl) (by simp [keylessL,keyless,avS]) (by simp [keyless]) ((aVl l s).ends (aJM l s hl l 0 rfl))
abbrev aMR (e:Int) :List (AV×Bool) :=[((.iface 201 (.agg [(.int .i64 e)])),false)]
abbrev aJN (p:Prog) :List (Nat×AObj×Bool) :=[(0,PgC p,false),(1,.cells (putCells .leaf 0 [.gl 3 5 0 (length ([] :List LUnit)) false]) 1 [] false,false),(2,.cells (putCells .leaf 0 [.int .i64 0]) 1 [] false,false),(3,LUs [],true)]
def aWg (p:Prog) :TS:=
 {fr:={fn:=51,nt:=137,sl:=[(4,(.ptr 1 0)),(5,(.ptr 2 0))],todo:=[.junk,.code (cd Tryz.f51 [1,1,1,1])],defers:=[.fn 61 [(.ptr 2 0),(.func 137 [] [(.ptr 1 0)])]],mode:=.pan (aMR 2)},cs:=[],hp:=aJN p,nb:=4}
theorem aVp (p:Prog)(l:List Str)(z:Int)(h0:Pure PP 140 [.ilst 1 (map avS l) false,.func 141 [] [],.str 4 1852399981] (.int .i64 z))(h1:Spec PP (.enter 67 [.bool (z != p.main),.int .i64 2]) (aE (aJN p) 4) (.pan (aMR 2)) (aE (aJN p) 4)) :LeadsM PP 0 (aLY p l).as (aWg p).as:=
 aJv (e:=5) (is1:=[.d,.pure (.int .i64 z),.d,.d,.d]) (v:=.tup []) (h2:=aE (aJN p) 4) (is2:=[]) (os:=[]) (ch:=aMR 2) (h':=aE (aJN p) 4) (js:=[4,5])
  (ps:=[Pure PP 140 [.ilst 1 (map avS l) false,.func 141 [] [],.str 4 1852399981] (.int .i64 z),(int .i64 p.main) = (int .i64 p.main),(int .i64 p.main) = (int .i64 p.main),Spec PP (.enter 67 [.bool (z != p.main),.int .i64 2]) (aE (aJN p) 4) (.pan (aMR 2)) (aE (aJN p) 4)])
  (by kernel_rfl) ⟨h0,rfl,rfl,h1⟩
theorem aSy (p:Prog) :Ends PP 0 (aWg p).as (.ret (.tup [.nils,(.int .i64 2)])) (aE [] 0) :=
 aKm (n1:=5) (ks:=[]) (hp:=[]) (v:=.tup [.nils,(.int .i64 2)]) (ps:=[]) (is:=[.run 43]) (by kernel_rfl) (by kernel_rfl) trivial trivial
theorem aSz {p:Prog}{but a:Int}{r:List Int}(h:NMS 142 p but a [] r) :aCW PP (.enter 142 [PAv p,.int .i64 a,.int .i64 but,.nils]) (aE [] 0) (.ret (.gl 0 1 0 (length r) false)) (aE [(0,LIs r,true)] 1) :=by
 obtain⟨g,hg,he⟩ :=h;have e:cO PP (aE [(0,LIs [],true)] 1) (.enter 142 [PAv p,.int .i64 a,.int .i64 but,.gl 0 1 0 (length ([] :List Int)) false]) =some (aBm p a but []).as.fr:=by kernel_rfl
 rw [e]at hg;cases hg;have lead:LeadsM PP 0 (dO PP 142 [PAv p,.int .i64 a,.int .i64 but,.nils] [] 0).as (aBm p a but []).as:=
  aAX (n1:=1) (ks:=[0]) (ps:=[([] :List AV) =map bC ([] :List Int),(AV.gl 0 1 0 0 false) = .gl 0 1 0 (length ([] :List Int)) false]) (is:=[.nilL 3 1,.lset 0 (map bC ([] :List Int)),.set 3 (.gl 0 1 0 (length ([] :List Int)) false)]) (by kernel_rfl) (by kernel_rfl) ⟨uX [],trivial⟩ ⟨rfl,rfl⟩
 have he2:Ends PP 0 (aBm p a but []).as (.ret (.gl 0 1 0 (length r) false)) (aE [(0,LIs r,true)] 1) :=mp (by kernel_rfl) he;have he3:=lead.ends he2;exact⟨(dO PP 142 [PAv p,.int .i64 a,.int .i64 but,.nils] [] 0).as.fr,by kernel_rfl,mp (by kernel_rfl) he3⟩
abbrev OuC (b n:Nat) :AObj:=.cells (putCells .leaf 0 [.gl b 5 0 n false]) 1 [] false
abbrev LaH (p:Prog)(l2:List LUnit) :List (Nat×AObj×Bool) :=[(0,PgC p,false),(1,OuC 3 (length l2),false),(2,aJE,false),(3,LUs l2,true)]
theorem aOO (p:Prog)(l2:List LUnit){but a:Int}{r:List Int}(h:NMS 142 p but a [] r) :
  Spec PP (.enter 142 [PAv p,.int .i64 a,.int .i64 but,.nils]) (aE (LaH p l2) 4) (.ret (.gl 4 1 0 (length r) false)) (aE (LaH p l2++ [(4,LIs r,true)]) 5) :=
 mp (by kernel_rfl) (pK (ks:=[]) (n2:=4) (lc:=LaH p l2) (x:=LaH p l2) (args':=[PAv p,.int .i64 a,.int .i64 but,.nils])
  (aSz h) (by kernel_rfl) (by kernel_rfl) (by kernel_rfl) trivial (by kernel_rfl) (by kernel_rfl) (by kernel_rfl) (by kernel_rfl) ⟨uX r,trivial⟩ (by kernel_rfl))
abbrev UnB (vy:Str)(cs:List Con)(n:Nat) :AObj:=.cells (putCells .leaf 0 [avS vy,.ilst 2 (map Con.av cs) false,.slice 7 0 1 1 2 true,.gl 8 1 0 n false,.nils]) 5 [] false
abbrev FnB (vy:Str) :AObj:=.cells (putCells .leaf 0 [avS vy,.int .i64 0]) 2 [] false
theorem aSA (p:Prog)(l2:List LUnit)(vy:Str)(cs:List Con)(o:List Str){F C:List Int}{b:Int}{ns:List Node}(h:MNS p F C b [] ns) :
  Spec PP (.enter 144 [.ptr 3 0,.int .i64 b])
   (aE [(0,PgC p,false),(1,OuC 5 (length l2),false),(2,aJE,false),(3,MC p.nodes F C 6 (length ([] :List ONode)),false),(4,UnB vy cs (length o),false),(5,LUs l2,true),(6,OL [],true),(7,FnB vy,false),(8,aRR o,true)] 9)
   (.ret (.int .i64 ((length ([] :List ONode) :Nat) :Int)))
   (aE [(0,PgC p,false),(1,OuC 5 (length l2),false),(2,aJE,false),(3,MC p.nodes F C 9 (length (([] :List ONode) ++map Node.o ns)),false),(4,UnB vy cs (length o),false),(5,LUs l2,true),(7,FnB vy,false),(8,aRR o,true),(9,OL (([] :List ONode) ++map Node.o ns),true)] 10) :=by
 unfold MNS at h
 exact aA5 (m:=1) (ks:=[3,6]) (n2:=9) (n3:=10) (v':=.int .i64 ((length ([] :List ONode) :Nat) :Int)) (args':=[.ptr 3 0,.int .i64 b])
  (lc:=[(0,PgC p,false),(1,OuC 5 (length l2),false),(2,aJE,false),(3,MC p.nodes F C 6 (length ([] :List ONode)),false),(4,UnB vy cs (length o),false),(5,LUs l2,true),(6,OL [],true),(7,FnB vy,false),(8,aRR o,true)])
  (lc':=[(0,PgC p,false),(1,OuC 5 (length l2),false),(2,aJE,false),(3,MC p.nodes F C 9 (length (([] :List ONode) ++map Node.o ns)),false),(4,UnB vy cs (length o),false),(5,LUs l2,true),(7,FnB vy,false),(8,aRR o,true),(9,OL (([] :List ONode) ++map Node.o ns),true)])
  h (by rfl) (by rfl) (by kernel_rfl) (by rfl) (by rfl) (by kernel_rfl) (by kernel_rfl) ⟨oI _,trivial⟩ (by kernel_rfl) ⟨oI _,trivial⟩
theorem aL1 (i:Nat) :numsL 0 (i+1) =numsL 0 i++ [(i:Int)] :=by
 refine List.ext_getElem? (fun m=>?_);by_cases hm:m<i
 ·rw [iT 0 (by omega),List.getElem?_append_left (by rw [bU];exact hm),iT 0 hm]
 · by_cases hm2:m=i
   ·rw [hm2,iT 0 (by omega),List.getElem?_append_right (by rw [bU];omega),bU,Nat.sub_self];simp
   ·rw [getElem?_eq_none (by rw [bU];omega),getElem?_eq_none (by simp [bU];omega)]
section
variable (p :Prog) (l:List Str) (hl:l.length=p.funs.length) (hf:p.funs.length≤1000)
include hl hf
theorem aSB (nm:List Int)(hnm:∀y∈nm,0≤y∧y<p.funs.length)(hn:nm.length≤1000)(b:Int)(vy:Str)(cs:List Con)(i:Int)(l2:List LUnit) :∀ (t:List Int) (k:Nat) (F:List Int) (o:List Str),nm.drop k=t→F.length=p.funs.length→o.length=k →
  LeadsM PP 0 (jP p l b ((nm.length:Nat) :Int) vy cs nm F (k:Int) o i l2).as (aDQ p l b vy cs (setF F k t) (o++t.map (lP l)) 0 [] i l2).as
 | [],k,F,o,h,hF,ho=>by
  have:=bK h;rw [setF,map_nil,append_nil];exact aVh p l b _ vy cs nm F k o i l2 sd
 | y::t,k,F,o,h,hF,ho=>by
  obtain⟨q1,q2,q3⟩ :=bJ h;have hy:=hnm y (mem_of_getElem? q1);obtain⟨s,hs⟩ :∃s,l[y.toNat]?=some s:= ⟨_,getElem?_eq_getElem (by omega)⟩;obtain⟨z,hz⟩ :∃z,F[y.toNat]?=some z:= ⟨_,getElem?_eq_getElem (by omega)⟩;have en:lP l y=s:=by unfold lP;rw [hs];rfl
  have ih:=aSB nm hnm hn b vy cs i l2 t (k+1) (F.set y.toNat (1+ (k:Int))) (o++ [s]) q2 (by rw [length_set];exact hF) (by simp [ho]);rw [setF,map_cons,en,show o++s::t.map (lP l) = (o++ [s]) ++t.map (lP l)by simp];exact(aVg p l b _ vy cs nm F k o i l2 y z s sd sd sd sd sd hy.1 (by omega) hz hs (by simp;omega) sd).trans ih
omit hl hf in
theorem aSC (hc:p.cons.length≤1000)(b:Int)(vy:Str)(cs:List Con)(F:List Int)(o:List Str)(i:Int)(l2:List LUnit) :∀ (j k:Nat),k+j=p.cons.length →
  LeadsM PP 0 (aDQ p l b vy cs F o (k:Int) (numsL 0 k) i l2).as (aLZ p l b F vy cs o (numsL 0 p.cons.length) i l2).as
 | 0,k,h=>by
  rw [show k=p.cons.length by omega];exact aVj p l b vy cs F o _ _ i l2 sd
 | j+1,k,h=>by
  have ih:=aSC hc b vy cs F o i l2 j (k+1) (by omega);rw [aL1]at ih;exact(aVi p l b vy cs F o k _ i l2 sd (by simp [bU];omega) sd).trans ih
theorem aW5 (i:Nat)(acc:List LUnit){b:Int}{nm:List Int}{s:Str}{cs:List Con}(hi:i<p.funs.length)(h10:p.funs.length≤10)(hb:p.funs[i]?=some b)(hs:l[i]?=some s)(hn:nm.length≤20)
  (h3:Spec PP (.enter 142 [PAv p,.int .i64 b,.int .i64 (i:Int),.nils]) (aE (LaH p acc) 4) (.ret (.gl 4 1 0 (length nm) false)) (aE (LaH p acc++ [(4,LIs nm,true)]) 5)) (hc:Pure PP 143 [.ilst 2 (map Con.av p.cons) false] (.ilst 2 (map Con.av cs) false)) :
  LeadsM PP 0 (aDP p l (i:Int) acc).as (jP p l b ((nm.length:Nat) :Int) s cs nm (replicate p.funs.length 0) 0 [] (i:Int) acc).as:=by
 have g0: (decide ((i:Int) < ((length p.funs:Nat) :Int))) =true:=by simp;omega
 have g4: (decide ((((length nm) :Nat) :Int) > (20:Int))) =false:=by simp;omega
 have h3':=h3;rcases(by omega:p.funs.length=1∨p.funs.length=2∨p.funs.length=3∨p.funs.length=4∨p.funs.length=5∨p.funs.length=6∨p.funs.length=7∨p.funs.length=8∨p.funs.length=9∨p.funs.length=10)with e|e|e|e|e|e|e|e|e|e
 ·have:=aSt p l i acc b nm s cs g0 (by omega) hb h3' g4 e hs hc;rw [e];exact this
 ·have:=aVf p l i acc b nm s cs g0 (by omega) hb h3' g4 e hs hc;rw [e];exact this
 ·have:=aVe p l i acc b nm s cs g0 (by omega) hb h3' g4 e hs hc;rw [e];exact this
 ·have:=aVd p l i acc b nm s cs g0 (by omega) hb h3' g4 e hs hc;rw [e];exact this
 ·have:=aVc p l i acc b nm s cs g0 (by omega) hb h3' g4 e hs hc;rw [e];exact this
 ·have:=aVb p l i acc b nm s cs g0 (by omega) hb h3' g4 e hs hc;rw [e];exact this
 ·have:=aVa p l i acc b nm s cs g0 (by omega) hb h3' g4 e hs hc;rw [e];exact this
 ·have:=aU9 p l i acc b nm s cs g0 (by omega) hb h3' g4 e hs hc;rw [e];exact this
 ·have:=aU8 p l i acc b nm s cs g0 (by omega) hb h3' g4 e hs hc;rw [e];exact this
 ·have:=aU7 p l i acc b nm s cs g0 (by omega) hb h3' g4 e hs hc;rw [e];exact this
theorem aSD (hs:aH p=true)(hr:aW p=true)(h10:p.funs.length≤10) :∀ (bs:List Int) (ss:List Str) (i:Nat) (acc:List LUnit),p.funs.drop i=bs→l.drop i=ss→acc.length=i →
  Ends PP 0 (aDP p l (i:Int) acc).as (.ret (.tup [.ilst 5 (map LUnit.av (acc++nF p l i bs ss)) false,.int .i64 0])) (aE [] 0)
 | [],ss,i,acc,h,h2,ha=>by
  have:=bK h;have e:nF p l i [] ss= [] :=by cases ss<;>rfl
  rw [e,append_nil];exact aSu p l i acc sd
 | b::bs,ss,i,acc,h,h2,ha=>by
  obtain⟨q1,q2,q3⟩ :=bJ h;have hi:= (List.getElem?_eq_some_iff.1 q1).1;obtain⟨s,r,rfl,s1,s2⟩ :=aJK h2 (by omega);have f:=Fs.of hs hr;have hb:=mem_of_getElem? q1;have hbr:=f.fine.funs b hb;obtain⟨n1,n2⟩ :=aDM hs hr i b;have hsz:=f.fine.small;have hpl: (pre p p.nodes.length b).length≤1000000:=by
   obtain⟨f1,f2,e⟩ :=append_of_mem hb;have hl:=f.len;rw [e,map_append,map_cons,flatten_append,flatten_cons,length_append,length_append]at hl;omega
  have sp:=aFk f.fine (aDL hs hr) (i:Int) p.nodes.length b [] hbr.1 hbr.2 (by omega) (by simp;omega);obtain⟨m1,m2,m3⟩ :=aDN hs hr n2 hb
  have hT:∀x∈p.nodes,lO x.pats=true:=fun x hx=>by
   obtain⟨j,hj⟩ :=List.mem_iff_getElem?.1 hx;exact aAm x.pats (kH fun q hq=> ((vM (f.node j x hj).1).pats q hq).2)
  have smv:=mNd_spec p (nE p (dE p i b)) (numsL 0 p.cons.length) hT p.nodes.length [] b _ m1;have hc:=f.cons;have ih:=aSD hs hr h10 bs r (i+1) (acc++ [aJJ p l i b s]) q2 s2 (by simp [ha]);rw [append_assoc]at ih;have t1:=aW5 p l hl hf i acc (nm:=dE p i b) (cs:=p.cons) hi h10 q1 s1 (by omega) (aOO p acc sp) (aLB p.cons (by omega));have t2:=aSB p l hl hf (dE p i b) n1.2 (by omega) b s p.cons (i:Int) acc (dE p i b) 0 (replicate p.funs.length 0) [] rfl (by simp) rfl;rw [nil_append]at t2;have t3:=aSC p l (by omega) b s p.cons (nE p (dE p i b)) ((dE p i b).map (lP l)) (i:Int) acc p.cons.length 0 (by omega);have t4:=aVk p l b (nE p (dE p i b)) s p.cons ((dE p i b).map (lP l)) (numsL 0 p.cons.length) i acc (lI p (dE p i b) b) (lI p (dE p i b) b) (mp (by kernel_rfl) (aSA p acc s p.cons ((dE p i b).map (lP l)) smv)) (by simp) (by simp) (by simp;omega) sd;exact(((t1.trans t2).trans t3).trans t4).ends ih
end
theorem aSE {E:Emb}{e:Int}{cv:Value}(h:VR E (.tup [.nils,.int .i64 e]) cv) :VR E (.tup [.ilst 5 (map LUnit.av ([] :List LUnit)) false,.int .i64 e]) cv:=by
 simp only [VR]at h ⊢;obtain⟨us,h1,h2⟩ :=h;obtain⟨u,us',rfl,h3,h4⟩ :=h2.cons_inv;exact⟨_,h1,VRs.cons (uP _ h3) h4⟩
theorem aJO (p:Prog)(l:List Str)(hs:aH p=true)(hl:l.length≤1000) :Pure PP 51 [Prog.av p,.ilst 1 (map avS l) false] (.tup [.ilst 5 (map LUnit.av (jO p l).1) false,.int .i64 (jO p l).2]) :=by
 have err:∀e:Int,Ends PP 0 (aMQ p l).as (.ret (.tup [.nils,.int .i64 e])) (aE [] 0) →Pure PP 51 [Prog.av p,.ilst 1 (map avS l) false] (.tup [.ilst 5 (map LUnit.av ([] :List LUnit)) false,.int .i64 e]) :=fun e h=>
  aA8 (fW (s:=aMQ p l) (by kernel_rfl) (by kernel_rfl) (by simp [keylessL,keyless,Prog.av]) (by simp [keylessL,keyless]) h) (fun E cv hv=>aSE hv)
 have hF:=aQ6 hs;have hN:=aRQ l (by omega);have hP:=aSx l nC (by omega);unfold jO;cases e1:aW p with
 |false=>rw [e1]at hF;rw [if_neg (by simp)];exact err 2 (aU1 p l _ hF rfl)
 | true =>
  rw [e1]at hF;by_cases n1:l.length=p.funs.length
  · cases n2:oM l with
    | false=>
     rw [n2]at hN;rw [if_neg (fun g=>by have:= (rW g.2).2.1;rw [n2]at this;cases this)];exact err 2 (aU3 p l _ false hF rfl (by simp [n1]) hN rfl)
    | true=>
     rw [n2]at hN;have st:=aU4 p l _ true hF rfl (by simp [n1]) hN rfl;by_cases n3:dH nC l 0=p.main
     · have e2:uY p l=true:=by unfold uY;simp [n1,n2,n3]
       rw [if_pos ⟨rfl,e2⟩];have hR:Pure PP 67 [.bool (dH nC l 0 != p.main),.int .i64 2] (.tup []) :=by
        rw [n3,show(p.main != p.main) =false by simp];exact aW1 2
       by_cases h10:p.funs.length≤10
       · rw [if_pos h10];have st2:=aU6 p l _ hP hR (by simp;omega);have:=aSD p l n1 (by omega) hs e1 h10 p.funs l 0 [] rfl rfl rfl;rw [nil_append]at this;exact fW (s:=aMQ p l) (by kernel_rfl) (by kernel_rfl) (by simp [keylessL,keyless,Prog.av]) (by simp [keylessL,keyless]) ((st.trans st2).ends this)
       · rw [if_neg h10];exact err 3 (st.ends (aU5 p l _ hP hR (by simp;omega)))
     · rw [if_neg (fun g=>n3 (rW g.2).2.2)];have hR:=aW2 2 (aE (aJN p) 4);rw [show(true:Bool) = (dH nC l 0 != p.main)by simp [n3]]at hR;exact err 2 (st.ends ((aVp p l _ hP hR).ends (aSy p)))
  · rw [if_neg (fun g=>n1 (rW g.2).1)];exact err 2 (aU2 p l _ hF rfl (by simp;omega))
section
variable {P :Program}
def aOP (P:Program)(is:List Ins)(s:TS) :Option (AV×Nat×List Prop) :=
 match uD P is s.as with
 | some (s1,ps) =>match s1.cs,s1.fr.kind,s1.fr.mode,s1.fr.roundOf,s1.fr.defers with
  | [],.normal,.ret,none,[] =>match P.funcs[s1.fr.fn]? with
   | some fd=>match iZ P s1.h s1.fr.tm fd.results.toList with
    |some [v] =>some (v,s1.fr.fn,ps)
    |_=>none
   |none=>none
  |_,_,_,_,_=>none
 |none=>none
theorem aHm {f : Nat} {args : List AV} {is : List Ins}{b:Bool}{ps:List Prop}{cargs:List Value}(hb:hQ P f=true)(hk:keylessL args=true)(h0:aOP P is (start P f args) =some (.bool b,f,ps))(hps:AllP ps)(w:World)(hv:VRs (embOf w) args cargs) :
  Calls P f ⟨cargs⟩ w fun e w'=>e= .returned (.bool b) ∧GrownO w w':=by
 intro base;unfold hQ at hb;split at hb
 · rename_i fn hf;split at hb
   · rename_i c hc;have hg:bW P f args .normal=some ⟨f,cH .leaf 0 args,max fn.ntmps args.length,[.code c],[],.run,.normal,none⟩ :=by simp [bW,hf,hc]
     have fr':FR (embOf w) _ (Frame.enter P f ⟨cargs⟩ .normal) :=eV hg hv;have f1:FR (embOf w) (start P f args).as.fr (Frame.enter P f ⟨cargs⟩ .normal) :=by
      have e1: (start P f args).as.fr= ⟨f,mkT ((range args.length).zip args),max fn.ntmps args.length,[.code c],[],.run,.normal,none⟩ :=by simp [start,hf,hc,TS.as,TF.fr]
      rw [e1];refine⟨fr'.fn,⟨fr'.tm.1,fun t a e=>?_⟩,fr'.todo,fr'.defers,fr'.mode,fr'.kind,fr'.round⟩;have h1:=zV (uE e);have hlt:= (List.getElem?_eq_some_iff.1 h1).1;have h2: (cH .leaf 0 args).at t=some a:=by
       unfold cH;rw [bM,if_pos hlt];exact h1
      exact fr'.tm.2 t a h2
     have e2 : (start P f args).as.cs = [] := by unfold start;split; · split<;>rfl
                                                 ·rfl
     have e3 : (start P f args).as.h = ⟨.leaf, 0⟩ := by unfold start;split; · split<;>rfl
                                                        ·rfl
     unfold aOP at h0;split at h0
     · rename_i s1 qs h1;split at h0
       · rename_i hcs hkd hmo hro hde;split at h0
         · rename_i fd hfd;split at h0
           · rename_i v hrs;simp only [Option.some.injEq,Prod.mk.injEq]at h0;obtain⟨rfl,hfn,rfl⟩ :=h0;have hl:LeadsM P 0 (start P f args).as s1:=eY h1 (fun p hpp=>hps.mem p hpp);obtain⟨E',g,ccs,w',s2,f2,fs2,r2,x⟩ :=hl (by rw [e3];exact Nat.le_refl _) (embOf w) _ [] w base f1 (by rw [e2];rfl) (by rw [e3];exact aEJ w);rw [hcs]at fs2;have:=fs2.nil_inv;subst this;obtain⟨cv,g1,g2⟩ :=nW r2 f2.tm hrs;simp only [xN,VR]at g2;subst g2;have fm:=f2.mode;rw [hmo]at fm;simp only [MR]at fm;have fdd:=f2.defers;rw [hde]at fdd;rw [e3]at x;have hno:∀ {b o},¬ (⟨.leaf,0⟩ :Hp).look b=some o:=fun {b o} e=>by simp [Hp.look,T.at_leaf]at e
             refine⟨.returned (.bool b),w',g,⟨rfl,⟨x.os,x.output,fun i hi=>?_⟩,x.froz,x.size⟩,s2,by rw [f2.fn,hfn],fm,fdd.nil_inv,by rw [f2.kind,hkd],fd,by rw [f2.fn];exact hfd,g1⟩;have:=x.keep i hi (fun b o L e=>absurd e hno);rw [this];cases w.heap[i]? with
             |none=>rfl
             |some ob=>cases ob<;>simp
           ·cases h0
         ·cases h0
       ·cases h0
     ·cases h0
   ·cases hb
 ·cases hb
theorem aB2 {f : Nat} {args : List AV} {is : List Ins}{b:Bool}{ps:List Prop}{cargs:List Value}{t:TS}(hb:hQ P f=true)(hk:keylessL args=true)(hl0:LeadsM P 0 (start P f args).as t.as)(h0:aOP P is t=some (.bool b,f,ps))(hps:AllP ps)(w:World)(hv:VRs (embOf w) args cargs) :
  Calls P f ⟨cargs⟩ w fun e w'=>e= .returned (.bool b) ∧GrownO w w':=by
 intro base;unfold hQ at hb;split at hb
 · rename_i fn hf;split at hb
   · rename_i c hc;have hg:bW P f args .normal=some ⟨f,cH .leaf 0 args,max fn.ntmps args.length,[.code c],[],.run,.normal,none⟩ :=by simp [bW,hf,hc]
     have fr':FR (embOf w) _ (Frame.enter P f ⟨cargs⟩ .normal) :=eV hg hv;have f1:FR (embOf w) (start P f args).as.fr (Frame.enter P f ⟨cargs⟩ .normal) :=by
      have e1: (start P f args).as.fr= ⟨f,mkT ((range args.length).zip args),max fn.ntmps args.length,[.code c],[],.run,.normal,none⟩ :=by simp [start,hf,hc,TS.as,TF.fr]
      rw [e1];refine⟨fr'.fn,⟨fr'.tm.1,fun t a e=>?_⟩,fr'.todo,fr'.defers,fr'.mode,fr'.kind,fr'.round⟩;have h1:=zV (uE e);have hlt:= (List.getElem?_eq_some_iff.1 h1).1;have h2: (cH .leaf 0 args).at t=some a:=by
       unfold cH;rw [bM,if_pos hlt];exact h1
      exact fr'.tm.2 t a h2
     have e2 : (start P f args).as.cs = [] := by unfold start;split; · split<;>rfl
                                                 ·rfl
     have e3 : (start P f args).as.h = ⟨.leaf, 0⟩ := by unfold start;split; · split<;>rfl
                                                        ·rfl
     unfold aOP at h0;split at h0
     · rename_i s1 qs h1;split at h0
       · rename_i hcs hkd hmo hro hde;split at h0
         · rename_i fd hfd;split at h0
           · rename_i v hrs;simp only [Option.some.injEq,Prod.mk.injEq]at h0;obtain⟨rfl,hfn,rfl⟩ :=h0;have hl:LeadsM P 0 (start P f args).as s1:=hl0.trans (eY h1 (fun p hpp=>hps.mem p hpp));obtain⟨E',g,ccs,w',s2,f2,fs2,r2,x⟩ :=hl (by rw [e3];exact Nat.le_refl _) (embOf w) _ [] w base f1 (by rw [e2];rfl) (by rw [e3];exact aEJ w);rw [hcs]at fs2;have:=fs2.nil_inv;subst this;obtain⟨cv,g1,g2⟩ :=nW r2 f2.tm hrs;simp only [xN,VR]at g2;subst g2;have fm:=f2.mode;rw [hmo]at fm;simp only [MR]at fm;have fdd:=f2.defers;rw [hde]at fdd;rw [e3]at x;have hno:∀ {b o},¬ (⟨.leaf,0⟩ :Hp).look b=some o:=fun {b o} e=>by simp [Hp.look,T.at_leaf]at e
             refine⟨.returned (.bool b),w',g,⟨rfl,⟨x.os,x.output,fun i hi=>?_⟩,x.froz,x.size⟩,s2,by rw [f2.fn,hfn],fm,fdd.nil_inv,by rw [f2.kind,hkd],fd,by rw [f2.fn];exact hfd,g1⟩;have:=x.keep i hi (fun b o L e=>absurd e hno);rw [this];cases w.heap[i]? with
             |none=>rfl
             |some ob=>cases ob<;>simp
           ·cases h0
         ·cases h0
       ·cases h0
     ·cases h0
   ·cases hb
 ·cases hb
theorem cW {f:Nat}{args:List AV}{b:Bool}{cargs:List Value}(L:List Pf)(is:List Ins)(w:World)(hv:VRs (embOf w) args cargs)(hb:hQ P f=true:=by kernel_rfl)(hk:keylessL args=true:=by kernel_rfl)(h0:aOP P is (start P f args) =some (.bool b,f,L.map Pf.p) :=by kernel_rfl) :
    Calls P f ⟨cargs⟩ w fun e w'=>e= .returned (.bool b) ∧GrownO w w':=aHm hb hk h0 (aPy L) w hv
theorem cL {f:Nat}{args:List AV}{b:Bool}{cargs:List Value}{t:TS}(hl:LeadsM P 0 (start P f args).as t.as)(L:List Pf)(is:List Ins)(w:World)(hv:VRs (embOf w) args cargs)(hb:hQ P f=true:=by kernel_rfl)(hk:keylessL args=true:=by kernel_rfl)(h0:aOP P is t=some (.bool b,f,L.map Pf.p) :=by kernel_rfl) :
    Calls P f ⟨cargs⟩ w fun e w'=>e= .returned (.bool b) ∧GrownO w w':=aB2 hb hk hl h0 (aPy L) w hv
end
theorem aOQ {x:Node}(h:aOA x) :aTR x:= ⟨by have:=h.1;omega,by have:=h.2;omega⟩
def aBq(a:Prog)(b:List Str)(c:Int):TS:=⟨(tf 11 55 [(1,(iS b)),kp 2 0,(4,(bV false)),(5,(nI c))] [kc Tryz.f11 116,kl Tryz.f11 116,.inBlock 0,kc Tryz.f11 15]),[],[oC 0 [(iN a.nodes),(iI a.funs),(nI a.main),(iC a.cons)]],1⟩
def aVq (b:Prog)(a:List Str):=fun c d e f=>(tT 0 (start PP 11 [(Prog.av b),(iS a)])<|fZ 9 50 [(Prog.av b)]<|fun c=>.b 2 13 (!c) .x<|gl 1 avS a<|gd 3 17 ((a.length:Int) >330) .x<|.W 9 1 [0] (aBq b a 0)) c d|>.f e|>.f f tv
def aVr (d:Prog)(a:List Str)(b:Int):=fun c e f g i j=>(tT 0 (aBq d a b)<|gl 5 avS a<|gd 2 22 (b< (a.length:Int)) (gX avS 8 a b<|fun c=>gd 4 30 ((c.length:Int) >30) .x<|gw 6 24 (b+1)<|.W 3 1 [0] (aBq d a (b+1))) .x)|>.t e c f g|>.f i j tv
theorem aVs (p:Prog)(l:List Str)(y0 y1:Bool)(h0:Pure PP 50 [(Prog.av p)] (bV y0))(h1: (!y0) =true)(h2:Pure PP 14 [] (bV y1)) :
  ∀ (w:World) (cargs:List Value),VRs (embOf w) [Prog.av p,.ilst 1 (map avS l) false] cargs→Calls PP 11 ⟨cargs⟩ w fun e w'=>e= .returned (.bool y1) ∧GrownO w w':=
 fun w cargs hv=>cW [qp h0,qp h1,qp h2] [rn 9,pB y0,rn 2,bt 13,rn 8,pB y1,rn 3] w hv
theorem aVt (p:Prog)(l:List Str)(y0 y1:Bool)(h0:Pure PP 50 [(Prog.av p)] (bV y0))(h1: (!y0) =false)(h2:decide ((l.length:Int) > (330:Int)) =true)(h3:Pure PP 14 [] (bV y1)) :
  ∀ (w:World) (cargs:List Value),VRs (embOf w) [Prog.av p,.ilst 1 (map avS l) false] cargs→Calls PP 11 ⟨cargs⟩ w fun e w'=>e= .returned (.bool y1) ∧GrownO w w':=
 fun w cargs hv=>cW [qp h0,qp h1,ql avS l,qp h2,qp h3] [rn 9,pB y0,rn 2,bf 13,rn 1,aL l,rn 3,bt 17,rn 3,pB y1,rn 3] w hv
theorem aVu (p:Prog)(l:List Str)(i5:Int)(y0:Str)(y1:Bool)(h0:decide (i5< (l.length:Int)) =true)(h1:0≤i5)(h2: ((l)[i5.toNat]?) =some y0)(h3:decide ((y0.length:Int) > (30:Int)) =true)(h4:Pure PP 14 [] (bV y1))(hl:LeadsM PP 0 (start PP 11 [Prog.av p,.ilst 1 (map avS l) false]).as (aBq p l i5).as) :
  ∀ (w:World) (cargs:List Value),VRs (embOf w) [Prog.av p,.ilst 1 (map avS l) false] cargs→Calls PP 11 ⟨cargs⟩ w fun e w'=>e= .returned (.bool y1) ∧GrownO w w':=
 fun w cargs hv=>cL hl [ql avS l,qp h0,qp h1,qg avS h2,qp h3,qp h4] [rn 5,aL l,rn 2,bt 22,rn 8,aI (avS y0),rn 4,bt 30,rn 3,pB y1,rn 3] w hv
theorem aVv (p:Prog)(l:List Str)(i5:Int)(y0:List LUnit)(y1:Int)(y2:List LUnit)(y3:Int)(y4 y5:Bool)(h0:decide (i5< (l.length:Int)) =false)(h1:Pure PP 51 [(Prog.av p),(iS l)] (.tup [(.ilst 5 (map LUnit.av y0) false),(nI y1)]))(h2:Pure PP 52 [(Prog.av p),(iS l)] (.tup [(.ilst 5 (map LUnit.av y2) false),(nI y3)]))(h3: (y1==y3) =true)(h4:Pure PP 53 [(.ilst 5 (map LUnit.av y0) false),(.ilst 5 (map LUnit.av y2) false)] (bV y4))(h5:y4=true)(h6:Pure PP 14 [] (bV y5))(hl:LeadsM PP 0 (start PP 11 [Prog.av p,.ilst 1 (map avS l) false]).as (aBq p l i5).as) :
  ∀ (w:World) (cargs:List Value),VRs (embOf w) [Prog.av p,.ilst 1 (map avS l) false] cargs→Calls PP 11 ⟨cargs⟩ w fun e w'=>e= .returned (.bool y5) ∧GrownO w w':=
 fun w cargs hv=>cL hl [ql avS l,qp h0,qp h1,qp h2,qp h3,qp h4,qp h5,qp h6] [rn 5,aL l,rn 2,bf 22,rn 6,.pure (.tup [(.ilst 5 (map LUnit.av y0) false),(nI y1)]),rn 10,.pure (.tup [(.ilst 5 (map LUnit.av y2) false),(nI y3)]),rn 12,bt 47,rn 2,pB y4,rn 2,bt 52,pB y5,rn 4] w hv
end
end Go.Hb

set_option linter.defProp false
set_option linter.unusedVariables false
set_option linter.unusedSimpArgs false
set_option linter.unusedSectionVars false
set_option maxRecDepth 100000
set_option maxHeartbeats 4000000
namespace Go.Hb
open Go.Proofs
noncomputable section
theorem aDR {p:Prog}(hs:aH p=true)(hr:aW p=true)(l:List Str) :∀ (bs:List Int) (ss:List Str) (i:Nat),(∀b∈bs,b∈p.funs) →∀u∈nF p l i bs ss,FitU u
 | [],ss,i,_,u,hu=>by cases ss<;>cases hu
 |b::bs,[],i,_,u,hu=>by cases hu
 | b ::bs,s::ss,i,hb,u,hu=>by
  rcases List.mem_cons.1 hu with rfl|hu
  · have f:=Fs.of hs hr;obtain⟨n1,n2⟩ :=aDM hs hr i b;obtain⟨_,m2,m3⟩ :=aDN hs hr n2 (hb b (List.mem_cons_self ..));have h1:=f.fine.small;have h2:=f.fine.fsmall;have h3:=f.cons;exact⟨⟨by show(lI p (dE p i b) b).length≤1000000;omega,by simp [uQ],by show p.cons.length<1000000;omega,fun x hx=>aOQ (m3 x hx)⟩,by simp [aJJ],by simp [aJJ];omega⟩
  ·exact aDR hs hr l bs ss (i+1) (fun c hc=>hb c (List.mem_cons_of_mem _ hc)) u hu
theorem aL2 {p:Prog}(hs:aH p=true)(l:List Str) :∀u∈ (jO p l).1,FitU u:=fun u hu=>by
 unfold jO at hu;split at hu
 · rename_i h;split at hu
   ·exact aDR hs h.1 l p.funs l 0 (fun b hb=>hb) u hu
   ·cases hu
 ·cases hu
theorem aDS (p:Prog)(l:List Str) :∀ (bs:List Int) (ss:List Str) (i:Nat),(nF p l i bs ss).length≤bs.length
 | [],ss,i=>by cases ss<;>simp [nF]
 |b::bs,[],i=>by simp [nF]
 | b::bs,s::ss,i=>by
  have:=aDS p l bs ss (i+1);simp only [nF,List.length_cons];omega
theorem aL3 {p:Prog}(hs:aH p=true)(l:List Str) : (jO p l).1.length<1000000:=by
 unfold jO;split
 · split
   · rename_i h;have:=aDS p l p.funs l 0;simp only;omega
   ·simp
 ·simp
theorem aAx (p:Prog)(l:List Str)(hs:aH p=true)(h330:l.length≤330)(hk:Pure PP 14 [] (.bool true)) :∀ (t:List Str) (i:Nat),l.drop i=t→LeadsM PP 0 (start PP 11 [Prog.av p,.ilst 1 (List.map avS l) false]).as (aBq p l (i:Int)).as →
  ∀ (w:World) (cargs:List Value),VRs (embOf w) [Prog.av p,.ilst 1 (List.map avS l) false] cargs→Calls PP 11 ⟨cargs⟩ w fun e w'=>e= .returned (.bool true) ∧GrownO w w'
 | [],i,h,hl=>by
  have:=bK h;exact aVv p l i (jO p l).1 (jO p l).2 (jO p l).1 (jO p l).2 true true sd (aJO p l hs (by omega)) (aJL p l hs (by omega)) (by simp) (aHh _ (aL3 hs l) (aL2 hs l)) rfl hk hl
 | s::t,i,h,hl=>by
  obtain⟨q1,q2,q3⟩ :=bJ h;by_cases g:s.length≤30
  ·exact aAx p l hs h330 hk t (i+1) q2 (hl.trans (aVr p l i s sd sd sd (by simp;omega) sd))
  ·exact aVu p l i s true sd sd sd (by simp;omega) hk hl
theorem lAparts_calls (p:Prog)(l:List Str)(hk:Pure PP 14 [] (.bool true)) :
  ∀ (w:World) (cargs:List Value),VRs (embOf w) [Prog.av p,.ilst 1 (List.map avS l) false] cargs→Calls PP 11 ⟨cargs⟩ w fun e w'=>e= .returned (.bool true) ∧GrownO w w':=by
 have h0:=aB0 p;cases e:aH p with
 |false=>rw [e]at h0;exact aVs p l false true h0 rfl hk
 | true=>
  rw [e]at h0;by_cases g:l.length≤330
  ·exact aAx p l e g hk l 0 rfl (aVq p l true h0 rfl (by simp;omega))
  ·exact aVt p l true true h0 rfl (by simp;omega) hk
section
variable {H :Type} {enc:TypeId×Value→H} {w:World} {spare:Nat→Bool} {held:Bool}
section
theorem lift_strs {fuel:Nat}{cs:List Value}{x:DataW H×List MemPlace}(h:DataW.trod enc Tryz.prog w 0 spare held fuel 25 cs=some x) :∃ (l:List Str) (c:Value),cs= [c] ∧VR (embOf w) (.ilst 1 (l.map avS) false) c:=
 kC avS Tryz.underlying25 cells9 (by omega) h (fun fu _ cs x hx=>by
  obtain⟨s,c,rfl,v⟩ :=aDg Tryz.underlying9 hx;exact⟨s,aMl v rfl (aPI v rfl)⟩)
end
end
end
end Go.Hb
