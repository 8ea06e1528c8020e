/- A machine on abstract values, its soundness, ways, plain laws. -/
import Derived.Test.YtfaikcecgpcimaaGreatHF
import Derived.Test.YtfaikcecgpcimaaGreatHG
import Derived.Test.YtfaikcecgpcimaaGreatHK
import Derived.Test.YtfaikcecgpcimaaGreatHL
import Derived.Test.YtfaikcecgpcimaaGreatHM
import Derived.Test.YtfaikcecgpcimaaGreatHH
set_option linter.defProp false
set_option linter.unusedVariables false
set_option linter.unusedSimpArgs false
set_option linter.unusedSectionVars false
set_option maxRecDepth 100000
set_option maxHeartbeats 4000000
namespace Go.Hb
open Bool (and_eq_true)
open List (append_assoc append_nil cons_append drop getElem?_eq_getElem getElem?_map length length_append length_cons length_map length_set map map_append map_cons map_map mem_cons_of_mem mem_cons_self mem_of_getElem? range replicate set take zipWith)
open Pats (av)
open Go.Proofs Tryz
noncomputable section
def aS7(b:List Node)(c d:List Int)(a:List ONode)(e f:Int)(g:aC)(i:List Pat):TS:=dY PP 206 [(.ptr 0 0),(.agg [(nI e),(nI f),(aA g),(iP i)])] [oC 0 [(iN b),(.gl 1 4 0 a.length false),(iI c),(iI d)],oL 1 4 (map ONode.av a)] 2
def aEX(d:List Node)(e f:List Int)(a:List ONode)(g k:Int)(l:aC)(b:List Pat)(i j:Int)(c:List Pat):TS:=⟨(tf 206 42 [kp 0 0,kp 4 2,kp 5 3,(26,(iP b)),(27,(nI (b.length:Int))),(28,(nI j))] [kc f206 244,kl f206 244,.inBlock 0,kc f206 31]),[],[oC 0 [(iN d),(.gl 1 4 0 a.length false),(iI e),(iI f)],oL 1 4 (map ONode.av a),oC 2 [(nI 0),(nI 0),(.str 0 0),.nils],oC 3 [(nI g),(nI i),(.str 0 0),(.gl 4 4 0 c.length false)],oL 4 4 (av c)],5⟩
def aS8(b:List Node)(c d:List Int)(a:List ONode)(e:Int):TS:=dY PP 144 [(.ptr 0 0),(nI e)] [oC 0 [(iN b),(.gl 1 4 0 a.length false),(iI c),(iI d)],oL 1 4 (map ONode.av a)] 2
def xF(c:List Node)(d e:List Int)(a:List ONode)(p:Int)(f:List Pat)(g i j:Int)(k:List Int)(l:List Pat)(m n o:Int)(b:List Pat):TS:=⟨(tf 144 94 [kp 0 0,(4,(nI 0)),kp 5 1,kp 6 2,(56,(iP f)),(57,(nI g)),(58,(nI o))] [kc f144 500,kl f144 500,.inBlock 1,kc f144 63]),[],[oC 0 [(iN c),(.gl 3 4 0 a.length false),(iI d),(iI e)],oC 1 [(nI i),(nI j),(iI k),(iP l)],oC 2 [(nI m),(nI n),.nils,(.gl 4 4 0 b.length false)],oL 3 4 (map ONode.av a),oL 4 4 (av b)],5⟩
def aIE(d:List Node)(e f:List Int)(a:List ONode)(i:Int)(b:List Int)(g:Int)(c:List ONode):TS:=⟨(tf 207 39 [kp 0 0,(2,(nI (a.length:Int))),(3,(.func 144 [(.ptr 0 0)] [])),(11,(iI b)),(12,(nI g)),(13,(nI 0))] [kc f207 12,kl f207 12,.inBlock 0]),[(tf 144 94 [(4,(nI 0)),(9,(nI (a.length:Int))),kp 86 0,(88,(iI b)),(89,(nI (a.length:Int))),(91,(.func 144 [(.ptr 0 0)] []))] [ko f144 510 6,kc f144 511])],[oC 0 [(iN d),(.gl 1 4 0 c.length false),(iI e),(iI f)],oL 1 4 (map ONode.av c)],2⟩
def aS9(d:List Node)(e f:List Int)(a:List ONode)(j g:Int)(b:List Int)(i:Int)(c:List ONode):TS:=⟨(tf 207 39 [kp 0 0,(2,(nI (a.length:Int))),(3,(.func 144 [(.ptr 0 0)] [])),(10,(nI g)),(11,(iI b)),(12,(nI i)),(13,(nI 0))] [kc f207 819,.inBlock 1,kc f207 103,kl f207 12,.inBlock 0]),[(tf 144 94 [(4,(nI 0)),(9,(nI (a.length:Int))),kp 86 0,(88,(iI b)),(89,(nI (a.length:Int))),(91,(.func 144 [(.ptr 0 0)] []))] [ko f144 510 6,kc f144 511])],[oC 0 [(iN d),(.gl 1 4 0 c.length false),(iI e),(iI f)],oL 1 4 (map ONode.av c)],2⟩
def aOt(d:List Node)(e f:List Int)(a:List ONode)(n g:Int)(b:List Int)(i:Int)(c:List ONode)(j:Nat)(k l:Int)(m:List Pat):TS:=⟨(tf 207 39 [kp 0 0,(2,(nI (a.length:Int))),(3,(.func 144 [(.ptr 0 0)] [])),(10,(nI g)),(11,(iI b)),(12,(nI i)),(13,(nI 0))] [kc f207 819,.inBlock 1,kc f207 103,kl f207 12,.inBlock 0]),[(tf 144 94 [(4,(nI 0)),(9,(nI (a.length:Int))),kp 86 0,(88,(iI b)),(89,(nI (a.length:Int))),(91,(.func 144 [(.ptr 0 0)] []))] [ko f144 510 6,kc f144 511])],[oC 0 [(iN d),(.gl 1 4 0 c.length false),(iI e),(iI f)],(1,(.lst 4 (set (map ONode.av c) j (.agg [(nI k),(nI l),(.gl 2 1 0 ([] :List Int).length false),(iP m)]))),false),oL 2 1 (jI ([] :List Int))],3⟩
def aCm(d:List Node)(e f:List Int)(a:List ONode)(l:Int)(b:List Int)(g:Int)(c:List ONode)(i:List Int)(j:Value)(k:Int):TS:=⟨(tf 207 39 [kp 0 0,(2,(nI (a.length:Int))),(3,(.func 144 [(.ptr 0 0)] [])),(11,(iI b)),(12,(nI g)),(13,(nI k))] [kc f207 12,kl f207 12,.inBlock 0]),[(tf 144 94 [(4,(nI 0)),(9,(nI (a.length:Int))),kp 86 0,(88,(iI b)),(89,(nI (a.length:Int))),(91,(.func 144 [(.ptr 0 0)] []))] [ko f144 510 6,kc f144 511])],[oC 0 [(iN d),(.gl 1 4 0 c.length false),(iI e),(iI f)],oL 1 4 (map ONode.av c),(2,(.lstv j 1 (jI i)),true)],3⟩
def aTa(d:List Node)(e f:List Int)(a:List ONode)(m g:Int)(b:List Int)(i:Int)(c:List ONode)(j:List Int)(k:Value)(l:Int):TS:=⟨(tf 207 39 [kp 0 0,(2,(nI (a.length:Int))),(3,(.func 144 [(.ptr 0 0)] [])),(10,(nI g)),(11,(iI b)),(12,(nI i)),(13,(nI l))] [kc f207 819,.inBlock 1,kc f207 103,kl f207 12,.inBlock 0]),[(tf 144 94 [(4,(nI 0)),(9,(nI (a.length:Int))),kp 86 0,(88,(iI b)),(89,(nI (a.length:Int))),(91,(.func 144 [(.ptr 0 0)] []))] [ko f144 510 6,kc f144 511])],[oC 0 [(iN d),(.gl 1 4 0 c.length false),(iI e),(iI f)],oL 1 4 (map ONode.av c),(2,(.lstv k 1 (jI j)),true)],3⟩
def aOu(e:List Node)(f g:List Int)(a:List ONode)(p i:Int)(b:List Int)(j:Int)(c:List ONode)(d:List Int)(k:Int)(l:Nat)(m n:Int)(o:List Pat):TS:=⟨(tf 207 39 [kp 0 0,(2,(nI (a.length:Int))),(3,(.func 144 [(.ptr 0 0)] [])),(10,(nI i)),(11,(iI b)),(12,(nI j)),(13,(nI k))] [kc f207 819,.inBlock 1,kc f207 103,kl f207 12,.inBlock 0]),[(tf 144 94 [(4,(nI 0)),(9,(nI (a.length:Int))),kp 86 0,(88,(iI b)),(89,(nI (a.length:Int))),(91,(.func 144 [(.ptr 0 0)] []))] [ko f144 510 6,kc f144 511])],[oC 0 [(iN e),(.gl 1 4 0 c.length false),(iI f),(iI g)],(1,(.lst 4 (set (map ONode.av c) l (.agg [(nI m),(nI n),(.gl 2 1 0 d.length false),(iP o)]))),false),oL 2 1 (jI d)],3⟩
def aTb(e:List Node)(f c:List Int)(g:List ONode)(d a:Int)(i:aC)(b:List Pat):=tT 2 (aS7 e f c g d a i b)<|.b 22 15 (d==6) (.y fun j:Int=>.i [rn 1,.reg (rd 6 (.ans (.idx (aR j))::rd 3 []))] [hA (0≤a),.a (((c)[a.toNat]?) =some j) (eO (f:=aR))]<|gm 5 aH b<|.i [rn 4,.cnil 4 3 4] []<|gu 0 5 (av ([] :List Pat))<|gv 0 4 3 (.gl 5 4 0 ([] :List Pat).length false)<|.W 0 6 [3,4,5] (aEX e f c g d a i b j 0 ([] :List Pat)))<|gm 7 aH b<|.i [rn 4,.cnil 4 3 4] []<|gu 0 5 (av ([] :List Pat))<|gv 0 4 3 (.gl 5 4 0 ([] :List Pat).length false)<|.W 0 6 [3,4,5] (aEX e f c g d a i b a 0 ([] :List Pat))
def aVQ:=fun a b c d e f g i j k l m=>aTb a b c d e f g i|>.t k j l m ⟨(aN _ (fun _=>bZ _) _),⟨mD,trivial⟩⟩
def aVR:=fun a b c d e f g i j=>aTb a b c d e f g i|>.f j ⟨(aN _ (fun _=>bZ _) _),⟨mD,trivial⟩⟩
def aTc(g:List Node)(i j:List Int)(b:List ONode)(k s:Int)(t:aC)(n:List Pat)(l m:Int)(a:List Pat):=tT 2 (aEX g i j b k s t n l m a)<|gd 5 29 (m< (n.length:Int)) (aHR 6 n m<|fun o p q r=>.y fun c:Int=>.y fun d:Int=>.y fun e:aC=>.y fun f:List Pat=>.i [rn 4,.reg (rd 4 [.call (.agg [(nI c),(nI d),(aA e),(iP f)]) (aG [oC 0 [(iN g),(.gl 1 4 0 b.length false),(iI i),(iI j)],oL 1 4 (map ONode.av b),oC 2 [(nI 0),(nI 0),(.str 0 0),.nils],oC 3 [(nI k),(nI l),(.str 0 0),(.gl 4 4 0 a.length false)],oL 4 4 (av a),oC 5 [(nI o),(nI p),(aA q),(iP r)]] 7),.d,.app (av (a++ [(Pat.mk c d e f)])) (a++ [(Pat.mk c d e f)]).length,.d,.d])] [hA (Spec PP (.enter 206 [(.ptr 0 0),(.agg [(nI o),(nI p),(aA q),(iP r)])]) (aG [oC 0 [(iN g),(.gl 1 4 0 b.length false),(iI i),(iI j)],oL 1 4 (map ONode.av b),oC 2 [(nI 0),(nI 0),(.str 0 0),.nils],oC 3 [(nI k),(nI l),(.str 0 0),(.gl 4 4 0 a.length false)],oL 4 4 (av a),oC 5 [(nI o),(nI p),(aA q),(iP r)]] 7) (.ret (.agg [(nI c),(nI d),(aA e),(iP f)])) (aG [oC 0 [(iN g),(.gl 1 4 0 b.length false),(iI i),(iI j)],oL 1 4 (map ONode.av b),oC 2 [(nI 0),(nI 0),(.str 0 0),.nils],oC 3 [(nI k),(nI l),(.str 0 0),(.gl 4 4 0 a.length false)],oL 4 4 (av a),oC 5 [(nI o),(nI p),(aA q),(iP r)]] 7)),hB aH a,hA (length (a++ [(Pat.mk c d e f)]) ≤1000000),hC aH a [(Pat.mk c d e f)],hE aH a [(Pat.mk c d e f)],hr (AV.gl 4 4 0 a.length false),hr (AV.gl 4 4 0 a.length false)]<|gw 3 40 (m+1)<|.W 3 8 [2,3,7] (aEX g i j b k s t n l (m+1) (a++ [(Pat.mk c d e f)])))<|gY 8 2 3 4 4 aH mD a false<|.E 0 5 [] (.agg [(nI k),(nI l),(.str 0 0),(iP a)]) [oC 0 [(iN g),(.gl 1 4 0 b.length false),(iI i),(iI j)],oL 1 4 (map ONode.av b)] 2
def aVS:=fun a b c d e f g i j k l m n o p q r s t u v w x y z=>aTc a b c d e f g i j k l|>.t u m n o p v w q r s t x y z ⟨(aN _ (fun _=>bZ _) _),⟨mD,trivial⟩⟩
def aVT:=fun a b c d e f g i j k l m=>aTc a b c d e f g i j k l|>.f m ⟨(aN _ (fun _=>bZ _) _),trivial⟩
def aIF(d:List Node)(e c:List Int)(g:List ONode)(f:Int):=tT 1 (aS8 d e c g f)<|gX Node.av 11 d f<|fun a=>.b 22 26 (a.op==4) (gd 6 22 (a.n<0) (.y fun b:Int=>.i [rn 1,.reg (rd 7 (.ans (.idx (aR b))::rd 4 []))] [hA (0≤ (IntKind.i64.wrap ((-1:Int) -a.n))),.a (((e)[(IntKind.i64.wrap ((-1:Int) -a.n)).toNat]?) =some b) (eO (f:=aR))]<|gm 6 aH a.pats<|.i [rn 4,.cnil 3 3 4] []<|gu 0 4 (av ([] :List Pat))<|gv 0 3 3 (.gl 4 4 0 ([] :List Pat).length false)<|.W 0 5 [2,3,1,4] (xF d e c g f a.pats (a.pats.length:Int) a.op a.n a.kids a.pats a.op (IntKind.i64.wrap ((-1:Int) -b)) 0 ([] :List Pat)))<|.b 8 42 (a.op==14) (.y fun b:Int=>.i [rn 1,.reg (rd 6 (.ans (.idx (aR b))::rd 3 []))] [hA (0≤a.n),.a (((c)[a.n.toNat]?) =some b) (eO (f:=aR))]<|gm 6 aH a.pats<|.i [rn 4,.cnil 3 3 4] []<|gu 0 4 (av ([] :List Pat))<|gv 0 3 3 (.gl 4 4 0 ([] :List Pat).length false)<|.W 0 5 [2,3,1,4] (xF d e c g f a.pats (a.pats.length:Int) a.op a.n a.kids a.pats a.op b 0 ([] :List Pat)))<|gm 8 aH a.pats<|.i [rn 4,.cnil 3 3 4] []<|gu 0 4 (av ([] :List Pat))<|gv 0 3 3 (.gl 4 4 0 ([] :List Pat).length false)<|.W 0 5 [2,3,1,4] (xF d e c g f a.pats (a.pats.length:Int) a.op a.n a.kids a.pats a.op a.n 0 ([] :List Pat)))<|.b 14 42 (a.op==14) (.y fun b:Int=>.i [rn 1,.reg (rd 6 (.ans (.idx (aR b))::rd 3 []))] [hA (0≤a.n),.a (((c)[a.n.toNat]?) =some b) (eO (f:=aR))]<|gm 6 aH a.pats<|.i [rn 4,.cnil 3 3 4] []<|gu 0 4 (av ([] :List Pat))<|gv 0 3 3 (.gl 4 4 0 ([] :List Pat).length false)<|.W 0 5 [2,3,1,4] (xF d e c g f a.pats (a.pats.length:Int) a.op a.n a.kids a.pats a.op b 0 ([] :List Pat)))<|gm 8 aH a.pats<|.i [rn 4,.cnil 3 3 4] []<|gu 0 4 (av ([] :List Pat))<|gv 0 3 3 (.gl 4 4 0 ([] :List Pat).length false)<|.W 0 5 [2,3,1,4] (xF d e c g f a.pats (a.pats.length:Int) a.op a.n a.kids a.pats a.op a.n 0 ([] :List Pat))
def aVU:=fun a b c d e f g i j k l m n=>aIF a b c d e f i j|>.t k|>.t l g m n ⟨(aN _ (fun _=>bZ _) _),⟨mD,trivial⟩⟩
def aVV:=fun a b c d e f g i j k l=>aIF a b c d e f g i|>.t j|>.f k|>.f l ⟨(aN _ (fun _=>bZ _) _),⟨mD,trivial⟩⟩
def aVW:=fun a b c d e f g i j k l m n=>aIF a b c d e f i j|>.f k|>.t l g m n ⟨(aN _ (fun _=>bZ _) _),⟨mD,trivial⟩⟩
def aVX:=fun a b c d e f g i j k=>aIF a b c d e f g i|>.f j|>.f k ⟨(aN _ (fun _=>bZ _) _),⟨mD,trivial⟩⟩
def aTd(k:List Node)(l m:List Int)(b:List ONode)(v:Int)(w:List Pat)(x n o:Int)(e:List Int)(p:List Pat)(c d q:Int)(a:List Pat):=tT 1 (xF k l m b v w x n o e p c d q a)<|gd 5 59 (q<x) (aHR 6 w q<|fun r s t u=>.y fun f:Int=>.y fun g:Int=>.y fun i:aC=>.y fun j:List Pat=>.i [rn 4,.reg (rd 4 [.call (.agg [(nI f),(nI g),(aA i),(iP j)]) (aG [oC 0 [(iN k),(.gl 3 4 0 b.length false),(iI l),(iI m)],oC 1 [(nI n),(nI o),(iI e),(iP p)],oC 2 [(nI c),(nI d),.nils,(.gl 4 4 0 a.length false)],oL 3 4 (map ONode.av b),oL 4 4 (av a),oC 5 [(nI r),(nI s),(aA t),(iP u)]] 7),.d,.app (av (a++ [(Pat.mk f g i j)])) (a++ [(Pat.mk f g i j)]).length,.d,.d])] [hA (Spec PP (.enter 206 [(.ptr 0 0),(.agg [(nI r),(nI s),(aA t),(iP u)])]) (aG [oC 0 [(iN k),(.gl 3 4 0 b.length false),(iI l),(iI m)],oC 1 [(nI n),(nI o),(iI e),(iP p)],oC 2 [(nI c),(nI d),.nils,(.gl 4 4 0 a.length false)],oL 3 4 (map ONode.av b),oL 4 4 (av a),oC 5 [(nI r),(nI s),(aA t),(iP u)]] 7) (.ret (.agg [(nI f),(nI g),(aA i),(iP j)])) (aG [oC 0 [(iN k),(.gl 3 4 0 b.length false),(iI l),(iI m)],oC 1 [(nI n),(nI o),(iI e),(iP p)],oC 2 [(nI c),(nI d),.nils,(.gl 4 4 0 a.length false)],oL 3 4 (map ONode.av b),oL 4 4 (av a),oC 5 [(nI r),(nI s),(aA t),(iP u)]] 7)),hB aH a,hA (length (a++ [(Pat.mk f g i j)]) ≤1000000),hC aH a [(Pat.mk f g i j)],hE aH a [(Pat.mk f g i j)],hr (AV.gl 4 4 0 a.length false),hr (AV.gl 4 4 0 a.length false)]<|gw 3 70 (q+1)<|.W 3 8 [1,2,3,7] (xF k l m b v w x n o e p c d (q+1) (a++ [(Pat.mk f g i j)])))<|gY 12 2 3 4 4 aH mD a false<|.i [.reg (rd 7 (.app (map ONode.av (b++ [(ONode.mk c d KV.nil a)])) (b++ [(ONode.mk c d KV.nil a)]).length::rd 3 []))] [hb ONode.av b,hA (length (b++ [(ONode.mk c d KV.nil a)]) ≤1000000),hc ONode.av b [(ONode.mk c d KV.nil a)],he ONode.av b [(ONode.mk c d KV.nil a)]]<|gl 12 aR e<|.W 4 7 [6] (aIE k l m b v e (e.length:Int) (b++ [(ONode.mk c d KV.nil a)]))
def aVY:=fun a b c d e f g i j k l m n o p q r s t u v w x y z A B C D=>aTd a b c d e f g i j k l m n o p|>.t y q r s t z A u v w x B C D ⟨(aN _ (fun _=>bZ _) _),⟨mD,trivial⟩⟩
def aVZ:=fun a b c d e f g i j k l m n o p q r=>aTd a b c d e f g i j k l m n o p|>.f q r ⟨(aN _ (fun _=>bZ _) _),trivial⟩
def aTe(d:List Node)(e f:List Int)(c:List ONode)(k:Int)(g:List Int)(i:Int)(b:List ONode):=tT 1 (aIE d e f c k g i b)<|gd 5 14 (0<i) (gX aR 6 g 0<|fun a=>.y fun j:List Node=>gk 7 (.enter 144 [(.ptr 0 0),(nI a)]) [oC 0 [(iN d),(.gl 1 4 0 b.length false),(iI e),(iI f)],oL 1 4 (map ONode.av b)] 2 (nI (b.length:Int)) [oC 0 [(iN d),(.gl 2 4 0 (b++map Node.o j).length false),(iI e),(iI f)],oL 2 4 (map ONode.av (b++map Node.o j))] 3<|.W 2 3 [2] (aS9 d e f c k (b.length:Int) g i (b++map Node.o j)))<|.y fun a:ONode=>.i [rn 11,.lw 1 (map ONode.av (set b c.length (ONode.mk a.op a.n (KV.row []) a.pats)))] [.a (b[c.length]?=some a) (p':=(map ONode.av b) ≠ []) aRt,.a (b[c.length]?=some a∧a.kv=KV.nil) (p':=VW (map ONode.av b) (map ONode.av (set b c.length (ONode.mk a.op a.n (KV.row []) a.pats)))) fun⟨ha,hb⟩=>(aZb ha hb)]<|.i [.cset 0 1 (.gl 1 4 0 (set b c.length (ONode.mk a.op a.n (KV.row []) a.pats)).length false)] [.q (p:=(AV.gl 1 4 0 b.length false) = (.gl 1 4 0 (set b c.length (ONode.mk a.op a.n (KV.row []) a.pats)).length false)) (dJ (length_set ..).symm)]<|.E 0 2 [1] (nI (c.length:Int)) [oC 0 [(iN d),(.gl 1 4 0 (set b c.length (ONode.mk a.op a.n (KV.row []) a.pats)).length false),(iI e),(iI f)],oL 1 4 (map ONode.av (set b c.length (ONode.mk a.op a.n (KV.row []) a.pats)))] 2
def aV0:=fun a b c d e f g i j k l m n o=>aTe a b c d e f g i|>.t l j m n k o ⟨(aN _ (fun _=>bZ _) _),trivial⟩
def aV1:=fun b c d e f g i j k l a m=>aTe b c d e f g i j|>.f l k a ⟨a,m⟩ ⟨(aN _ (fun _=>bZ _) _),trivial⟩
def aTf(f:List Node)(g i:List Int)(d:List ONode)(n:Int)(k:List Int)(l:Int)(b:List ONode)(c:List Int)(e:Value)(j:Int):=tT 1 (aCm f g i d n k l b c e j)<|gd 5 14 (j<l) (gX aR 6 k j<|fun a=>.y fun m:List Node=>gk 7 (.enter 144 [(.ptr 0 0),(nI a)]) [oC 0 [(iN f),(.gl 1 4 0 b.length false),(iI g),(iI i)],oL 1 4 (map ONode.av b),(2,(.lstv e 1 (jI c)),true)] 3 (nI (b.length:Int)) [oC 0 [(iN f),(.gl 3 4 0 (b++map Node.o m).length false),(iI g),(iI i)],(2,(.lstv e 1 (jI c)),true),oL 3 4 (map ONode.av (b++map Node.o m))] 4<|.W 2 4 [3,2] (aTa f g i d n (b.length:Int) k l (b++map Node.o m) c e j))<|.y fun a:ONode=>.i [rn 11,.vfrz 2 1 (map ONode.av (set b d.length (ONode.mk a.op a.n (KV.row c) a.pats)))] [.a (b[d.length]?=some a) (p':=(map ONode.av b) ≠ []) aRt,hk aR c,.a (b[d.length]?=some a∧a.kv=KV.val e) (p':=VQ e 1 (jI c) (map ONode.av b) (map ONode.av (set b d.length (ONode.mk a.op a.n (KV.row c) a.pats)))) fun⟨ha,hb⟩=>(aZc ha hb)]<|.i [.cset 0 1 (.gl 1 4 0 (set b d.length (ONode.mk a.op a.n (KV.row c) a.pats)).length false)] [.q (p:=(AV.gl 1 4 0 b.length false) = (.gl 1 4 0 (set b d.length (ONode.mk a.op a.n (KV.row c) a.pats)).length false)) (dJ (length_set ..).symm)]<|.E 0 3 [1] (nI (d.length:Int)) [oC 0 [(iN f),(.gl 1 4 0 (set b d.length (ONode.mk a.op a.n (KV.row c) a.pats)).length false),(iI g),(iI i)],oL 1 4 (map ONode.av (set b d.length (ONode.mk a.op a.n (KV.row c) a.pats)))] 2
def aV2:=fun a b c d e f g i j k l m n o p q r=>aTf a b c d e f g i j k l|>.t o m p q n r ⟨(aN _ (fun _=>bZ _) _),⟨kk,trivial⟩⟩
def aV3:=fun b c d e f g i j k l m n o a p=>aTf b c d e f g i j k l m|>.f o n a ⟨a,p⟩ ⟨(aN _ (fun _=>bZ _) _),trivial⟩
theorem aV4 (fr:List Node)(fs cs:List Int)(L:List ONode)(at0 n10:Int)(c1_2:List Int)(t12:Int)(l1:List ONode)(ix:Nat)(w_op w_n:Int)(w_pats:List Pat)(h0:0≤ ((L.length:Nat) :Int))(h1: ((L.length:Nat) :Int) < ((l1.length:Nat) :Int))(h2: ((L.length:Nat) :Int).toNat=ix)(h3:ix<length l1)(h4:length (([] :List Int) ++ [n10]) ≤1000000){res:Res}{h':Hp}(hk:∀ua un uc,Ends PP 1 (let u:=Value.slice ua un uc; (aCm fr fs cs L at0 c1_2 t12 (set l1 ix (ONode.mk w_op w_n (KV.val u) w_pats)) (([] :List Int) ++ [n10]) u 1)).as res h') :
  Ends PP 1 (aOt fr fs cs L at0 n10 c1_2 t12 l1 ix w_op w_n w_pats).as res h':=
 aEV (n1:=5) (t:=fun u=> (aCm fr fs cs L at0 c1_2 t12 (set l1 ix (ONode.mk w_op w_n (KV.val u) w_pats)) (([] :List Int) ++ [n10]) u 1)) (k:=1) (b:=4) (i:=ix) (o:=2) (ys:=fun u=> (map ONode.av (set l1 ix (ONode.mk w_op w_n (KV.val u) w_pats)))) (ks:=[1,4]) (ps:=fun u=>[NQ (set (map ONode.av l1) ix (.agg [(nI w_op),(nI w_n),(.gl 4 1 0 (([] :List Int) ++ [n10]).length false),(iP w_pats)])) ix 2 4 1 (jI (([] :List Int) ++ [n10])).length u (map ONode.av (set l1 ix (ONode.mk w_op w_n (KV.val u) w_pats))),0≤ ((L.length:Nat) :Int),((L.length:Nat) :Int) < ((l1.length:Nat) :Int),(set (map ONode.av l1) ix (.agg [(nI w_op),(nI w_n),(.gl 2 1 0 ([] :List Int).length false),(iP w_pats)]))[(0+ ((L.length:Nat) :Int).toNat)]?=some (.agg [(nI w_op),(nI w_n),(.gl 2 1 0 ([] :List Int).length false),(iP w_pats)]),0+ ([] :List Int).length≤length (jI ([] :List Int)),length (([] :List Int) ++ [n10]) ≤1000000,take ([] :List Int).length (drop 0 (jI ([] :List Int))) ++ (jI [n10]) = (jI (([] :List Int) ++ [n10])),([] :List Int).length+length (jI [n10]) =length (([] :List Int) ++ [n10]),0≤ ((L.length:Nat) :Int),((L.length:Nat) :Int) < ((l1.length:Nat) :Int),(set (map ONode.av l1) ix (.agg [(nI w_op),(nI w_n),(.gl 2 1 0 ([] :List Int).length false),(iP w_pats)]))[(0+ ((L.length:Nat) :Int).toNat)]?=some (.agg [(nI w_op),(nI w_n),(.gl 2 1 0 ([] :List Int).length false),(iP w_pats)]),pQ (.agg [(nI w_op),(nI w_n),(.gl 2 1 0 ([] :List Int).length false),(iP w_pats)]) 2 [(.gl 4 1 0 (([] :List Int) ++ [n10]).length false)] =some (.agg [(nI w_op),(nI w_n),(.gl 4 1 0 (([] :List Int) ++ [n10]).length false),(iP w_pats)]),(AV.gl 1 4 0 l1.length false) = (AV.gl 1 4 0 l1.length false),(AV.gl 1 4 0 l1.length false) = (AV.gl 1 4 0 l1.length false),(set (map ONode.av l1) ix (.agg [(nI w_op),(nI w_n),(.gl 2 1 0 ([] :List Int).length false),(iP w_pats)])).set (0+ ((L.length:Nat) :Int).toNat) (.agg [(nI w_op),(nI w_n),(.gl 4 1 0 (([] :List Int) ++ [n10]).length false),(iP w_pats)]) = (set (map ONode.av l1) ix (.agg [(nI w_op),(nI w_n),(.gl 4 1 0 (([] :List Int) ++ [n10]).length false),(iP w_pats)])),(AV.gl 1 4 0 l1.length false) = (.gl 1 4 0 (set l1 ix (ONode.mk w_op w_n (KV.val u) w_pats)).length false),(AV.gl 1 4 0 l1.length false) = (.gl 1 4 0 (set l1 ix (ONode.mk w_op w_n (KV.val u) w_pats)).length false),(AV.gl 1 4 0 l1.length false) = (.gl 1 4 0 (set l1 ix (ONode.mk w_op w_n (KV.val u) w_pats)).length false)]) (is:=[.reg [.d,.d,.d,.d,.d,.d,.d,.d,.d,.d,.ans (.ix),.d,.ans (.idx (.agg [(nI w_op),(nI w_n),(.gl 2 1 0 ([] :List Int).length false),(iP w_pats)])),.d,.d,.app (jI (([] :List Int) ++ [n10])) (([] :List Int) ++ [n10]).length,.ans (.ix),.d,.st (.agg [(nI w_op),(nI w_n),(.gl 2 1 0 ([] :List Int).length false),(iP w_pats)]) (.agg [(nI w_op),(nI w_n),(.gl 4 1 0 (([] :List Int) ++ [n10]).length false),(iP w_pats)])],.lset 1 (set (map ONode.av l1) ix (.agg [(nI w_op),(nI w_n),(.gl 4 1 0 (([] :List Int) ++ [n10]).length false),(iP w_pats)])),.run 1]) (is2:=fun u=>[.set 23 (.gl 1 4 0 (set l1 ix (ONode.mk w_op w_n (KV.val u) w_pats)).length false),.set 28 (.gl 1 4 0 (set l1 ix (ONode.mk w_op w_n (KV.val u) w_pats)).length false),.cset 0 1 (.gl 1 4 0 (set l1 ix (ONode.mk w_op w_n (KV.val u) w_pats)).length false),.run 5]) (fun u=>by kernel_rfl) (fun u=>by kernel_rfl) (fun u=> ⟨(aN _ (fun _=>bZ _) _),⟨(aN _ (fun _=>rfl) _),trivial⟩⟩) (fun u=> ⟨(aYw [(nI w_op),(nI w_n)] [(iP w_pats)] h3 (length_map ..) (by simp) rfl),h0,h1,(aIC h2 h3),(aHM _ _),h4,(aHN _ _ _),(aHO _ _ _),h0,h1,(aIC h2 h3),rfl,rfl,rfl,(aS5 h2),(dJ (length_set ..).symm),(dJ (length_set ..).symm),(dJ (length_set ..).symm)⟩) hk
theorem aV5 (fr:List Node)(fs cs:List Int)(L:List ONode)(at0 n10:Int)(c1_2:List Int)(t12:Int)(l1:List ONode)(k2:List Int)(t13:Int)(ix:Nat)(w_op w_n:Int)(w_pats:List Pat)(h0:0≤ ((L.length:Nat) :Int))(h1: ((L.length:Nat) :Int) < ((l1.length:Nat) :Int))(h2: ((L.length:Nat) :Int).toNat=ix)(h3:ix<length l1)(h4:length (k2++ [n10]) ≤1000000)(h5: (IntKind.i64.wrap (t13+ (1:Int))) = (t13+ (1:Int))){res:Res}{h':Hp}(hk:∀ua un uc,Ends PP 1 (let u:=Value.slice ua un uc; (aCm fr fs cs L at0 c1_2 t12 (set l1 ix (ONode.mk w_op w_n (KV.val u) w_pats)) (k2++ [n10]) u (t13+ (1:Int)))).as res h') :
  Ends PP 1 (aOu fr fs cs L at0 n10 c1_2 t12 l1 k2 t13 ix w_op w_n w_pats).as res h':=
 aEV (n1:=5) (t:=fun u=> (aCm fr fs cs L at0 c1_2 t12 (set l1 ix (ONode.mk w_op w_n (KV.val u) w_pats)) (k2++ [n10]) u (t13+ (1:Int)))) (k:=1) (b:=4) (i:=ix) (o:=2) (ys:=fun u=> (map ONode.av (set l1 ix (ONode.mk w_op w_n (KV.val u) w_pats)))) (ks:=[1,4]) (ps:=fun u=>[NQ (set (map ONode.av l1) ix (.agg [(nI w_op),(nI w_n),(.gl 4 1 0 (k2++ [n10]).length false),(iP w_pats)])) ix 2 4 1 (jI (k2++ [n10])).length u (map ONode.av (set l1 ix (ONode.mk w_op w_n (KV.val u) w_pats))),0≤ ((L.length:Nat) :Int),((L.length:Nat) :Int) < ((l1.length:Nat) :Int),(set (map ONode.av l1) ix (.agg [(nI w_op),(nI w_n),(.gl 2 1 0 k2.length false),(iP w_pats)]))[(0+ ((L.length:Nat) :Int).toNat)]?=some (.agg [(nI w_op),(nI w_n),(.gl 2 1 0 k2.length false),(iP w_pats)]),0+k2.length≤length (jI k2),length (k2++ [n10]) ≤1000000,take k2.length (drop 0 (jI k2)) ++ (jI [n10]) = (jI (k2++ [n10])),k2.length+length (jI [n10]) =length (k2++ [n10]),0≤ ((L.length:Nat) :Int),((L.length:Nat) :Int) < ((l1.length:Nat) :Int),(set (map ONode.av l1) ix (.agg [(nI w_op),(nI w_n),(.gl 2 1 0 k2.length false),(iP w_pats)]))[(0+ ((L.length:Nat) :Int).toNat)]?=some (.agg [(nI w_op),(nI w_n),(.gl 2 1 0 k2.length false),(iP w_pats)]),pQ (.agg [(nI w_op),(nI w_n),(.gl 2 1 0 k2.length false),(iP w_pats)]) 2 [(.gl 4 1 0 (k2++ [n10]).length false)] =some (.agg [(nI w_op),(nI w_n),(.gl 4 1 0 (k2++ [n10]).length false),(iP w_pats)]),(AV.gl 1 4 0 l1.length false) = (AV.gl 1 4 0 l1.length false),(AV.gl 1 4 0 l1.length false) = (AV.gl 1 4 0 l1.length false),(set (map ONode.av l1) ix (.agg [(nI w_op),(nI w_n),(.gl 2 1 0 k2.length false),(iP w_pats)])).set (0+ ((L.length:Nat) :Int).toNat) (.agg [(nI w_op),(nI w_n),(.gl 4 1 0 (k2++ [n10]).length false),(iP w_pats)]) = (set (map ONode.av l1) ix (.agg [(nI w_op),(nI w_n),(.gl 4 1 0 (k2++ [n10]).length false),(iP w_pats)])),(AV.gl 1 4 0 l1.length false) = (.gl 1 4 0 (set l1 ix (ONode.mk w_op w_n (KV.val u) w_pats)).length false),(AV.gl 1 4 0 l1.length false) = (.gl 1 4 0 (set l1 ix (ONode.mk w_op w_n (KV.val u) w_pats)).length false),(AV.gl 1 4 0 l1.length false) = (.gl 1 4 0 (set l1 ix (ONode.mk w_op w_n (KV.val u) w_pats)).length false),(nI (IntKind.i64.wrap (t13+ (1:Int)))) = (nI (t13+ (1:Int)))]) (is:=[.reg [.d,.d,.d,.d,.d,.d,.d,.d,.d,.d,.ans (.ix),.d,.ans (.idx (.agg [(nI w_op),(nI w_n),(.gl 2 1 0 k2.length false),(iP w_pats)])),.d,.d,.app (jI (k2++ [n10])) (k2++ [n10]).length,.ans (.ix),.d,.st (.agg [(nI w_op),(nI w_n),(.gl 2 1 0 k2.length false),(iP w_pats)]) (.agg [(nI w_op),(nI w_n),(.gl 4 1 0 (k2++ [n10]).length false),(iP w_pats)])],.lset 1 (set (map ONode.av l1) ix (.agg [(nI w_op),(nI w_n),(.gl 4 1 0 (k2++ [n10]).length false),(iP w_pats)])),.run 1]) (is2:=fun u=>[.set 23 (.gl 1 4 0 (set l1 ix (ONode.mk w_op w_n (KV.val u) w_pats)).length false),.set 28 (.gl 1 4 0 (set l1 ix (ONode.mk w_op w_n (KV.val u) w_pats)).length false),.cset 0 1 (.gl 1 4 0 (set l1 ix (ONode.mk w_op w_n (KV.val u) w_pats)).length false),.run 2,.set 38 (nI (t13+ (1:Int))),.run 3]) (fun u=>by kernel_rfl) (fun u=>by kernel_rfl) (fun u=> ⟨(aN _ (fun _=>bZ _) _),⟨(aN _ (fun _=>rfl) _),trivial⟩⟩) (fun u=> ⟨(aYw [(nI w_op),(nI w_n)] [(iP w_pats)] h3 (length_map ..) (by simp) rfl),h0,h1,(aIC h2 h3),(aHM _ _),h4,(aHN _ _ _),(aHO _ _ _),h0,h1,(aIC h2 h3),rfl,rfl,rfl,(aS5 h2),(dJ (length_set ..).symm),(dJ (length_set ..).symm),(dJ (length_set ..).symm),(congrArg (AV.int .i64) h5)⟩) hk
abbrev MC (fr:List Node)(fs cs:List Int)(b n:Nat) :AObj:=.cells (putCells .leaf 0 [.ilst 4 (map Node.av fr) false,.gl b 4 0 n false,.ilst 1 (map aR fs) false,.ilst 1 (map aR cs) false]) 4 [] false
abbrev MHp (fr:List Node)(fs cs:List Int)(L:List ONode) :List (Nat×AObj×Bool) :=[(0,MC fr fs cs 1 (length L),false),(1,OL L,true)]
abbrev PtC (f n:Int)(s:aC)(ps:List Pat) :AObj:=.cells (putCells .leaf 0 [.int .i64 f,.int .i64 n,aA s,.ilst 4 (av ps) false]) 4 [] false
abbrev aZ5 (f v:Int)(b n:Nat) :AObj:=.cells (putCells .leaf 0 [.int .i64 f,.int .i64 v,.str 0 0,.gl b 4 0 n false]) 4 [] false
abbrev XC (o v:Int)(b n:Nat) :AObj:=.cells (putCells .leaf 0 [.int .i64 o,.int .i64 v,.nils,.gl b 4 0 n false]) 4 [] false
abbrev ZPt :AObj:=.cells (putCells .leaf 0 [.int .i64 0,.int .i64 0,.str 0 0,.nils]) 4 [] false
def MPS (fr:List Node)(fs cs:List Int)(L:List ONode)(p:Pat) :Prop:=∀p',aS2 p=true→aNb cs p=some p'→Spec PP (.enter 206 [.ptr 0 0,Pat.av p]) (aG (MHp fr fs cs L) 2) (.ret (Pat.av p')) (aG (MHp fr fs cs L) 2)
section
variable (fr :List Node) (fs cs:List Int) (L:List ONode)
theorem aK6 (f n:Int)(s:aC)(ps:List Pat)(v:Int)(hpl:ps.length<1000000)(ih:∀p∈ps,MPS fr fs cs L p) :∀ (t:List Pat) (i:Nat) (acc t':List Pat),ps.drop i=t→acc.length=i→qF t=true→pI cs t=some t' →
  Ends PP 2 (aEX fr fs cs L f n s ps v (i:Int) acc).as (.ret (.agg [.int .i64 f,.int .i64 v,.str 0 0,.ilst 4 (av (acc++t')) false])) (aG (MHp fr fs cs L) 2)
 | [],i,acc,t',h,ha,hn,ht=>by
  have:=bL h;cases ht;rw [append_nil];exact aVT fr fs cs L f n s ps v i acc sd
 | .mk f1 n1 s1 ps1::t,i,acc,t',h,ha,hn,ht=>by
  obtain⟨g1,g2,g3⟩ :=bK h;have hi:= (List.getElem?_eq_some_iff.1 g1).1;rw [qF,and_eq_true]at hn;simp only [pI]at ht;split at ht
  · rename_i p' hp';split at ht
    · rename_i t1 ht1;cases ht;obtain⟨f2,n2,s2,ps2⟩ :=p';have hs:=ih (.mk f1 n1 s1 ps1) (mem_of_getElem? g1) _ hn.1 hp'
      have hs':=aBb (ks:=[0,1]) (n2:=7) (args':=[.ptr 0 0,Pat.av (.mk f1 n1 s1 ps1)])
       (lc:=[(0,MC fr fs cs 1 (length L),false),(1,OL L,true),(2,ZPt,false),(3,aZ5 f v 4 (length acc),false),(4,.lst 4 (av acc),true),(5,PtC f1 n1 s1 ps1,false)])
       (lc':=[(0,MC fr fs cs 1 (length L),false),(1,OL L,true),(2,ZPt,false),(3,aZ5 f v 4 (length acc),false),(4,.lst 4 (av acc),true),(5,PtC f1 n1 s1 ps1,false)])
       hs (by kernel_rfl) (aYy _) (by kernel_rfl) (by kernel_rfl) ⟨zT L,trivial⟩ (by kernel_rfl) ⟨zT L,trivial⟩
      refine(aVS fr fs cs L f n s ps v i acc f1 n1 s1 ps1 f2 n2 s2 ps2 sd sd sd hs' (by simp;omega) sd).ends ?_;have:=aK6 f n s ps v hpl ih t (i+1) (acc++ [.mk f2 n2 s2 ps2]) t1 g2 (by simp [ha]) hn.2 ht1;rw [append_assoc]at this;exact this
    ·cases ht
  ·cases ht
mutual
theorem aTg :∀ (p:Pat),cR p<1000000→MPS fr fs cs L p
 | .mk f n s ps,h,p',hn,hp'=>by
  simp only [cR]at h;have:=iG ps;refine⟨(aS7 fr fs cs L f n s ps).as.fr,by kernel_rfl,?_⟩;rw [aS2,and_eq_true,decide_eq_true_eq]at hn;simp only [aNb]at hp';split at hp'
  · rename_i n' hn';split at hp'
    · rename_i ps' hps';cases hp';have hloop:=aK6 fr fs cs L f n s ps n' (by omega) (aIG ps (by omega)) ps 0 [] ps' rfl rfl hn.2 hps';rw [List.nil_append]at hloop;have E:Ends PP 2 (aS7 fr fs cs L f n s ps).as (.ret (Pat.av (.mk f n' s ps'))) (aG (MHp fr fs cs L) 2) :=by
       rw [hn.1]at hloop ⊢;unfold aGj at hn';split at hn'
       · rename_i hf;split at hn'
         · rename_i h0;exact(aVQ fr fs cs L f n [] ps n' (by simp [hf]) h0 hn').ends hloop
         ·cases hn'
       · rename_i hf;cases hn';exact(aVR fr fs cs L f n [] ps (by simp [hf])).ends hloop
      exact Eq.mp (by kernel_rfl) E
    ·cases hp'
  ·cases hp'
theorem aIG :∀ (ps:List Pat),bF ps<1000000→∀p∈ps,MPS fr fs cs L p
 | [],_,p,hp=>by cases hp
 | q::ps,h,p,hp=>by
  simp only [bF]at h;rcases List.mem_cons.1 hp with e|hp
  ·rw [e];exact aTg q (by omega)
  ·exact aIG ps (by omega) p hp
end
end
def MNS (p:Prog)(fs cs:List Int)(at0:Int)(L:List ONode)(ns:List Node) :Prop:=
 aF9 PP 1 (.enter 144 [.ptr 0 0,.int .i64 at0]) (aG (MHp p.nodes fs cs L) 2) (.ret (.int .i64 ((length L:Nat) :Int))) (aG (MHp p.nodes fs cs (L++map Node.o ns)) 2)
def aTh (p:Prog)(fs cs:List Int)(L:List ONode)(s:TS)(ns:List Node) :Prop:=Ends PP 1 s.as (.ret (.int .i64 ((length L:Nat) :Int))) (aG (MHp p.nodes fs cs (L++map Node.o ns)) 2)
section
variable (p :Prog) (fs cs:List Int) (L:List ONode) (at0:Int)
theorem aK7 (x:Node)(v:Int)(hps:bF x.pats<1000000)(hl:L.length<1000000) :∀ (t:List Pat) (i:Nat) (acc t':List Pat),x.pats.drop i=t→acc.length=i→qF t=true→pI cs t=some t' →
  LeadsM PP 1 (xF p.nodes fs cs L at0 x.pats ((length x.pats:Nat) :Int) x.op x.n x.kids x.pats x.op v (i:Int) acc).as (aIE p.nodes fs cs L at0 x.kids ((length x.kids:Nat) :Int) (L++ [⟨x.op,v,.nil,acc++t'⟩])).as
 | [],i,acc,t',h,ha,hn,ht=>by
  have:=bL h;cases ht;rw [append_nil];exact aVZ p.nodes fs cs L at0 x.pats _ x.op x.n x.kids x.pats x.op v i acc sd (by simp;omega)
 | .mk f1 n1 s1 ps1::t,i,acc,t',h,ha,hn,ht=>by
  obtain⟨g1,g2,g3⟩ :=bK h;have hi:= (List.getElem?_eq_some_iff.1 g1).1;have:=iG x.pats;rw [qF,and_eq_true]at hn;simp only [pI]at ht;split at ht
  · rename_i p' hp';split at ht
    · rename_i t1 ht1;cases ht;obtain⟨f2,n2,s2,ps2⟩ :=p';have hs:=aIG p.nodes fs cs L x.pats hps (.mk f1 n1 s1 ps1) (mem_of_getElem? g1) _ hn.1 hp'
      have hs':=aBb (ks:=[0,3]) (n2:=7) (args':=[.ptr 0 0,Pat.av (.mk f1 n1 s1 ps1)])
       (lc:=[(0,MC p.nodes fs cs 3 (length L),false),(1,aYv x,false),(2,XC x.op v 4 (length acc),false),(3,OL L,true),(4,.lst 4 (av acc),true),(5,PtC f1 n1 s1 ps1,false)])
       (lc':=[(0,MC p.nodes fs cs 3 (length L),false),(1,aYv x,false),(2,XC x.op v 4 (length acc),false),(3,OL L,true),(4,.lst 4 (av acc),true),(5,PtC f1 n1 s1 ps1,false)])
       hs (by kernel_rfl) (aYy _) (by kernel_rfl) (by kernel_rfl) ⟨zT L,trivial⟩ (by kernel_rfl) ⟨zT L,trivial⟩
      have h1:=aVY p.nodes fs cs L at0 x.pats ((length x.pats:Nat) :Int) x.op x.n x.kids x.pats x.op v i acc f1 n1 s1 ps1 f2 n2 s2 ps2 sd sd sd hs' (by simp;omega) sd;have:=aK7 x v hps hl t (i+1) (acc++ [.mk f2 n2 s2 ps2]) t1 g2 (by simp [ha]) hn.2 ht1;rw [append_assoc]at this;exact h1.trans this
    ·cases ht
  ·cases ht
theorem aQm (n10:Int)(ks:List Int)(t12:Int)(l:List ONode){ix:Nat}{a b:Int}{P:List Pat}(h:l[ix]?=some ⟨a,b,.nil,P⟩) :LeadsM PP 1 (aS9 p.nodes fs cs L at0 n10 ks t12 l).as (aOt p.nodes fs cs L at0 n10 ks t12 l ix a b P).as:=
 aZr (k:=1) (e0:=4) (e:=1) (by kernel_rfl) (by kernel_rfl) (aYx (f:=ONode.av) [.int .i64 a,.int .i64 b] [.ilst 4 (av P) false] h rfl) (by kernel_rfl)
theorem aQn (n10:Int)(ks:List Int)(t12:Int)(l:List ONode)(k2:List Int)(w:Value)(i:Int){ix:Nat}{a b:Int}{P:List Pat}(h:l[ix]?=some ⟨a,b,.val w,P⟩) :LeadsM PP 1 (aTa p.nodes fs cs L at0 n10 ks t12 l k2 w i).as (aOu p.nodes fs cs L at0 n10 ks t12 l k2 i ix a b P).as:=
 aVO (k:=1) (b:=2) (e0:=4) (e:=1) (u:=w) (xs:=map aR k2) (n:=length k2) (by kernel_rfl) (by kernel_rfl) (by decide) (length_map ..) (aYx (f:=ONode.av) [.int .i64 a,.int .i64 b] [.ilst 4 (av P) false] h rfl) (by kernel_rfl)
variable (k :Nat) (ih:∀ (M:List ONode) (c:Int) (ns:List Node),dZ p fs cs k M.length c=some ns→MNS p fs cs c M ns) (x:Node) (v:Int) (P:List Pat) (hk:x.kids.length<1000000)
include ih hk
theorem aK8 :∀ (ts:List Int) (i:Nat) (w:Value) (r0:List Node) (k2 ks:List Int) (r:List Node),x.kids.drop i=ts→k2.length=i→mO (dZ p fs cs k) (L.length+1+r0.length) ts=some (ks,r) →
  aTh p fs cs L (aCm p.nodes fs cs L at0 x.kids ((length x.kids:Nat) :Int) (L++ ⟨x.op,v,.val w,P⟩ ::map Node.o r0) k2 w (i:Int)) (⟨x.op,v,k2++ks,P⟩ :: (r0++r))
 | [],i,w,r0,k2,ks,r,h,hl,hm=>by
  have:=bL h;cases hm;have h1:=aV3 p.nodes fs cs L at0 x.kids ((length x.kids:Nat) :Int) (L++ ⟨x.op,v,.val w,P⟩ ::map Node.o r0) k2 w i ⟨x.op,v,.val w,P⟩ sd (aBn ..) rfl;rw [aBo]at h1;rw [append_nil,append_nil];exact h1
 | c :: ts,i,w,r0,k2,ks,r,h,hl,hm=>by
  obtain⟨g1,g2,g3⟩ :=bK h;have hi:= (List.getElem?_eq_some_iff.1 g1).1;simp only [mO]at hm;split at hm
  · rename_i ns hns;split at hm
    · rename_i ks1 r1 hm1;cases hm;have hlen: (L++ (⟨x.op,v,.val w,P⟩ :ONode) ::map Node.o r0).length=L.length+1+r0.length:=by simp;omega
      have hs:=ih (L++ ⟨x.op,v,.val w,P⟩ ::map Node.o r0) c ns (by rw [hlen];exact hns);unfold MNS at hs
      have hs':=lQ (m:=1) (ks:=[0,1]) (n2:=3) (n3:=4) (v':=.int .i64 ((length (L++ (⟨x.op,v,.val w,P⟩ :ONode) ::map Node.o r0) :Nat) :Int)) (args':=[.ptr 0 0,.int .i64 c])
       (lc:=[(0,MC p.nodes fs cs 1 (length (L++ (⟨x.op,v,.val w,P⟩ :ONode) ::map Node.o r0)),false),(1,OL (L++ ⟨x.op,v,.val w,P⟩ ::map Node.o r0),true),(2,.lstv w 1 (map aR k2),true)])
       (lc':=[(0,MC p.nodes fs cs 3 (length ((L++ (⟨x.op,v,.val w,P⟩ :ONode) ::map Node.o r0) ++map Node.o ns)),false),(2,.lstv w 1 (map aR k2),true),(3,OL ((L++ ⟨x.op,v,.val w,P⟩ ::map Node.o r0) ++map Node.o ns),true)])
       hs (by rfl) (by rfl) (by kernel_rfl) (by rfl) (by rfl) (by kernel_rfl) (by kernel_rfl) ⟨zT _,trivial⟩ (by kernel_rfl) ⟨zT _,trivial⟩
      have h0:=aV2 p.nodes fs cs L at0 x.kids ((length x.kids:Nat) :Int) (L++ ⟨x.op,v,.val w,P⟩ ::map Node.o r0) k2 w i c ns sd sd sd hs';have e2: (L++ (⟨x.op,v,.val w,P⟩ :ONode) ::map Node.o r0) ++map Node.o ns=L++ ⟨x.op,v,.val w,P⟩ ::map Node.o (r0++ns) :=by simp
      rw [e2,hlen]at h0;refine(h0.trans (aQn p fs cs L at0 _ _ _ _ k2 w i (aBn L _ _))).ends ?_;refine aV5 p.nodes fs cs L at0 _ x.kids _ _ k2 i (length L) x.op v P (by omega) (by simp;omega) (by omega) (by simp) (by simp;omega) sd (fun ua un uc=>?_);have:=aK8 ts (i+1) (.slice ua un uc) (r0++ns) (k2++ [((L.length+1+r0.length:Nat) :Int)]) ks1 r1 g2 (by simp [hl]) (by rw [length_append,←Nat.add_assoc];exact hm1);dsimp only;rw [aBo];simp only [append_assoc,List.singleton_append]at this ⊢;exact this
    ·cases hm
  ·cases hm
theorem aTi (ks:List Int)(r:List Node)(hm:mO (dZ p fs cs k) (L.length+1) x.kids=some (ks,r)) :
  aTh p fs cs L (aIE p.nodes fs cs L at0 x.kids ((length x.kids:Nat) :Int) (L++ [⟨x.op,v,.nil,P⟩])) (⟨x.op,v,ks,P⟩ ::r) :=by
 cases hx:x.kids with
 | nil=>
  rw [hx]at hm;cases hm;have h1:=aV1 p.nodes fs cs L at0 [] ((length ([] :List Int) :Nat) :Int) (L++ [⟨x.op,v,.nil,P⟩]) ⟨x.op,v,.nil,P⟩ (by simp) (aBn ..) rfl;rw [aBo]at h1;exact h1
 | cons c ts=>
  have hm0:=hm;rw [hx]at hm;simp only [mO]at hm;split at hm
  · rename_i ns hns;split at hm
    · rename_i ks1 r1 hm1;cases hm;have hlen: (L++ [(⟨x.op,v,.nil,P⟩ :ONode)]).length=L.length+1:=by simp
      have hs:=ih (L++ [⟨x.op,v,.nil,P⟩]) c ns (by rw [hlen];exact hns);unfold MNS at hs
      have hs':=lQ (m:=1) (ks:=[0,1]) (n2:=2) (n3:=3) (v':=.int .i64 ((length (L++ [(⟨x.op,v,.nil,P⟩ :ONode)]) :Nat) :Int)) (args':=[.ptr 0 0,.int .i64 c])
       (lc:=[(0,MC p.nodes fs cs 1 (length (L++ [(⟨x.op,v,.nil,P⟩ :ONode)])),false),(1,OL (L++ [⟨x.op,v,.nil,P⟩]),true)])
       (lc':=[(0,MC p.nodes fs cs 2 (length ((L++ [(⟨x.op,v,.nil,P⟩ :ONode)]) ++map Node.o ns)),false),(2,OL ((L++ [⟨x.op,v,.nil,P⟩]) ++map Node.o ns),true)])
       hs (by rfl) (by rfl) (by kernel_rfl) (by rfl) (by rfl) (by kernel_rfl) (by kernel_rfl) ⟨zT _,trivial⟩ (by kernel_rfl) ⟨zT _,trivial⟩
      have h0:=aV0 p.nodes fs cs L at0 x.kids ((length x.kids:Nat) :Int) (L++ [(⟨x.op,v,.nil,P⟩ :ONode)]) c ns (by rw [hx];simp) (by omega) (by rw [hx];rfl) hs';have e2: (L++ [(⟨x.op,v,.nil,P⟩ :ONode)]) ++map Node.o ns=L++ ⟨x.op,v,.nil,P⟩ ::map Node.o ns:=by simp
      rw [e2,hlen]at h0;rw [hx]at h0;refine(h0.trans (aQm p fs cs L at0 _ _ _ _ (aBn L _ _))).ends ?_;refine aV4 p.nodes fs cs L at0 _ (c::ts) _ _ (length L) x.op v P (by omega) (by simp;omega) (by omega) (by simp) (by simp) (fun ua un uc=>?_);have:=aK8 p fs cs L at0 k ih x v P hk ts 1 (.slice ua un uc) ns [((L.length+1:Nat) :Int)] ks1 r1 (by rw [hx];rfl) rfl hm1;rw [hx]at this;dsimp only;rw [aBo];exact this
    ·cases hm
  ·cases hm
end
theorem mNd_spec (p :Prog)(fs cs:List Int)(hT:∀x∈p.nodes,qF x.pats=true) :∀ (k:Nat) (L:List ONode) (at0:Int) (ns:List Node),dZ p fs cs k L.length at0=some ns→MNS p fs cs at0 L ns
 |0,L,at0,ns,h=>by cases h
 | k+1, L, at0, ns, h=>by
  simp only [dZ]at h;split at h
  · rename_i hh;obtain⟨hat,hlen⟩ :=hh;split at h
    · rename_i y hy;split at h
      · rename_i hb;split at h
        · rename_i n' hn';split at h
          · rename_i ps' hps';split at h
            · rename_i ks r hks;cases h;have hC:= (aK7 p fs cs L at0 y n' hb.2 hlen y.pats 0 [] ps' rfl rfl (hT y (mem_of_getElem? hy)) hps').ends (aTi p fs cs L at0 k (mNd_spec p fs cs hT k) y n' ps' hb.1 ks r hks)
              suffices hh:aTh p fs cs L (aS8 p.nodes fs cs L at0) (⟨y.op,n',ks,ps'⟩ ::r)from⟨(aS8 p.nodes fs cs L at0).as.fr,by kernel_rfl,Eq.mp (by kernel_rfl) hh⟩
              unfold mN at hn';split at hn'
              · rename_i h4;split at hn'
                · rename_i g hg;split at hn'
                  · rename_i hr;cases hn';have w1:IntKind.i64.wrap (-1-y.n) = -1-y.n:=aSB (by omega) (by omega);have w2:IntKind.i64.wrap (-1-g) = -1-g:=aSB (by omega) (by omega);have h0:=aVU p.nodes fs cs L at0 y g hat hy (by simp [h4.1]) (by simp [h4.2]) (by rw [w1];omega) (by rw [w1];exact hg);rw [w2]at h0;exact h0.ends hC
                  ·cases hn'
                ·cases hn'
              · rename_i h4;split at hn'
                · rename_i h14;split at hn'
                  · rename_i h0;exact(aVW p.nodes fs cs L at0 y n' hat hy (by simp [h14]) (by simp [h14]) h0 hn').ends hC
                  ·cases hn'
                · rename_i h14;cases hn';by_cases ho:y.op=4
                  ·exact(aVV p.nodes fs cs L at0 y hat hy (by simp [ho]) (by simp;omega) (by simp [ho])).ends hC
                  ·exact(aVX p.nodes fs cs L at0 y hat hy (by simp [ho]) (by simp [h14])).ends hC
            ·cases h
          ·cases h
        ·cases h
      ·cases h
    ·cases h
  ·cases h
theorem fS (s:aC) :∀ (l:List aC) (i:Nat),dM s l i= -1∨ ((i:Int) ≤dM s l i∧dM s l i<i+l.length∧l[(dM s l i).toNat-i]?=some s)
 | [],i=>.inl rfl
 | x ::l,i=>by
  rw [dM];by_cases e:x=s
  · rw [if_pos e];exact .inr ⟨by omega,by simp;omega,by simp [e]⟩
  · rw [if_neg e];rcases fS s l (i+1)with h| ⟨h1,h2,h3⟩
    ·exact .inl h
    · refine .inr ⟨by omega,by simp;omega,?_⟩;rw [show(dM s l (i+1)).toNat-i= ((dM s l (i+1)).toNat- (i+1)) +1 by omega];simpa using h3
def jY (T ls:List aC)(s:aC) :Int:=if dM s T 0<0 then(T.length:Int) +dM s ls 0 else dM s T 0
theorem aAC (T ls:List aC)(s:aC) : -1≤jY T ls s∧jY T ls s≤T.length+ls.length:=by
 unfold jY;have h1:=fS s T 0;have h2:=fS s ls 0;split<;>omega
def nL (T ls:List aC)(u:LUnit) :List Int:= (aE u++u.needs).map (jY T ls)
def uF (cs:List Con)(u:LUnit) :List Int:=u.cons.map (fun c=>fO c.name cs 0)
def aEY (T ls:List aC)(cs:List Con) :List LFun→List Node→List LUnit→Option (List LFun×List Node)
 |fs,ns,[] =>some (fs,ns)
 | fs,ns,u::l=>match mO (dZ (lE u) (nL T ls u) (uF cs u) u.nodes.length) ns.length (bU u)with
  |some (ks,r) =>aEY T ls cs (fs++zipWith LFun.mk (aE u) ks) (ns++r) l
  |none=>none
theorem aCn {g:Nat→Int→Option (List Node)}:∀ {cs:List Int} {len:Nat} {ks:List Int} {r:List Node},mO g len cs=some (ks,r) →ks.length=cs.length
 | [],len,ks,r,h=>by cases h;rfl
 | c ::cs,len,ks,r,h=>by
  rw [mO]at h;split at h
  · split at h
    ·rename_i h1;cases h;rw [length_cons,length_cons,aCn h1]
    ·cases h
  ·cases h
section
variable (nm :aC) (cs:List Con) (ls:List aC) (l:List LUnit) (T:List aC) (hT:T.length≤1000) (hls:ls.length≤1000) (hcs:cs.length≤1000)
include hT hls in
include hcs in
include hT hls hcs in
end
mutual
theorem aV6 {cons:List Con}{C:List Int}(hC:C.length=cons.length) :∀ (q:Pat),cS cons q=true→∃q',aNb C q=some q'∧cR q'=cR q
 | .mk f n s ps,h=>by
  rw [cS,and_eq_true]at h;obtain⟨ps',hps,hz⟩ :=aEZ hC ps h.2;have hN:∃n',aGj C f n=some n':=by
   unfold aGj;by_cases hf:f=6
   · subst hf;have hh:=h.1;simp only [cV]at hh;simp [cN]at hh;obtain⟨⟨⟨h0,h1⟩,_⟩,_⟩ :=hh;rw [if_pos rfl,if_pos h0];exact⟨_,getElem?_eq_getElem (by omega)⟩
   ·rw [if_neg hf];exact⟨_,rfl⟩
  obtain⟨n',hn⟩ :=hN;refine⟨.mk f n' [] ps',?_,by rw [cR,cR,hz]⟩;have hs:s= [] :=by have:=h.1;rw [cV,and_eq_true]at this;simpa using this.2
  rw [aNb,hn];simp only;rw [hps,hs]
theorem aEZ {cons:List Con}{C:List Int}(hC:C.length=cons.length) :∀ (ps:List Pat),bX cons ps=true→∃ps',pI C ps=some ps'∧bF ps'=bF ps
 | [],_=> ⟨[],rfl,rfl⟩
 | q::ps,h=>by
  rw [bX,and_eq_true]at h;obtain⟨q',h1,z1⟩ :=aV6 hC q h.1;obtain⟨ps',h2,z2⟩ :=aEZ hC ps h.2;refine⟨q'::ps',?_,by rw [bF,bF,z1,z2]⟩;rw [pI,h1];simp only;rw [h2]
end
def aK9 (x:Node) :Prop:=x.kids.length≤10∧bF x.pats≤120
theorem aE0 {g:Nat→Int→Option (List Node)}{q:Int→List Int}:∀ (ks:List Int) (len:Nat),
  (∀k∈ks,∀len:Nat,len+ (q k).length≤1000000→∃ns,g len k=some ns∧ns.length= (q k).length∧∀x∈ns,aK9 x) →len+ ((ks.map q).flatten).length≤1000000 →
  ∃ks' r,mO g len ks=some (ks',r) ∧r.length= ((ks.map q).flatten).length∧∀x∈r,aK9 x
 | [],len,_,_=> ⟨[],[],rfl,rfl,fun x hx=>by cases hx⟩
 | k ::ks,len,hg,hb=>by
  simp only [map_cons,List.flatten_cons,length_append]at hb ⊢;obtain⟨ns,e,hl,hf⟩ :=hg k (mem_cons_self ..) len (by omega);obtain⟨ks',r,e2,hl2,hf2⟩ :=aE0 ks (len+ns.length) (fun c hc=>hg c (mem_cons_of_mem _ hc)) (by omega);refine⟨(len:Int) ::ks',ns++r,?_,by rw [length_append];omega,fun x hx=>?_⟩
  · rw [mO,e];simp only;rw [e2]
  · rcases List.mem_append.1 hx with h|h
    ·exact hf x h
    ·exact hf2 x h
structure MovN (p:Prog) (F C:List Int) (i:Nat) (x:Node) :Prop where
 kl:x.kids.length≤10
 kids:∀k∈x.kids,(i:Int) <k∧k<p.nodes.length
 ps:bF x.pats≤120
 n:∃n',mN F C x.op x.n=some n'
 pats:∃ps',pI C x.pats=some ps'∧bF ps'=bF x.pats
theorem aGG {p:Prog}{F C:List Int}(hN:∀ (i:Nat) (x:Node),p.nodes[i]?=some x→MovN p F C i x) :∀ (k:Nat) (a:Int) (len:Nat),0≤a→a<p.nodes.length→p.nodes.length-a.toNat≤k→len+ (pre p k a).length≤1000000 →
  ∃ns,dZ p F C k len a=some ns∧ns.length= (pre p k a).length∧∀x∈ns,aK9 x
 |0,a,len,ha,hn,hf,_=>by omega
 | k + 1,a,len,ha,hn,hf,hb=>by
  obtain⟨x,hx⟩ :∃x,p.nodes[a.toNat]?=some x:= ⟨_,getElem?_eq_getElem (by omega)⟩;have hm:=hN _ _ hx;have e:pre p (k+1) a=a:: (x.kids.map (pre p k)).flatten:=by rw [pre,hx]
  rw [e]at hb ⊢;simp only [length_cons]at hb ⊢
  obtain⟨ks,r,e1,e2,e3⟩ :=aE0 (g:=dZ p F C k) (q:=pre p k) x.kids (len+1) (fun c hc len h1=>by
   have:=hm.kids c hc;exact aGG hN k c len (by omega) (by omega) (by omega) h1) (by omega)
  obtain⟨n',hn'⟩ :=hm.n;obtain⟨ps',hp',hz⟩ :=hm.pats;have h1:=hm.kl;have h2:=hm.ps;refine⟨⟨x.op,n',ks,ps'⟩ ::r,?_,by simp [e2],fun y hy=>?_⟩
  · rw [dZ,if_pos ⟨ha,by omega⟩,hx];simp only;rw [if_pos ⟨by omega,by omega⟩,hn'];simp only;rw [hp'];simp only;rw [e1]
  · rcases List.mem_cons.1 hy with h|h
    · rw [h];exact⟨by rw [aCn e1];exact h1,by rw [hz];exact h2⟩
    ·exact e3 y h
theorem aIH {p p':Prog}{f:Node→Node}(h:p'.nodes=p.nodes.map f)(hf:∀x,(f x).kids=x.kids) :∀ (k:Nat) (a:Int),pre p' k a=pre p k a
 |0,a=>rfl
 | k+1,a=>by
  have ih:pre p' k=pre p k:=funext (aIH h hf k);rw [pre,pre,h,getElem?_map];cases p.nodes[a.toNat]? with
  |none=>rfl
  |some x=>simp only [Option.map];rw [hf,ih]
theorem lS (a b:Nat)(x:Node) : (eA a b x).kids=x.kids:=by unfold eA;split<;>rfl
theorem yD (a b:Nat)(x:Node) : (eA a b x).pats=x.pats:=by unfold eA;split<;>rfl
theorem aBx (a b:Nat)(x:Node) : (eA a b x).op=x.op:=by unfold eA;split<;>rfl
structure GoodU (u:LUnit) :Prop where
 few:FewU u
 formed:gR u=true
theorem GoodU.small {u:LUnit}(h:GoodU u) :u.nodes.length≤320∧u.cons.length≤25:=by
 have:=h.few.p;simp only [aM,and_eq_true,decide_eq_true_eq]at this;exact⟨this.1.1.1.1,this.1.1.2⟩
theorem GoodU.cases {u:LUnit}(h:GoodU u) : (u.funs= [] ∧u.nodes= []) ∨ (u.funs≠ [] ∧bA (eD u) =true) :=by
 have hf:=h.formed;unfold gR at hf;simp only [and_eq_true]at hf;have h2:=hf.2;split at h2
 · rename_i h0;simp only [and_eq_true,decide_eq_true_eq]at h2;exact .inl ⟨List.eq_nil_of_length_eq_zero h0,List.eq_nil_of_length_eq_zero h2.1⟩
 · rename_i h0;exact .inr ⟨fun e=>h0 (by rw [e];rfl),h2⟩
theorem aGH {u:LUnit}(h:GoodU u)(hr:bA (eD u) =true){F C:List Int}(hF:F.length=u.funs.length+u.needs.length)(hB:∀g∈F,-1000000000≤g∧g≤1000000000)(hC:C.length=u.cons.length)(i:Nat)(x:Node)(hx:u.nodes[i]?=some x) :MovN (lE u) F C i x∧qF x.pats=true:=by
 have hs:=kK h.few;have hfn:=mP hs hr;have hx': (eD u).nodes[i]?=some (eA u.funs.length u.needs.length x) :=by simp [eD,getElem?_map,hx]
 obtain⟨hfi,hk10,hks⟩ :=hfn.node i _ hx';have hok:= (pK hs hr).2.2.2 i _ hx';rw [lS]at hk10 hks;have hnl: (eD u).nodes.length=u.nodes.length:=by simp [eD]
 rw [hnl]at hks;have hpq:∀q∈x.pats,cR q≤12∧cS u.cons q=true:=fun q hq=>hfi.pats q (by rw [yD];exact hq);have h10:x.pats.length≤10:=by
  have:=h.few.p;simp only [aM,and_eq_true]at this;have:=List.all_eq_true.1 this.2 x (mem_of_getElem? hx);simp only [aV,and_eq_true,decide_eq_true_eq]at this;exact this.1.2
 have hpsz:bF x.pats≤12*x.pats.length:=aCf (fun q hq=> (hpq q hq).1);have hpk:=pJ (fun q hq=> (hpq q hq).2);have hfl:=h.few.f;have hnd:=h.few.n;refine⟨⟨hk10,hks,by omega,?_,aEZ hC x.pats hpk⟩,aES x.pats hpk⟩;simp only [bC,and_eq_true,eJ]at hok;obtain⟨⟨⟨h1,_⟩,_⟩,_⟩ :=hok;rw [aBx]at h1;have hpf: (eD u).funs.length=u.funs.length:=by simp [eD,bU]
 unfold mN;by_cases h4:x.op=4∧x.n<0
 · rw [if_pos h4];have hr4: -(u.funs.length:Int) -u.needs.length≤x.n:=by
    by_cases hb: -(u.funs.length:Int) -u.needs.length≤x.n∧x.n≤ -(u.funs.length:Int) -1
    ·exact hb.1
    · have:eA u.funs.length u.needs.length x=x:=by unfold eA;rw [if_neg (fun g=>hb g.2)]
      rw [this,h4.1]at h1;simp [bH,cN,hpf]at h1;omega
   have hi: (-1-x.n).toNat<F.length:=by omega
   rw [getElem?_eq_getElem hi];have:=hB _ (List.getElem_mem hi);simp only;rw [if_pos ⟨by omega,this⟩];exact⟨_,rfl⟩
 · rw [if_neg h4];by_cases h14:x.op=14
   · rw [if_pos h14];have:eA u.funs.length u.needs.length x=x:=by unfold eA;rw [if_neg (fun g=>by have:=g.1;omega)]
     rw [this,h14]at h1;simp [bH,cN,eD]at h1;rw [if_pos h1.1];have h1b:=of_decide_eq_true h1.2;have hi:x.n.toNat<C.length:=by omega
     exact⟨_,getElem?_eq_getElem hi⟩
   ·rw [if_neg h14];exact⟨_,rfl⟩
theorem aOv {u:LUnit}(h:GoodU u) :∀x∈u.nodes,qF x.pats=true:=fun x hx=>by
 rcases h.cases with⟨_,h0⟩ | ⟨_,hr⟩
 ·rw [h0]at hx;cases hx
 · obtain⟨i,hi⟩ :=List.mem_iff_getElem?.1 hx;exact(aGH h hr (F:=replicate (u.funs.length+u.needs.length) 0) (C:=replicate u.cons.length 0) (by simp) (fun g hg=>by rw [(List.mem_replicate.1 hg).2];omega) (by simp) i x hi).2
theorem aTj {u:LUnit}(h:GoodU u){F C:List Int}(hF:F.length=u.funs.length+u.needs.length)(hB:∀g∈F,-1000000000≤g∧g≤1000000000)(hC:C.length=u.cons.length)(len:Nat)(hlen:len≤100000) :
  ∃ks r,mO (dZ (lE u) F C u.nodes.length) len (bU u) =some (ks,r) ∧r.length=u.nodes.length∧∀x∈r,aK9 x:=by
 rcases h.cases with⟨h0,h1⟩ | ⟨_,hr⟩
 · rw [bU,h0,h1];exact⟨[],[],rfl,rfl,fun x hx=>by cases hx⟩
 · have hs:=kK h.few;obtain⟨_,p2,_,_⟩ :=pK hs hr;have hfn:=mP hs hr;have hnl: (eD u).nodes.length=u.nodes.length:=by simp [eD]
   have hpre:∀k a,pre (eD u) k a=pre (lE u) k a:=aIH (f:=eA u.funs.length u.needs.length) rfl (lS _ _);have hsm:=h.small;have e: ((bU u).map (pre (lE u) u.nodes.length)).flatten= ((eD u).funs.map (pre (eD u) (eD u).nodes.length)).flatten:=by
    rw [hnl];show _= ((bU u).map _).flatten;congr 2;exact(funext (hpre _)).symm
   obtain⟨ks,r,e1,e2,e3⟩ :=aE0 (g:=dZ (lE u) F C u.nodes.length) (q:=pre (lE u) u.nodes.length) (bU u) len (fun k hk len hl=>by
    have:=hfn.funs k hk;rw [hnl]at this;exact aGG (fun i x hx=> (aGH h hr hF hB hC i x hx).1) _ k len this.1 this.2 (by simp [lE]) hl) (by rw [e,p2,hnl];omega)
   exact⟨ks,r,e1,by rw [e2,e,p2,hnl],e3⟩
def aI :List LUnit→Nat
 | [] =>0
 |u::l=>u.nodes.length+aI l
theorem aE1 :∀ {l:List LUnit},(∀u∈l,GoodU u) →aI l≤320*l.length
 | [],_=>by simp [aI]
 | u::l,h=>by
  have h1:= (h u (mem_cons_self ..)).small;have h2:=aE1 (l:=l) (fun x hx=>h x (mem_cons_of_mem _ hx));simp only [aI,length_cons];omega
theorem aOw {T ls:List aC}{cs:List Con}(hT:T.length≤1000)(hls:ls.length≤1000) :∀ (l:List LUnit) (fs:List LFun) (ns:List Node),(∀u∈l,GoodU u) →ns.length+aI l≤100000→ (∀x∈ns,aK9 x) →
  ∃fs' ns',aEY T ls cs fs ns l=some (fs',ns') ∧ns'.length=ns.length+aI l∧ (∀x∈ns',aK9 x) ∧fs'.length≤fs.length+30*l.length
 | [],fs,ns,_,_,hf=> ⟨fs,ns,rfl,rfl,hf,by simp⟩
 | u::l,fs,ns,hg,hb,hf=>by
  have hu:=hg u (mem_cons_self ..);rw [aI]at hb;have hff:=hu.few.f;have hnd:=hu.few.n
  obtain⟨ks,r,e1,e2,e3⟩ :=aTj hu (F:=nL T ls u) (C:=uF cs u) (by simp [nL,aE]) (fun g hg=>by
   obtain⟨s,_,rfl⟩ :=List.mem_map.1 hg;have:=aAC T ls s;omega) (by simp [uF]) ns.length (by omega)
  obtain⟨fs',ns',g1,g2,g3,g4⟩ :=aOw hT hls l (fs++zipWith LFun.mk (aE u) ks) (ns++r) (fun x hx=>hg x (mem_cons_of_mem _ hx)) (by simp;omega) (fun x hx=>by
   rcases List.mem_append.1 hx with h|h
   ·exact hf x h
   ·exact e3 x h)
  refine⟨fs',ns',?_,by rw [g2,aI];simp;omega,g3,by simp [aE]at g4 ⊢;omega⟩;rw [aEY,e1];exact g1
def lF :aC:=[109,97,105,110]
def zX :Prog:= ⟨[],[],0,[]⟩
def aGI :LUnit:= ⟨[],[],[],[],[]⟩
theorem iV {l:List LUnit}(hu:∀u∈l,FewU u)(h:dE l=true) :l.length≤10∧∀u∈l,GoodU u:=by
 simp only [dE,and_eq_true,decide_eq_true_eq]at h;exact⟨h.1,fun u hm=> ⟨hu u hm,List.all_eq_true.1 h.2 u hm⟩⟩
theorem aCo :∀ {l:List LUnit} {out o:List Con},(∀u∈l,FewU u) →rQ out l=some o→o.length≤out.length+25*l.length
 | [],out,o,_,h=>by cases h;simp
 | u ::l,out,o,hu,h=>by
  have hn:u.cons.length≤25:=by have:= (hu u (mem_cons_self ..)).p;simp only [aM,and_eq_true,decide_eq_true_eq]at this;exact this.1.1.2
  rw [rQ]at h;split at h
  · rename_i o1 h1;have:=aCk h1;have:=aCo (fun x hx=>hu x (mem_cons_of_mem _ hx)) h;simp;omega
  ·cases h
theorem aGJ {own:List aC}:∀ {l:List LUnit} {out:List aC},(∀u∈l,FewU u) → (nK own out l).length≤out.length+25*l.length
 | [],out,_=>by simp [nK]
 | u::l,out,hu=>by
  have hn:= (hu u (mem_cons_self ..)).n;have h1:=aCj own u.needs out;have h2:=aGJ (own:=own) (l:=l) (out:=nJ own out u.needs) (fun x hx=>hu x (mem_cons_of_mem _ hx));rw [nK];simp;omega
def uG (ls:List aC)(cs:List Con)(l:List LUnit) :List LFun×List Node:= (aEY (aP l) ls cs [] [] l).getD ([],[])
structure PutOk (ls:List aC) (cs:List Con) (l:List LUnit) :Prop where
 eq:aEY (aP l) ls cs [] [] l=some (uG ls cs l)
 len: (uG ls cs l).2.length=aI l
 fit:∀x∈ (uG ls cs l).2,aK9 x
 funs: (uG ls cs l).1.length≤300
theorem aTk {ls:List aC}{cs:List Con}{l:List LUnit}(hl:l.length≤10)(hg:∀u∈l,GoodU u)(hls:ls.length≤1000) :PutOk ls cs l:=by
 have:=aBu l (fun u h=> (hg u h).few);have:=aE1 hg;obtain⟨fs,ns,h1,h2,h3,h4⟩ :=aOw (T:=aP l) (ls:=ls) (cs:=cs) (by omega) hls l [] [] hg (by simp;omega) (fun x hx=>by cases hx);have e:uG ls cs l= (fs,ns) :=by unfold uG;rw [h1];rfl
 exact⟨by rw [h1,e],by rw [e];simpa using h2,by rw [e];exact h3,by rw [e];simp at h4 ⊢;omega⟩
def eM (l:List LUnit) :Prog×Int:=
 if dE l=true then
  match hP l with
  |none=> (zX,7)
  | some c=>if bG (aP l) =true∧cA l= [] ∧¬zU lF l 0<0 then
    (if aI l≤300∧c.length≤20 then(⟨(uG [] c l).2,(uG [] c l).1.map LFun.body,dM lF (aP l) 0,c⟩,0)else(zX,3))
   else(zX,7)
 else(zX,2)
def qG (nm:aC)(l:List LUnit) :LUnit×Int:=
 if jB nm=true∧dE l=true then
  match hP l with
  |none=> (aGI,7)
  | some c=>if bG (aP l) =true then
    (if aI l≤300∧c.length≤20∧ (cA l).length≤20 then(⟨nm,c,(uG (cA l) c l).1,cA l,(uG (cA l) c l).2⟩,0)else(aGI,3))
   else(aGI,7)
 else(aGI,2)
theorem aV7 {E:Emb}{e:Int}{cv:Value}(h:VR E (.tup [.agg [(.str 0 0),(.ilst 2 (map Con.av ([] :List Con)) true),(.ilst 2 (map LFun.av ([] :List LFun)) true),(.ilst 1 (map aA ([] :List aC)) true),(.ilst 4 (map Node.av ([] :List Node)) true)],.int .i64 e]) cv) :VR E (.tup [LUnit.av aGI,.int .i64 e]) cv:=by
 simp only [VR]at h ⊢;obtain⟨us,h1,h2⟩ :=h;obtain⟨u,us',rfl,h3,h4⟩ :=h2.cons_inv;simp only [VR]at h3;obtain⟨ws,rfl,h5⟩ :=h3;obtain⟨a1,w1,rfl,c1,h5⟩ :=h5.cons_inv;obtain⟨a2,w2,rfl,c2,h5⟩ :=h5.cons_inv;obtain⟨a3,w3,rfl,c3,h5⟩ :=h5.cons_inv;obtain⟨a4,w4,rfl,c4,h5⟩ :=h5.cons_inv;obtain⟨a5,w5,rfl,c5,h5⟩ :=h5.cons_inv;refine⟨_,h1,VRs.cons ?_ h4⟩;simp only [LUnit.av,VR];exact⟨_,rfl,VRs.cons c1 (VRs.cons (gJ c2) (VRs.cons (gJ c3) (VRs.cons (gJ c4) (VRs.cons (gJ c5) h5))))⟩
structure Fw (p:Prog) :Prop where
 fine:FineP p
 dup: (dF p).Nodup
 len: (dF p).length=p.nodes.length
 into:∀x∈dF p,0≤x∧x<p.nodes.length
theorem Fw.of {p:Prog}(h:Fm p) :Fw p:= ⟨h.fine,h.dup,h.len,h.into⟩
section
variable {p :Prog}
theorem Fw.mem (h:Fw p){k:Int}(h0:0≤k)(h1:k<p.nodes.length) :∃i:Nat,(dF p)[i]?=some k:=by
 refine List.mem_iff_getElem?.1 ?_;have hd: ((dF p).map Int.toNat).Nodup:=by
  have hd:=h.dup;rw [List.nodup_iff_pairwise_ne]at hd ⊢;refine List.pairwise_map.2 (hd.imp_of_mem (fun {a b} ha hb hne e=>?_));have:=h.into a ha;have:=h.into b hb;exact hne (by omega)
 by_cases hm:k∈dF p
 ·exact hm
 · have h2:=rM (p.nodes.length) (k.toNat:: (dF p).map Int.toNat) (List.nodup_cons.2 ⟨fun hm2=>by
    obtain⟨y,hy,e⟩ :=List.mem_map.1 hm2;have:=h.into y hy;exact hm ((show y=k by omega) ▸ hy),hd⟩) (fun x hx=>by
    rcases List.mem_cons.1 hx with rfl|hx
    ·omega
    · obtain⟨y,hy,rfl⟩ :=List.mem_map.1 hx;have:=h.into y hy;omega)
   rw [length_cons,length_map]at h2;have:=h.len;omega
theorem Fw.after (h:Fw p) :KidsAfter p (dF p) :=KidsAfter.flatten fun l hl=>by
 obtain⟨k,hk,rfl⟩ :=List.mem_map.1 hl;have:=h.fine.funs k hk;exact aGF h.fine _ k this.1 this.2 (by omega)
theorem Fw.toL (h:Fw p)(off:Nat) :∀ (i:Nat) (k:Int),(dF p)[i]?=some k→iH (toL p off) k= ((off+i:Nat) :Int) :=fun i k hk=>by
 have:=aGu (dF p) (replicate p.nodes.length 0) off h.dup (fun x hx=>by rw [List.length_replicate];exact h.into x hx) i k hk;unfold Go.Hb.toL;rw [this];simp
end
section
variable {a p:Prog} {off:Nat} {mf mc:List (Int×Int)} {to:List Int}
theorem Laid.atW (h:Laid a off p mf mc to)(hp:Fw p){k:Int}(h0:0≤k)(h1:k<p.nodes.length) :0≤iH to k∧a.nodes[(iH to k).toNat]?=some (eT mf mc to (nodeAt p k)) :=by
 obtain⟨i,hi⟩ :=hp.mem h0 h1;have e:=h.to i k hi;rw [e,Int.toNat_natCast];exact⟨by omega,h.node i k hi⟩
theorem aGK (h:Laid a off p mf mc to)(hp:Fw p) :∀ (f:Nat) (k:Int),0≤k→k<p.nodes.length→p.nodes.length-k.toNat≤f→pre a f (iH to k) = (pre p f k).map (iH to)
 |0,k,h0,h1,h2=>by omega
 | f+1,k,h0,h1,h2=>by
  obtain⟨x,hx⟩ :∃x,p.nodes[k.toNat]?=some x:= ⟨_,getElem?_eq_getElem (by omega)⟩;obtain⟨g0,g1⟩ :=h.atW hp h0 h1;rw [fP hx]at g1;rw [Go.Hb.pre,Go.Hb.pre,hx,g1];simp only [map_cons,List.map_flatten,map_map,eT];congr 2
  exact List.map_congr_left (fun c hc=>by
   have:= (hp.fine.node _ _ hx).2.2 c hc;exact aGK h hp f c (by omega) (by omega) (by omega))
theorem Laid.walkW (h:Laid a off p mf mc to)(hp:Fw p){F:Nat}(hF:p.nodes.length≤F) : ((p.funs.map (iH to)).map (Go.Hb.pre a F)).flatten= (range p.nodes.length).map fun i=> ((off+i:Nat) :Int) :=by
 have e1: (p.funs.map (iH to)).map (Go.Hb.pre a F) = (p.funs.map (Go.Hb.pre p p.nodes.length)).map (map (iH to)) :=by
  rw [map_map,map_map];refine List.map_congr_left (fun k hk=>?_);have:=hp.fine.funs k hk;show Go.Hb.pre a F (iH to k) = (Go.Hb.pre p p.nodes.length k).map (iH to);rw [aGK h hp F k this.1 this.2 (by omega),aET hp.fine F p.nodes.length k this.1 this.2 (by omega) (by omega)]
 rw [e1,←List.map_flatten];have hlen:=hp.len;refine List.ext_getElem? (fun i=>?_);rw [getElem?_map,getElem?_map];by_cases hi:i< (dF p).length
 · rw [List.getElem?_range (by omega)];have e: (dF p)[i]?=some (dF p)[i] :=getElem?_eq_getElem hi;have: ((p.funs.map (Go.Hb.pre p p.nodes.length)).flatten)[i]?=some (dF p)[i] :=e;rw [this];simp only [Option.map_some];rw [h.to i _ e]
 · have e: (dF p)[i]?=none:=List.getElem?_eq_none (by omega);have: ((p.funs.map (Go.Hb.pre p p.nodes.length)).flatten)[i]?=none:=e;rw [this,List.getElem?_eq_none (by simp;omega)];rfl
end
def bI (u:LUnit) :Prog:= ⟨u.nodes,bU u,0,u.cons⟩
def jE (u:LUnit) :Prog:= ⟨u.nodes,replicate (u.funs.length+u.needs.length) 0,0,u.cons⟩
theorem aBy {p p':Prog}(h:p'.nodes=p.nodes)(F C:List Int) :∀k:Nat,dZ p' F C k=dZ p F C k
 |0=>rfl
 | k+1=>by
  funext len a
  rw [dZ,dZ,h,aBy h F C k]
theorem aLa {u:LUnit}{x:Node}(h:bC (eD u) (eA u.funs.length u.needs.length x) =true) :bC (jE u) x=true:=by
 have hf: (eD u).funs.length=u.funs.length:=by simp [eD,bU]
 have hw: (jE u).funs.length=u.funs.length+u.needs.length:=by simp [jE]
 simp only [bC,eJ,and_eq_true,decide_eq_true_eq]at h ⊢;rw [lS,yD,aBx]at h;obtain⟨⟨⟨h1,h2⟩,h3⟩,h4⟩ :=h;by_cases e4:x.op=4
 · have z1:eK (jE u) x=0:=by unfold eK;rw [if_neg (fun g=>by have:=g.1;omega)]
   have z2:eK (eD u) (eA u.funs.length u.needs.length x) =0:=by unfold eK;rw [aBx,if_neg (fun g=>by have:=g.1;omega)]
   rw [z2]at h4;rw [z1];refine⟨⟨⟨?_,h2⟩,h3⟩,h4⟩;by_cases g: -(u.funs.length:Int) -u.needs.length≤x.n∧x.n≤ -(u.funs.length:Int) -1
   · rw [e4];simp [bH,cN,hw];omega
   · have e:eA u.funs.length u.needs.length x=x:=by unfold eA;rw [if_neg (fun k=>g k.2)]
     rw [e,e4]at h1;rw [e4];simp [bH,cN,hf,hw]at h1 ⊢;omega
 · have e:eA u.funs.length u.needs.length x=x:=by unfold eA;rw [if_neg (fun g=>e4 g.1)]
   rw [e]at h1 h4;refine⟨⟨⟨?_,h2⟩,h3⟩,h4⟩;unfold bH at h1 ⊢;rw [if_neg e4]at h1 ⊢;exact h1
theorem kL {u:LUnit}(h:GoodU u){i:Nat}{x:Node}(hx:u.nodes[i]?=some x) :bC (jE u) x=true∧x.pats.length≤10∧aV x=true:=by
 have hs:=h.few.p;simp only [aM,and_eq_true]at hs;have hsn:=List.all_eq_true.1 hs.2 x (mem_of_getElem? hx);have hsn2:=hsn;simp only [aV,and_eq_true,decide_eq_true_eq]at hsn2;refine⟨?_,hsn2.1.2,hsn⟩;rcases h.cases with⟨_,h1⟩ | ⟨_,hr⟩
 ·rw [h1]at hx;simp at hx
 · have hx': (eD u).nodes[i]?=some (eA u.funs.length u.needs.length x) :=by simp [eD,getElem?_map,hx]
   exact aLa ((pK (kK h.few) hr).2.2.2 i _ hx')
theorem iW {u:LUnit}(h:GoodU u) :Fw (bI u) :=by
 rcases h.cases with⟨h0,h1⟩ | ⟨_,hr⟩
 · have hb:bU u= [] :=by simp [bU,h0]
   have ho:dF (bI u) = [] :=by unfold dF;simp [bI,hb]
   refine⟨⟨by simp [bI,h1],by simp [bI,hb],fun i x hx=>by simp [bI,h1]at hx,fun f hf=>by simp [bI,hb]at hf⟩,by rw [ho];exact List.nodup_nil,by rw [ho];simp [bI,h1],fun x hx=>by rw [ho]at hx;cases hx⟩
 · have hs:=kK h.few;obtain⟨p1,p2,p3,p4⟩ :=pK hs hr;have hfn:=mP hs hr;have hnl: (eD u).nodes.length=u.nodes.length:=by simp [eD]
   have ho:dF (bI u) = ((eD u).funs.map (pre (eD u) (eD u).nodes.length)).flatten:=by
    unfold dF;rw [hnl];show((bU u).map (pre (bI u) u.nodes.length)).flatten= ((bU u).map _).flatten;congr 2;exact(funext (aIH (p:=bI u) (p':=eD u) (f:=eA u.funs.length u.needs.length) rfl (lS _ _) _)).symm
   refine⟨⟨by have:=hfn.small;rw [hnl]at this;exact this,hfn.fsmall,fun i x hx=>?_,fun f hf=>by have:=hfn.funs f hf;rw [hnl]at this;exact this⟩,by rw [ho];exact p1,by rw [ho,p2,hnl];rfl,fun x hx=>by rw [ho]at hx;have:=p3 x hx;rw [hnl]at this;exact this⟩;have hx1:u.nodes[i]?=some x:=hx;have hx': (eD u).nodes[i]?=some (eA u.funs.length u.needs.length x) :=by simp [eD,getElem?_map,hx1]
   obtain⟨c1,c2,c3⟩ :=hfn.node i _ hx';have m1:=c1.mat;have m2:=c1.let2;rw [aBx,lS,yD]at m1;rw [aBx,lS]at m2;rw [lS]at c2 c3;rw [hnl]at c3;exact⟨⟨fun q hq=>c1.pats q (by rw [yD];exact hq),m1,m2⟩,c2,c3⟩
def aII :List Int→Int→List (Int×Int) →List (Int×Int)
 | [],_,m=>m
 |g::t,i,m=>aII t (i+1) (bT i g m)
theorem aLb :∀ (t:List Int) (i:Int) (m:List (Int×Int)) (j:Int),j<i→kO (aII t i m) j=kO m j
 | [],i,m,j,h=>rfl
 |c::t,i,m,j,h=>by rw [aII,aLb t (i+1) _ j (by omega),aDr,if_neg (by omega)]
theorem aOx :∀ (t:List Int) (i:Int) (m:List (Int×Int)) (j:Nat) (d:Int),t[j]?=some d→kO (aII t i m) (i+j) =d
 | [],i,m,j,d,h=>by simp at h
 | c::t,i,m,0,d,h=>by
  simp only [List.getElem?_cons_zero,Option.some.injEq]at h;subst h;rw [aII,aLb t (i+1) _ _ (by omega),aDr,if_pos (by omega)]
 | c::t,i,m,j+1,d,h=>by
  simp only [List.getElem?_cons_succ]at h;have:=aOx t (i+1) (bT i c m) j d h;rw [aII,show i+ ((j+1:Nat) :Int) =i+1+ (j:Int)by omega];exact this
theorem aDs (F:List Int) :aEI F.length (aII F 0 []) F:=fun i h0 h1=>by
 have e:F[i.toNat]?=some (F[i.toNat]'(by omega)) :=getElem?_eq_getElem (by omega);have:=aOx F 0 [] i.toNat _ e;rw [show(0:Int) + ((i.toNat:Nat) :Int) =i by omega]at this;rw [e,this]
def mfU (T ls:List aC)(u:LUnit) :List (Int×Int) :=aII (nL T ls u) 0 []
def mcU (cs:List Con)(u:LUnit) :List (Int×Int) :=aIB cs u.cons 0 []
theorem aV8 (cs:List Con)(u:LUnit) :aEI u.cons.length (mcU cs u) (uF cs u) :=fun i h0 h1=>by
 have e:u.cons[i.toNat]?=some (u.cons[i.toNat]'(by omega)) :=getElem?_eq_getElem (by omega);have:=aBv cs u.cons 0 [] i.toNat _ e;rw [show(0:Int) + ((i.toNat:Nat) :Int) =i by omega]at this;unfold uF mcU;rw [getElem?_map,e,this];rfl
theorem aCp (T ls:List aC)(u:LUnit) : (nL T ls u).length=u.funs.length+u.needs.length:=by simp [nL,aE]
theorem aAD {T ls:List aC}{u:LUnit}{i:Int}(h0:0≤i)(h1:i<u.funs.length+u.needs.length) :∃s,(aE u++u.needs)[i.toNat]?=some s∧kO (mfU T ls u) i=jY T ls s:=by
 have hl:=aCp T ls u;have e:=aDs (nL T ls u) i h0 (by omega);unfold nL at e;rw [getElem?_map]at e;cases hs: (aE u++u.needs)[i.toNat]? with
 |none=>rw [hs]at e;cases e
 |some s=>rw [hs]at e;exact⟨s,rfl,(Option.some.inj e).symm⟩
def aLc (T ls:List aC)(u:LUnit) :Prop:=∀s∈aE u++u.needs,0≤jY T ls s
def aFI (T ls:List aC)(cs:List Con)(off:Nat)(u:LUnit) :List Node:= (dF (bI u)).map fun k=>eT (mfU T ls u) (mcU cs u) (toL (bI u) off) (nodeAt (bI u) k)
def aE2 (off:Nat)(u:LUnit) :List Int:= (bU u).map (iH (toL (bI u) off))
theorem aNv {u:LUnit}(h:GoodU u){T ls:List aC}{cs:List Con}(hT:T.length≤1000)(hls:ls.length≤1000)(hn:aLc T ls u)(off:Nat)(ho:off≤100000) :
  mO (dZ (lE u) (nL T ls u) (uF cs u) u.nodes.length) off (bU u) =some (aE2 off u,aFI T ls cs off u) :=by
 have hw:=iW h;have hsm:=h.small;have hff:=h.few.f;have hnd:=h.few.n;have hwl: (jE u).funs.length=u.funs.length+u.needs.length:=by simp [jE]
 have hm:MOk (bI u) (mfU T ls u) (mcU cs u) (nL T ls u) (uF cs u) :=fun i x hx=>
  (aKN (p:=jE u) (by rw [hwl,←aCp T ls u];exact aDs _) (aV8 cs u) (fun i h0 h1=>by
   rw [hwl]at h1;obtain⟨s,hs,e⟩ :=aAD (T:=T) (ls:=ls) (u:=u) h0 (by omega);rw [e];have:=aAC T ls s;have:=hn s (mem_of_getElem? hs);omega) (by omega) (kL h hx).1 (kL h hx).2.1).1
 rw [aBy (p:=bI u) (p':=lE u) rfl];have hl:=hw.len;have hl2: (bI u).nodes.length=u.nodes.length:=rfl
 have e:=aEH (to:=toL (bI u) off) (g:=dZ (bI u) (nL T ls u) (uF cs u) u.nodes.length) (h:=wB (bI u) (mfU T ls u) (mcU cs u) (toL (bI u) off) u.nodes.length) (q:=pre (bI u) u.nodes.length) (bU u) off (fun k hk len h1 h2=>by
   have:=hw.fine.funs k hk;exact aGv hw.fine hm _ k len this.1 this.2 (by omega) h1 h2) (fun k hk=>by
   have:=hw.fine.funs k hk;obtain⟨y,g,_,_,h3⟩ :=aEG hw.fine (f:=u.nodes.length) (a:=k) this.1 this.2 (by omega);exact⟨aNg _ _ _ _ _,by rw [h3];rfl⟩) (by change off+ (dF (bI u)).length≤1000000;omega) (hw.toL off)
 rw [e];congr 2;exact aNs (bI u) (mfU T ls u) (mcU cs u) (toL (bI u) off)
theorem aE3 {u:LUnit}(h:GoodU u)(T ls:List aC)(cs:List Con)(off:Nat) : (aFI T ls cs off u).length=u.nodes.length:=by
 unfold aFI;rw [length_map,(iW h).len];rfl
def fU (T ls:List aC)(cs:List Con) :Nat→List LUnit→List Node
 |_,[] =>[]
 |off,u::l=>aFI T ls cs off u++fU T ls cs (off+u.nodes.length) l
def zY :Nat→List LUnit→List LFun
 |_,[] =>[]
 |off,u::l=>zipWith LFun.mk (aE u) (aE2 off u) ++zY (off+u.nodes.length) l
theorem aOy {T ls:List aC}{cs:List Con}(hT:T.length≤1000)(hls:ls.length≤1000) :∀ (l:List LUnit) (fs:List LFun) (ns:List Node),(∀u∈l,GoodU u∧aLc T ls u) →ns.length+aI l≤100000 →
  aEY T ls cs fs ns l=some (fs++zY ns.length l,ns++fU T ls cs ns.length l)
 | [],fs,ns,_,_=>by rw [aEY,zY,fU,append_nil,append_nil]
 | u::l,fs,ns,hg,hb=>by
  obtain⟨h1,h2⟩ :=hg u (mem_cons_self ..);rw [aI]at hb;rw [aEY,aNv h1 hT hls h2 ns.length (by omega)];simp only;have hl:=aE3 h1 T ls cs ns.length;rw [aOy hT hls l _ _ (fun x hx=>hg x (mem_cons_of_mem _ hx)) (by rw [length_append,hl];omega)];rw [length_append,hl,zY,fU,append_assoc,append_assoc]
theorem oH {T ls:List aC}{cs:List Con}:∀ (l:List LUnit) (off:Nat),(∀u∈l,GoodU u) → (fU T ls cs off l).length=aI l
 | [],off,_=>rfl
 | u::l,off,hg=>by
  rw [fU,length_append,aE3 (hg u (mem_cons_self ..)),oH l _ (fun x hx=>hg x (mem_cons_of_mem _ hx)),aI]
theorem yE {T ls:List aC}{cs:List Con}:∀ (l m:List LUnit) (off:Nat),fU T ls cs off (l++m) =fU T ls cs off l++fU T ls cs (off+aI l) m
 | [],m,off=>by simp [fU,aI]
 | u::l,m,off=>by
  rw [cons_append,fU,fU,yE l m,append_assoc,aI,Nat.add_assoc]
theorem iY :∀l m:List LUnit,aI (l++m) =aI l+aI m
 | [],m=>by simp [aI]
 |u::l,m=>by rw [cons_append,aI,aI,iY l m,Nat.add_assoc]
theorem aE4 :∀ (a:List aC) (b:List Int),a.length=b.length→ (zipWith LFun.mk a b).map LFun.body=b∧ (zipWith LFun.mk a b).map LFun.name=a
 | [],[],_=> ⟨rfl,rfl⟩
 | [],_::_,h=>by simp at h
 |_::_,[],h=>by simp at h
 | x::a,y::b,h=>by
  obtain⟨h1,h2⟩ :=aE4 a b (by simpa using h);rw [List.zipWith_cons_cons,map_cons,map_cons,h1,h2];exact⟨rfl,rfl⟩
theorem aE5 (off:Nat)(u:LUnit) : (aE u).length= (aE2 off u).length:=by simp [aE2,aE,bU]
theorem aCY :∀ (l:List LUnit) (off:Nat),(zY off l).map LFun.name=aP l
 | [],off=>rfl
 | u::l,off=>by
  rw [zY,map_append,(aE4 _ _ (aE5 off u)).2,aCY l,lR]
def dU :Nat→List LUnit→List Int
 |_,[] =>[]
 |off,u::l=>aE2 off u++dU (off+u.nodes.length) l
theorem nW :∀ (l:List LUnit) (off:Nat),(zY off l).map LFun.body=dU off l
 | [],off=>rfl
 | u::l,off=>by
  rw [zY,map_append,(aE4 _ _ (aE5 off u)).1,nW l,dU]
theorem aGL :∀ (l m:List LUnit) (off:Nat),dU off (l++m) =dU off l++dU (off+aI l) m
 | [],m,off=>by simp [dU,aI]
 | u::l,m,off=>by
  rw [cons_append,dU,dU,aGL l m,append_assoc,aI,Nat.add_assoc]
theorem rR :∀ (l:List LUnit) (off:Nat),(dU off l).length= (aP l).length
 | [],off=>rfl
 |u::l,off=>by rw [dU,length_append,←aE5,rR l,lR,length_append]
section
variable {T ls:List aC} {cs:List Con} {a:Prog} {l:List LUnit}
theorem uH (hg:∀u∈l,GoodU u)(ha:a.nodes=fU T ls cs 0 l){l1 l2:List LUnit}{u:LUnit}(hl:l=l1++u::l2) :Laid a (aI l1) (bI u) (mfU T ls u) (mcU cs u) (toL (bI u) (aI l1)) :=by
 have hw:=iW (hg u (by rw [hl];simp));refine⟨fun i k hk=>?_,hw.toL _⟩;have h1:=oH (T:=T) (ls:=ls) (cs:=cs) l1 0 (fun x hx=>hg x (by rw [hl];simp [hx]));have hlt:= (List.getElem?_eq_some_iff.1 hk).1;rw [ha,hl,yE,fU,List.getElem?_append_right (by omega),h1,show aI l1+i-aI l1=i by omega,Nat.zero_add,List.getElem?_append_left (by unfold aFI;rw [length_map];exact hlt)];unfold aFI;rw [getElem?_map,hk];rfl
theorem aAE (hg:∀u∈l,GoodU u)(ha:a.nodes=fU T ls cs 0 l){N:Nat}(hN:aI l≤N) :∀ (l2 l1:List LUnit),l=l1++l2 →
  ((dU (aI l1) l2).map (pre a N)).flatten= (range (aI l2)).map fun i=> ((aI l1+i:Nat) :Int)
 | [],l1,_=>rfl
 | u::l2,l1,hl=>by
  have hw:=iW (hg u (by rw [hl];simp));have hsz:aI l=aI l1+ (u.nodes.length+aI l2) :=by rw [hl,iY,aI]
  have e1:= (uH (T:=T) (ls:=ls) (cs:=cs) (a:=a) hg ha hl).walkW hw (F:=N) (by change u.nodes.length≤N;omega);have e2:=aAE hg ha hN l2 (l1++ [u]) (by rw [hl,append_assoc];rfl);have es:aI (l1++ [u]) =aI l1+u.nodes.length:=by rw [iY,aI,aI];omega
  rw [es]at e2;rw [dU,map_append,List.flatten_append,e2]
  change ((aE2 (aI l1) u).map (pre a N)).flatten=_ at e1
  rw [e1,aI,List.range_add,map_append,map_map];congr 1;refine List.map_congr_left (fun i _=>?_);simp only [Function.comp];omega
end
def aYz(a:LUnit):TS:=dY PP 161 [(.agg [(aA a.name),(iC a.cons),(.ilst 2 (map LFun.av a.funs) false),(iS a.needs),(iN a.nodes)])] [] 0
def aIJ(a:LUnit)(c:Int)(b:List aC):TS:=⟨(tf 161 20 [(2,.nils),(3,(.gl 0 1 0 b.length false)),(7,(.ilst 2 (map LFun.av a.funs) false)),(8,(nI (a.funs.length:Int))),(9,(nI c))] [kc f161 116,kl f161 116,.inBlock 0,kc f161 15]),[],[oL 0 1 (map aA b)],1⟩
def aYA(a:Con):TS:=dY PP 159 [(.agg [(aA a.name),(nI a.args)])] [] 0
def aZ7(a:List aC):TS:=dY PP 139 [(iS a)] [] 0
def aIK(a:List aC)(b:Int):TS:=⟨(tf 204 19 [(0,(iS a)),(1,(.func 202 [] [])),(4,(nI 0)),(7,(nI (a.length:Int))),(8,(nI b))] [kc f204 52,kl f204 52,.inBlock 0,kc f204 7]),[(tf 201 9 [(4,(bV false)),(5,(iS a)),(6,(.func 202 [] []))] [ko f201 6 2,kc f201 7]),(tf 139 10 [(0,(iS a)),(2,(bV false)),(3,(iS a))] [ko f139 6 1,kc f139 7])],[],0⟩
def aCq(a:List aC)(c:Int)(b:List (aC×Bool)):TS:=⟨(tf 203 25 [(1,(.func 141 [] [])),(4,(bV false)),(5,(.map 0)),(9,(iS a)),(10,(nI (a.length:Int))),(11,(nI c))] [kc f203 116,kl f203 116,.inBlock 0,kc f203 15]),[(tf 139 10 [(2,(bV false)),(6,(bV true)),(7,(iS a))] [ko f139 6 5,kc f139 7])],[(0,(.map (aD aA mY 0 b) b.length),true)],1⟩
def aTl(a:List Node):TS:=dY PP 189 [(iN a)] [] 0
def aZ8(a:List Node):TS:=⟨(tf 189 8 [(0,(iN a)),(2,.nils),(3,(iN a))] [ko f189 12 1,kc f189 13,kc f189 7]),[],[],0⟩
def aZv(a:List Node):TS:=⟨(tf 189 8 [(0,(iN a)),(2,.nils),(3,.nils)] [ko f189 12 1,kc f189 13,kc f189 7]),[],[],0⟩
def aZw(a:List Node)(b:Addr)(c d:Nat):TS:=⟨(tf 189 8 [(0,(iN a)),(2,.nils),(3,(.val (Value.slice (some b) c d)))] [ko f189 12 1,kc f189 13,kc f189 7]),[],[],0⟩
def aTm(a b:List aC):TS:=dY PP 160 [(.slice 0 0 2 2 1 true)] [oC 0 [(iS a),(iS b)]] 1
def aYB(a:List Con)(b:aC):TS:=dY PP 158 [(iC a),(.func 159 [] []),(aA b)] [] 0
def aIL(a:List Con)(b:aC)(c:Int):TS:=⟨(tf 223 19 [(0,(iC a)),(1,(.func 224 [] [(.ptr 0 0),(.ptr 1 0)])),(4,(nI 0)),(7,(nI (a.length:Int))),(8,(nI c))] [kc f223 52,kl f223 52,.inBlock 0,kc f223 7]),[(tf 158 10 [(6,(nI 0)),(7,(iC a)),(8,(.func 224 [] [(.ptr 0 0),(.ptr 1 0)]))] [ko f158 6 2,kc f158 7])],[oC 0 [(.func 159 [] [])],oC 1 [(aA b)]],2⟩
def aZ9(a:List aC)(b:aC):TS:=dY PP 151 [(iS a),(aA b)] [] 0
def aIM(a:List aC)(b:aC)(c:Int):TS:=⟨(tf 151 19 [(0,(iS a)),(1,(aA b)),(4,(nI 0)),(7,(nI (a.length:Int))),(8,(nI c))] [kc f151 52,kl f151 52,.inBlock 0,kc f151 7]),[],[],0⟩
def aYC(a:LUnit):TS:=dY PP 121 [(.agg [(aA a.name),(iC a.cons),(.ilst 2 (map LFun.av a.funs) false),(iS a.needs),(iN a.nodes)])] [] 0
def aIN(a:LUnit)(c:List aC)(d:Int)(b:List Int):TS:=⟨(tf 121 114 [kp 1 0,(2,(bV false)),(3,(iS c)),kp 4 1,(49,(.ilst 2 (map LFun.av a.funs) false)),(50,(nI (a.funs.length:Int))),(51,(nI d))] [kc f121 500,kl f121 500,.inBlock 0,kc f121 63]),[],[oC 0 [(aA a.name),(iC a.cons),(.ilst 2 (map LFun.av a.funs) false),(iS a.needs),(iN a.nodes)],oC 1 [(.gl 2 4 0 a.nodes.length false),(.gl 3 1 0 b.length false),(nI 0),(iC a.cons)],oL 2 4 (jN a.nodes),oL 3 1 (jI b)],4⟩
def uI(a:LUnit)(d:List aC)(e:Int)(b:List Node)(c:List Int)(f:Int):TS:=⟨(tf 121 114 [kp 1 0,(2,(bV false)),(3,(iS d)),kp 4 1,(76,(.gl 2 4 0 b.length false)),(77,(nI e)),(78,(nI f))] [kc f121 2036,kl f121 2036,.inBlock 2,kc f121 255]),[],[oC 0 [(aA a.name),(iC a.cons),(.ilst 2 (map LFun.av a.funs) false),(iS a.needs),(iN a.nodes)],oC 1 [(.gl 2 4 0 b.length false),(.gl 3 1 0 c.length false),(nI 0),(iC a.cons)],oL 2 4 (jN b),oL 3 1 (jI c)],4⟩
def aV9 (a:LUnit):=(tT 0 (aYz a)<|gl 14 LFun.av a.funs<|.i [rn 4,.nilL 3 1] []<|gu 0 1 (map aA ([] :List aC))<|gs 0 3 (.gl 1 1 0 ([] :List aC).length false)<|.W 0 2 [1] (aIJ a 0 ([] :List aC))) ⟨kk,trivial⟩
def aTn(c:LUnit)(a:Int)(b:List aC):=tT 0 (aIJ c a b)<|gd 5 10 (a< (c.funs.length:Int)) (gX LFun.av 6 c.funs a<|fun d=>ga 9 aA b [d.name]<|gw 5 18 (a+1)<|.W 3 4 [3] (aIJ c (a+1) (b++ [d.name])))<|gz 8 2 0 1 aA b false<|gE 0 1 (iS b)
def aWa:=fun a b c d e f g i j=>aTn a b c|>.t e d f g i j ⟨kk,trivial⟩
def aWb:=fun a b c d=>aTn a b c|>.f d tv
def aWc (a:Con):=(tT 0 (aYA a)<|gE 12 1 (aA a.name)) tv
def aWd (a:List aC):=(tT 0 (aZ7 a)<|gl 25 aA a<|.W 4 0 [] (aIK a 0)) tv
def aNw(a:List aC)(b:Int):=tT 0 (aIK a b)<|gd 5 9 (b< (a.length:Int)) (gX aA 14 a b<|fun c=>fQ 9 85 [(aA c)]<|fun d=>.b 6 16 (!d) (.b 15 6 (!(decide (b≥0))) (.i [rn 9,.mset 0 (aD aA mY 0 ([] :List (aC×Bool))) ([] :List (aC×Bool)).length] [hr (aD aA mY 0 ([] :List (aC×Bool))),hr (length ([] :List (aC×Bool)))]<|gl 6 aA a<|.W 4 1 [0] (aCq a 0 ([] :List (aC×Bool))))<|gE 6 0 (bV false))<|gw 5 18 (b+1)<|.W 3 0 [] (aIK a (b+1)))<|.i [rn 24,.mset 0 (aD aA mY 0 ([] :List (aC×Bool))) ([] :List (aC×Bool)).length] [hr (aD aA mY 0 ([] :List (aC×Bool))),hr (length ([] :List (aC×Bool)))]<|gl 6 aA a<|.W 4 1 [0] (aCq a 0 ([] :List (aC×Bool)))
def aWe:=fun a b c d e f g i j k=>aNw a b|>.t e c f g d i|>.t j|>.f k tv
def aWf:=fun a b c d e f g i j k=>aNw a b|>.t e c f g d i|>.f j k tv
def aWg:=fun a b c=>aNw a b|>.f c ⟨aO (fun _=>rfl) (fun _=>rfl) _ _ _,trivial⟩
def aNx(f:List aC)(c:Int)(a:List (aC×Bool)):=tT 0 (aCq f c a)<|gd 5 12 (c< (f.length:Int)) (gX aA 6 f c<|fun g=>gpS 9 141 [(aA g)]<|fun d=>.o (.y fun b:Bool=>.i [.ans (.look (some (wS d a,(mY b))))] [.a (dR d a=some b) (p':=eQ (aA d) (aD aA mY 0 a) 0=some (some (wS d a,(mY b)))) (rG gC)]<|.b 1 19 b (gE 11 1 (bV false))<|gpS 6 141 [(aA g)]<|fun e=>.i [.mput (aD aA mY 0 (bT e true a)) (bT e true a).length] [.q (p:=tB (aD aA mY 0 a) a.length (aA e) (mY true) =some ((aD aA mY 0 (bT e true a)),length (bT e true a))) (aHP gC _ _ _)]<|gw 4 24 (c+1)<|.W 3 1 [0] (aCq f (c+1) (bT e true a)))<|.i [.ans (.look none)] [.a (dR d a=none) (p':=eQ (aA d) (aD aA mY 0 a) 0=some none) (rF gC)]<|gpS 7 141 [(aA g)]<|fun b=>.i [.mput (aD aA mY 0 (bT b true a)) (bT b true a).length] [.q (p:=tB (aD aA mY 0 a) a.length (aA b) (mY true) =some ((aD aA mY 0 (bT b true a)),length (bT b true a))) (aHP gC _ _ _)]<|gw 4 24 (c+1)<|.W 3 1 [0] (aCq f (c+1) (bT b true a)))<|gE 12 1 (bV true)
def aWh:=fun a b c d e f g i j k l m=>aNx a b c|>.t g d i j e k|>.1 f l|>.t m tv
def aWi:=fun a b c d e f g i j k l m n=>aNx a b c|>.t g d i j e k|>.2 l f m n ⟨aO (fun _=>rfl) (fun _=>rfl) _ _ _,trivial⟩
def aWj:=fun a b c d=>aNx a b c|>.f d tv
def bAa (a:List Node):=(tT 0 (aTl a)<|.W 8 0 [] (aZ8 a)) tv
def bAb (a:List Node):=(tT 0 (aZv a)<|.i [rn 8,.nilL 2 4] []<|.E 0 1 [0] (.gl 0 4 0 0 false) [oL 0 4 (jN ([] :List Node))] 1) ⟨kk,trivial⟩
def bAc (a:List Node)(b:Addr)(c d:Nat):=fun e=>(tT 0 (aZw a b c d)<|.i [rn 8,.toL 5 true []] [.q (p:=getCells (putCells .leaf 0 []) 0 (0*4) =some []) rfl,hr true]<|gu 0 0 (jN ([] :List Node))<|gs 0 5 (.gl 0 4 0 ([] :List Node).length true)<|.i [.weak 5] []<|ga 0 Node.av ([] :List Node) a<|.E 3 2 [1] (.gl 0 4 0 (([] :List Node) ++a).length false) [oL 0 4 (jN (([] :List Node) ++a))] 1) e ⟨kk,trivial⟩
def aTo(a b:List aC):=tT 1 (aTm a b)<|gl 36 aA a<|gw 1 18 (0+ (a.length:Int))<|gd 7 20 ((0+ (a.length:Int)) <0) (.P 4 1 [] [((.iface 9 (.str 16 134789072936214216453580009062074836332)),false)] [oC 0 [(iS a),(iS b)]] 1)<|gl 27 aA b<|gw 1 18 ((0+ (a.length:Int)) + (b.length:Int))<|gd 7 20 (((0+ (a.length:Int)) + (b.length:Int)) <0) (.P 4 1 [] [((.iface 9 (.str 16 134789072936214216453580009062074836332)),false)] [oC 0 [(iS a),(iS b)]] 1)<|gd 29 6 (((0+ (a.length:Int)) + (b.length:Int)) <0) .x<|gw 12 14 (((0+ (a.length:Int)) + (b.length:Int)) -0)<|gd 7 16 ((((0+ (a.length:Int)) + (b.length:Int)) -0) >0) (.i [rn 7,.appN (map aA (replicate (((0+ (a.length:Int)) + (b.length:Int)) -0).toNat ([] :aC))) (((0+ (a.length:Int)) + (b.length:Int)) -0).toNat] [hA ((((0+ (a.length:Int)) + (b.length:Int)) -0) = (((((0+ (a.length:Int)) + (b.length:Int)) -0).toNat:Nat) :Int)),hA (0< (((0+ (a.length:Int)) + (b.length:Int)) -0).toNat),hA ((((0+ (a.length:Int)) + (b.length:Int)) -0).toNat<100000),.q (p:=jF [AV.str 0 0] (((0+ (a.length:Int)) + (b.length:Int)) -0).toNat= (map aA (replicate (((0+ (a.length:Int)) + (b.length:Int)) -0).toNat ([] :aC)))) (aKS _),.q (p:=cE (map aA (replicate (((0+ (a.length:Int)) + (b.length:Int)) -0).toNat ([] :aC))) =true) (xB _)]<|.i [.toL 22 false (map aA (replicate (((0+ (a.length:Int)) + (b.length:Int)) -0).toNat ([] :aC)))] [.q (p:=getCells (putCells .leaf 0 (map aA (replicate (((0+ (a.length:Int)) + (b.length:Int)) -0).toNat ([] :aC)))) 0 ((((0+ (a.length:Int)) + (b.length:Int)) -0).toNat*1) =some (map aA (replicate (((0+ (a.length:Int)) + (b.length:Int)) -0).toNat ([] :aC)))) (aSR _),.q (p:=cE (map aA (replicate (((0+ (a.length:Int)) + (b.length:Int)) -0).toNat ([] :aC))) =true) (xB _)]<|.i [.lset 1 (map aA (replicate (((0+ (a.length:Int)) + (b.length:Int)) -0).toNat ([] :aC)))] [.q (p:=nF false 1 (((0+ (a.length:Int)) + (b.length:Int)) -0).toNat (map aA (replicate (((0+ (a.length:Int)) + (b.length:Int)) -0).toNat ([] :aC))) = (map aA (replicate (((0+ (a.length:Int)) + (b.length:Int)) -0).toNat ([] :aC)))) (aSS _)]<|.i [rn 2,.ans (.ev (.gl 1 1 0 0 false))] [.a (0≤ (((0+ (a.length:Int)) + (b.length:Int)) -0).toNat) (p':=nR PP 25 (.gl 1 1 0 ((((0+ (a.length:Int)) + (b.length:Int)) -0).toNat) false) none (some (nI 0)) (.gl 1 1 0 0 false)) (fun h=>(aRe (k:=0) (by kernel_rfl) (by decide) h))]<|.i [rn 38,.app (map aA a) a.length] [.q (p:=0+0≤length (map aA (replicate (((0+ (a.length:Int)) + (b.length:Int)) -0).toNat ([] :aC)))) (Nat.zero_le _),hA (a.length≤1000000),.q (p:=take 0 (drop 0 (map aA (replicate (((0+ (a.length:Int)) + (b.length:Int)) -0).toNat ([] :aC)))) ++ (map aA a) = (map aA a)) (by rw [List.take_zero,List.nil_append]),.q (p:=0+length (map aA a) =a.length) (by rw [Nat.zero_add,length_map])]<|ga 26 aA a b<|gz 21 2 3 1 aA (a++b) false<|.E 0 4 [] (iS (a++b)) [oC 0 [(iS a),(iS b)]] 1)<|.i [rn 38,.nilL 31 1] []<|gu 0 1 (map aA ([] :List aC))<|gs 0 31 (.gl 1 1 0 ([] :List aC).length false)<|ga 0 aA ([] :List aC) a<|ga 26 aA (([] :List aC) ++a) b<|gz 21 2 3 1 aA ((([] :List aC) ++a) ++b) false<|.E 0 4 [] (iS ((([] :List aC) ++a) ++b)) [oC 0 [(iS a),(iS b)]] 1
def aWk:=fun b c d e f a g i j k l m n o=>aTo b c d|>.f e f|>.f a|>.f a g|>.t i j k l m n o tv
def aWl:=fun b c d e f a g i j k=>aTo b c d|>.f e f|>.f a|>.f a g|>.f i j k tv
def aWm (a:List Con)(b:aC):=(tT 0 (aYB a b)<|gl 19 Con.av a<|.W 4 2 [0,1] (aIL a b 0)) tv
def aNy(c:List Con)(a:aC)(b:Int):=tT 0 (aIL c a b)<|gd 5 9 (b< (c.length:Int)) (gX Con.av 14 c b<|fun e=>.y fun d:aC=>.i [rn 8,.reg (.d::.d::.pure (aA d)::rd 3 [])] [hA (Pure PP 159 [(.agg [(aA e.name),(nI e.args)])] (aA d)),hr (aA a),hr (aA a)]<|.b 3 16 (bP d.length (aB d) a.length (aB a)) (gE 11 3 (nI b))<|gw 5 18 (b+1)<|.W 3 3 [0,1] (aIL c a (b+1)))<|gE 11 2 (nI (-1))
def aWn:=fun a b c d e f g i j k=>aNy a b c|>.t f d g i e j|>.t k tv
def aWo:=fun a b c d e f g i j k l=>aNy a b c|>.t f d g i e j|>.f k l tv
def aWp:=fun a b c d=>aNy a b c|>.f d tv
def aWq (a:List aC)(b:aC):=(tT 0 (aZ9 a b)<|gl 8 aA a<|.W 4 0 [] (aIM a b 0)) tv
def aNz(b:List aC)(c:aC)(a:Int):=tT 0 (aIM b c a)<|gd 5 9 (a< (b.length:Int)) (gX aA 14 b a<|fun d=>.b 3 16 (bP c.length (aB c) d.length (aB d)) (gE 7 0 (nI a))<|gw 5 18 (a+1)<|.W 3 0 [] (aIM b c (a+1)))<|gE 7 0 (nI (-1))
def aWr:=fun a b c d e f g i=>aNz a b c|>.t e d f g|>.t i tv
def aWs:=fun a b c d e f g i j=>aNz a b c|>.t e d f g|>.f i j tv
def aWt:=fun a b c d=>aNz a b c|>.f d tv
def aCr(a:LUnit):=tT 0 (aYC a)<|.y fun b:List aC=>gp 8 161 [(.agg [(aA a.name),(iC a.cons),(.ilst 2 (map LFun.av a.funs) false),(iS a.needs),(iN a.nodes)])] (iS b)<|fQ 7 85 [(aA a.name)]<|fun c=>.b 2 16 (!c) (gE 32 1 (bV false))<|gl 2 aA a.needs<|gd 3 22 ((a.needs.length:Int) >20) (gE 26 1 (bV false))<|fQ 1 139 [(iS b)]<|fun d=>.b 3 27 (!d) (gE 21 1 (bV false))<|fQ 2 139 [(iS a.needs)]<|fun e=>.b 3 33 (!e) (gE 15 1 (bV false))<|gk 4 (.enter 160 [(.slice 1 0 2 2 1 true)]) [oC 0 [(aA a.name),(iC a.cons),(.ilst 2 (map LFun.av a.funs) false),(iS a.needs),(iN a.nodes)],oC 1 [(iS b),(iS a.needs)]] 2 (iS (b++a.needs)) [oC 0 [(aA a.name),(iC a.cons),(.ilst 2 (map LFun.av a.funs) false),(iS a.needs),(iN a.nodes)],oC 1 [(iS b),(iS a.needs)]] 2<|fQ 0 139 [(iS (b++a.needs))]<|fun f=>.b 3 41 (!f) (gE 6 2 (bV false))<|.i [rn 3,.reg (rd 4 (.call (.gl 3 4 0 a.nodes.length false) (aG [oC 0 [(aA a.name),(iC a.cons),(.ilst 2 (map LFun.av a.funs) false),(iS a.needs),(iN a.nodes)],oC 1 [(iS b),(iS a.needs)],oL 3 4 (jN a.nodes)] 4)::rd 3 []))] [hA (Spec PP (.enter 189 [(iN a.nodes)]) (aG [oC 0 [(aA a.name),(iC a.cons),(.ilst 2 (map LFun.av a.funs) false),(iS a.needs),(iN a.nodes)],oC 1 [(iS b),(iS a.needs)]] 3) (.ret (.gl 3 4 0 a.nodes.length false)) (aG [oC 0 [(aA a.name),(iC a.cons),(.ilst 2 (map LFun.av a.funs) false),(iS a.needs),(iN a.nodes)],oC 1 [(iS b),(iS a.needs)],oL 3 4 (jN a.nodes)] 4)),hr (AV.ilst 2 (jC a.cons) false),hr (AV.ilst 2 (jC a.cons) false)]<|gl 5 LFun.av a.funs<|.i [rn 4,.cnil 2 1 1] []<|gu 0 4 (jI ([] :List Int))<|gv 0 2 1 (.gl 4 1 0 ([] :List Int).length false)<|.W 0 5 [0,2,3,4] (aIN a b 0 ([] :List Int))
def aWu:=fun a b c d e f=>aCr a b d c e|>.t f tv
def aWv:=fun a b c d e f g=>aCr a b d c e|>.f f|>.t g tv
def aWw:=fun a b c d e f g i j k=>aCr a b e c f|>.f g|>.f i d j|>.t k tv
def aWx:=fun a b c d e f g i j k l m n=>aCr a b f c g|>.f i|>.f j d k|>.f l e m|>.t n tv
def aWy:=fun a b c d e f g i j k l m n o p q r=>aCr a b g c i|>.f j|>.f k d l|>.f m e n|>.f o p f q|>.t r tv
def aWz:=fun a b c d e f g i j k l m n o p q r s=>aCr a b g c i|>.f j|>.f k d l|>.f m e n|>.f o p f q|>.f r s ⟨kk,⟨kk,trivial⟩⟩
def aIO(a:LUnit)(b:List aC)(c:Int)(d:List Int):=tT 0 (aIN a b c d)<|gd 5 52 (c< (a.funs.length:Int)) (gX LFun.av 6 a.funs c<|fun e=>ga 10 aR d [e.body]<|gw 6 62 (c+1)<|.W 3 7 [0,1,2,6] (aIN a b (c+1) (d++ [e.body])))<|gl 6 aA b<|.b 2 65 ((b.length:Int) ==0) (gl 6 Node.av a.nodes<|gd 2 69 ((a.nodes.length:Int) >0) (gE 6 4 (bV false))<|.i [rn 13,.ctoL 1 0 true [(nI 3),(nI 0),.nils,.nils]] [hr (some [(nI 3),(nI 0),.nils,.nils]),hr true]<|.i [.lw 4 (jN [(Node.mk 3 0 [] [])])] [.q (p:=([(.agg [(nI 3),(nI 0),.nils,.nils])] :List AV) ≠ []) (by simp),.q (p:=VW [(.agg [(nI 3),(nI 0),.nils,.nils])] (jN [(Node.mk 3 0 [] [])])) (aOn _ _)]<|gv 0 1 0 (.gl 4 4 0 [(Node.mk 3 0 [] [])].length true)<|.i [.cweak 1 0] []<|.i [.ctoL 1 1 false [(nI 0)]] [hr (some [(nI 0)]),hr true]<|gu 0 5 (jI [0])<|gv 0 1 1 (.gl 5 1 0 [0].length true)<|.i [.cweak 1 1] []<|.W 8 6 [0,1,4,5] (uI a b (([(Node.mk 3 0 [] [])].length:Nat) :Int) [(Node.mk 3 0 [] [])] [0] 0))<|.W 12 4 [0,1,2,3] (uI a b (a.nodes.length:Int) a.nodes d 0)
def aWA:=fun a b c d e f g i j k=>aIO a b c d|>.t f e g i j k ⟨kk,⟨kk,trivial⟩⟩
def aWB:=fun a b c d e f g=>aIO a b c d|>.f e|>.t f|>.t g tv
def aWC:=fun a b c d e f g=>aIO a b c d|>.f e|>.t f|>.f g ⟨kk,⟨kk,trivial⟩⟩
def aWD:=fun a b c d e f=>aIO a b c d|>.f e|>.f f ⟨kk,⟨kk,trivial⟩⟩
def aE6(e:LUnit)(f:List aC)(g:Int)(b:List Node)(d:List Int)(c:Int):=tT 0 (uI e f g b d c)<|gd 5 79 (c<g) (.i [rn 7,.ans (.ix)] [hA (0≤c),hA (c< (b.length:Int))]<|.y fun a:Node=>gj Node.av 0 b c.toNat a<|gw 9 85 ((-1:Int) -a.n)<|.b 8 89 (a.op==4) (gl 2 aA f<|gd 3 95 (((-1:Int) -a.n) ≥ (f.length:Int)) (gl 2 aA f<|gl 2 aA e.needs<|gw 1 102 ((f.length:Int) + (e.needs.length:Int))<|gd 3 104 (((-1:Int) -a.n) < ((f.length:Int) + (e.needs.length:Int))) (.i [rn 5,.ans (.ix)] [hA (0≤c),hA (c< (b.length:Int))]<|.i [rn 1,.st (Node.av a) (Node.av (Node.mk a.op (-1) a.kids a.pats))] [.a (((b)[c.toNat]?) =some a) (jL (f:=Node.av)),hr (some (Node.av (Node.mk a.op (-1) a.kids a.pats)))]<|.i [.lset 2 (jN (set b c.toNat (Node.mk a.op (-1) a.kids a.pats)))] [.q (p:=(jN b).set (0+c.toNat) (Node.av (Node.mk a.op (-1) a.kids a.pats)) = (jN (set b c.toNat (Node.mk a.op (-1) a.kids a.pats)))) (rE _ _ _ _)]<|.i [.set 76 (.gl 2 4 0 (set b c.toNat (Node.mk a.op (-1) a.kids a.pats)).length false)] [.q (p:=(AV.gl 2 4 0 b.length false) = (.gl 2 4 0 (set b c.toNat (Node.mk a.op (-1) a.kids a.pats)).length false)) (dJ (length_set ..).symm)]<|.i [.set 106 (.gl 2 4 0 (set b c.toNat (Node.mk a.op (-1) a.kids a.pats)).length false)] [.q (p:=(AV.gl 2 4 0 b.length false) = (.gl 2 4 0 (set b c.toNat (Node.mk a.op (-1) a.kids a.pats)).length false)) (dJ (length_set ..).symm)]<|.i [.cset 1 0 (.gl 2 4 0 (set b c.toNat (Node.mk a.op (-1) a.kids a.pats)).length false)] [.q (p:=(AV.gl 2 4 0 b.length false) = (.gl 2 4 0 (set b c.toNat (Node.mk a.op (-1) a.kids a.pats)).length false)) (dJ (length_set ..).symm)]<|gw 4 110 (c+1)<|.W 3 5 [0,1,2,3] (uI e f g (set b c.toNat (Node.mk a.op (-1) a.kids a.pats)) d (c+1)))<|gw 5 110 (c+1)<|.W 3 5 [0,1,2,3] (uI e f g b d (c+1)))<|gw 15 110 (c+1)<|.W 3 5 [0,1,2,3] (uI e f g b d (c+1)))<|gw 21 110 (c+1)<|.W 3 5 [0,1,2,3] (uI e f g b d (c+1)))<|.i [rn 5,.frz 111 2 (jN b)] [hk Node.av b,.q (p:=AV.frzOk 2 4 (jN b) (jN b) (.agg [(.gl 2 4 0 b.length false),(.gl 3 1 0 d.length false),(nI 0),(iC e.cons)])) (by simp [AV.frzOk,AV.frzOkL,List.take_of_length_le])]<|.i [.frz 111 3 (jI d)] [hk aR d,.q (p:=AV.frzOk 3 1 (jI d) (jI d) (.agg [(iN b),(.gl 3 1 0 d.length false),(nI 0),(iC e.cons)])) (by simp [AV.frzOk,AV.frzOkL,List.take_of_length_le])]<|gpI 0 138 [(.agg [(iN b),(iI d),(nI 0),(iC e.cons)])]<|fun a=>gE 4 4 (bV (a==0))
def aWE:=fun d e f g i j k l a b c m n o p q r=>aE6 d e f g i j|>.t l a b k c m|>.t n|>.t o p|>.t q a b c r ⟨kk,⟨kk,trivial⟩⟩
def aWF:=fun a b c d e f g i j k l m n o p q r=>aE6 a b c d e f|>.t i j k g l m|>.t n|>.t o p|>.f q r ⟨kk,⟨kk,trivial⟩⟩
def aWG:=fun a b c d e f g i j k l m n o p=>aE6 a b c d e f|>.t i j k g l m|>.t n|>.f o p ⟨kk,⟨kk,trivial⟩⟩
def aOz:=fun a b c d e f g i j k l m n o=>aE6 a b c d e f|>.t i j k g l m|>.f n o ⟨kk,⟨kk,trivial⟩⟩
def aOA:=fun a b c d e f g i j=>aE6 a b c d e f|>.f i g j tv
def bAd(a:Bool)(b:Int):TS:=dY PP 67 [(bV a),(nI b)] [] 0
def bAe(a:aC):TS:=dY PP 141 [(aA a)] [] 0
def aTp(a:Bool)(b:Int):=tT 0 (bAd a b)<|.b 4 4 a (gQ 6 0 [((.iface 201 (.agg [(nI b)])),false)])<|gE 3 0 (.tup [])
def aWH:=fun a b c=>aTp a b|>.t c tv
def aWI:=fun a b c=>aTp a b|>.f c tv
def aWJ (a:aC):=(tT 0 (bAe a)<|gE 10 0 (aA a)) tv
end
end Go.Hb

set_option linter.defProp false
set_option linter.unusedVariables false
set_option linter.unusedSimpArgs false
set_option linter.unusedSectionVars false
set_option maxRecDepth 100000
set_option maxHeartbeats 4000000
namespace Go.Hb
open AV (ilst keyless keylessL renL)
open Bool (and_eq_true eq_false_iff not_eq_true not_eq_true')
open Eq (mp)
open List (all_cons append_assoc append_nil length length_cons length_map map map_nil mem_cons_of_mem mem_cons_self mem_of_getElem? nil_append nodup_append zipWith)
open Go.Proofs Tryz
noncomputable section
theorem aZx (e:Int) :Pure PP 67 [.bool false,.int .i64 e] (.tup []) :=
 aT (by kernel_rfl) rfl rfl (aWI false e rfl)
theorem aZy (e:Int) :aHs PP 67 [.bool true,.int .i64 e] [((.iface 201 (.agg [(.int .i64 e)])),false)] :=
 throws_at (by kernel_rfl) rfl (fun x hx=>by rw [List.mem_singleton.1 hx];rfl) (aWH true e rfl)
theorem aE7 (s:aC) :Pure PP 141 [aA s] (aA s) :=aT (by kernel_rfl) rfl rfl (aWJ s)
theorem xG (c:Con) :Pure PP 159 [.agg [aA c.name,.int .i64 c.args]] (aA c.name) :=
 gW (s:=aYA c) (by kernel_rfl) (by kernel_rfl) rfl rfl (aWc c)
theorem aLd (u:LUnit)(hl:u.funs.length≤1000) :∀ (t:List LFun) (i:Nat) (acc:List aC),u.funs.drop i=t→acc.length=i→Ends PP 0 (aIJ u (i:Int) acc).as (.ret (.ilst 1 (map aA (acc++t.map LFun.name)) false)) (aG [] 0)
 | [],i,acc,h,ha=>by
  have:=bL h;rw [map_nil,append_nil];exact aWb u i acc sd
 | c::t,i,acc,h,ha=>by
  obtain⟨q1,q2,q3⟩ :=bK h;have hi:= (List.getElem?_eq_some_iff.1 q1).1;refine(aWa u i acc c sd sd sd (by simp;omega) sd).ends ?_;have:=aLd u hl t (i+1) (acc++ [c.name]) q2 (by simp [ha]);rw [append_assoc]at this;exact this
theorem aLe (u:LUnit)(hl:u.funs.length≤1000) :Pure PP 161 [LUnit.av u] (.ilst 1 (map aA (aE u)) false) :=
 gW (s:=aYz u) (by kernel_rfl) (by kernel_rfl) (by simp [keylessL,rN]) (by simp [keyless]) ((aV9 u).ends (aLd u hl u.funs 0 [] rfl rfl))
theorem aLf (l:List aC)(s:aC)(hl:l.length<1000000) :∀ (t:List aC) (i:Nat),l.drop i=t→Ends PP 0 (aIM l s (i:Int)).as (.ret (.int .i64 (dM s t i))) (aG [] 0)
 | [],i,h=>by
  have:=bL h;exact aWt l s i sd
 | c ::t,i,h=>by
  obtain⟨q1,q2,q3⟩ :=bK h;rw [dM];by_cases e:c=s
  · rw [if_pos e];exact aWr l s i c sd sd sd (by rw [eH];simp [e])
  · rw [if_neg e];exact(aWs l s i c sd sd sd (by rw [eH];simp [Ne.symm e]) sd).ends (aLf l s hl t (i+1) q2)
theorem aTq (l:List aC)(s:aC)(hl:l.length<1000000) :Pure PP 151 [.ilst 1 (map aA l) false,aA s] (.int .i64 (dM s l 0)) :=
 aT (by kernel_rfl) rfl rfl ((aWq l s).ends (aLf l s hl l 0 rfl))
theorem aLg (l:List Con)(s:aC)(hl:l.length<1000000) :∀ (t:List Con) (i:Nat),l.drop i=t→Ends PP 0 (aIL l s (i:Int)).as (.ret (.int .i64 (fO s t i))) (aG [] 0)
 | [],i,h=>by
  have:=bL h;exact aWp l s i sd
 | c ::t,i,h=>by
  obtain⟨q1,q2,q3⟩ :=bK h;rw [fO];by_cases e:c.name=s
  · rw [if_pos e];exact aWn l s i c _ sd sd sd (xG c) (by rw [eH];simp [e])
  · rw [if_neg e];exact(aWo l s i c _ sd sd sd (xG c) (by rw [eH];simp [e]) sd).ends (aLg l s hl t (i+1) q2)
theorem aTr (l:List Con)(s:aC)(hl:l.length<1000000) :Pure PP 158 [.ilst 2 (map Con.av l) false,.func 159 [] [],aA s] (.int .i64 (fO s l 0)) :=
 gW (s:=aYB l s) (by kernel_rfl) (by kernel_rfl) rfl rfl ((aWm l s).ends (aLg l s hl l 0 rfl))
def aTs (pre:List aC)(m:List (aC×Bool)) :Prop:=∀s,dR s m=if bE pre s=true then some true else none
theorem aQo {pre:List aC}{m:List (aC×Bool)}(h:aTs pre m)(s:aC) :aTs (pre++ [s]) (bT s true m) :=fun k=>by
 rw [rK,h k];by_cases e:k=s
 ·rw [if_pos e,if_pos (by rw [hasS_mem,e];simp)]
 · rw [if_neg e];have: (bE (pre++ [s]) k=true) = (bE pre k=true) :=by
    rw [hasS_mem,hasS_mem];simp [e]
   simp only [this]
theorem aYD (l:List aC)(hl:l.length<1000000) :∀ (t:List aC) (i:Nat) (m:List (aC×Bool)),l.drop i=t→aTs (l.take i) m→Ends PP 0 (aCq l (i:Int) m).as (.ret (.bool (cI (l.take i) t))) (aG [] 0)
 | [],i,m,h,hm=>by
  have:=bL h;exact aWj l i m sd
 | s::t,i,m,h,hm=>by
  obtain⟨q1,q2,q3⟩ :=bK h;have g:=hm s;rw [cI];cases e:bE (l.take i) s with
  | true=>
   rw [e,if_pos rfl]at g;exact aWh l i m s s true sd sd sd (aE7 s) g rfl
  | false=>
   rw [e,if_neg (by simp)]at g;have h1:=aWi l i m s s s sd sd sd (aE7 s) g (aE7 s) sd;have ih:=aYD l hl t (i+1) (bT s true m) q2 (by rw [aDq q1];exact aQo hm s);rw [aDq q1]at ih;exact h1.ends ih
theorem aYE (l:List aC)(hl:l.length<1000000) :∀ (t:List aC) (i:Nat),l.drop i=t→Ends PP 0 (aIK l (i:Int)).as (.ret (.bool (t.all jB&&bG l))) (aG [] 0)
 | [],i,h=>by
  have:=bL h;have h2:=aYD l hl l 0 [] rfl (fun s=>by simp [dR,bE]);exact(aWg l i sd).ends h2
 | s::t,i,h=>by
  obtain⟨q1,q2,q3⟩ :=bK h;have hn:=aEy s;rw [all_cons];cases e:jB s with
  |false=>rw [e]at hn;exact aWe l i s false sd sd sd hn rfl (by simp)
  |true=>rw [e]at hn;rw [Bool.true_and];exact(aWf l i s true sd sd sd hn rfl sd).ends (aYE l hl t (i+1) q2)
theorem aE8 (l:List aC)(hl:l.length<1000000) :Pure PP 139 [.ilst 1 (map aA l) false] (.bool (gP l)) :=
 aT (by kernel_rfl) rfl rfl ((aWd l).ends (aYE l hl l 0 rfl))
abbrev aIP (a b:List aC) :AObj:=.cells (putCells .leaf 0 [.ilst 1 (map aA a) false,.ilst 1 (map aA b) false]) 2 [] false
theorem aLh (a b:List aC)(ha:a.length≤1000)(hb:b.length≤1000) :aF9 PP 1 (.enter 160 [.slice 0 0 2 2 1 true]) (aG [(0,aIP a b,false)] 1) (.ret (.ilst 1 (map aA (a++b)) false)) (aG [(0,aIP a b,false)] 1) :=by
 suffices hh:Ends PP 1 (aTm a b).as (.ret (.ilst 1 (map aA (a++b)) false)) (aG [(0,aIP a b,false)] 1)from⟨(aTm a b).as.fr,by kernel_rfl,mp (by kernel_rfl) hh⟩
 have w1:IntKind.i64.wrap ((0:Int) + ((length a:Nat) :Int)) = (0:Int) + ((length a:Nat) :Int) :=by apply wrap64<;>omega
 have w2:IntKind.i64.wrap (((0:Int) + ((length a:Nat) :Int)) + ((length b:Nat) :Int)) = ((0:Int) + ((length a:Nat) :Int)) + ((length b:Nat) :Int) :=by apply wrap64<;>omega
 have w3:IntKind.i64.wrap ((((0:Int) + ((length a:Nat) :Int)) + ((length b:Nat) :Int)) - (0:Int)) = (((0:Int) + ((length a:Nat) :Int)) + ((length b:Nat) :Int)) - (0:Int) :=by apply wrap64<;>omega
 by_cases h:a.length+b.length=0
 · have h1:=aWl a b w1 (decide_eq_false (by omega)) w2 (decide_eq_false (by omega)) w3 (decide_eq_false (by omega)) (by simp;omega) (by simp;omega);rw [nil_append]at h1;exact h1
 ·exact aWk a b w1 (decide_eq_false (by omega)) w2 (decide_eq_false (by omega)) w3 (decide_eq_true (by omega)) (by omega) (by omega) (by omega) (by omega) (by omega) (by simp;omega)
theorem aTt (xs:List Node)(h:xs.length≤1000000) :aD6 PP (.enter 189 [.ilst 4 (map Node.av xs) false]) (aG [] 0) (.ret (.gl 0 4 0 (length xs) false)) (aG [(0,.lst 4 (map Node.av xs),true)] 1) :=by
 suffices hh:Ends PP 0 (aTl xs).as (.ret (.gl 0 4 0 (length xs) false)) (aG [(0,.lst 4 (map Node.av xs),true)] 1)from⟨(aTl xs).as.fr,by kernel_rfl,mp (by kernel_rfl) hh⟩
 refine(bAa xs).ends ?_;refine aQ6 (j:=3) (e:=4) (ex:=false) (xs:=map Node.av xs) (by kernel_rfl) (fun hx=>?_) (fun a n c=>?_)
 · have hx:xs= [] :=by simpa using hx
   subst hx;exact mp (by kernel_rfl) (bAb [])
 · have h1:=bAc xs a n c (by simpa using h);rw [nil_append]at h1;exact mp (by kernel_rfl) h1
theorem iK (l:List aC) :bG l=true↔l.Nodup:=
 ⟨fun h=> (uB l [] h).1,fun h=>uC l [] h (fun _ _ hx=>by cases hx)⟩
theorem aNA (a b:List aC)(ha:gP a=true)(hb:gP b=true) :gP (a++b) =b.all (fun s=> !bE a s) :=by
 simp only [gP,and_eq_true,iK]at ha hb;have hn: (a++b).all jB=true:=by rw [List.all_append,ha.1,hb.1];rfl
 rw [gP,hn,Bool.true_and];rw [Bool.eq_iff_iff,iK,nodup_append,List.all_eq_true];constructor
 · intro h s hs;rw [not_eq_true',eq_false_iff];intro hh;exact h.2.2 s (hasS_mem.1 hh) s hs rfl
 · intro h;refine⟨ha.2,hb.2,fun x hx y hy e=>?_⟩;have:=h y hy;rw [not_eq_true',eq_false_iff]at this;exact this (hasS_mem.2 (e ▸ hx))
def NumU (u:LUnit) :Prop:=∀x∈u.nodes,-9223372036854775808≤x.n∧x.n≤9223372036854775807
theorem aQp {n:Int}(h: -9223372036854775808≤n∧n≤9223372036854775807) :IntKind.i64.wrap ((-1:Int) -n) = (-1:Int) -n:=by apply wrap64<;>omega
theorem aGM (b:Bool) : (checkN b== (0:Int)) =b:=by cases b<;>rfl
section
variable (u :LUnit) (hu:FewU u) (hi:NumU u)
include hu hi
theorem aYF (l3:List Int)(h3:l3=bU u) :∀ (t:List Node) (i:Nat),u.nodes.drop i=t→i≤u.nodes.length→Ends PP 0 (uI u (aE u) ((u.nodes.length:Nat) :Int) (rO (eA u.funs.length u.needs.length) u.nodes i) l3 (i:Int)).as (.ret (.bool (bA (eD u)))) (aG [] 0)
 | [],i,h,hi=>by
  have hd:=bL h;rw [aKX (by omega),h3];have h1:=aOA u (aE u) ((u.nodes.length:Nat) :Int) (eD u).nodes (eD u).funs i _ sd (aKM (kK hu));rw [aGM]at h1;exact h1
 | x :: t,i,h,hi2=>by
  obtain⟨q1,q2,q3⟩ :=bK h;have hi3:= (List.getElem?_eq_some_iff.1 q1).1;have hn:u.nodes.length≤320:=by have:=hu.p;simp only [aM,and_eq_true,decide_eq_true_eq]at this;exact this.1.1.1.1
  have hf:=hu.f;have hd:=hu.n;have hl: (rO (eA u.funs.length u.needs.length) u.nodes i).length=u.nodes.length:=aEQ;have ho: (aE u).length=u.funs.length:=by simp [aE]
  have hg:=aKY (f:=eA u.funs.length u.needs.length) q1;have w1:=aQp (hi x (mem_of_getElem? q1));have w2:IntKind.i64.wrap (((length (aE u) :Nat) :Int) + ((length u.needs:Nat) :Int)) = ((length (aE u) :Nat) :Int) + ((length u.needs:Nat) :Int) :=by apply wrap64<;>omega
  have ih:=aYF l3 h3 t (i+1) q2 (by omega);by_cases h4:x.op=4
  · by_cases ha: ((length (aE u) :Nat) :Int) ≤ -1-x.n
    · by_cases hb: -1-x.n< ((length (aE u) :Nat) :Int) + ((length u.needs:Nat) :Int)
      · have ef:eA u.funs.length u.needs.length x= ⟨x.op,-1,x.kids,x.pats⟩ :=by unfold eA;rw [if_pos ⟨h4,by omega⟩]
        have h1:=aWE u (aE u) ((u.nodes.length:Nat) :Int) _ l3 i x sd sd (by rw [hl];omega) (by rw [Int.toNat_natCast];exact hg) w1 (by simp [h4]) (decide_eq_true ha) w2 (decide_eq_true hb) sd;rw [Int.toNat_natCast,←ef,aKZ q1]at h1;exact h1.ends ih
      · have ef:eA u.funs.length u.needs.length x=x:=by unfold eA;rw [if_neg (fun g=>by have:=g.2;omega)]
        have h1:=aWF u (aE u) ((u.nodes.length:Nat) :Int) _ l3 i x sd sd (by rw [hl];omega) (by rw [Int.toNat_natCast];exact hg) w1 (by simp [h4]) (decide_eq_true ha) w2 (decide_eq_false hb) sd;rw [rP q1 ef]at h1 hl ⊢;exact h1.ends ih
    · have ef:eA u.funs.length u.needs.length x=x:=by unfold eA;rw [if_neg (fun g=>by have:=g.2;omega)]
      have h1:=aWG u (aE u) ((u.nodes.length:Nat) :Int) _ l3 i x sd sd (by rw [hl];omega) (by rw [Int.toNat_natCast];exact hg) w1 (by simp [h4]) (decide_eq_false ha) sd;rw [rP q1 ef]at h1 hl ⊢;exact h1.ends ih
  · have ef:eA u.funs.length u.needs.length x=x:=by unfold eA;rw [if_neg (fun g=>h4 g.1)]
    have h1:=aOz u (aE u) ((u.nodes.length:Nat) :Int) _ l3 i x sd sd (by rw [hl];omega) (by rw [Int.toNat_natCast];exact hg) w1 (by simp [h4]) sd;rw [rP q1 ef]at h1 hl ⊢;exact h1.ends ih
theorem aTu :Ends PP 0 (uI u (aE u) (((length [(Node.mk 3 0 [] [])]) :Nat) :Int) [(Node.mk 3 0 [] [])] [0] 0).as (.ret (.bool (bA (mQ u)))) (aG [] 0) :=by
 have h0:=aOz u (aE u) 1 [(Node.mk 3 0 [] [])] [0] 0 ⟨3,0,[],[]⟩ (by decide) (by decide) (by decide) rfl (by decide) (by decide) (by decide);have h1:=aOA u (aE u) 1 (mQ u).nodes (mQ u).funs 1 _ (by decide) (aKM (aAA hu));rw [aGM]at h1;exact h0.ends h1
theorem aYG (b:Bool)(hb:b=if u.funs.length=0 then decide (u.nodes.length=0) &&bA (mQ u)else bA (eD u)) :∀ (t:List LFun) (i:Nat) (acc:List Int),u.funs.drop i=t→acc.length=i→acc++t.map LFun.body=bU u→Ends PP 0 (aIN u (aE u) (i:Int) acc).as (.ret (.bool b)) (aG [] 0)
 | [], i,acc,h,ha,e=>by
  have:=bL h;have ho: (aE u).length=u.funs.length:=by simp [aE]
  rw [map_nil,append_nil]at e;by_cases h0:u.funs.length=0
  · rw [if_pos h0]at hb;by_cases h1:u.nodes.length=0
    · rw [decide_eq_true h1,Bool.true_and]at hb;rw [hb];exact(aWC u (aE u) i acc sd (by rw [ho,h0];rfl) (by rw [h1];rfl)).ends (aTu u hu hi)
    · rw [decide_eq_false h1,Bool.false_and]at hb;rw [hb];exact aWB u (aE u) i acc sd (by rw [ho,h0];rfl) (decide_eq_true (by omega))
  · rw [if_neg h0]at hb;rw [hb];have h2:=aYF u hu hi acc e u.nodes 0 rfl (Nat.zero_le _);rw [aGB]at h2;exact(aWD u (aE u) i acc sd (beq_eq_false_iff_ne.2 (by rw [ho];omega))).ends h2
 | f::t,i,acc,h,ha,e=>by
  obtain⟨q1,q2,q3⟩ :=bK h;have hf:=hu.f;exact(aWA u (aE u) i acc f sd sd sd (by simp;omega) sd).ends (aYG b hb t (i+1) (acc++ [f.body]) q2 (by simp [ha]) (by simpa using e))
theorem aTv :Pure PP 121 [LUnit.av u] (.bool (gR u)) :=by
 have hf:=hu.f;have hd:=hu.n;refine gW (s:=aYC u) (by kernel_rfl) (by kernel_rfl) (by simp [keylessL,rN]) (by simp [keyless]) ?_;have hnl: (aE u).length=u.funs.length:=by simp [aE]
 have a0:=aLe u (by omega);have a1:=aEy u.name;have a2:=aE8 (aE u) (by omega);have a3:=aE8 u.needs (by omega);have a4:=aE8 (aE u++u.needs) (by simp;omega);have hn:u.nodes.length≤320:=by have:=hu.p;simp only [aM,and_eq_true,decide_eq_true_eq]at this;exact this.1.1.1.1
 have hc:=aLh (aE u) u.needs (by omega) (by omega)
 have hc':=lQ (m:=1) (ks:=[1]) (n2:=2) (n3:=2) (v':=.ilst 1 (map aA (aE u++u.needs)) false) (args':=[.slice 1 0 2 2 1 true])
  (lc:=[(0,aGE u,false),(1,aIP (aE u) u.needs,false)]) (lc':=[(0,aGE u,false),(1,aIP (aE u) u.needs,false)])
  hc (by rfl) (by kernel_rfl) (by kernel_rfl) (by rfl) (by rfl) (by kernel_rfl) (by kernel_rfl) trivial (by kernel_rfl) trivial
 have hk:=aRc (ks:=[]) (n2:=3) (args':=[.ilst 4 (map Node.av u.nodes) false])
  (lc:=[(0,aGE u,false),(1,aIP (aE u) u.needs,false)]) (x:=[(0,aGE u,false),(1,aIP (aE u) u.needs,false)])
  (aTt u.nodes (by omega)) (by kernel_rfl) (by kernel_rfl) (by kernel_rfl) trivial (by kernel_rfl) (by kernel_rfl) (by kernel_rfl) (by kernel_rfl) ⟨aN _ (fun _=>rfl) _,trivial⟩ (by kernel_rfl)
 unfold gR;cases e1:jB u.name with
 |false=>rw [e1]at a1;simp only [Bool.false_and];exact aWu u (aE u) false a0 a1 rfl
 | true =>
  rw [e1]at a1;by_cases e2:u.needs.length≤20
  · rw [decide_eq_true e2];cases e3:gP (aE u)with
    |false=>rw [e3]at a2;simp only [Bool.true_and,Bool.false_and,Bool.and_false];exact aWw u (aE u) true false a0 a1 rfl (by simp;omega) a2 rfl
    | true=>
     rw [e3]at a2;cases e4:gP u.needs with
     |false=>rw [e4]at a3;simp only [Bool.true_and,Bool.false_and,Bool.and_false];exact aWx u (aE u) true true false a0 a1 rfl (by simp;omega) a2 rfl a3 rfl
     | true=>
      rw [e4]at a3;rw [aNA _ _ e3 e4]at a4;simp only [Bool.true_and];cases e5:u.needs.all (fun s=> !bE (aE u) s)with
      | false=>
       rw [e5]at a4;rw [Bool.false_and];exact aWy u (aE u) true true true false a0 a1 rfl (by simp;omega) a2 rfl a3 rfl (mp (by kernel_rfl) hc') a4 rfl
      | true=>
       rw [e5]at a4;rw [Bool.true_and];exact(aWz u (aE u) true true true true a0 a1 rfl (by simp;omega) a2 rfl a3 rfl (mp (by kernel_rfl) hc') a4 rfl (mp (by kernel_rfl) hk)).ends (aYG u hu hi _ rfl u.funs 0 [] rfl rfl rfl)
  · rw [decide_eq_false e2];simp only [Bool.and_false,Bool.false_and];exact aWv u (aE u) true a0 a1 rfl (by simp;omega)
end
def aTw(a:List LUnit):TS:=dY PP 63 [(.ilst 5 (map LUnit.av a) false)] [] 0
def aCs(a:List LUnit)(e:Int)(f:Bool)(b c:List (aC×Int))(d:List aC):TS:=⟨(tf 63 87 [(2,.nilp),kp 3 0,(19,(.ilst 5 (map LUnit.av a) false)),(20,(nI (a.length:Int))),(21,(nI e))] [kc f63 244,kl f63 244,.inBlock 0,kc f63 31]),[],[oC 0 [(.ilst 5 (map LUnit.av a) false),(.map 1),(.map 2),(.gl 3 1 0 d.length false),(bV f)],(1,(.map (aD aA aR 0 b) b.length),true),(2,(.map (aD aA aR 0 c) c.length),true),oL 3 1 (map aA d)],4⟩
def aE9(a:List LUnit)(e:List LFun)(f g:Int)(i:Bool)(b:List aC)(c d:List (aC×Int))(j k:Int):TS:=⟨(tf 63 87 [(2,.nilp),kp 3 0,(4,(nI j)),(19,(.ilst 5 (map LUnit.av a) false)),(20,(nI (a.length:Int))),(21,(nI k)),(31,(.ilst 2 (map LFun.av e) false)),(32,(nI f)),(33,(nI g))] [kc f63 125340,kl f63 125340,.inBlock 2,.inBlock 1,kc f63 1959,kl f63 244,.inBlock 0,kc f63 31]),[],[oC 0 [(.ilst 5 (map LUnit.av a) false),(.map 1),(.map 2),(.gl 3 1 0 b.length false),(bV i)],(1,(.map (aD aA aR 0 c) c.length),true),(2,(.map (aD aA aR 0 d) d.length),true),oL 3 1 (map aA b)],4⟩
def aTx(d:List LUnit)(a b:List (aC×Int))(c:List aC)(e:Bool):TS:=dY PP 64 [(.ptr 0 0)] [oC 0 [(.ilst 5 (map LUnit.av d) false),(.map 1),(.map 2),(.gl 3 1 0 c.length false),(bV e)],(1,(.map (aD aA aR 0 a) a.length),true),(2,(.map (aD aA aR 0 b) b.length),true),oL 3 1 (map aA c)] 4
def aFa(a:List LUnit)(b c:List (aC×Int))(d:List aC)(f:Bool)(g:Int)(e:List aC):TS:=⟨(tf 64 50 [kp 0 0,(2,.nils),(3,(.gl 4 1 0 e.length false)),(13,(.ilst 5 (map LUnit.av a) false)),(14,(nI (a.length:Int))),(15,(nI g))] [kc f64 116,kl f64 116,.inBlock 0,kc f64 15]),[],[oC 0 [(.ilst 5 (map LUnit.av a) false),(.map 1),(.map 2),(.gl 3 1 0 d.length false),(bV f)],(1,(.map (aD aA aR 0 b) b.length),true),(2,(.map (aD aA aR 0 c) c.length),true),oL 3 1 (map aA d),oL 4 1 (map aA e)],5⟩
def xH(a:List LUnit)(b c:List (aC×Int))(d:List aC)(f:Bool)(g:List aC)(i j:Int)(e:List aC)(k:Int):TS:=⟨(tf 64 50 [kp 0 0,(2,.nils),(3,(.gl 4 1 0 e.length false)),(13,(.ilst 5 (map LUnit.av a) false)),(14,(nI (a.length:Int))),(15,(nI k)),(20,(iS g)),(21,(nI i)),(22,(nI j))] [kc f64 29900,kl f64 29900,.inBlock 2,.inBlock 1,kc f64 935,kl f64 116,.inBlock 0,kc f64 15]),[],[oC 0 [(.ilst 5 (map LUnit.av a) false),(.map 1),(.map 2),(.gl 3 1 0 d.length false),(bV f)],(1,(.map (aD aA aR 0 b) b.length),true),(2,(.map (aD aA aR 0 c) c.length),true),oL 3 1 (map aA d),oL 4 1 (map aA e)],5⟩
def aIQ(c:List LUnit)(d e:List (aC×Int))(f:List aC)(g:Bool)(b:aC)(i:List aC)(j k l m n:Int)(a:List aC):TS:=⟨(tf 151 19 [(0,(.gl 4 1 0 a.length false)),(1,(aA b)),(4,(nI 0)),(7,(nI m)),(8,(nI l))] [kc f151 52,kl f151 52,.inBlock 0,kc f151 7]),[(tf 58 9 [(4,(bV false)),(5,(.gl 4 1 0 a.length false)),(6,(aA b))] [ko f58 6 2,kc f58 7]),(tf 64 50 [kp 0 0,(2,.nils),(3,(.gl 4 1 0 a.length false)),(7,(aA b)),(13,(.ilst 5 (map LUnit.av c) false)),(14,(nI (c.length:Int))),(15,(nI n)),(20,(iS i)),(21,(nI j)),(22,(nI k)),(37,(bV true)),(38,(.gl 4 1 0 a.length false)),(39,(aA b))] [ko f64 3827302 5,kc f64 3827303,.inBlock 3,kc f64 239207,kl f64 29900,.inBlock 2,.inBlock 1,kc f64 935,kl f64 116,.inBlock 0,kc f64 15])],[oC 0 [(.ilst 5 (map LUnit.av c) false),(.map 1),(.map 2),(.gl 3 1 0 f.length false),(bV g)],(1,(.map (aD aA aR 0 d) d.length),true),(2,(.map (aD aA aR 0 e) e.length),true),oL 3 1 (map aA f),oL 4 1 (map aA a)],5⟩
def aTy(d:List LUnit)(a b:List (aC×Int))(c:List aC)(e:Bool):TS:=dY PP 77 [(.ptr 0 0)] [oC 0 [(.ilst 5 (map LUnit.av d) false),(.map 1),(.map 2),(.gl 3 1 0 c.length false),(bV e)],(1,(.map (aD aA aR 0 a) a.length),true),(2,(.map (aD aA aR 0 b) b.length),true),oL 3 1 (map aA c)] 4
def aCt(a:List LUnit)(b c:List (aC×Int))(d:List aC)(f:Bool)(g:Int)(e:List Con):TS:=⟨(tf 77 51 [(2,.nils),(3,(.gl 4 2 0 e.length false)),(12,(.ilst 5 (map LUnit.av a) false)),(13,(nI (a.length:Int))),(14,(nI g))] [kc f77 436,kl f77 436,.inBlock 0,kc f77 55,.inScope (kd f77 6)]),[],[oC 0 [(.ilst 5 (map LUnit.av a) false),(.map 1),(.map 2),(.gl 3 1 0 d.length false),(bV f)],(1,(.map (aD aA aR 0 b) b.length),true),(2,(.map (aD aA aR 0 c) c.length),true),oL 3 1 (map aA d),oL 4 2 (jC e)],5⟩
def xI(a:List LUnit)(b c:List (aC×Int))(d:List aC)(f:Bool)(g:List Con)(i j k:Int)(e:List Con):TS:=⟨(tf 77 51 [(2,.nils),(3,(.gl 4 2 0 e.length false)),(12,(.ilst 5 (map LUnit.av a) false)),(13,(nI (a.length:Int))),(14,(nI j)),(23,(iC g)),(24,(nI i)),(25,(nI k))] [kc f77 223644,kl f77 223644,.inBlock 2,.inBlock 1,kc f77 3495,kl f77 436,.inBlock 0,kc f77 55,.inScope (kd f77 6)]),[],[oC 0 [(.ilst 5 (map LUnit.av a) false),(.map 1),(.map 2),(.gl 3 1 0 d.length false),(bV f)],(1,(.map (aD aA aR 0 b) b.length),true),(2,(.map (aD aA aR 0 c) c.length),true),oL 3 1 (map aA d),oL 4 2 (jC e)],5⟩
def aCu(b:List LUnit)(c d:List (aC×Int))(e:List aC)(f:Bool)(g:Int)(i:List Con)(j:Int)(k l m:aC)(n o p q:Int)(a:List Con):TS:=⟨(tf 223 19 [(0,(.gl 4 2 0 a.length false)),(1,(.func 224 [] [(.ptr 5 0),(.ptr 6 0)])),(4,(nI 0)),(7,(nI p)),(8,(nI o))] [kc f223 52,kl f223 52,.inBlock 0,kc f223 7]),[(tf 158 10 [(6,(nI 0)),(7,(.gl 4 2 0 a.length false)),(8,(.func 224 [] [(.ptr 5 0),(.ptr 6 0)]))] [ko f158 6 2,kc f158 7]),(tf 77 51 [(2,.nils),(3,(.gl 4 2 0 a.length false)),kp 7 7,(12,(.ilst 5 (map LUnit.av b) false)),(13,(nI (b.length:Int))),(14,(nI g)),(23,(iC i)),(24,(nI j)),(25,(nI q)),(29,(.gl 4 2 0 a.length false)),(31,(aA k))] [ko f77 14313266 3,kc f77 14313267,.inBlock 3,kc f77 1789159,kl f77 223644,.inBlock 2,.inBlock 1,kc f77 3495,kl f77 436,.inBlock 0,kc f77 55,.inScope (kd f77 6)])],[oC 0 [(.ilst 5 (map LUnit.av b) false),(.map 1),(.map 2),(.gl 3 1 0 e.length false),(bV f)],(1,(.map (aD aA aR 0 c) c.length),true),(2,(.map (aD aA aR 0 d) d.length),true),oL 3 1 (map aA e),oL 4 2 (jC a),oC 5 [(.func 159 [] [])],oC 6 [(aA l)],oC 7 [(aA m),(nI n)]],8⟩
theorem aWK (l:List LUnit)(mf: (List (aC×Int)))(mh: (List (aC×Int)))(od:List aC)(tw:Bool)(t14:Int)(t23:List Con)(t24:Int)(t31 c6_0 c7_0:aC)(c7_1 t8:Int)(t7 t25:Int)(l4:List Con)(y0:Con)(y1:aC)(h0:decide (t8<t7) =true)(h1:0≤t8)(h2:t8< ((l4.length:Nat) :Int))(h3: ((l4)[t8.toNat]?) =some y0)(h4:Pure PP 159 [(.agg [(aA y0.name),(nI y0.args)])] (aA y1))(h5: (bP y1.length (aB y1) c6_0.length (aB c6_0)) =true)(h6:decide (t8< (0:Int)) =false)(h7:Spec PP (.enter 67 [(bV (y0.args != c7_1)),(nI 7)]) (aG [oC 0 [(.ilst 5 (map LUnit.av l) false),(.map 1),(.map 2),(.gl 3 1 0 od.length false),(bV tw)],(1,(.map (aD aA aR 0 mf) mf.length),true),(2,(.map (aD aA aR 0 mh) mh.length),true),oL 3 1 (map aA od),oL 4 2 (jC l4),oC 5 [(.func 159 [] [])],oC 6 [(aA c6_0)],oC 7 [(aA c7_0),(nI c7_1)],oC 8 [(aA y0.name),(nI y0.args)]] 9) (.pan [((.iface 201 (.agg [(nI 7)])),false)]) (aG [oC 0 [(.ilst 5 (map LUnit.av l) false),(.map 1),(.map 2),(.gl 3 1 0 od.length false),(bV tw)],(1,(.map (aD aA aR 0 mf) mf.length),true),(2,(.map (aD aA aR 0 mh) mh.length),true),oL 3 1 (map aA od),oL 4 2 (jC l4),oC 5 [(.func 159 [] [])],oC 6 [(aA c6_0)],oC 7 [(aA c7_0),(nI c7_1)],oC 8 [(aA y0.name),(nI y0.args)]] 9)) :
  Ends PP 4 (aCu l mf mh od tw t14 t23 t24 t31 c6_0 c7_0 c7_1 t8 t7 t25 l4).as (.pan [((.iface 201 (.agg [(nI 7)])),false)]) (aG [oC 0 [(.ilst 5 (map LUnit.av l) false),(.map 1),(.map 2),(.gl 3 1 0 od.length false),(bV tw)],(1,(.map (aD aA aR 0 mf) mf.length),true),(2,(.map (aD aA aR 0 mh) mh.length),true),oL 3 1 (map aA od)] 4) :=
 aNu (n1:=9) (ks:=[]) (e:=8) (is1:=[.d,.d,.ans (.ix),.d,.ans (.idx (Con.av y0)),.d,.d,.d]) (v:= (.tup [])) (h2:=aG [oC 0 [(.ilst 5 (map LUnit.av l) false),(.map 1),(.map 2),(.gl 3 1 0 od.length false),(bV tw)],(1,(.map (aD aA aR 0 mf) mf.length),true),(2,(.map (aD aA aR 0 mh) mh.length),true),oL 3 1 (map aA od),oL 4 2 (jC l4),oC 5 [(.func 159 [] [])],oC 6 [(aA c6_0)],oC 7 [(aA c7_0),(nI c7_1)],oC 8 [(aA y0.name),(nI y0.args)]] 9) (is2:=[]) (os:=[]) (h':=aG [oC 0 [(.ilst 5 (map LUnit.av l) false),(.map 1),(.map 2),(.gl 3 1 0 od.length false),(bV tw)],(1,(.map (aD aA aR 0 mf) mf.length),true),(2,(.map (aD aA aR 0 mh) mh.length),true),oL 3 1 (map aA od),oL 4 2 (jC l4),oC 5 [(.func 159 [] [])],oC 6 [(aA c6_0)],oC 7 [(aA c7_0),(nI c7_1)],oC 8 [(aA y0.name),(nI y0.args)]] 9) (hp:=[oC 0 [(.ilst 5 (map LUnit.av l) false),(.map 1),(.map 2),(.gl 3 1 0 od.length false),(bV tw)],(1,(.map (aD aA aR 0 mf) mf.length),true),(2,(.map (aD aA aR 0 mh) mh.length),true),oL 3 1 (map aA od)]) (ch:=[((.iface 201 (.agg [(nI 7)])),false)]) (ps:=[decide (t8<t7) =true,0≤t8,t8< ((l4.length:Nat) :Int),(jC l4)[(0+t8.toNat)]?=some (Con.av y0),Pure PP 159 [(.agg [(aA y0.name),(nI y0.args)])] (aA y1),(aA c6_0) = (aA c6_0),(aA c6_0) = (aA c6_0),(bP y1.length (aB y1) c6_0.length (aB c6_0)) =true,decide (t8< (0:Int)) =false,0≤t8,t8< ((l4.length:Nat) :Int),(jC l4)[(0+t8.toNat)]?=some (Con.av y0),Spec PP (.enter 67 [(bV (y0.args != c7_1)),(nI 7)]) (aG [oC 0 [(.ilst 5 (map LUnit.av l) false),(.map 1),(.map 2),(.gl 3 1 0 od.length false),(bV tw)],(1,(.map (aD aA aR 0 mf) mf.length),true),(2,(.map (aD aA aR 0 mh) mh.length),true),oL 3 1 (map aA od),oL 4 2 (jC l4),oC 5 [(.func 159 [] [])],oC 6 [(aA c6_0)],oC 7 [(aA c7_0),(nI c7_1)],oC 8 [(aA y0.name),(nI y0.args)]] 9) (.pan [((.iface 201 (.agg [(nI 7)])),false)]) (aG [oC 0 [(.ilst 5 (map LUnit.av l) false),(.map 1),(.map 2),(.gl 3 1 0 od.length false),(bV tw)],(1,(.map (aD aA aR 0 mf) mf.length),true),(2,(.map (aD aA aR 0 mh) mh.length),true),oL 3 1 (map aA od),oL 4 2 (jC l4),oC 5 [(.func 159 [] [])],oC 6 [(aA c6_0)],oC 7 [(aA c7_0),(nI c7_1)],oC 8 [(aA y0.name),(nI y0.args)]] 9)]) (is:=[.run 5,.b 9 true,.run 14,.ans (.ix),.ans (.idx (Con.av y0)),.run 7,.reg [.d,.d,.pure (aA y1),.d,.d,.d],.run 3,.b 16 true,.run 20,.b 34 false,.run 2]) (by kernel_rfl) (by kernel_rfl) ⟨aO (fun _=>rfl) (fun _=>rfl) _ _ _,⟨aO (fun _=>rfl) (fun _=>rfl) _ _ _,⟨(aN _ (fun _=>rfl) _),trivial⟩⟩⟩ ⟨h0,h1,h2,(jL h3),h4,rfl,rfl,h5,h6,h1,h2,(jL h3),h7⟩
def aTz(d:List LUnit)(a b:List (aC×Int))(c:List aC)(e:Bool):TS:=dY PP 78 [(.ptr 0 0)] [oC 0 [(.ilst 5 (map LUnit.av d) false),(.map 1),(.map 2),(.gl 3 1 0 c.length false),(bV e)],(1,(.map (aD aA aR 0 a) a.length),true),(2,(.map (aD aA aR 0 b) b.length),true),oL 3 1 (map aA c)] 4
def aIR(a:List LUnit)(b c:List (aC×Int))(d:List aC)(e:Bool)(f g:Int):TS:=⟨(tf 78 22 [(2,(nI 0)),(3,(nI f)),(9,(.ilst 5 (map LUnit.av a) false)),(10,(nI (a.length:Int))),(11,(nI g))] [kc f78 116,kl f78 116,.inBlock 0,kc f78 15]),[],[oC 0 [(.ilst 5 (map LUnit.av a) false),(.map 1),(.map 2),(.gl 3 1 0 d.length false),(bV e)],(1,(.map (aD aA aR 0 b) b.length),true),(2,(.map (aD aA aR 0 c) c.length),true),oL 3 1 (map aA d)],4⟩
def aTA(a:List LUnit):=tT 0 (aTw a)<|gl 7 LUnit.av a<|gd 6 4 ((a.length:Int) >10) (gQ 7 0 [((.iface 201 (.agg [(nI 2)])),false)])<|.i [rn 9,.mset 0 (aD aA aR 0 ([] :List (aC×Int))) ([] :List (aC×Int)).length] [hr (aD aA aR 0 ([] :List (aC×Int))),hr (length ([] :List (aC×Int)))]<|.i [rn 1,.mset 1 (aD aA aR 0 ([] :List (aC×Int))) ([] :List (aC×Int)).length] [hr (aD aA aR 0 ([] :List (aC×Int))),hr (length ([] :List (aC×Int)))]<|gl 8 LUnit.av a<|.i [rn 4,.cnil 2 3 1] []<|gu 0 3 (map aA ([] :List aC))<|gv 0 2 3 (.gl 3 1 0 ([] :List aC).length false)<|.W 0 4 [2,0,1,3] (aCs a 0 false ([] :List (aC×Int)) ([] :List (aC×Int)) ([] :List aC))
def aWL:=fun a b=>aTA a|>.t b tv
def aOB:=fun a b=>aTA a|>.f b ⟨aO (fun _=>rfl) (fun _=>rfl) _ _ _,⟨aO (fun _=>rfl) (fun _=>rfl) _ _ _,⟨kk,trivial⟩⟩⟩
def aNB(b:List LUnit)(c:Int)(g:Bool)(d e:List (aC×Int))(f:List aC):=tT 0 (aCs b c g d e f)<|gd 5 22 (c< (b.length:Int)) (gX LUnit.av 7 b c<|fun a=>fQ 8 121 [(.agg [(aA a.name),(iC a.cons),(.ilst 2 (map LFun.av a.funs) false),(iS a.needs),(iN a.nodes)])]<|fun i=>.b 6 4 (!i) (gQ 7 5 [((.iface 201 (.agg [(nI 2)])),false)])<|gl 9 LFun.av a.funs<|.W 4 5 [0,1,2,3] (aE9 b a.funs (a.funs.length:Int) 0 g f d e c c))<|.E 8 4 [0,1,2,3] (.ptr 0 0) [oC 0 [(.ilst 5 (map LUnit.av b) false),(.map 1),(.map 2),(.gl 3 1 0 f.length false),(bV g)],(1,(.map (aD aA aR 0 d) d.length),true),(2,(.map (aD aA aR 0 e) e.length),true),oL 3 1 (map aA f)] 4
def aWM:=fun a b c d e f g i j k l m n=>aNB a b c d e f|>.t j g k l i m|>.t n tv
def aWN:=fun a b c d e f g i j k l m n=>aNB a b c d e f|>.t j g k l i m|>.f n ⟨aO (fun _=>rfl) (fun _=>rfl) _ _ _,⟨aO (fun _=>rfl) (fun _=>rfl) _ _ _,⟨kk,trivial⟩⟩⟩
def aWO:=fun a b c d e f g=>aNB a b c d e f|>.f g ⟨aO (fun _=>rfl) (fun _=>rfl) _ _ _,⟨aO (fun _=>rfl) (fun _=>rfl) _ _ _,⟨kk,trivial⟩⟩⟩
def aNC(i:List LUnit)(j:List LFun)(k f:Int)(l:Bool)(c:List aC)(b d:List (aC×Int))(e g:Int):=tT 0 (aE9 i j k f l c b d e g)<|gd 5 34 (f<k) (gX LFun.av 6 j f<|fun a=>.o (.y fun m:Int=>.i [rn 6,.reg (rd 6 (.ans (.look (some (wS a.name b,(aR m))))::rd 5 [])),rn 11,.reg (rd 8 (.app (map aA (c++ [a.name])) (c++ [a.name]).length::rd 3 []))] [.a (dR a.name b=some m) (p':=eQ (aA a.name) (aD aA aR 0 b) 0=some (some (wS a.name b,(aR m)))) (rG gC),hb aA c,hA (length (c++ [a.name]) ≤1000000),hc aA c [a.name],he aA c [a.name]]<|gw 3 84 (f+1)<|.W 3 7 [0,1,2,6] (aE9 i j k (f+1) true (c++ [a.name]) b d e g))<|.i [rn 6,.reg (rd 6 (.ans (.look none)::rd 5 [])),rn 5,.reg (rd 18 [.mval (.tup [(nI 0),(nI (b.length:Int))]) (aD aA aR 0 (bT a.name 0 b)) (bT a.name 0 b).length,.d,.mval .undef (aD aA aR 0 (bT a.name (c.length:Int) b)) (bT a.name (c.length:Int) b).length,.mval (.tup [(nI 0),(nI (d.length:Int))]) (aD aA aR 0 (bT a.name 0 d)) (bT a.name 0 d).length,.d,.mval .undef (aD aA aR 0 (bT a.name e d)) (bT a.name e d).length]),.reg (rd 8 (.app (map aA (c++ [a.name])) (c++ [a.name]).length::rd 3 []))] [.a (dR a.name b=none) (p':=eQ (aA a.name) (aD aA aR 0 b) 0=some none) (rF gC),.a (dR a.name b=none) (p':=aB1 (aD aA aR 0 b) b.length (aA a.name) (aR 0) =some ((.tup [(nI 0),(nI (b.length:Int))]),(aD aA aR 0 (bT a.name 0 b)),length (bT a.name 0 b))) (fun h=>(aOo gC h _)),.q (p:=0≤ (b.length:Int)) (Int.natCast_nonneg _),.a (dR a.name b=none) (p':=jO (aR (c.length:Int)) (b.length:Int).toNat (aD aA aR 0 (bT a.name 0 b)) =some (aD aA aR 0 (bT a.name (c.length:Int) b))) (fun h=>(aKT h _ _)),.a (dR a.name b=none) (p':=(bT a.name 0 b).length=length (bT a.name (c.length:Int) b)) (fun h=>(aOp h _ _)),hr AV.undef,.a (dR a.name d=none) (p':=aB1 (aD aA aR 0 d) d.length (aA a.name) (aR 0) =some ((.tup [(nI 0),(nI (d.length:Int))]),(aD aA aR 0 (bT a.name 0 d)),length (bT a.name 0 d))) (fun h=>(aOo gC h _)),.q (p:=0≤ (d.length:Int)) (Int.natCast_nonneg _),.a (dR a.name d=none) (p':=jO (aR e) (d.length:Int).toNat (aD aA aR 0 (bT a.name 0 d)) =some (aD aA aR 0 (bT a.name e d))) (fun h=>(aKT h _ _)),.a (dR a.name d=none) (p':=(bT a.name 0 d).length=length (bT a.name e d)) (fun h=>(aOp h _ _)),hr AV.undef,hr (nI (c.length:Int)),hr (nI (c.length:Int)),hr (AV.gl 3 1 0 c.length false),hr (AV.gl 3 1 0 c.length false),hr (aA a.name),hr (aA a.name),hr (aA a.name),hb aA c,hA (length (c++ [a.name]) ≤1000000),hc aA c [a.name],he aA c [a.name]]<|gw 3 84 (f+1)<|.W 3 7 [0,1,2,6] (aE9 i j k (f+1) l (c++ [a.name]) (bT a.name (c.length:Int) b) (bT a.name e d) e g))<|gw 5 85 (g+1)<|.W 3 4 [0,1,2,3] (aCs i (g+1) l b d c)
def aWP:=fun a b c d e f g i j k l m n o p q r s=>aNC a b c d e f g i j k|>.t n l o p|>.1 m q r s ⟨aO (fun _=>rfl) (fun _=>rfl) _ _ _,⟨aO (fun _=>rfl) (fun _=>rfl) _ _ _,⟨kk,trivial⟩⟩⟩
def aWQ:=fun c d e f g i j k l m n o p q a b r s=>aNC c d e f g i j k l m|>.t o n p q|>.2 a a a a b b b r s ⟨aO (fun _=>rfl) (fun _=>rfl) _ _ _,⟨aO (fun _=>rfl) (fun _=>rfl) _ _ _,⟨kk,trivial⟩⟩⟩
def aWR:=fun a b c d e f g i j k l m=>aNC a b c d e f g i j k|>.f l m ⟨aO (fun _=>rfl) (fun _=>rfl) _ _ _,⟨aO (fun _=>rfl) (fun _=>rfl) _ _ _,⟨kk,trivial⟩⟩⟩
def aWS (a:List LUnit)(b c:List (aC×Int))(d:List aC)(e:Bool):=(tT 4 (aTx a b c d e)<|gl 15 LUnit.av a<|.i [rn 4,.nilL 3 1] []<|gu 0 4 (map aA ([] :List aC))<|gs 0 3 (.gl 4 1 0 ([] :List aC).length false)<|.W 0 5 [4] (aFa a b c d e 0 ([] :List aC))) ⟨aO (fun _=>rfl) (fun _=>rfl) _ _ _,⟨aO (fun _=>rfl) (fun _=>rfl) _ _ _,⟨kk,⟨kk,trivial⟩⟩⟩⟩
def aTB(a:List LUnit)(b c:List (aC×Int))(d:List aC)(g:Bool)(e:Int)(f:List aC):=tT 4 (aFa a b c d g e f)<|gd 5 16 (e< (a.length:Int)) (gX LUnit.av 6 a e<|fun i=>gl 8 aA i.needs<|.W 4 6 [4] (xH a b c d g i.needs (i.needs.length:Int) 0 f e))<|gz 8 2 4 1 aA f false<|.E 0 5 [] (iS f) [oC 0 [(.ilst 5 (map LUnit.av a) false),(.map 1),(.map 2),(.gl 3 1 0 d.length false),(bV g)],(1,(.map (aD aA aR 0 b) b.length),true),(2,(.map (aD aA aR 0 c) c.length),true),oL 3 1 (map aA d)] 4
def aWT:=fun a b c d e f g i j k l=>aTB a b c d e f g|>.t j i k l ⟨aO (fun _=>rfl) (fun _=>rfl) _ _ _,⟨aO (fun _=>rfl) (fun _=>rfl) _ _ _,⟨kk,⟨kk,trivial⟩⟩⟩⟩
def aWU:=fun a b c d e f g i=>aTB a b c d e f g|>.f i ⟨aO (fun _=>rfl) (fun _=>rfl) _ _ _,⟨aO (fun _=>rfl) (fun _=>rfl) _ _ _,⟨kk,trivial⟩⟩⟩
def aND(f:List LUnit)(a g:List (aC×Int))(i:List aC)(j:Bool)(k:List aC)(l c:Int)(d:List aC)(e:Int):=tT 4 (xH f a g i j k l c d e)<|gd 5 23 (c<l) (gX aA 6 k c<|fun b=>.o (.y fun m:Int=>.i [rn 10,.ans (.look (some (wS b a,(aR m))))] [.a (dR b a=some m) (p':=eQ (aA b) (aD aA aR 0 a) 0=some (some (wS b a,(aR m)))) (rG gC)]<|gw 22 47 (c+1)<|.W 3 5 [4] (xH f a g i j k l (c+1) d e))<|.i [rn 10,.ans (.look none)] [.a (dR b a=none) (p':=eQ (aA b) (aD aA aR 0 a) 0=some none) (rF gC)]<|.W 36 5 [4] (aIQ f a g i j b k l c 0 (d.length:Int) e d))<|gw 5 48 (e+1)<|.W 3 5 [4] (aFa f a g i j (e+1) d)
def aWV:=fun a b c d e f g i j k l m n o p q r=>aND a b c d e f g i j k|>.t n l o p|>.1 m q r ⟨aO (fun _=>rfl) (fun _=>rfl) _ _ _,⟨aO (fun _=>rfl) (fun _=>rfl) _ _ _,⟨kk,⟨kk,trivial⟩⟩⟩⟩
def aWW:=fun a b c d e f g i j k l m n o p=>aND a b c d e f g i j k|>.t m l n o|>.2 p ⟨aO (fun _=>rfl) (fun _=>rfl) _ _ _,⟨aO (fun _=>rfl) (fun _=>rfl) _ _ _,⟨kk,⟨kk,trivial⟩⟩⟩⟩
def aWX:=fun a b c d e f g i j k l m=>aND a b c d e f g i j k|>.f l m ⟨aO (fun _=>rfl) (fun _=>rfl) _ _ _,⟨aO (fun _=>rfl) (fun _=>rfl) _ _ _,⟨kk,⟨kk,trivial⟩⟩⟩⟩
def aNE(e:List LUnit)(f g:List (aC×Int))(i:List aC)(j:Bool)(b:aC)(k:List aC)(l c d n m:Int)(a:List aC):=tT 4 (aIQ e f g i j b k l c d n m a)<|gd 5 9 (d<n) (.i [rn 14,.ans (.ix)] [hA (0≤d),hA (d< (a.length:Int))]<|.y fun o:aC=>gj aA 0 a d.toNat o<|.b 2 16 (bP b.length (aB b) o.length (aB o)) (.b 16 42 (!(decide (d≥0))) (ga 5 aA a [b]<|gw 5 47 (c+1)<|.W 3 7 [6] (xH e f g i j k l (c+1) (a++ [b]) m))<|gw 5 47 (c+1)<|.W 3 5 [4] (xH e f g i j k l (c+1) a m))<|gw 5 18 (d+1)<|.W 3 5 [4] (aIQ e f g i j b k l c (d+1) n m a))<|ga 21 aA a [b]<|gw 5 47 (c+1)<|.W 3 7 [6] (xH e f g i j k l (c+1) (a++ [b]) m)
def aWY:=fun a b c d e f g i j k l m n o p q r s t u v=>aNE a b c d e f g i j k l m n|>.t p q r o s|>.t t|>.f u v ⟨aO (fun _=>rfl) (fun _=>rfl) _ _ _,⟨aO (fun _=>rfl) (fun _=>rfl) _ _ _,⟨kk,⟨kk,trivial⟩⟩⟩⟩
def aWZ:=fun a b c d e f g i j k l m n o p q r s t u=>aNE a b c d e f g i j k l m n|>.t p q r o s|>.f t u ⟨aO (fun _=>rfl) (fun _=>rfl) _ _ _,⟨aO (fun _=>rfl) (fun _=>rfl) _ _ _,⟨kk,⟨kk,trivial⟩⟩⟩⟩
def aW0:=fun a b c d e f g i j k l m n o p q=>aNE a b c d e f g i j k l m n|>.f o p q ⟨aO (fun _=>rfl) (fun _=>rfl) _ _ _,⟨aO (fun _=>rfl) (fun _=>rfl) _ _ _,⟨kk,⟨kk,trivial⟩⟩⟩⟩
def aW1 (a:List LUnit)(b c:List (aC×Int))(d:List aC)(e:Bool):=(tT 4 (aTy a b c d e)<|gl 18 LUnit.av a<|.i [rn 4,.nilL 3 2] []<|gu 0 4 (jC ([] :List Con))<|gs 0 3 (.gl 4 2 0 ([] :List Con).length false)<|.W 0 5 [4] (aCt a b c d e 0 ([] :List Con))) ⟨aO (fun _=>rfl) (fun _=>rfl) _ _ _,⟨aO (fun _=>rfl) (fun _=>rfl) _ _ _,⟨kk,⟨kk,trivial⟩⟩⟩⟩
def aNF(a:List LUnit)(c d:List (aC×Int))(e:List aC)(i:Bool)(b:Int)(f:List Con):=tT 4 (aCt a c d e i b f)<|gd 5 15 (b< (a.length:Int)) (gX LUnit.av 6 a b<|fun g=>gl 9 Con.av g.cons<|.b 2 21 ((g.cons.length:Int) ==0) (gw 4 49 (b+1)<|.W 3 6 [4] (aCt a c d e i (b+1) f))<|gl 6 Con.av g.cons<|.W 4 6 [4] (xI a c d e i g.cons (g.cons.length:Int) b 0 f))<|gz 8 2 4 2 Con.av f false<|.E 0 5 [] (iC f) [oC 0 [(.ilst 5 (map LUnit.av a) false),(.map 1),(.map 2),(.gl 3 1 0 e.length false),(bV i)],(1,(.map (aD aA aR 0 c) c.length),true),(2,(.map (aD aA aR 0 d) d.length),true),oL 3 1 (map aA e)] 4
def aW2:=fun a b c d e f g i j k l m n=>aNF a b c d e f g|>.t j i k l|>.t m n ⟨aO (fun _=>rfl) (fun _=>rfl) _ _ _,⟨aO (fun _=>rfl) (fun _=>rfl) _ _ _,⟨kk,⟨kk,trivial⟩⟩⟩⟩
def aW3:=fun a b c d e f g i j k l m=>aNF a b c d e f g|>.t j i k l|>.f m ⟨aO (fun _=>rfl) (fun _=>rfl) _ _ _,⟨aO (fun _=>rfl) (fun _=>rfl) _ _ _,⟨kk,⟨kk,trivial⟩⟩⟩⟩
def aW4:=fun a b c d e f g i=>aNF a b c d e f g|>.f i ⟨aO (fun _=>rfl) (fun _=>rfl) _ _ _,⟨aO (fun _=>rfl) (fun _=>rfl) _ _ _,⟨kk,trivial⟩⟩⟩
def aTC(e:List LUnit)(f g:List (aC×Int))(i:List aC)(j:Bool)(k:List Con)(l a b:Int)(c:List Con):=tT 4 (xI e f g i j k l a b c)<|gd 5 26 (b<l) (gX Con.av 6 k b<|fun d=>.W 34 8 [4,6,7,5] (aCu e f g i j a k l d.name d.name d.name d.args 0 (c.length:Int) b c))<|gw 5 49 (a+1)<|.W 3 5 [4] (aCt e f g i j (a+1) c)
def aW5:=fun a b c d e f g i j k l m n o=>aTC a b c d e f g i j k|>.t m l n o ⟨aO (fun _=>rfl) (fun _=>rfl) _ _ _,⟨aO (fun _=>rfl) (fun _=>rfl) _ _ _,⟨kk,⟨kk,trivial⟩⟩⟩⟩
def aW6:=fun a b c d e f g i j k l m=>aTC a b c d e f g i j k|>.f l m ⟨aO (fun _=>rfl) (fun _=>rfl) _ _ _,⟨aO (fun _=>rfl) (fun _=>rfl) _ _ _,⟨kk,⟨kk,trivial⟩⟩⟩⟩
def aNG(k:List LUnit)(c d:List (aC×Int))(e:List aC)(l:Bool)(n:Int)(o:List Con)(p:Int)(s i j:aC)(g f r m:Int)(a:List Con):=tT 4 (aCu k c d e l n o p s i j g f r m a)<|gd 5 9 (f<r) (.i [rn 14,.ans (.ix)] [hA (0≤f),hA (f< (a.length:Int))]<|.y fun b:Con=>gj Con.av 0 a f.toNat b<|.y fun q:aC=>.i [rn 7,.reg (.d::.d::.pure (aA q)::rd 3 [])] [hA (Pure PP 159 [(.agg [(aA b.name),(nI b.args)])] (aA q)),hr (aA i),hr (aA i)]<|.b 3 16 (bP q.length (aB q) i.length (aB i)) (gd 20 34 (f<0) (ga 6 Con.av a [(Con.mk j g)]<|gw 5 48 (m+1)<|.W 3 11 [10] (xI k c d e l o p n (m+1) (a++ [(Con.mk j g)])))<|.i [rn 2,.reg (.d::.d::.ans (.ix)::.d::.ans (.idx (Con.av b))::rd 3 [.call (.tup []) (aG [oC 0 [(.ilst 5 (map LUnit.av k) false),(.map 1),(.map 2),(.gl 3 1 0 e.length false),(bV l)],(1,(.map (aD aA aR 0 c) c.length),true),(2,(.map (aD aA aR 0 d) d.length),true),oL 3 1 (map aA e),oL 4 2 (jC a),oC 5 [(.func 159 [] [])],oC 6 [(aA i)],oC 7 [(aA j),(nI g)],oC 8 [(aA b.name),(nI b.args)]] 9)])] [hA (0≤f),hA (f< (a.length:Int)),.a (((a)[f.toNat]?) =some b) (jL (f:=Con.av)),hA (Spec PP (.enter 67 [(bV (b.args != g)),(nI 7)]) (aG [oC 0 [(.ilst 5 (map LUnit.av k) false),(.map 1),(.map 2),(.gl 3 1 0 e.length false),(bV l)],(1,(.map (aD aA aR 0 c) c.length),true),(2,(.map (aD aA aR 0 d) d.length),true),oL 3 1 (map aA e),oL 4 2 (jC a),oC 5 [(.func 159 [] [])],oC 6 [(aA i)],oC 7 [(aA j),(nI g)],oC 8 [(aA b.name),(nI b.args)]] 9) (.ret (.tup [])) (aG [oC 0 [(.ilst 5 (map LUnit.av k) false),(.map 1),(.map 2),(.gl 3 1 0 e.length false),(bV l)],(1,(.map (aD aA aR 0 c) c.length),true),(2,(.map (aD aA aR 0 d) d.length),true),oL 3 1 (map aA e),oL 4 2 (jC a),oC 5 [(.func 159 [] [])],oC 6 [(aA i)],oC 7 [(aA j),(nI g)],oC 8 [(aA b.name),(nI b.args)]] 9))]<|gw 3 48 (m+1)<|.W 3 9 [4] (xI k c d e l o p n (m+1) a))<|gw 5 18 (f+1)<|.W 3 9 [4,5,6,7] (aCu k c d e l n o p s i j g (f+1) r m a))<|ga 26 Con.av a [(Con.mk j g)]<|gw 5 48 (m+1)<|.W 3 10 [9] (xI k c d e l o p n (m+1) (a++ [(Con.mk j g)]))
def aW7:=fun d e f g i j k l m n o p q r s t u v w a b c x y z A B=>aNG d e f g i j k l m n o p q r s t|>.t w a b u c v x|>.t y|>.f z a b c A B ⟨aO (fun _=>rfl) (fun _=>rfl) _ _ _,⟨aO (fun _=>rfl) (fun _=>rfl) _ _ _,⟨kk,⟨kk,trivial⟩⟩⟩⟩
def aW8:=fun a b c d e f g i j k l m n o p q r s t u v w x y z=>aNG a b c d e f g i j k l m n o p q|>.t t u v r w s x|>.f y z ⟨aO (fun _=>rfl) (fun _=>rfl) _ _ _,⟨aO (fun _=>rfl) (fun _=>rfl) _ _ _,⟨kk,⟨kk,trivial⟩⟩⟩⟩
def aW9:=fun a b c d e f g i j k l m n o p q r s t=>aNG a b c d e f g i j k l m n o p q|>.f r s t ⟨aO (fun _=>rfl) (fun _=>rfl) _ _ _,⟨aO (fun _=>rfl) (fun _=>rfl) _ _ _,⟨kk,⟨kk,trivial⟩⟩⟩⟩
def aXa (a:List LUnit)(b c:List (aC×Int))(d:List aC)(e:Bool):=(tT 4 (aTz a b c d e)<|gl 15 LUnit.av a<|.W 4 4 [] (aIR a b c d e 0 0)) ⟨aO (fun _=>rfl) (fun _=>rfl) _ _ _,⟨aO (fun _=>rfl) (fun _=>rfl) _ _ _,⟨kk,trivial⟩⟩⟩
def aTD(a:List LUnit)(c d:List (aC×Int))(e:List aC)(g:Bool)(f b:Int):=tT 4 (aIR a c d e g f b)<|gd 5 12 (b< (a.length:Int)) (gX LUnit.av 6 a b<|fun i=>gl 8 Node.av i.nodes<|gw 1 19 (f+ (i.nodes.length:Int))<|gw 5 20 (b+1)<|.W 3 5 [] (aIR a c d e g (f+ (i.nodes.length:Int)) (b+1)))<|.E 8 4 [] (nI f) [oC 0 [(.ilst 5 (map LUnit.av a) false),(.map 1),(.map 2),(.gl 3 1 0 e.length false),(bV g)],(1,(.map (aD aA aR 0 c) c.length),true),(2,(.map (aD aA aR 0 d) d.length),true),oL 3 1 (map aA e)] 4
def aXb:=fun a b c d e f g i j k l m n=>aTD a b c d e f g|>.t j i k l m n ⟨aO (fun _=>rfl) (fun _=>rfl) _ _ _,⟨aO (fun _=>rfl) (fun _=>rfl) _ _ _,⟨kk,trivial⟩⟩⟩
def aXc:=fun a b c d e f g i=>aTD a b c d e f g|>.f i ⟨aO (fun _=>rfl) (fun _=>rfl) _ _ _,⟨aO (fun _=>rfl) (fun _=>rfl) _ _ _,⟨kk,trivial⟩⟩⟩
abbrev aNH (l:List LUnit)(a b c:Nat)(od:List aC)(tw:Bool) :AObj:=.cells (putCells .leaf 0 [.ilst 5 (map LUnit.av l) false,.map a,.map b,.gl c 1 0 (length od) false,.bool tw]) 5 [] false
abbrev MTb (m:List (aC×Int)) :AObj:=.map (aD aA aR 0 m) (length m)
abbrev aLi (l:List aC) :AObj:=.lst 1 (map aA l)
abbrev THp (l:List LUnit)(mf mh:List (aC×Int))(od:List aC)(tw:Bool) :List (Nat×AObj×Bool) :=[(0,aNH l 1 2 3 od tw,false),(1,MTb mf,true),(2,MTb mh,true),(3,aLi od,true)]
theorem nB (m:List (aC×Int)) : (MTb m).kl:=aO (fun _=>rfl) (fun _=>rfl) _ _ _
theorem yF (l:List aC) : (aLi l).kl:=aN _ (fun _=>rfl) _
theorem lB (a b:List aC)(s:aC) :bE (a++b) s= (bE a s||bE b s) :=by simp [bE]
theorem aCw (s:aC) :∀ (a b:List aC) (i:Nat),dM s (a++b) i=if bE a s=true then dM s a i else dM s b (i+a.length)
 | [],b,i=>by simp [bE]
 | x ::a,b,i=>by
  rw [List.cons_append,dM,dM,yB];by_cases e:x=s
  ·rw [if_pos e,if_pos e,decide_eq_true e,Bool.true_or,if_pos rfl]
  · rw [if_neg e,if_neg e,decide_eq_false e,Bool.false_or,aCw s a b (i+1)];rw [length_cons,show i+1+a.length=i+ (a.length+1)by omega]
theorem kM (s:aC) :∀ (a:List aC) (i:Nat),dM s a i<0↔bE a s=false
 | [],i=>by simp [dM,bE]
 | x ::a,i=>by
  rw [dM,yB];by_cases e:x=s
  · rw [if_pos e,decide_eq_true e,Bool.true_or];constructor
    ·intro h;omega
    ·intro h;cases h
  ·rw [if_neg e,decide_eq_false e,Bool.false_or,kM s a (i+1)]
theorem aBz (a:List aC)(s:aC) :bG (a++ [s]) = (bG a&& !bE a s) :=by
 rw [Bool.eq_iff_iff,iK,and_eq_true,iK,not_eq_true',eq_false_iff,Ne,hasS_mem,nodup_append];constructor
 · intro h;exact⟨h.1,fun hm=>h.2.2 s hm s (by simp) rfl⟩
 · intro h;refine⟨h.1,by simp,fun x hx y hy e=>?_⟩;rw [List.mem_singleton.1 hy]at e;exact h.2 (e ▸ hx)
structure TabI (od:List aC) (tw:Bool) (mf mh:List (aC×Int)) :Prop where
 tw:tw= !bG od
 f:∀s,dR s mf=if bE od s=true then some (dM s od 0)else none
 h:∀s,bE od s=false→dR s mh=none
theorem TabI.nil :TabI [] false [] [] := ⟨rfl,fun s=>by simp [dR,bE],fun s _=>rfl⟩
theorem TabI.old {od:List aC}{tw:Bool}{mf mh:List (aC×Int)}(t:TabI od tw mf mh){s:aC}(h:bE od s=true) :TabI (od++ [s]) true mf mh:=by
 refine⟨by rw [aBz,h];simp,fun k=>?_,fun k hk=>?_⟩
 · rw [t.f k,lB,aCw];by_cases e:bE od k=true
   ·rw [if_pos e,if_pos e,e,Bool.true_or,if_pos rfl]
   · rw [if_neg e,if_neg];rw [not_eq_true]at e;rw [e,Bool.false_or,yB];intro hh;have:s=k:=by simpa [bE]using hh
     rw [this,e]at h;cases h
 · rw [lB,Bool.or_eq_false_iff]at hk;exact t.h k hk.1
theorem TabI.new {od:List aC}{tw:Bool}{mf mh:List (aC×Int)}(t:TabI od tw mf mh){s:aC}(h:bE od s=false)(i:Int) :TabI (od++ [s]) tw (bT s ((od.length:Nat) :Int) mf) (bT s i mh) :=by
 refine⟨by rw [aBz,h,t.tw];simp,fun k=>?_,fun k hk=>?_⟩
 · rw [rK,lB,aCw,t.f k];by_cases e:k=s
   · subst e;rw [if_pos rfl,h];simp [bE,dM]
   · rw [if_neg e];have:bE [s] k=false:=by simp [bE,Ne.symm e]
     rw [this,Bool.or_false];by_cases e2:bE od k=true
     ·rw [if_pos e2,if_pos e2,if_pos e2]
     ·rw [if_neg e2,if_neg e2]
 · rw [lB,Bool.or_eq_false_iff]at hk;have:k≠s:=fun e=>by rw [e]at hk;simp [bE]at hk
   rw [rK,if_neg this];exact t.h k hk.1
section
variable (l :List LUnit)
theorem aTE (u:LUnit)(hf:u.funs.length≤30)(i:Nat)(hi:i<1000) :∀ (t:List LFun) (k:Nat) (od:List aC) (tw:Bool) (m1 m2:List (aC×Int)),u.funs.drop k=t→od.length+t.length≤1000→TabI od tw m1 m2 →
  ∃tw' m1' m2',TabI (od++t.map LFun.name) tw' m1' m2'∧LeadsM PP 0 (aE9 l u.funs ((u.funs.length:Nat) :Int) (k:Int) tw od m1 m2 (i:Int) (i:Int)).as (aCs l ((i:Int) +1) tw' m1' m2' (od++t.map LFun.name)).as
 | [],k,od,tw,m1,m2,h,ho,ht=>by
  have:=bL h;rw [map_nil,append_nil];exact⟨tw,m1,m2,ht,aWR l u.funs _ k tw od m1 m2 i i sd sd⟩
 | f::t,k,od,tw,m1,m2,h,ho,ht=>by
  obtain⟨q1,q2,q3⟩ :=bK h;simp only [length_cons]at ho;have g:=ht.f f.name;cases e:bE od f.name with
  | true=>
   rw [e,if_pos rfl]at g;obtain⟨tw',m1',m2',h1,h2⟩ :=aTE u hf i hi t (k+1) (od++ [f.name]) true m1 m2 q2 (by simp;omega) (ht.old e);refine⟨tw',m1',m2',by simpa using h1,?_⟩;rw [append_assoc]at h2;exact(aWP l u.funs _ k tw od m1 m2 i i f _ sd sd sd g (by simp;omega) sd).trans h2
  | false=>
   rw [e,if_neg (by simp)]at g;obtain⟨tw',m1',m2',h1,h2⟩ :=aTE u hf i hi t (k+1) (od++ [f.name]) tw (bT f.name ((od.length:Nat) :Int) m1) (bT f.name (i:Int) m2) q2 (by simp;omega) (ht.new e i);refine⟨tw',m1',m2',by simpa using h1,?_⟩;rw [append_assoc]at h2;exact(aWQ l u.funs _ k tw od m1 m2 i i f sd sd sd g (ht.h _ e) (by simp;omega) sd).trans h2
abbrev aDt (e:Int) :Res:=.pan [((.iface 201 (.agg [(.int .i64 e)])),false)]
theorem aTF (hl:l.length≤10)(hu:∀u∈l,FewU u∧NumU u) :∀ (t:List LUnit) (i:Nat) (od:List aC) (tw:Bool) (m1 m2:List (aC×Int)),l.drop i=t→od.length≤30*i→TabI od tw m1 m2 →
  (t.all gR=true→∃tw' mf mh,TabI (od++aP t) tw' mf mh∧Ends PP 0 (aCs l (i:Int) tw m1 m2 od).as (.ret (.ptr 0 0)) (aG (THp l mf mh (od++aP t) tw') 4)) ∧
  (t.all gR=false→Ends PP 0 (aCs l (i:Int) tw m1 m2 od).as (aDt 2) (aG [] 0))
 | [],i,od,tw,m1,m2,h,ho,ht=>by
  have:=bL h;refine⟨fun _=> ⟨tw,m1,m2,?_,?_⟩,fun h=>by simp at h⟩
  ·rw [show aP [] = []from rfl,append_nil];exact ht
  ·rw [show aP [] = []from rfl,append_nil];exact aWO l i tw m1 m2 od sd
 | u ::t,i,od,tw,m1,m2,h,ho,ht=>by
  obtain⟨q1,q2,q3⟩ :=bK h;have hh:=hu u (mem_of_getElem? q1);have hf:=hh.1.f;have hp:=aTv u hh.1 hh.2;rw [all_cons];cases e:gR u with
  | false=>
   rw [e]at hp;refine⟨fun h=>by simp at h,fun _=>?_⟩;exact aWM l i tw m1 m2 od u false sd sd sd hp rfl
  | true=>
   rw [e]at hp;rw [Bool.true_and];obtain⟨tw',m1',m2',h1,h2⟩ :=aTE l u hf i (by omega) u.funs 0 od tw m1 m2 rfl (by omega) ht;have h0:=aWN l i tw m1 m2 od u true sd sd sd hp rfl;have ih:=aTF hl hu t (i+1) (od++aE u) tw' m1' m2' q2 (by simp [aE];omega) h1;refine⟨fun hg=>?_,fun hg=>?_⟩
   · obtain⟨tw2,mf,mh,g1,g2⟩ :=ih.1 hg;rw [append_assoc]at g1 g2;exact⟨tw2,mf,mh,g1,h0.ends (h2.ends g2)⟩
   ·exact h0.ends (h2.ends (ih.2 hg))
theorem aTG (hu:∀u∈l,FewU u∧NumU u)(h:dE l=false) :aHs PP 63 [.ilst 5 (map LUnit.av l) false] [((.iface 201 (.agg [(.int .i64 2)])),false)] :=by
 refine throws_at (by kernel_rfl) (by simp [keylessL,keyless]) (fun x hx=>by rw [List.mem_singleton.1 hx];rfl) ?_;by_cases hl:l.length≤10
 · rw [dE,decide_eq_true hl,Bool.true_and]at h;exact(aOB l (by simp;omega)).ends ((aTF l hl hu l 0 [] false [] [] rfl (by simp) TabI.nil).2 h)
 ·exact aWL l (by simp;omega)
theorem aTH (hu:∀u∈l,FewU u∧NumU u)(h:dE l=true) :∃mf mh,TabI (aP l) (!bG (aP l)) mf mh ∧
  aD6 PP (.enter 63 [.ilst 5 (map LUnit.av l) false]) (aG [] 0) (.ret (.ptr 0 0)) (aG (THp l mf mh (aP l) (!bG (aP l))) 4) :=by
 simp only [dE,and_eq_true,decide_eq_true_eq]at h;obtain⟨tw,mf,mh,h1,h2⟩ := (aTF l h.1 hu l 0 [] false [] [] rfl (by simp) TabI.nil).1 h.2;rw [nil_append]at h1 h2;have e:=h1.tw;subst e;refine⟨mf,mh,h1,?_⟩
 suffices hh:Ends PP 0 (aTw l).as (.ret (.ptr 0 0)) (aG (THp l mf mh (aP l) (!bG (aP l))) 4)from⟨(aTw l).as.fr,by kernel_rfl,mp (by kernel_rfl) hh⟩
 exact(aOB l (by simp;omega)).ends h2
end
section
variable (l :List LUnit) (mf mh:List (aC×Int)) (od:List aC) (tw:Bool)
theorem aYH (s:aC)(nd:List aC)(hn:nd.length≤1000)(k:Nat)(hk:k<1000)(i:Int)(acc:List aC)(ha:acc.length≤100000) :∀ (t:List aC) (j:Nat),acc.drop j=t →
  LeadsM PP 4 (aIQ l mf mh od tw s nd ((nd.length:Nat) :Int) (k:Int) (j:Int) ((acc.length:Nat) :Int) i acc).as (xH l mf mh od tw nd ((nd.length:Nat) :Int) ((k:Int) +1) (if bE t s=true then acc else acc++ [s]) i).as
 | [],j,h=>by
  have:=bL h;exact aW0 l mf mh od tw s nd _ k j _ i acc sd (by simp;omega) sd
 | x ::t,j,h=>by
  obtain⟨q1,q2,q3⟩ :=bK h;rw [yB];by_cases e:x=s
  · rw [decide_eq_true e,Bool.true_or,if_pos rfl];exact aWY l mf mh od tw s nd _ k j _ i acc x sd sd sd sd (by rw [eH];simp [e]) (by simp) sd
  · rw [decide_eq_false e,Bool.false_or];exact(aWZ l mf mh od tw s nd _ k j _ i acc x sd sd sd sd (by rw [eH];simp [Ne.symm e]) sd).trans (aYH s nd hn k hk i acc ha t (j+1) q2)
theorem aTI (ht:TabI od tw mf mh)(nd:List aC)(hn:nd.length≤25)(i:Nat)(hi:i<1000) :∀ (t:List aC) (k:Nat) (acc:List aC),nd.drop k=t→acc.length≤25*i+k →
  LeadsM PP 4 (xH l mf mh od tw nd ((nd.length:Nat) :Int) (k:Int) acc (i:Int)).as (aFa l mf mh od tw ((i:Int) +1) (nJ od acc t)).as
 | [],k,acc,h,ha=>by
  have:=bL h;exact aWX l mf mh od tw nd _ k acc i sd sd
 | s::t,k,acc,h,ha=>by
  obtain⟨q1,q2,q3⟩ :=bK h;have g:=ht.f s;rw [nJ];cases e:bE od s with
  | true=>
   rw [e,if_pos rfl]at g;rw [if_pos (.inl rfl)];exact(aWV l mf mh od tw nd _ k acc i s _ sd sd sd g sd).trans (aTI ht nd hn i hi t (k+1) acc q2 (by omega))
  | false=>
   rw [e,if_neg (by simp)]at g;have h1:=aWW l mf mh od tw nd ((nd.length:Nat) :Int) k acc i s sd sd sd g;have h2:=aYH l mf mh od tw s nd (by omega) k (by omega) i acc (by omega) acc 0 rfl;have e2: (if false=true∨bE acc s=true then acc else acc++ [s]) = (if bE acc s=true then acc else acc++ [s]) :=by simp
   rw [e2];exact h1.trans (h2.trans (aTI ht nd hn i hi t (k+1) _ q2 (by split<;>first|omega| (simp;omega))))
theorem aYI (ht:TabI od tw mf mh)(hl:l.length≤11)(hu:∀u∈l,FewU u) :∀ (t:List LUnit) (i:Nat) (acc:List aC),l.drop i=t→acc.length≤25*i →
  Ends PP 4 (aFa l mf mh od tw (i:Int) acc).as (.ret (.ilst 1 (map aA (nK od acc t)) false)) (aG (THp l mf mh od tw) 4)
 | [],i,acc,h,ha=>by
  have:=bL h;exact aWU l mf mh od tw i acc sd
 | u::t,i,acc,h,ha=>by
  obtain⟨q1,q2,q3⟩ :=bK h;have hn:= (hu u (mem_of_getElem? q1)).n;have hlen:=aCj od u.needs acc;exact(aWT l mf mh od tw i acc u sd sd sd).ends ((aTI l mf mh od tw ht u.needs hn i (by omega) u.needs 0 acc rfl (by omega)).ends (aYI ht hl hu t (i+1) _ q2 (by omega)))
theorem aLj (ht:TabI od tw mf mh)(hl:l.length≤11)(hu:∀u∈l,FewU u) :Spec PP (.enter 64 [.ptr 0 0]) (aG (THp l mf mh od tw) 4) (.ret (.ilst 1 (map aA (nK od [] l)) false)) (aG (THp l mf mh od tw) 4) :=by
 suffices hh:Ends PP 4 (aTx l mf mh od tw).as (.ret (.ilst 1 (map aA (nK od [] l)) false)) (aG (THp l mf mh od tw) 4)from⟨(aTx l mf mh od tw).as.fr,by kernel_rfl,mp (by kernel_rfl) hh⟩
 exact(aWS l mf mh od tw).ends (aYI l mf mh od tw ht hl hu l 0 [] rfl (by simp))
theorem aYJ (hl:l.length≤11)(hu:∀u∈l,u.nodes.length≤320) :∀ (t:List LUnit) (i n:Nat),l.drop i=t→n+aI t=aI l→n≤320*i →
  Ends PP 4 (aIR l mf mh od tw (n:Int) (i:Int)).as (.ret (.int .i64 (aI l:Int))) (aG (THp l mf mh od tw) 4)
 | [],i,n,h,hn,hb=>by
  have:=bL h;simp only [aI]at hn;obtain rfl:n=aI l:=by omega
  exact aXc l mf mh od tw _ i sd
 | u::t,i,n,h,hn,hb=>by
  obtain⟨q1,q2,q3⟩ :=bK h;simp only [aI]at hn;have hs:=hu u (mem_of_getElem? q1);have h1:=aXb l mf mh od tw n i u sd sd sd sd sd;have ih:=aYJ hl hu t (i+1) (n+u.nodes.length) q2 (by omega) (by omega);rw [Int.natCast_add,Int.natCast_add]at ih;exact h1.ends ih
theorem aLk (hl:l.length≤11)(hu:∀u∈l,u.nodes.length≤320) :Spec PP (.enter 78 [.ptr 0 0]) (aG (THp l mf mh od tw) 4) (.ret (.int .i64 (aI l:Int))) (aG (THp l mf mh od tw) 4) :=by
 suffices hh:Ends PP 4 (aTz l mf mh od tw).as (.ret (.int .i64 (aI l:Int))) (aG (THp l mf mh od tw) 4)from⟨(aTz l mf mh od tw).as.fr,by kernel_rfl,mp (by kernel_rfl) hh⟩
 exact(aXa l mf mh od tw).ends (aYJ l mf mh od tw hl hu l 0 0 rfl (by omega) (by omega))
def aIS (out:List Con)(c:Con)(t:List Con) :Option (List Con) :=match t.find? (fun d=>decide (d.name=c.name))with
 |none=>some (out++ [c])
 |some d=>if d.args=c.args then some out else none
theorem aLl (out:List Con)(c:Con) :jD out c=aIS out c out:=rfl
theorem aYK (i:Int)(cl:List Con)(hcl:cl.length≤1000)(c:Con)(k:Nat)(hk:k<1000)(acc:List Con)(ha:acc.length<100000) :∀ (t:List Con) (j:Nat),acc.drop j=t →
  (match aIS acc c t with
  |some o=>LeadsM PP 4 (aCu l mf mh od tw i cl ((cl.length:Nat) :Int) c.name c.name c.name c.args (j:Int) ((acc.length:Nat) :Int) (k:Int) acc).as (xI l mf mh od tw cl ((cl.length:Nat) :Int) i ((k:Int) +1) o).as
  |none=>Ends PP 4 (aCu l mf mh od tw i cl ((cl.length:Nat) :Int) c.name c.name c.name c.args (j:Int) ((acc.length:Nat) :Int) (k:Int) acc).as (aDt 7) (aG (THp l mf mh od tw) 4))
 | [],j,h=>by
  have:=bL h;exact aW9 l mf mh od tw i cl _ c.name c.name c.name c.args j _ k acc sd (by simp;omega) sd
 | d ::t,j,h=>by
  obtain⟨q1,q2,q3⟩ :=bK h;unfold aIS;by_cases e:d.name=c.name
  · rw [List.find?_cons_of_pos (by simpa using e)];by_cases e2:d.args=c.args
    · dsimp only;rw [if_pos e2];exact aW7 l mf mh od tw i cl _ c.name c.name c.name c.args j _ k acc d d.name sd sd sd sd (xG d) (by rw [eH];simp [e]) sd (by rw [show(d.args != c.args) =false by simp [e2]];exact aZx 7 _) sd
    · dsimp only;rw [if_neg e2];exact aWK l mf mh od tw i cl _ c.name c.name c.name c.args j _ k acc d d.name sd sd sd sd (xG d) (by rw [eH];simp [e]) sd (by rw [show(d.args != c.args) =true by simp [e2]];exact aZy 7 _)
  · rw [List.find?_cons_of_neg (by simpa using e)];have ih:=aYK i cl hcl c k hk acc ha t (j+1) q2;unfold aIS at ih;have h1:=aW8 l mf mh od tw i cl ((cl.length:Nat) :Int) c.name c.name c.name c.args j ((acc.length:Nat) :Int) k acc d d.name sd sd sd sd (xG d) (by rw [eH];simp [e]) sd;split at ih
    ·rename_i o ho;first|exact h1.trans ih| (rw [ho];exact h1.trans ih)
    ·rename_i ho;first|exact h1.ends ih| (rw [ho];exact h1.ends ih)
theorem aYL (cl:List Con)(i:Nat)(hi2:i<1000)(hn:cl.length≤25) :∀ (t:List Con) (k:Nat) (acc:List Con),cl.drop k=t→acc.length≤25*i+k →
  (match cU acc t with
  |some o=>LeadsM PP 4 (xI l mf mh od tw cl ((cl.length:Nat) :Int) (i:Int) (k:Int) acc).as (aCt l mf mh od tw ((i:Int) +1) o).as
  |none=>Ends PP 4 (xI l mf mh od tw cl ((cl.length:Nat) :Int) (i:Int) (k:Int) acc).as (aDt 7) (aG (THp l mf mh od tw) 4))
 | [],k,acc,h,ha=>by
  have:=bL h;exact aW6 l mf mh od tw cl _ i k acc sd sd
 | c ::t,k,acc,h,ha=>by
  obtain⟨q1,q2,q3⟩ :=bK h;have h1:=aW5 l mf mh od tw cl ((cl.length:Nat) :Int) i k acc c sd sd sd;have h2:=aYK l mf mh od tw i cl (by omega) c k (by omega) acc (by omega) acc 0 rfl;rw [cU,aLl];split at h2
  · rename_i o ho
    try rw [ho]
    have hl:=aGD (out:=acc) (c:=c) (o:=o) (by rw [aLl];exact ho);have h3:=aYL cl i hi2 hn t (k+1) o q2 (by omega);dsimp only;split at h3
    ·rename_i o2 ho2;first|exact h1.trans (h2.trans h3) | (rw [ho2];exact h1.trans (h2.trans h3))
    ·rename_i ho2;first|exact h1.ends (h2.ends h3) | (rw [ho2];exact h1.ends (h2.ends h3))
  · rename_i ho
    try rw [ho]
    exact h1.ends h2
abbrev aFb (o:Option (List Con)) :Res:=match o with
 |some o=>.ret (.ilst 2 (map Con.av o) false)
 |none=>aDt 7
theorem aTJ (hl:l.length≤11)(hu:∀u∈l,u.cons.length≤25) :∀ (t:List LUnit) (i:Nat) (acc:List Con),l.drop i=t→acc.length≤25*i →
  Ends PP 4 (aCt l mf mh od tw (i:Int) acc).as (aFb (rQ acc t)) (aG (THp l mf mh od tw) 4)
 | [],i,acc,h,ha=>by
  have:=bL h;exact aW4 l mf mh od tw i acc sd
 | u ::t,i,acc,h,ha=>by
  obtain⟨q1,q2,q3⟩ :=bK h;have hn:=hu u (mem_of_getElem? q1);by_cases h0:u.cons= []
  · have e:rQ acc (u::t) =rQ acc t:=by rw [rQ,h0,cU]
    rw [e];exact(aW2 l mf mh od tw i acc u sd sd sd (by rw [h0];rfl) sd).ends (aTJ hl hu t (i+1) acc q2 (by omega))
  · have hp:0<u.cons.length:=List.length_pos_iff.2 h0;have h1:=aW3 l mf mh od tw i acc u sd sd sd (beq_eq_false_iff_ne.2 (by omega));have h2:=aYL l mf mh od tw u.cons i (by omega) hn u.cons 0 acc rfl (by omega);rw [rQ];split at h2
    · rename_i o ho
      try rw [ho]
      have:=aCk ho;exact h1.ends (h2.ends (aTJ hl hu t (i+1) o q2 (by omega)))
    · rename_i ho
      try rw [ho]
      exact h1.ends h2
theorem aLm (hl:l.length≤11)(hu:∀u∈l,u.cons.length≤25) :Spec PP (.enter 77 [.ptr 0 0]) (aG (THp l mf mh od tw) 4) (aFb (hP l)) (aG (THp l mf mh od tw) 4) :=by
 suffices hh:Ends PP 4 (aTy l mf mh od tw).as (aFb (hP l)) (aG (THp l mf mh od tw) 4)from⟨(aTy l mf mh od tw).as.fr,by kernel_rfl,mp (by kernel_rfl) hh⟩
 exact(aW1 l mf mh od tw).ends (aTJ l mf mh od tw hl hu l 0 [] rfl (by simp))
end
def aTK(d:List LUnit)(a b:List (aC×Int))(c:List aC)(e:Bool)(f:List Con)(g:List aC):TS:=dY PP 79 [(.ptr 0 0),(iC f),(iS g)] [oC 0 [(.ilst 5 (map LUnit.av d) false),(.map 1),(.map 2),(.gl 3 1 0 c.length false),(bV e)],(1,(.map (aD aA aR 0 a) a.length),true),(2,(.map (aD aA aR 0 b) b.length),true),oL 3 1 (map aA c)] 4
def aFc(a:List LUnit)(b c:List (aC×Int))(d:List aC)(g:Bool)(i:List Con)(j:List aC)(k:Int)(l:List Node)(m n:List Int)(e:List LFun)(f:List ONode):TS:=⟨(tf 79 129 [kp 0 0,(1,(iC i)),(2,(iS j)),(6,.nils),(7,.nils),(8,(.gl 4 2 0 e.length false)),kp 9 5,(25,(.ilst 5 (map LUnit.av a) false)),(26,(nI (a.length:Int))),(27,(nI k))] [kc f79 244,kl f79 244,.inBlock 0,kc f79 31]),[],[oC 0 [(.ilst 5 (map LUnit.av a) false),(.map 1),(.map 2),(.gl 3 1 0 d.length false),(bV g)],(1,(.map (aD aA aR 0 b) b.length),true),(2,(.map (aD aA aR 0 c) c.length),true),oL 3 1 (map aA d),oL 4 2 (map LFun.av e),oC 5 [(iN l),(.gl 6 4 0 f.length false),(iI m),(iI n)],oL 6 4 (map ONode.av f)],7⟩
def aFd(a:List LUnit)(b c:List (aC×Int))(d:List aC)(i:Bool)(j:List Con)(k l:List aC)(m:Int)(n:List Node)(o:aC)(p:List Con)(q:List LFun)(r:List aC)(s:List Node)(t:Int)(e:List Int)(u:Int)(f:List LFun)(g:List ONode):TS:=⟨(tf 79 129 [kp 0 0,(1,(iC j)),(2,(iS k)),(6,.nils),(7,.nils),(8,(.gl 4 2 0 f.length false)),kp 9 5,kp 11 6,(25,(.ilst 5 (map LUnit.av a) false)),(26,(nI (a.length:Int))),(27,(nI u)),(47,(iS l)),(48,(nI m)),(49,(nI t))] [kc f79 250676,kl f79 250676,.inBlock 2,kc f79 31335,.inBlock 1,kc f79 1959,kl f79 244,.inBlock 0,kc f79 31]),[],[oC 0 [(.ilst 5 (map LUnit.av a) false),(.map 1),(.map 2),(.gl 3 1 0 d.length false),(bV i)],(1,(.map (aD aA aR 0 b) b.length),true),(2,(.map (aD aA aR 0 c) c.length),true),oL 3 1 (map aA d),oL 4 2 (map LFun.av f),oC 5 [(iN n),(.gl 7 4 0 g.length false),(.gl 8 1 0 e.length false),(.gl 9 1 0 ([] :List Int).length false)],oC 6 [(aA o),(iC p),(.ilst 2 (map LFun.av q) false),(iS r),(iN s)],oL 7 4 (map ONode.av g),oL 8 1 (jI e),oL 9 1 (jI ([] :List Int))],10⟩
def aFe(a:List LUnit)(b c:List (aC×Int))(d:List aC)(k:Bool)(l:List Con)(m:List aC)(e:List Con)(n:Int)(o:List Node)(p:aC)(q:List LFun)(r:List aC)(s:List Node)(f:List Int)(t:Int)(g:List Int)(u:Int)(i:List LFun)(j:List ONode):TS:=⟨(tf 79 129 [kp 0 0,(1,(iC l)),(2,(iS m)),(6,.nils),(7,.nils),(8,(.gl 4 2 0 i.length false)),kp 9 5,kp 11 6,(25,(.ilst 5 (map LUnit.av a) false)),(26,(nI (a.length:Int))),(27,(nI u)),(85,(iC e)),(86,(nI n)),(87,(nI t))] [kc f79 501364,kl f79 501364,.inBlock 4,kc f79 62671,.inBlock 1,kc f79 1959,kl f79 244,.inBlock 0,kc f79 31]),[],[oC 0 [(.ilst 5 (map LUnit.av a) false),(.map 1),(.map 2),(.gl 3 1 0 d.length false),(bV k)],(1,(.map (aD aA aR 0 b) b.length),true),(2,(.map (aD aA aR 0 c) c.length),true),oL 3 1 (map aA d),oL 4 2 (map LFun.av i),oC 5 [(iN o),(.gl 7 4 0 j.length false),(.gl 8 1 0 f.length false),(.gl 9 1 0 g.length false)],oC 6 [(aA p),(iC e),(.ilst 2 (map LFun.av q) false),(iS r),(iN s)],oL 7 4 (map ONode.av j),oL 8 1 (jI f),oL 9 1 (jI g)],10⟩
def aFf(a:List LUnit)(b c:List (aC×Int))(d:List aC)(g:Bool)(i:List Con)(j:List aC)(k:List LFun)(l:Int)(m:List Node)(n o:List Int)(p:Int)(e:List LFun)(f:List ONode)(q:Int):TS:=⟨(tf 79 129 [kp 0 0,(1,(iC i)),(2,(iS j)),(6,.nils),(7,.nils),(8,(.gl 4 2 0 e.length false)),kp 9 5,(25,(.ilst 5 (map LUnit.av a) false)),(26,(nI (a.length:Int))),(27,(nI q)),(106,(.ilst 2 (map LFun.av k) false)),(107,(nI l)),(108,(nI p))] [kc f79 501372,kl f79 501372,.inBlock 6,.inBlock 1,kc f79 1959,kl f79 244,.inBlock 0,kc f79 31]),[],[oC 0 [(.ilst 5 (map LUnit.av a) false),(.map 1),(.map 2),(.gl 3 1 0 d.length false),(bV g)],(1,(.map (aD aA aR 0 b) b.length),true),(2,(.map (aD aA aR 0 c) c.length),true),oL 3 1 (map aA d),oL 4 2 (map LFun.av e),oC 5 [(iN m),(.gl 6 4 0 f.length false),(iI n),(iI o)],oL 6 4 (map ONode.av f)],7⟩
def aOC(a:List LUnit):TS:=dY PP 24 [(.ilst 5 (map LUnit.av a) false)] [] 0
def aIT(i:List LUnit)(b:List LFun)(c:Int)(d:List Node)(e:Int)(f:List Con)(g:Int)(a:List Int):TS:=⟨(tf 24 74 [kp 2 0,kp 3 1,(59,(.ilst 2 (map LFun.av b) false)),(60,(nI c)),(61,(nI g))] [kc f24 16372,kl f24 16372,.inBlock 0,kc f24 2047] (defers:=[.fn 61 [(.ptr 1 0),(.func 76 [] [(.ptr 0 0)])]])),[],[oC 0 [(iN d),(.gl 2 1 0 a.length false),(nI e),(iC f)],oC 1 [(nI 0)],oL 2 1 (jI a)],3⟩
def aOD(a:aC)(b:List LUnit):TS:=dY PP 27 [(aA a),(.ilst 5 (map LUnit.av b) false)] [] 0
def aXd (a:List LUnit)(b c:List (aC×Int))(d:List aC)(e:Bool)(f:List Con)(g:List aC):=(tT 4 (aTK a b c d e f g)<|.i [rn 17,.cnilI 4 0 4] []<|.i [.cweak 4 0] []<|.i [.cnilI 4 2 1] []<|.i [.cweak 4 2] []<|.i [.cnilI 4 3 1] []<|.i [.cweak 4 3] []<|gl 5 LUnit.av a<|.i [rn 4,.nilL 8 2] []<|gu 0 5 (map LFun.av ([] :List LFun))<|gs 0 8 (.gl 5 2 0 ([] :List LFun).length false)<|.i [.cnil 4 1 4] []<|gu 0 6 (map ONode.av ([] :List ONode))<|gv 0 4 1 (.gl 6 4 0 ([] :List ONode).length false)<|.W 0 7 [5,4,6] (aFc a b c d e f g 0 ([] :List Node) ([] :List Int) ([] :List Int) ([] :List LFun) ([] :List ONode))) ⟨aO (fun _=>rfl) (fun _=>rfl) _ _ _,⟨aO (fun _=>rfl) (fun _=>rfl) _ _ _,⟨kk,⟨kk,⟨(aN _ (fun _=>bZ _) _),trivial⟩⟩⟩⟩⟩
def aTL(g:List LUnit)(d e:List (aC×Int))(f:List aC)(k:Bool)(m:List Con)(n:List aC)(l:Int)(o:List Node)(p q:List Int)(j:List LFun)(b:List ONode):=tT 4 (aFc g d e f k m n l o p q j b)<|gd 5 28 (l< (g.length:Int)) (gX LUnit.av 6 g l<|fun a=>.y fun c:List aC=>.i [rn 23,.reg (.d::.pure (iS c)::rd 3 [.call (iS (c++a.needs)) (aG [oC 0 [(.ilst 5 (map LUnit.av g) false),(.map 1),(.map 2),(.gl 3 1 0 f.length false),(bV k)],(1,(.map (aD aA aR 0 d) d.length),true),(2,(.map (aD aA aR 0 e) e.length),true),oL 3 1 (map aA f),oL 4 2 (map LFun.av j),oC 5 [(iN a.nodes),(.gl 6 4 0 b.length false),.nils,.nils],oL 6 4 (map ONode.av b),oC 7 [(aA a.name),(iC a.cons),(.ilst 2 (map LFun.av a.funs) false),(iS a.needs),(iN a.nodes)],oC 8 [(iS c),(iS a.needs)]] 9),.ans (.len ((c++a.needs).length:Int)),.d])] [hA (Pure PP 161 [(.agg [(aA a.name),(iC a.cons),(.ilst 2 (map LFun.av a.funs) false),(iS a.needs),(iN a.nodes)])] (iS c)),hA (Spec PP (.enter 160 [(.slice 8 0 2 2 1 true)]) (aG [oC 0 [(.ilst 5 (map LUnit.av g) false),(.map 1),(.map 2),(.gl 3 1 0 f.length false),(bV k)],(1,(.map (aD aA aR 0 d) d.length),true),(2,(.map (aD aA aR 0 e) e.length),true),oL 3 1 (map aA f),oL 4 2 (map LFun.av j),oC 5 [(iN a.nodes),(.gl 6 4 0 b.length false),.nils,.nils],oL 6 4 (map ONode.av b),oC 7 [(aA a.name),(iC a.cons),(.ilst 2 (map LFun.av a.funs) false),(iS a.needs),(iN a.nodes)],oC 8 [(iS c),(iS a.needs)]] 9) (.ret (iS (c++a.needs))) (aG [oC 0 [(.ilst 5 (map LUnit.av g) false),(.map 1),(.map 2),(.gl 3 1 0 f.length false),(bV k)],(1,(.map (aD aA aR 0 d) d.length),true),(2,(.map (aD aA aR 0 e) e.length),true),oL 3 1 (map aA f),oL 4 2 (map LFun.av j),oC 5 [(iN a.nodes),(.gl 6 4 0 b.length false),.nils,.nils],oL 6 4 (map ONode.av b),oC 7 [(aA a.name),(iC a.cons),(.ilst 2 (map LFun.av a.funs) false),(iS a.needs),(iN a.nodes)],oC 8 [(iS c),(iS a.needs)]] 9)),hl aA (c++a.needs),hr (ilst 1 (map aA a.needs) false),hr (ilst 1 (map aA a.needs) false)]<|.i [rn 2,.cnil 5 2 1] []<|gu 0 9 (jI ([] :List Int))<|gv 0 5 2 (.gl 9 1 0 ([] :List Int).length false)<|.i [.cnil 5 3 1] []<|gu 0 10 (jI ([] :List Int))<|gv 0 5 3 (.gl 10 1 0 ([] :List Int).length false)<|.W 0 11 [4,5,7,6,9,10] (aFd g d e f k m n (c++a.needs) ((c++a.needs).length:Int) a.nodes a.name a.cons a.funs a.needs a.nodes 0 ([] :List Int) l j b))<|.i [rn 3,.reg (rd 7 [])] []<|.y fun i:List Node=>.i [rn 1,.lset 6 (jN i)] [.a (b=map Node.o i) (p':=(map ONode.av b) = (jN i)) aNm]<|.i [.set 7 (.gl 6 4 0 i.length false)] [.a (i.length=b.length) (p':=(AV.gl 6 4 0 b.length false) = (.gl 6 4 0 i.length false)) (fun h=>(dJ h.symm))]<|gz 0 6 4 2 LFun.av j false<|gz 0 7 6 4 Node.av i false<|.E 0 7 [] (.tup [(.ilst 2 (map LFun.av j) false),(iN i)]) [oC 0 [(.ilst 5 (map LUnit.av g) false),(.map 1),(.map 2),(.gl 3 1 0 f.length false),(bV k)],(1,(.map (aD aA aR 0 d) d.length),true),(2,(.map (aD aA aR 0 e) e.length),true),oL 3 1 (map aA f)] 4
def aXe:=fun a b c d e f g i j k l m n o p q r s t u=>aTL a b c d e f g i j k l m n|>.t q o r s p t u ⟨aO (fun _=>rfl) (fun _=>rfl) _ _ _,⟨aO (fun _=>rfl) (fun _=>rfl) _ _ _,⟨kk,⟨kk,⟨(aN _ (fun _=>bZ _) _),⟨kk,⟨kk,trivial⟩⟩⟩⟩⟩⟩⟩
def aXf:=fun a b c d e f g i j k l m n o p q r=>aTL a b c d e f g i j k l m n|>.f p o q r ⟨aO (fun _=>rfl) (fun _=>rfl) _ _ _,⟨aO (fun _=>rfl) (fun _=>rfl) _ _ _,⟨kk,trivial⟩⟩⟩
def aNJ(j:List LUnit)(a k:List (aC×Int))(b:List aC)(l:Bool)(m:List Con)(i n:List aC)(o:Int)(p:List Node)(q:aC)(f:List Con)(r:List LFun)(s:List aC)(t:List Node)(d:Int)(g:List Int)(u:Int)(v:List LFun)(w:List ONode):=tT 4 (aFd j a k b l m i n o p q f r s t d g u v w)<|gd 5 50 (d<o) (gX aA 6 n d<|fun e=>.o (.y fun c:Int=>.i [rn 10,.ans (.look (some (wS e a,(aR c))))] [.a (dR e a=some c) (p':=eQ (aA e) (aD aA aR 0 a) 0=some (some (wS e a,(aR c)))) (rG gC)]<|ga 22 aR g [c]<|gw 7 83 (d+1)<|.W 3 12 [4,5,6,7,11,9] (aFd j a k b l m i n o p q f r s t (d+1) (g++ [c]) u v w))<|.i [rn 10,.ans (.look none)] [.a (dR e a=none) (p':=eQ (aA e) (aD aA aR 0 a) 0=some none) (rF gC)]<|.y fun c:Int=>.i [rn 13,.reg (rd 7 [.pure (nI c),.d,.d])] [hA (Pure PP 151 [(iS i),(aA e)] (nI c)),hr (nI (b.length:Int)),hr (nI (b.length:Int)),hr (AV.gl 3 1 0 b.length false),hr (AV.gl 3 1 0 b.length false)]<|ga 8 aR g [(IntKind.i64.wrap ((b.length:Int) +c))]<|gw 7 83 (d+1)<|.W 3 12 [4,5,6,7,11,9] (aFd j a k b l m i n o p q f r s t (d+1) (g++ [(IntKind.i64.wrap ((b.length:Int) +c))]) u v w))<|gl 7 Con.av f<|.W 4 10 [4,5,6,7,8,9] (aFe j a k b l m i f (f.length:Int) p q r s t g 0 ([] :List Int) u v w)
def aXg:=fun a b c d e f g i j k l m n o p q r s t u v w x y z A B C=>aNJ a b c d e f g i j k l m n o p q r s t u|>.t x v y z|>.1 w A B C ⟨aO (fun _=>rfl) (fun _=>rfl) _ _ _,⟨aO (fun _=>rfl) (fun _=>rfl) _ _ _,⟨kk,⟨kk,⟨(aN _ (fun _=>bZ _) _),⟨kk,⟨kk,trivial⟩⟩⟩⟩⟩⟩⟩
def aXh:=fun a b c d e f g i j k l m n o p q r s t u v w x y z A B C D=>aNJ a b c d e f g i j k l m n o p q r s t u|>.t x v y z|>.2 A w B C D ⟨aO (fun _=>rfl) (fun _=>rfl) _ _ _,⟨aO (fun _=>rfl) (fun _=>rfl) _ _ _,⟨kk,⟨kk,⟨(aN _ (fun _=>bZ _) _),⟨kk,⟨kk,trivial⟩⟩⟩⟩⟩⟩⟩
def aXi:=fun a b c d e f g i j k l m n o p q r s t u v=>aNJ a b c d e f g i j k l m n o p q r s t u|>.f v ⟨aO (fun _=>rfl) (fun _=>rfl) _ _ _,⟨aO (fun _=>rfl) (fun _=>rfl) _ _ _,⟨kk,⟨kk,⟨(aN _ (fun _=>bZ _) _),⟨kk,⟨kk,trivial⟩⟩⟩⟩⟩⟩⟩
def aTM(g:List LUnit)(i j:List (aC×Int))(k:List aC)(l:Bool)(e:List Con)(m:List aC)(n:List Con)(o:Int)(p:List Node)(t:aC)(c:List LFun)(u:List aC)(v:List Node)(f:List Int)(d:Int)(a:List Int)(q:Int)(r:List LFun)(s:List ONode):=tT 4 (aFe g i j k l e m n o p t c u v f d a q r s)<|gd 5 88 (d<o) (gX Con.av 6 n d<|fun w=>.y fun b:Int=>.i [rn 4,.reg (rd 8 (.pure (nI b)::.d::.app (jI (a++ [b])) (a++ [b]).length::rd 3 []))] [hA (Pure PP 158 [(iC e),(.func 159 [] []),(aA w.name)] (nI b)),hb aR a,hA (length (a++ [b]) ≤1000000),hc aR a [b],he aR a [b],hr (AV.gl 9 1 0 a.length false),hr (AV.gl 9 1 0 a.length false)]<|gw 3 104 (d+1)<|.W 3 13 [4,5,6,7,8,12] (aFe g i j k l e m n o p t c u v f (d+1) (a++ [b]) q r s))<|gy 3 5 2 8 1 aR f false<|gy 0 5 3 9 1 aR a false<|gl 3 LFun.av c<|.W 4 10 [4,5,7] (aFf g i j k l e m c (c.length:Int) p f a 0 r s q)
def aXj:=fun a b c d e f g i j k l m n o p q r s t u v w x y z A B C=>aTM a b c d e f g i j k l m n o p q r s t u|>.t x v y z w A B C ⟨aO (fun _=>rfl) (fun _=>rfl) _ _ _,⟨aO (fun _=>rfl) (fun _=>rfl) _ _ _,⟨kk,⟨kk,⟨(aN _ (fun _=>bZ _) _),⟨kk,⟨kk,trivial⟩⟩⟩⟩⟩⟩⟩
def aXk:=fun a b c d e f g i j k l m n o p q r s t u v=>aTM a b c d e f g i j k l m n o p q r s t u|>.f v ⟨aO (fun _=>rfl) (fun _=>rfl) _ _ _,⟨aO (fun _=>rfl) (fun _=>rfl) _ _ _,⟨kk,⟨kk,⟨(aN _ (fun _=>bZ _) _),trivial⟩⟩⟩⟩⟩
def aTN(g:List LUnit)(d e:List (aC×Int))(f:List aC)(i:Bool)(p:List Con)(q:List aC)(r:List LFun)(s:Int)(j:List Node)(k l:List Int)(m:Int)(c:List LFun)(a:List ONode)(o:Int):=tT 4 (aFf g d e f i p q r s j k l m c a o)<|gd 5 109 (m<s) (gX LFun.av 6 r m<|fun b=>.y fun n:List Node=>.i [rn 4,.reg (rd 6 [.call (nI (a.length:Int)) (aG [oC 0 [(.ilst 5 (map LUnit.av g) false),(.map 1),(.map 2),(.gl 3 1 0 f.length false),(bV i)],(1,(.map (aD aA aR 0 d) d.length),true),(2,(.map (aD aA aR 0 e) e.length),true),oL 3 1 (map aA f),oL 4 2 (map LFun.av c),oC 5 [(iN j),(.gl 9 4 0 (a++map Node.o n).length false),(iI k),(iI l)],oC 7 [(aA b.name),(nI b.body)],oL 9 4 (map ONode.av (a++map Node.o n))] 10),.d,.d,.app (map LFun.av (c++ [(LFun.mk b.name (a.length:Int))])) (c++ [(LFun.mk b.name (a.length:Int))]).length,.d])] [hA (Spec PP (.enter 144 [(.ptr 5 0),(nI b.body)]) (aG [oC 0 [(.ilst 5 (map LUnit.av g) false),(.map 1),(.map 2),(.gl 3 1 0 f.length false),(bV i)],(1,(.map (aD aA aR 0 d) d.length),true),(2,(.map (aD aA aR 0 e) e.length),true),oL 3 1 (map aA f),oL 4 2 (map LFun.av c),oC 5 [(iN j),(.gl 6 4 0 a.length false),(iI k),(iI l)],oL 6 4 (map ONode.av a),oC 7 [(aA b.name),(nI b.body)]] 9) (.ret (nI (a.length:Int))) (aG [oC 0 [(.ilst 5 (map LUnit.av g) false),(.map 1),(.map 2),(.gl 3 1 0 f.length false),(bV i)],(1,(.map (aD aA aR 0 d) d.length),true),(2,(.map (aD aA aR 0 e) e.length),true),oL 3 1 (map aA f),oL 4 2 (map LFun.av c),oC 5 [(iN j),(.gl 9 4 0 (a++map Node.o n).length false),(iI k),(iI l)],oC 7 [(aA b.name),(nI b.body)],oL 9 4 (map ONode.av (a++map Node.o n))] 10)),hb LFun.av c,hA (length (c++ [(LFun.mk b.name (a.length:Int))]) ≤1000000),hc LFun.av c [(LFun.mk b.name (a.length:Int))],he LFun.av c [(LFun.mk b.name (a.length:Int))],hr (aA b.name),hr (aA b.name)]<|gw 3 122 (m+1)<|.W 3 11 [10,5,9] (aFf g d e f i p q r s j k l (m+1) (c++ [(LFun.mk b.name (a.length:Int))]) (a++map Node.o n) o))<|gw 5 123 (o+1)<|.W 3 7 [4,5,6] (aFc g d e f i p q (o+1) j k l c a)
def aXl:=fun a b c d e f g i j k l m n o p q r s t u v w x y=>aTN a b c d e f g i j k l m n o p q|>.t t r u v s w x y ⟨aO (fun _=>rfl) (fun _=>rfl) _ _ _,⟨aO (fun _=>rfl) (fun _=>rfl) _ _ _,⟨kk,⟨kk,⟨(aN _ (fun _=>bZ _) _),trivial⟩⟩⟩⟩⟩
def aXm:=fun a b c d e f g i j k l m n o p q r s=>aTN a b c d e f g i j k l m n o p q|>.f r s ⟨aO (fun _=>rfl) (fun _=>rfl) _ _ _,⟨aO (fun _=>rfl) (fun _=>rfl) _ _ _,⟨kk,⟨kk,⟨(aN _ (fun _=>bZ _) _),trivial⟩⟩⟩⟩⟩
def uJ(d:List LUnit):=tT 0 (aOC d)<|.o (gK 13 (.enter 63 [(.ilst 5 (map LUnit.av d) false)]) [oC 0 [.nils,.nils,(nI 0),.nils],oC 1 [(nI 0)]] 2 [((.iface 201 (.agg [(nI 2)])),false)] [oC 0 [.nils,.nils,(nI 0),.nils],oC 1 [(nI 0)]] 2<|.i [rn 44,.cnilI 0 0 4] []<|.i [.cnilI 0 1 1] []<|.i [.cnilI 0 3 2] []<|gE 0 3 (.tup [(.agg [(.ilst 4 (jN ([] :List Node)) true),(.ilst 1 (jI ([] :List Int)) true),(nI 0),(.ilst 2 (jC ([] :List Con)) true)]),(nI 2)]))<|.y fun a:List (aC×Int)=>.y fun b:List (aC×Int)=>.y fun c:List aC=>.y fun e:Bool=>gk 13 (.enter 63 [(.ilst 5 (map LUnit.av d) false)]) [oC 0 [.nils,.nils,(nI 0),.nils],oC 1 [(nI 0)]] 2 (.ptr 2 0) [oC 0 [.nils,.nils,(nI 0),.nils],oC 1 [(nI 0)],oC 2 [(.ilst 5 (map LUnit.av d) false),(.map 3),(.map 4),(.gl 5 1 0 c.length false),(bV e)],(3,(.map (aD aA aR 0 a) a.length),true),(4,(.map (aD aA aR 0 b) b.length),true),oL 5 1 (map aA c)] 6<|.o (gK 5 (.enter 77 [(.ptr 2 0)]) [oC 0 [.nils,.nils,(nI 0),.nils],oC 1 [(nI 0)],oC 2 [(.ilst 5 (map LUnit.av d) false),(.map 3),(.map 4),(.gl 5 1 0 c.length false),(bV e)],(3,(.map (aD aA aR 0 a) a.length),true),(4,(.map (aD aA aR 0 b) b.length),true),oL 5 1 (map aA c)] 6 [((.iface 201 (.agg [(nI 7)])),false)] [oC 0 [.nils,.nils,(nI 0),.nils],oC 1 [(nI 0)],oC 2 [(.ilst 5 (map LUnit.av d) false),(.map 3),(.map 4),(.gl 5 1 0 c.length false),(bV e)],(3,(.map (aD aA aR 0 a) a.length),true),(4,(.map (aD aA aR 0 b) b.length),true),oL 5 1 (map aA c)] 6<|.i [rn 44,.cnilI 0 0 4] []<|.i [.cnilI 0 1 1] []<|.i [.cnilI 0 3 2] []<|gE 0 7 (.tup [(.agg [(.ilst 4 (jN ([] :List Node)) true),(.ilst 1 (jI ([] :List Int)) true),(nI 0),(.ilst 2 (jC ([] :List Con)) true)]),(nI 7)]))<|.y fun f:List Con=>gk 5 (.enter 77 [(.ptr 2 0)]) [oC 0 [.nils,.nils,(nI 0),.nils],oC 1 [(nI 0)],oC 2 [(.ilst 5 (map LUnit.av d) false),(.map 3),(.map 4),(.gl 5 1 0 c.length false),(bV e)],(3,(.map (aD aA aR 0 a) a.length),true),(4,(.map (aD aA aR 0 b) b.length),true),oL 5 1 (map aA c)] 6 (iC f) [oC 0 [.nils,.nils,(nI 0),.nils],oC 1 [(nI 0)],oC 2 [(.ilst 5 (map LUnit.av d) false),(.map 3),(.map 4),(.gl 5 1 0 c.length false),(bV e)],(3,(.map (aD aA aR 0 a) a.length),true),(4,(.map (aD aA aR 0 b) b.length),true),oL 5 1 (map aA c)] 6<|.o (.y fun g:Int=>.i [rn 8,.ans (.look (some (wS (strOf [109,97,105,110]) a,(aR g))))] [.a (dR (strOf [109,97,105,110]) a=some g) (p':=eQ (aA (strOf [109,97,105,110])) (aD aA aR 0 a) 0=some (some (wS (strOf [109,97,105,110]) a,(aR g)))) (rG gC)]<|.b 13 29 e (.i [rn 65,.cnilI 0 0 4] []<|.i [.cnilI 0 1 1] []<|.i [.cnilI 0 3 2] []<|gE 0 7 (.tup [(.agg [(.ilst 4 (jN ([] :List Node)) true),(.ilst 1 (jI ([] :List Int)) true),(nI 0),(.ilst 2 (jC ([] :List Con)) true)]),(nI 7)]))<|.y fun j:List aC=>gk 5 (.enter 64 [(.ptr 2 0)]) [oC 0 [.nils,.nils,(nI 0),.nils],oC 1 [(nI 0)],oC 2 [(.ilst 5 (map LUnit.av d) false),(.map 3),(.map 4),(.gl 5 1 0 c.length false),(bV e)],(3,(.map (aD aA aR 0 a) a.length),true),(4,(.map (aD aA aR 0 b) b.length),true),oL 5 1 (map aA c)] 6 (iS j) [oC 0 [.nils,.nils,(nI 0),.nils],oC 1 [(nI 0)],oC 2 [(.ilst 5 (map LUnit.av d) false),(.map 3),(.map 4),(.gl 5 1 0 c.length false),(bV e)],(3,(.map (aD aA aR 0 a) a.length),true),(4,(.map (aD aA aR 0 b) b.length),true),oL 5 1 (map aA c)] 6<|gl 0 aA j<|gd 7 4 ((j.length:Int) >0) (.i [rn 51,.cnilI 0 0 4] []<|.i [.cnilI 0 1 1] []<|.i [.cnilI 0 3 2] []<|gE 0 7 (.tup [(.agg [(.ilst 4 (jN ([] :List Node)) true),(.ilst 1 (jI ([] :List Int)) true),(nI 0),(.ilst 2 (jC ([] :List Con)) true)]),(nI 7)]))<|.y fun k:Int=>gk 8 (.enter 78 [(.ptr 2 0)]) [oC 0 [.nils,.nils,(nI 0),.nils],oC 1 [(nI 0)],oC 2 [(.ilst 5 (map LUnit.av d) false),(.map 3),(.map 4),(.gl 5 1 0 c.length false),(bV e)],(3,(.map (aD aA aR 0 a) a.length),true),(4,(.map (aD aA aR 0 b) b.length),true),oL 5 1 (map aA c)] 6 (nI k) [oC 0 [.nils,.nils,(nI 0),.nils],oC 1 [(nI 0)],oC 2 [(.ilst 5 (map LUnit.av d) false),(.map 3),(.map 4),(.gl 5 1 0 c.length false),(bV e)],(3,(.map (aD aA aR 0 a) a.length),true),(4,(.map (aD aA aR 0 b) b.length),true),oL 5 1 (map aA c)] 6<|gd 2 43 (k>300) (.i [rn 60,.cnilI 0 0 4] []<|.i [.cnilI 0 1 1] []<|.i [.cnilI 0 3 2] []<|gE 0 7 (.tup [(.agg [(.ilst 4 (jN ([] :List Node)) true),(.ilst 1 (jI ([] :List Int)) true),(nI 0),(.ilst 2 (jC ([] :List Con)) true)]),(nI 3)]))<|gl 1 Con.av f<|gd 7 4 ((f.length:Int) >20) (.i [rn 51,.cnilI 0 0 4] []<|.i [.cnilI 0 1 1] []<|.i [.cnilI 0 3 2] []<|gE 0 7 (.tup [(.agg [(.ilst 4 (jN ([] :List Node)) true),(.ilst 1 (jI ([] :List Int)) true),(nI 0),(.ilst 2 (jC ([] :List Con)) true)]),(nI 3)]))<|.y fun i:List LFun=>.y fun l:List Node=>gk 9 (.enter 79 [(.ptr 2 0),(iC f),.nils]) [oC 0 [.nils,.nils,(nI 0),.nils],oC 1 [(nI 0)],oC 2 [(.ilst 5 (map LUnit.av d) false),(.map 3),(.map 4),(.gl 5 1 0 c.length false),(bV e)],(3,(.map (aD aA aR 0 a) a.length),true),(4,(.map (aD aA aR 0 b) b.length),true),oL 5 1 (map aA c)] 6 (.tup [(.ilst 2 (map LFun.av i) false),(iN l)]) [oC 0 [.nils,.nils,(nI 0),.nils],oC 1 [(nI 0)],oC 2 [(.ilst 5 (map LUnit.av d) false),(.map 3),(.map 4),(.gl 5 1 0 c.length false),(bV e)],(3,(.map (aD aA aR 0 a) a.length),true),(4,(.map (aD aA aR 0 b) b.length),true),oL 5 1 (map aA c)] 6<|gl 18 LFun.av i<|.i [rn 4,.cnil 0 1 1] []<|gu 0 6 (jI ([] :List Int))<|gv 0 0 1 (.gl 6 1 0 ([] :List Int).length false)<|.W 0 7 [0,1,6] (aIT d i (i.length:Int) l g f 0 ([] :List Int)))<|.i [rn 8,.ans (.look none)] [.a (dR (strOf [109,97,105,110]) a=none) (p':=eQ (aA (strOf [109,97,105,110])) (aD aA aR 0 a) 0=some none) (rF gC)]<|.b 13 29 e (.i [rn 65,.cnilI 0 0 4] []<|.i [.cnilI 0 1 1] []<|.i [.cnilI 0 3 2] []<|gE 0 7 (.tup [(.agg [(.ilst 4 (jN ([] :List Node)) true),(.ilst 1 (jI ([] :List Int)) true),(nI 0),(.ilst 2 (jC ([] :List Con)) true)]),(nI 7)]))<|.i [rn 65,.cnilI 0 0 4] []<|.i [.cnilI 0 1 1] []<|.i [.cnilI 0 3 2] []<|gE 0 7 (.tup [(.agg [(.ilst 4 (jN ([] :List Node)) true),(.ilst 1 (jI ([] :List Int)) true),(nI 0),(.ilst 2 (jC ([] :List Con)) true)]),(nI 7)])
def aXn:=fun a b=>uJ a|>.1 b tv
def aXo:=fun a b c d e f g=>uJ a|>.2 b c d e f|>.1 g tv
def aXp:=fun a b c d e f g i j k l=>uJ a|>.2 b c d e i|>.2 f j|>.1 g k|>.t l tv
def aXq:=fun a b c d e f g i j k l m n o=>uJ a|>.2 b c d e j|>.2 f k|>.1 g l|>.f m i n|>.t o tv
def aXr:=fun a b c d e f g i j k l m n o p q r=>uJ a|>.2 b c d e k|>.2 f l|>.1 g m|>.f n i o|>.f p j q|>.t r tv
def aXs:=fun a b c d e f g i j k l m n o p q r s=>uJ a|>.2 b c d e k|>.2 f l|>.1 g m|>.f n i o|>.f p j q|>.f r|>.t s tv
def aXt:=fun a b c d e f g i j k l m n o p q r s t u v=>uJ a|>.2 b c d e m|>.2 f n|>.1 g o|>.f p i q|>.f r j s|>.f t|>.f u k l v ⟨kk,trivial⟩
def aXu:=fun a b c d e f g i j k=>uJ a|>.2 b c d e g|>.2 f i|>.2 j|>.t k tv
def aXv:=fun a b c d e f g i j k=>uJ a|>.2 b c d e g|>.2 f i|>.2 j|>.f k tv
def aTO(i:List LUnit)(c:List LFun)(d:Int)(e:List Node)(f:Int)(g:List Con)(a:Int)(b:List Int):=tT 0 (aIT i c d e f g a b)<|gd 5 62 (a<d) (gX LFun.av 6 c a<|fun j=>ga 10 aR b [j.body]<|gw 6 72 (a+1)<|.W 3 6 [0,1,5] (aIT i c d e f g (a+1) (b++ [j.body])))<|gy 3 0 1 2 1 aR b false<|gE 23 3 (.tup [(.agg [(iN e),(iI b),(nI f),(iC g)]),(nI 0)])
def aXw:=fun a b c d e f g i j k l m n o=>aTO a b c d e f g i|>.t k j l m n o ⟨kk,trivial⟩
def aXx:=fun a b c d e f g i j=>aTO a b c d e f g i|>.f j tv
def xJ(i:aC)(d:List LUnit):=tT 0 (aOD i d)<|fQ 13 85 [(aA i)]<|fun m=>.b 6 4 (!m) (.i [rn 51,.cnilI 0 1 2] []<|.i [.cnilI 0 2 2] []<|.i [.cnilI 0 3 1] []<|.i [.cnilI 0 4 4] []<|gE 0 3 (.tup [(.agg [(.str 0 0),(.ilst 2 (jC ([] :List Con)) true),(.ilst 2 (map LFun.av ([] :List LFun)) true),(.ilst 1 (map aA ([] :List aC)) true),(.ilst 4 (jN ([] :List Node)) true)]),(nI 2)]))<|.o (gK 8 (.enter 63 [(.ilst 5 (map LUnit.av d) false)]) [oC 0 [(.str 0 0),.nils,.nils,.nils,.nils],oC 1 [(nI 0)]] 2 [((.iface 201 (.agg [(nI 2)])),false)] [oC 0 [(.str 0 0),.nils,.nils,.nils,.nils],oC 1 [(nI 0)]] 2<|.i [rn 44,.cnilI 0 1 2] []<|.i [.cnilI 0 2 2] []<|.i [.cnilI 0 3 1] []<|.i [.cnilI 0 4 4] []<|gE 0 3 (.tup [(.agg [(.str 0 0),(.ilst 2 (jC ([] :List Con)) true),(.ilst 2 (map LFun.av ([] :List LFun)) true),(.ilst 1 (map aA ([] :List aC)) true),(.ilst 4 (jN ([] :List Node)) true)]),(nI 2)]))<|.y fun a:List (aC×Int)=>.y fun b:List (aC×Int)=>.y fun c:List aC=>.y fun e:Bool=>gk 8 (.enter 63 [(.ilst 5 (map LUnit.av d) false)]) [oC 0 [(.str 0 0),.nils,.nils,.nils,.nils],oC 1 [(nI 0)]] 2 (.ptr 2 0) [oC 0 [(.str 0 0),.nils,.nils,.nils,.nils],oC 1 [(nI 0)],oC 2 [(.ilst 5 (map LUnit.av d) false),(.map 3),(.map 4),(.gl 5 1 0 c.length false),(bV e)],(3,(.map (aD aA aR 0 a) a.length),true),(4,(.map (aD aA aR 0 b) b.length),true),oL 5 1 (map aA c)] 6<|.o (gK 5 (.enter 77 [(.ptr 2 0)]) [oC 0 [(.str 0 0),.nils,.nils,.nils,.nils],oC 1 [(nI 0)],oC 2 [(.ilst 5 (map LUnit.av d) false),(.map 3),(.map 4),(.gl 5 1 0 c.length false),(bV e)],(3,(.map (aD aA aR 0 a) a.length),true),(4,(.map (aD aA aR 0 b) b.length),true),oL 5 1 (map aA c)] 6 [((.iface 201 (.agg [(nI 7)])),false)] [oC 0 [(.str 0 0),.nils,.nils,.nils,.nils],oC 1 [(nI 0)],oC 2 [(.ilst 5 (map LUnit.av d) false),(.map 3),(.map 4),(.gl 5 1 0 c.length false),(bV e)],(3,(.map (aD aA aR 0 a) a.length),true),(4,(.map (aD aA aR 0 b) b.length),true),oL 5 1 (map aA c)] 6<|.i [rn 44,.cnilI 0 1 2] []<|.i [.cnilI 0 2 2] []<|.i [.cnilI 0 3 1] []<|.i [.cnilI 0 4 4] []<|gE 0 7 (.tup [(.agg [(.str 0 0),(.ilst 2 (jC ([] :List Con)) true),(.ilst 2 (map LFun.av ([] :List LFun)) true),(.ilst 1 (map aA ([] :List aC)) true),(.ilst 4 (jN ([] :List Node)) true)]),(nI 7)]))<|.y fun f:List Con=>gk 5 (.enter 77 [(.ptr 2 0)]) [oC 0 [(.str 0 0),.nils,.nils,.nils,.nils],oC 1 [(nI 0)],oC 2 [(.ilst 5 (map LUnit.av d) false),(.map 3),(.map 4),(.gl 5 1 0 c.length false),(bV e)],(3,(.map (aD aA aR 0 a) a.length),true),(4,(.map (aD aA aR 0 b) b.length),true),oL 5 1 (map aA c)] 6 (iC f) [oC 0 [(.str 0 0),.nils,.nils,.nils,.nils],oC 1 [(nI 0)],oC 2 [(.ilst 5 (map LUnit.av d) false),(.map 3),(.map 4),(.gl 5 1 0 c.length false),(bV e)],(3,(.map (aD aA aR 0 a) a.length),true),(4,(.map (aD aA aR 0 b) b.length),true),oL 5 1 (map aA c)] 6<|.y fun g:List aC=>gk 1 (.enter 64 [(.ptr 2 0)]) [oC 0 [(.str 0 0),.nils,.nils,.nils,.nils],oC 1 [(nI 0)],oC 2 [(.ilst 5 (map LUnit.av d) false),(.map 3),(.map 4),(.gl 5 1 0 c.length false),(bV e)],(3,(.map (aD aA aR 0 a) a.length),true),(4,(.map (aD aA aR 0 b) b.length),true),oL 5 1 (map aA c)] 6 (iS g) [oC 0 [(.str 0 0),.nils,.nils,.nils,.nils],oC 1 [(nI 0)],oC 2 [(.ilst 5 (map LUnit.av d) false),(.map 3),(.map 4),(.gl 5 1 0 c.length false),(bV e)],(3,(.map (aD aA aR 0 a) a.length),true),(4,(.map (aD aA aR 0 b) b.length),true),oL 5 1 (map aA c)] 6<|.b 14 4 e (.i [rn 51,.cnilI 0 1 2] []<|.i [.cnilI 0 2 2] []<|.i [.cnilI 0 3 1] []<|.i [.cnilI 0 4 4] []<|gE 0 7 (.tup [(.agg [(.str 0 0),(.ilst 2 (jC ([] :List Con)) true),(.ilst 2 (map LFun.av ([] :List LFun)) true),(.ilst 1 (map aA ([] :List aC)) true),(.ilst 4 (jN ([] :List Node)) true)]),(nI 7)]))<|.y fun j:Int=>gk 8 (.enter 78 [(.ptr 2 0)]) [oC 0 [(.str 0 0),.nils,.nils,.nils,.nils],oC 1 [(nI 0)],oC 2 [(.ilst 5 (map LUnit.av d) false),(.map 3),(.map 4),(.gl 5 1 0 c.length false),(bV e)],(3,(.map (aD aA aR 0 a) a.length),true),(4,(.map (aD aA aR 0 b) b.length),true),oL 5 1 (map aA c)] 6 (nI j) [oC 0 [(.str 0 0),.nils,.nils,.nils,.nils],oC 1 [(nI 0)],oC 2 [(.ilst 5 (map LUnit.av d) false),(.map 3),(.map 4),(.gl 5 1 0 c.length false),(bV e)],(3,(.map (aD aA aR 0 a) a.length),true),(4,(.map (aD aA aR 0 b) b.length),true),oL 5 1 (map aA c)] 6<|gd 2 30 (j>300) (.i [rn 65,.cnilI 0 1 2] []<|.i [.cnilI 0 2 2] []<|.i [.cnilI 0 3 1] []<|.i [.cnilI 0 4 4] []<|gE 0 7 (.tup [(.agg [(.str 0 0),(.ilst 2 (jC ([] :List Con)) true),(.ilst 2 (map LFun.av ([] :List LFun)) true),(.ilst 1 (map aA ([] :List aC)) true),(.ilst 4 (jN ([] :List Node)) true)]),(nI 3)]))<|gl 1 Con.av f<|gd 3 35 ((f.length:Int) >20) (.i [rn 60,.cnilI 0 1 2] []<|.i [.cnilI 0 2 2] []<|.i [.cnilI 0 3 1] []<|.i [.cnilI 0 4 4] []<|gE 0 7 (.tup [(.agg [(.str 0 0),(.ilst 2 (jC ([] :List Con)) true),(.ilst 2 (map LFun.av ([] :List LFun)) true),(.ilst 1 (map aA ([] :List aC)) true),(.ilst 4 (jN ([] :List Node)) true)]),(nI 3)]))<|gl 1 aA g<|gd 7 4 ((g.length:Int) >20) (.i [rn 51,.cnilI 0 1 2] []<|.i [.cnilI 0 2 2] []<|.i [.cnilI 0 3 1] []<|.i [.cnilI 0 4 4] []<|gE 0 7 (.tup [(.agg [(.str 0 0),(.ilst 2 (jC ([] :List Con)) true),(.ilst 2 (map LFun.av ([] :List LFun)) true),(.ilst 1 (map aA ([] :List aC)) true),(.ilst 4 (jN ([] :List Node)) true)]),(nI 3)]))<|.y fun k:List LFun=>.y fun l:List Node=>gk 10 (.enter 79 [(.ptr 2 0),(iC f),(iS g)]) [oC 0 [(.str 0 0),.nils,.nils,.nils,.nils],oC 1 [(nI 0)],oC 2 [(.ilst 5 (map LUnit.av d) false),(.map 3),(.map 4),(.gl 5 1 0 c.length false),(bV e)],(3,(.map (aD aA aR 0 a) a.length),true),(4,(.map (aD aA aR 0 b) b.length),true),oL 5 1 (map aA c)] 6 (.tup [(.ilst 2 (map LFun.av k) false),(iN l)]) [oC 0 [(.str 0 0),.nils,.nils,.nils,.nils],oC 1 [(nI 0)],oC 2 [(.ilst 5 (map LUnit.av d) false),(.map 3),(.map 4),(.gl 5 1 0 c.length false),(bV e)],(3,(.map (aD aA aR 0 a) a.length),true),(4,(.map (aD aA aR 0 b) b.length),true),oL 5 1 (map aA c)] 6<|gE 35 6 (.tup [(.agg [(aA i),(iC f),(.ilst 2 (map LFun.av k) false),(iS g),(iN l)]),(nI 0)])
def aXy:=fun a b c d e=>xJ a b c d|>.t e tv
def aXz:=fun a b c d e f=>xJ a b c d|>.f e|>.1 f tv
def aXA:=fun a b c d e f g i j k l=>xJ a b c i|>.f j|>.2 d e f g k|>.1 l tv
def aXB:=fun a b c d e f g i j k l m n o p=>xJ a b c k|>.f l|>.2 d e f g m|>.2 i n j o|>.t p tv
def aXC:=fun a b c d e f g i j k l m n o p q r s=>xJ a b c l|>.f m|>.2 d e f g n|>.2 i o j p|>.f q k r|>.t s tv
def aXD:=fun a b c d e f g i j k l m n o p q r s t=>xJ a b c l|>.f m|>.2 d e f g n|>.2 i o j p|>.f q k r|>.f s|>.t t tv
def aXE:=fun a b c d e f g i j k l m n o p q r s t u=>xJ a b c l|>.f m|>.2 d e f g n|>.2 i o j p|>.f q k r|>.f s|>.f t|>.t u tv
def aXF:=fun a b c d e f g i j k l m n o p q r s t u v w x=>xJ a b c n|>.f o|>.2 d e f g p|>.2 i q j r|>.f s k t|>.f u|>.f v|>.f w l m x tv
section
variable (l :List LUnit) (mf mh:List (aC×Int)) (od:List aC) (tw:Bool) (cs:List Con) (ls:List aC) (hT:od.length≤1000) (hls:ls.length≤1000) (hcs:cs.length≤1000) (ht:TabI od tw mf mh)
include hT hls ht in
theorem aTP (u:LUnit)(c50:List Node)(cl:List aC)(hcl:cl.length≤1000)(i:Int)(fs:List LFun)(L:List ONode) :∀ (t:List aC) (k:Nat) (acc:List Int),cl.drop k=t→acc.length=k →
  LeadsM PP 4 (aFd l mf mh od tw cs ls cl ((cl.length:Nat) :Int) c50 u.name u.cons u.funs u.needs u.nodes (k:Int) acc i fs L).as (aFe l mf mh od tw cs ls u.cons ((u.cons.length:Nat) :Int) c50 u.name u.funs u.needs u.nodes (acc++t.map (jY od ls)) 0 [] i fs L).as
 | [],k,acc,h,ha=>by
  have:=bL h;rw [map_nil,append_nil];exact aXi l mf mh od tw cs ls cl _ c50 u.name u.cons u.funs u.needs u.nodes k acc i fs L sd
 | s ::t,k,acc,h,ha=>by
  obtain⟨q1,q2,q3⟩ :=bK h;have ih:=aTP u c50 cl hcl i fs L t (k+1) (acc++ [jY od ls s]) q2 (by simp [ha]);rw [append_assoc]at ih;have r2:=fS s ls 0;have g:=ht.f s;have hng:=kM s od 0;by_cases hn:bE od s=true
  · rw [if_pos hn]at g;have ef:jY od ls s=dM s od 0:=by unfold jY;rw [if_neg (fun h=>by rw [hng.1 h]at hn;cases hn)]
    have h1:=aXg l mf mh od tw cs ls cl ((cl.length:Nat) :Int) c50 u.name u.cons u.funs u.needs u.nodes k acc i fs L s _ sd sd sd g (by simp;omega) sd;rw [←ef]at h1;exact h1.trans ih
  · rw [if_neg hn]at g;rw [not_eq_true]at hn;have ef:jY od ls s= (od.length:Int) +dM s ls 0:=by unfold jY;rw [if_pos (hng.2 hn)]
    have hw:IntKind.i64.wrap (((length od:Nat) :Int) +dM s ls 0) = (od.length:Int) +dM s ls 0:=by apply wrap64<;>omega
    have h1:=aXh l mf mh od tw cs ls cl ((cl.length:Nat) :Int) c50 u.name u.cons u.funs u.needs u.nodes k acc i fs L s _ sd sd sd g (aTq ls s (by omega)) (by simp;omega) sd;rw [hw,←ef]at h1;exact h1.trans ih
include hcs in
theorem aTQ (u:LUnit)(c50:List Node)(hu:u.cons.length≤1000)(F:List Int)(i:Int)(fs:List LFun)(L:List ONode) :∀ (t:List Con) (k:Nat) (acc:List Int),u.cons.drop k=t→acc.length=k →
  LeadsM PP 4 (aFe l mf mh od tw cs ls u.cons ((u.cons.length:Nat) :Int) c50 u.name u.funs u.needs u.nodes F (k:Int) acc i fs L).as (aFf l mf mh od tw cs ls u.funs ((u.funs.length:Nat) :Int) c50 F (acc++t.map (fun c=>fO c.name cs 0)) 0 fs L i).as
 | [],k,acc,h,ha=>by
  have:=bL h;rw [map_nil,append_nil];exact aXk l mf mh od tw cs ls u.cons _ c50 u.name u.funs u.needs u.nodes F k acc i fs L sd
 | c::t,k,acc,h,ha=>by
  obtain⟨q1,q2,q3⟩ :=bK h;have ih:=aTQ u c50 hu F i fs L t (k+1) (acc++ [fO c.name cs 0]) q2 (by simp [ha]);rw [append_assoc]at ih;exact(aXj l mf mh od tw cs ls u.cons _ c50 u.name u.funs u.needs u.nodes F k acc i fs L c _ sd sd sd (aTr cs c.name (by omega)) (by simp;omega) sd).trans ih
abbrev aYM (f:LFun) :AObj:=.cells (putCells .leaf 0 [aA f.name,.int .i64 f.body]) 2 [] false
abbrev LFs (fs:List LFun) :AObj:=.lst 2 (map LFun.av fs)
theorem aTR (u:LUnit)(hu:u.funs.length≤1000)(hx:∀x∈u.nodes,qF x.pats=true)(F C:List Int)(K:Nat)(i:Nat)(hi:i<1000) :∀ (t:List LFun) (k:Nat) (fs:List LFun) (L:List ONode) (ks:List Int) (r:List Node),u.funs.drop k=t→fs.length+t.length≤100000 →
  mO (dZ (lE u) F C K) L.length (t.map LFun.body) =some (ks,r) →
  LeadsM PP 4 (aFf l mf mh od tw cs ls u.funs ((u.funs.length:Nat) :Int) u.nodes F C (k:Int) fs L (i:Int)).as (aFc l mf mh od tw cs ls ((i:Int) +1) u.nodes F C (fs++zipWith LFun.mk (t.map LFun.name) ks) (L++map Node.o r)).as
 | [],k,fs,L,ks,r,h,hf,hm=>by
  have:=bL h;cases hm;simp only [map_nil,List.zipWith_nil_left,append_nil];exact aXm l mf mh od tw cs ls u.funs _ u.nodes F C k fs L i sd sd
 | f :: t,k,fs,L,ks,r,h,hf,hm=>by
  obtain⟨q1,q2,q3⟩ :=bK h;simp only [length_cons]at hf;simp only [List.map_cons,mO]at hm;split at hm
  · rename_i ns hns;split at hm
    · rename_i ks1 r1 hm1;cases hm;have hs:=mNd_spec (lE u) F C hx K L f.body ns hns;unfold MNS at hs
      have hs':=lQ (m:=1) (ks:=[5,6]) (n2:=9) (n3:=10) (v':=.int .i64 ((length L:Nat) :Int)) (args':=[.ptr 5 0,.int .i64 f.body])
       (lc:=[(0,aNH l 1 2 3 od tw,false),(1,MTb mf,true),(2,MTb mh,true),(3,aLi od,true),(4,LFs fs,true),(5,MC u.nodes F C 6 (length L),false),(6,OL L,true),(7,aYM f,false)])
       (lc':=[(0,aNH l 1 2 3 od tw,false),(1,MTb mf,true),(2,MTb mh,true),(3,aLi od,true),(4,LFs fs,true),(5,MC u.nodes F C 9 (length (L++map Node.o ns)),false),(7,aYM f,false),(9,OL (L++map Node.o ns),true)])
       hs (by rfl) (by rfl) (by kernel_rfl) (by rfl) (by rfl) (by kernel_rfl) (by kernel_rfl) ⟨zT _,trivial⟩ (by kernel_rfl) ⟨zT _,trivial⟩
      have h1:=aXl l mf mh od tw cs ls u.funs ((u.funs.length:Nat) :Int) u.nodes F C k fs L i f ns sd sd sd (mp (by kernel_rfl) hs') (by simp;omega) sd;have h3:=aTR u hu hx F C K i hi t (k+1) (fs++ [(⟨f.name,((L.length:Nat) :Int)⟩ :LFun)]) (L++map Node.o ns) ks1 r1 q2 (by simp;omega) (by rw [List.length_append,length_map];exact hm1);have e1:fs++zipWith LFun.mk (map LFun.name (f::t)) (((L.length:Nat) :Int) ::ks1) = (fs++ [(⟨f.name,((L.length:Nat) :Int)⟩ :LFun)]) ++zipWith LFun.mk (map LFun.name t) ks1:=by simp
      have e2:L++map Node.o (ns++r1) = (L++map Node.o ns) ++map Node.o r1:=by simp
      rw [e1,e2];exact h1.trans h3
    ·cases hm
  ·cases hm
include hT hls hcs ht in
theorem aTS (hl:l.length≤11)(hu:∀u∈l,FewU u∧∀x∈u.nodes,qF x.pats=true) :∀ (t:List LUnit) (i:Nat) (a0:List Node) (a1 a2:List Int) (fs:List LFun) (ns:List Node) (fs':List LFun) (ns':List Node),l.drop i=t→fs.length≤30*i→aEY od ls cs fs ns t=some (fs',ns') →
  Ends PP 4 (aFc l mf mh od tw cs ls (i:Int) a0 a1 a2 fs (map Node.o ns)).as (.ret (.tup [.ilst 2 (map LFun.av fs') false,.ilst 4 (map Node.av ns') false])) (aG (THp l mf mh od tw) 4)
 | [],i,a0,a1,a2,fs,ns,fs',ns',h,ha,hm=>by
  have:=bL h;cases hm;exact aXf l mf mh od tw cs ls i a0 a1 a2 fs (map Node.o ns) ns sd rfl (by simp)
 | u ::t,i,a0,a1,a2,fs,ns,fs',ns',h,ha,hm=>by
  obtain⟨q1,q2,q3⟩ :=bK h;have hf:= (hu u (mem_of_getElem? q1)).1;have hx:= (hu u (mem_of_getElem? q1)).2;have f1:=hf.f;have f2:=hf.n;have f3:u.cons.length≤25:=by have:=hf.p;simp only [aM,and_eq_true,decide_eq_true_eq]at this;exact this.1.1.2
  have hnm: (aE u).length=u.funs.length:=by simp [aE]
  rw [aEY]at hm;split at hm
  · rename_i ks r hk;have hkl:=aCn hk;have hc:=aLh (aE u) u.needs (by omega) (by omega)
    have hc':=lQ (m:=1) (ks:=[8]) (n2:=9) (n3:=9) (v':=.ilst 1 (map aA (aE u++u.needs)) false) (args':=[.slice 8 0 2 2 1 true])
     (lc:=[(0,aNH l 1 2 3 od tw,false),(1,MTb mf,true),(2,MTb mh,true),(3,aLi od,true),(4,LFs fs,true),(5,.cells (putCells .leaf 0 [.ilst 4 (map Node.av u.nodes) false,.gl 6 4 0 (length (map Node.o ns)) false,.nils,.nils]) 4 [] false,false),(6,OL (map Node.o ns),true),(7,aGE u,false),(8,aIP (aE u) u.needs,false)])
     (lc':=[(0,aNH l 1 2 3 od tw,false),(1,MTb mf,true),(2,MTb mh,true),(3,aLi od,true),(4,LFs fs,true),(5,.cells (putCells .leaf 0 [.ilst 4 (map Node.av u.nodes) false,.gl 6 4 0 (length (map Node.o ns)) false,.nils,.nils]) 4 [] false,false),(6,OL (map Node.o ns),true),(7,aGE u,false),(8,aIP (aE u) u.needs,false)])
     hc (by rfl) (by kernel_rfl) (by kernel_rfl) (by rfl) (by rfl) (by kernel_rfl) (by kernel_rfl) trivial (by kernel_rfl) trivial
    have h0:=aXe l mf mh od tw cs ls i a0 a1 a2 fs (map Node.o ns) u (aE u) sd sd sd (aLe u (by omega)) (mp (by kernel_rfl) hc');have h1:=aTP l mf mh od tw cs ls hT hls ht u u.nodes (aE u++u.needs) (by simp;omega) i fs (map Node.o ns) (aE u++u.needs) 0 [] rfl rfl;have h2:=aTQ l mf mh od tw cs ls hcs u u.nodes (by omega) (nL od ls u) i fs (map Node.o ns) u.cons 0 [] rfl rfl;have h3:=aTR l mf mh od tw cs ls u (by omega) hx (nL od ls u) (uF cs u) u.nodes.length i (by omega) u.funs 0 fs (map Node.o ns) ks r rfl (by omega) (by rw [length_map];exact hk);rw [←List.map_append]at h3;have hb: (bU u).length=u.funs.length:=by simp [bU]
    exact h0.ends (h1.ends (h2.ends (h3.ends (aTS hl hu t (i+1) _ _ _ _ (ns++r) fs' ns' q2 (by simp;omega) hm))))
  ·cases hm
include hT hls hcs ht in
theorem aLn (hl:l.length≤11)(hu:∀u∈l,FewU u∧∀x∈u.nodes,qF x.pats=true){fs:List LFun}{ns:List Node}(h:aEY od ls cs [] [] l=some (fs,ns)) :
  Spec PP (.enter 79 [.ptr 0 0,.ilst 2 (map Con.av cs) false,.ilst 1 (map aA ls) false]) (aG (THp l mf mh od tw) 4) (.ret (.tup [.ilst 2 (map LFun.av fs) false,.ilst 4 (map Node.av ns) false])) (aG (THp l mf mh od tw) 4) :=by
 suffices hh:Ends PP 4 (aTK l mf mh od tw cs ls).as (.ret (.tup [.ilst 2 (map LFun.av fs) false,.ilst 4 (map Node.av ns) false])) (aG (THp l mf mh od tw) 4)from⟨(aTK l mf mh od tw cs ls).as.fr,by kernel_rfl,mp (by kernel_rfl) hh⟩
 exact(aXd l mf mh od tw cs ls).ends (aTS l mf mh od tw cs ls hT hls hcs ht hl hu l 0 [] [] [] [] [] fs ns rfl (by simp) h)
end
theorem aQq {f:Nat}{args args':List AV}{h h':Hp}{res:Res}(hs:Spec PP (.enter f args) h res h')(hl:args'.length=args.length)(ha:∀ (E:Emb) (i:Nat) (a a':AV) (c:Value),args[i]?=some a→args'[i]?=some a'→VR E a' c→VR E a c) :Spec PP (.enter f args') h res h':=by
 obtain⟨g,hg,he⟩ :=hs;simp only [dO,cO]at hg;split at hg
 · rename_i fn hfn;split at hg
   · rename_i c hc;cases hg;refine⟨_,by simp only [dO,cO,hfn,hc];rfl,?_⟩;intro hm E fr ccs w hfr fs r cl base;refine he hm E fr ccs w ?_ fs r cl base;refine⟨hfr.fn,⟨by have:=hfr.tm.1;rw [hl]at this;exact this,fun t a e=>?_⟩,hfr.todo,hfr.defers,hfr.mode,hfr.kind,hfr.round⟩;have ht:t<args.length∧args[t]?=some a:=by
      have e': (dG .leaf 0 args).at t=some a:=e;unfold dG at e';rw [bY]at e';split at e'
      ·rename_i hlt;exact⟨hlt,e'⟩
      ·cases e'
     have ht':args'[t]?=some args'[t] :=List.getElem?_eq_getElem (by omega)
     obtain⟨cv,g1,g2⟩ :=hfr.tm.2 t args'[t] (by
      show(dG .leaf 0 args').at t=_;unfold dG;rw [bY,if_pos (by omega)];exact ht')
     exact⟨cv,g1,ha E t _ _ cv ht.2 ht' g2⟩
   ·cases hg
 ·cases hg
theorem oI (s:aC) :∀ (l:List LUnit) (i:Nat),zU s l i<0↔bE (aP l) s=false
 | [],i=>by simp [zU,bE,aP]
 | u ::l,i=>by
  rw [zU,lR,lB];by_cases e:bE (aE u) s=true
  · rw [if_pos e,e,Bool.true_or];constructor
    ·intro h;omega
    ·intro h;cases h
  · rw [if_neg e,oI s l (i+1)];rw [not_eq_true]at e;rw [e,Bool.false_or]
abbrev aGN :AObj:=.cells (putCells .leaf 0 [.int .i64 0]) 1 [] false
abbrev aNK :AObj:=.cells (putCells .leaf 0 [.nils,.nils,.int .i64 0,.nils]) 4 [] false
abbrev aNL :AObj:=.cells (putCells .leaf 0 [.str 0 0,.nils,.nils,.nils,.nils]) 5 [] false
abbrev aGO (l:List LUnit)(mf mh:List (aC×Int))(od:List aC)(tw:Bool) :List (Nat×AObj×Bool) :=[(0,aNK,false),(1,aGN,false),(2,aNH l 3 4 5 od tw,false),(3,MTb mf,true),(4,MTb mh,true),(5,aLi od,true)]
section
variable (l :List LUnit) (mf mh:List (aC×Int)) (od:List aC) (tw:Bool)
theorem aTT {f:Nat}{args args':List AV}{res:Res}(hs:Spec PP (.enter f args) (aG (THp l mf mh od tw) 4) res (aG (THp l mf mh od tw) 4))(hargs:renL (eC 0 4 6 [2,3,4,5]) args=args')(hv:pD res) :
  Spec PP (.enter f args') (aG (aGO l mf mh od tw) 6) res (aG (aGO l mf mh od tw) 6) :=
 aBb (ks:=[2,3,4,5]) (n2:=6) (lc:=aGO l mf mh od tw) (lc':=aGO l mf mh od tw) hs hargs hv (by kernel_rfl) (by kernel_rfl) ⟨nB _,nB _,yF _,trivial⟩ (by kernel_rfl) ⟨nB _,nB _,yF _,trivial⟩
theorem bAf (hs:aD6 PP (.enter 63 [.ilst 5 (map LUnit.av l) false]) (aG [] 0) (.ret (.ptr 0 0)) (aG (THp l mf mh od tw) 4)) :
  Spec PP (.enter 63 [.ilst 5 (map LUnit.av l) false]) (aG [(0,aNK,false),(1,aGN,false)] 2) (.ret (.ptr 2 0)) (aG (aGO l mf mh od tw) 6) :=
 lQ (m:=0) (ks:=[]) (n2:=2) (n3:=6) (v':=.ptr 2 0) (args':=[.ilst 5 (map LUnit.av l) false]) (lc:=[(0,aNK,false),(1,aGN,false)]) (lc':=aGO l mf mh od tw)
  hs (by rfl) (by rfl) (by kernel_rfl) (by rfl) (by rfl) (by kernel_rfl) (by kernel_rfl) trivial (by kernel_rfl) ⟨nB _,nB _,yF _,trivial⟩
end
abbrev aGP (l:List LUnit)(mf mh:List (aC×Int))(od:List aC)(tw:Bool) :List (Nat×AObj×Bool) :=[(0,aNL,false),(1,aGN,false),(2,aNH l 3 4 5 od tw,false),(3,MTb mf,true),(4,MTb mh,true),(5,aLi od,true)]
section
variable (l :List LUnit) (mf mh:List (aC×Int)) (od:List aC) (tw:Bool)
theorem aTU {f:Nat}{args args':List AV}{res:Res}(hs:Spec PP (.enter f args) (aG (THp l mf mh od tw) 4) res (aG (THp l mf mh od tw) 4))(hargs:renL (eC 0 4 6 [2,3,4,5]) args=args')(hv:pD res) :
  Spec PP (.enter f args') (aG (aGP l mf mh od tw) 6) res (aG (aGP l mf mh od tw) 6) :=
 aBb (ks:=[2,3,4,5]) (n2:=6) (lc:=aGP l mf mh od tw) (lc':=aGP l mf mh od tw) hs hargs hv (by kernel_rfl) (by kernel_rfl) ⟨nB _,nB _,yF _,trivial⟩ (by kernel_rfl) ⟨nB _,nB _,yF _,trivial⟩
theorem bAg (hs:aD6 PP (.enter 63 [.ilst 5 (map LUnit.av l) false]) (aG [] 0) (.ret (.ptr 0 0)) (aG (THp l mf mh od tw) 4)) :
  Spec PP (.enter 63 [.ilst 5 (map LUnit.av l) false]) (aG [(0,aNL,false),(1,aGN,false)] 2) (.ret (.ptr 2 0)) (aG (aGP l mf mh od tw) 6) :=
 lQ (m:=0) (ks:=[]) (n2:=2) (n3:=6) (v':=.ptr 2 0) (args':=[.ilst 5 (map LUnit.av l) false]) (lc:=[(0,aNL,false),(1,aGN,false)]) (lc':=aGP l mf mh od tw)
  hs (by rfl) (by rfl) (by kernel_rfl) (by rfl) (by rfl) (by kernel_rfl) (by kernel_rfl) trivial (by kernel_rfl) ⟨nB _,nB _,yF _,trivial⟩
end
theorem aYN (l:List LUnit)(fs:List LFun)(ns:List Node)(mn:Int)(c:List Con)(hf:fs.length≤1000) :∀ (t:List LFun) (i:Nat) (acc:List Int),fs.drop i=t→acc.length=i →
  Ends PP 0 (aIT l fs ((fs.length:Nat) :Int) ns mn c (i:Int) acc).as (.ret (.tup [Prog.av ⟨ns,acc++t.map LFun.body,mn,c⟩,.int .i64 0])) (aG [] 0)
 | [],i,acc,h,ha=>by
  have:=bL h;rw [map_nil,append_nil];exact aXx l fs _ ns mn c i acc sd
 | f::t,i,acc,h,ha=>by
  obtain⟨q1,q2,q3⟩ :=bK h;have ih:=aYN l fs ns mn c hf t (i+1) (acc++ [f.body]) q2 (by simp [ha]);rw [append_assoc]at ih;exact(aXw l fs _ ns mn c i acc f sd sd sd (by simp;omega) sd).ends ih
theorem aFg (l:List LUnit)(hl:l.length≤11)(hu:∀u∈l,FewU u∧NumU u) :Pure PP 24 [.ilst 5 (map LUnit.av l) false] (.tup [Prog.av (eM l).1,.int .i64 (eM l).2]) :=by
 have hf:=fun u h=> (hu u h).1;have hal:=aBu l hf;have err:∀e:Int,Ends PP 0 (aOC l).as (.ret (.tup [aIl,.int .i64 e])) (aG [] 0) →Pure PP 24 [.ilst 5 (map LUnit.av l) false] (.tup [Prog.av zX,.int .i64 e]) :=fun e h=>
  aGx (gW (s:=aOC l) (by kernel_rfl) (by kernel_rfl) (by simp [keylessL,keyless]) (by simp [keylessL,keyless]) h) (fun E cv hv=>aVe hv)
 unfold eM;by_cases h0:dE l=true
 · rw [if_pos h0];obtain⟨hl10,hg⟩ :=iV hf h0;obtain⟨mf,mh,ht,hs⟩ :=aTH l hu h0;have s0:=bAf l mf mh _ _ hs;have hc25:∀u∈l,u.cons.length≤25:=fun u h=> (hg u h).small.2;have s1:=aLm l mf mh (aP l) (!bG (aP l)) hl hc25;have s2:=aLj l mf mh (aP l) (!bG (aP l)) ht hl hf;have s3:=aLk l mf mh (aP l) (!bG (aP l)) hl (fun u h=> (hg u h).small.1);have s2':=aTT l mf mh _ _ s2 (args':=[.ptr 2 0]) (by rfl) (by simp [pD,keyless]);have s3':=aTT l mf mh _ _ s3 (args':=[.ptr 2 0]) (by rfl) (by simp [pD,keyless]);have hm:=ht.f lF;cases hc:hP l with
   | none=>
    rw [hc]at s1;exact err 7 (aXo l mf mh (aP l) _ s0 (aTT l mf mh _ _ s1 (args':=[.ptr 2 0]) (by rfl) (by simp [pD,keyless,keylessL])))
   | some c =>
    rw [hc]at s1;have s1':=aTT l mf mh _ _ s1 (args':=[.ptr 2 0]) (by rfl) (by simp [pD,keyless]);have hcl:=aCo hf hc;dsimp only;cases h5:bE (aP l) lF with
    | false=>
     rw [h5,if_neg (by simp)]at hm;rw [if_neg (fun h=>h.2.2 ((oI lF l 0).2 h5))];cases h3:bG (aP l)with
     | false=>
      rw [h3]at s0 s1';exact err 7 (aXu l mf mh (aP l) true c s0 s1' hm rfl)
     | true=>
      rw [h3]at s0 s1';exact err 7 (aXv l mf mh (aP l) false c s0 s1' hm rfl)
    | true =>
     rw [h5,if_pos rfl]at hm;have h5':¬zU lF l 0<0:=fun h=>by rw [(oI lF l 0).1 h]at h5;cases h5
     cases h3:bG (aP l)with
     | false=>
      rw [h3]at s0 s1';rw [if_neg (fun h=>by cases h.1)];exact err 7 (aXp l mf mh (aP l) true c _ s0 s1' hm rfl)
     | true =>
      by_cases h4:cA l= []
      · rw [if_pos ⟨rfl,h4,h5'⟩];have hp:=aTk (ls:=[]) (cs:=c) hl10 hg (by simp);have s4:=aLn l mf mh (aP l) (!bG (aP l)) c [] (by omega) (by simp) (by simp at hcl;omega) ht hl (fun u h=> ⟨hf u h,aOv (hg u h)⟩) hp.eq;have s4a:=aTT l mf mh _ _ s4 (args':=[.ptr 2 0,.ilst 2 (map Con.av c) false,.ilst 1 (map aA []) false]) (by kernel_rfl) (by simp [pD,keyless,keylessL])
        have s4':=aQq s4a (args':=[.ptr 2 0,.ilst 2 (map Con.av c) false,.nils]) rfl (fun E i a a' cv e1 e2 hv=>by
         match i with
         |0=>simp only [List.getElem?_cons_zero,Option.some.injEq]at e1 e2;rw [←e1,e2];exact hv
         |1=>simp only [List.getElem?_cons_succ,List.getElem?_cons_zero,Option.some.injEq]at e1 e2;rw [←e1,e2];exact hv
         | 2=>
          simp only [List.getElem?_cons_succ,List.getElem?_cons_zero,Option.some.injEq]at e1 e2;rw [←e1];rw [←e2]at hv;exact aBs _ hv
         |i+3=>simp at e1)
        rw [h3]at s0 s1' s2' s3' s4';have e4:nK (aP l) [] l= [] :=h4;rw [e4]at s2';by_cases h6:aI l≤300
        · by_cases h7:c.length≤20
          · rw [if_pos ⟨h6,h7⟩];have hff:=hp.funs
            exact gW (s:=aOC l) (by kernel_rfl) (by kernel_rfl) (by simp [keylessL,keyless]) (by simp [keylessL,keyless,Prog.av])
             ((aXt l mf mh (aP l) false c _ [] _ (uG [] c l).1 (uG [] c l).2 s0 s1' hm rfl s2' rfl s3' (by simp;omega) (by simp;omega) s4').ends
              (aYN l (uG [] c l).1 (uG [] c l).2 _ c (by omega) (uG [] c l).1 0 [] rfl rfl))
          · rw [if_neg (fun h=>h7 h.2)];exact err 3 (aXs l mf mh (aP l) false c _ [] _ s0 s1' hm rfl s2' rfl s3' (by simp;omega) (by simp;omega))
        · rw [if_neg (fun h=>h6 h.1)];exact err 3 (aXr l mf mh (aP l) false c _ [] _ s0 s1' hm rfl s2' rfl s3' (by simp;omega))
      · rw [if_neg (fun h=>h4 h.2.1)];have:0< (cA l).length:=List.length_pos_iff.2 h4;rw [h3]at s0 s1' s2';exact err 7 (aXq l mf mh (aP l) false c _ (cA l) s0 s1' hm rfl s2' (decide_eq_true (by omega)))
 · rw [if_neg h0];rw [not_eq_true]at h0;exact err 2 (aXn l (aTG l hu h0 _))
theorem aFh (nm:aC)(l:List LUnit)(hl:l.length≤11)(hu:∀u∈l,FewU u∧NumU u) :Pure PP 27 [aA nm,.ilst 5 (map LUnit.av l) false] (.tup [LUnit.av (qG nm l).1,.int .i64 (qG nm l).2]) :=by
 have hf:=fun u h=> (hu u h).1;have hal:=aBu l hf;have pn:=aEy nm;have err:∀e:Int,Ends PP 0 (aOD nm l).as (.ret (.tup [(.agg [(.str 0 0),(.ilst 2 (map Con.av ([] :List Con)) true),(.ilst 2 (map LFun.av ([] :List LFun)) true),(.ilst 1 (map aA ([] :List aC)) true),(.ilst 4 (map Node.av ([] :List Node)) true)]),.int .i64 e])) (aG [] 0) →Pure PP 27 [aA nm,.ilst 5 (map LUnit.av l) false] (.tup [LUnit.av aGI,.int .i64 e]) :=fun e h=>
  aGx (gW (s:=aOD nm l) (by kernel_rfl) (by kernel_rfl) (by simp [keylessL,keyless,aA]) (by simp [keylessL,keyless]) h) (fun E cv hv=>aV7 hv)
 unfold qG;cases hn:jB nm with
 | false=>
  rw [hn]at pn;rw [if_neg (fun h=>by cases h.1)];exact err 2 (aXy nm l false pn rfl)
 | true =>
  rw [hn]at pn;by_cases h0:dE l=true
  · rw [if_pos ⟨rfl,h0⟩];obtain⟨hl10,hg⟩ :=iV hf h0;obtain⟨mf,mh,ht,hs⟩ :=aTH l hu h0;have s0:=bAg l mf mh _ _ hs;have hc25:∀u∈l,u.cons.length≤25:=fun u h=> (hg u h).small.2;have s1:=aLm l mf mh (aP l) (!bG (aP l)) hl hc25;have s2:=aLj l mf mh (aP l) (!bG (aP l)) ht hl hf;have s3:=aLk l mf mh (aP l) (!bG (aP l)) hl (fun u h=> (hg u h).small.1);have s2':=aTU l mf mh _ _ s2 (args':=[.ptr 2 0]) (by rfl) (by simp [pD,keyless]);have s3':=aTU l mf mh _ _ s3 (args':=[.ptr 2 0]) (by rfl) (by simp [pD,keyless]);cases hc:hP l with
    | none=>
     rw [hc]at s1;exact err 7 (aXA nm l true mf mh (aP l) _ pn rfl s0 (aTU l mf mh _ _ s1 (args':=[.ptr 2 0]) (by rfl) (by simp [pD,keyless,keylessL])))
    | some c =>
     rw [hc]at s1;have s1':=aTU l mf mh _ _ s1 (args':=[.ptr 2 0]) (by rfl) (by simp [pD,keyless]);have hcl:=aCo hf hc;have hll:=aGJ (own:=aP l) (out:=[]) hf;have hll: (cA l).length≤25*l.length:=by simpa [cA]using hll
     dsimp only;cases h3:bG (aP l)with
     | false=>
      rw [h3]at s0 s1' s2';rw [if_neg (fun h=>by cases h)];exact err 7 (aXB nm l true mf mh (aP l) true c (cA l) pn rfl s0 s1' s2' rfl)
     | true =>
      rw [if_pos rfl];have hp:=aTk (ls:=cA l) (cs:=c) hl10 hg (by omega);have s4:=aLn l mf mh (aP l) (!bG (aP l)) c (cA l) (by omega) (by omega) (by simp at hcl;omega) ht hl (fun u h=> ⟨hf u h,aOv (hg u h)⟩) hp.eq;have s4':=aTU l mf mh _ _ s4 (args':=[.ptr 2 0,.ilst 2 (map Con.av c) false,.ilst 1 (map aA (cA l)) false]) (by kernel_rfl) (by simp [pD,keyless,keylessL]);rw [h3]at s0 s1' s2' s3' s4';by_cases h6:aI l≤300
      · by_cases h7:c.length≤20
        · by_cases h8: (cA l).length≤20
          · rw [if_pos ⟨h6,h7,h8⟩]
            exact gW (s:=aOD nm l) (by kernel_rfl) (by kernel_rfl) (by simp [keylessL,keyless,aA]) (by simp [keylessL,keyless,rN])
             (aXF nm l true mf mh (aP l) false c (cA l) _ (uG (cA l) c l).1 (uG (cA l) c l).2 pn rfl s0 s1' s2' rfl s3' (by simp;omega) (by simp;omega) (by simp;omega) s4')
          · rw [if_neg (fun h=>h8 h.2.2)];exact err 3 (aXE nm l true mf mh (aP l) false c (cA l) _ pn rfl s0 s1' s2' rfl s3' (by simp;omega) (by simp;omega) (by simp;omega))
        · rw [if_neg (fun h=>h7 h.2.1)];exact err 3 (aXD nm l true mf mh (aP l) false c (cA l) _ pn rfl s0 s1' s2' rfl s3' (by simp;omega) (by simp;omega))
      · rw [if_neg (fun h=>h6 h.1)];exact err 3 (aXC nm l true mf mh (aP l) false c (cA l) _ pn rfl s0 s1' s2' rfl s3' (by simp;omega))
  · rw [if_neg (fun h=>h0 h.2)];rw [not_eq_true]at h0;exact err 2 (aXz nm l true pn rfl (aTG l hu h0 _))
theorem aLo {out o:List Con}{c:Con}(h:jD out c=some o)(hd: (out.map Con.name).Nodup) : (o.map Con.name).Nodup∧ (∀d∈o,d∈out∨d=c) ∧ (∀d∈out,d∈o) ∧c∈o:=by
 unfold jD at h;split at h
 · rename_i hf;cases h
   have hno:c.name∉out.map Con.name:=fun hm=>by
    obtain⟨d,hd1,hd2⟩ :=List.mem_map.1 hm;have:=List.find?_eq_none.1 hf d hd1;simp [hd2]at this
   refine⟨?_,fun d h=>by simpa using h,fun d h=>by simp [h],by simp⟩;rw [List.map_append,nodup_append];refine⟨hd,by simp,fun a ha b hb e=>?_⟩;simp at hb;exact hno (by rw [←hb,←e];exact ha)
 · rename_i d hf;split at h
   · rename_i ha;cases h;have h1:=List.mem_of_find?_eq_some hf;have h2:=List.find?_some hf;have h3:d.name=c.name:=by simpa using h2
     have e:c=d:=by
      obtain⟨a,b⟩ :=c;obtain⟨a',b'⟩ :=d;simp only at ha h3;rw [ha,h3]
     exact⟨hd,fun d h=>.inl h,fun d h=>h,by rw [e];exact h1⟩
   ·cases h
theorem mR :∀ {t out o:List Con},cU out t=some o→ (out.map Con.name).Nodup→ (o.map Con.name).Nodup∧ (∀d∈o,d∈out∨d∈t) ∧ (∀d∈out,d∈o) ∧∀c∈t,c∈o
 | [],out,o,h,hd=>by cases h;exact⟨hd,fun d h=>.inl h,fun d h=>h,fun c h=>by cases h⟩
 | c :: t,out,o,h,hd=>by
  rw [cU]at h;split at h
  · rename_i o1 h1;obtain⟨a1,a2,a3,a4⟩ :=aLo h1 hd;obtain⟨b1,b2,b3,b4⟩ :=mR h a1;refine⟨b1,fun d hd=>?_,fun d hd=>b3 d (a3 d hd),fun d hd=>?_⟩
    · rcases b2 d hd with g|g
      · rcases a2 d g with g|g
        ·exact .inl g
        ·exact .inr (by rw [g];exact mem_cons_self ..)
      ·exact .inr (mem_cons_of_mem _ g)
    · rcases List.mem_cons.1 hd with g|g
      ·rw [g];exact b3 c a4
      ·exact b4 d g
  ·cases h
theorem iL :∀ {l:List LUnit} {out o:List Con},rQ out l=some o→ (out.map Con.name).Nodup→ (o.map Con.name).Nodup∧ (∀d∈o,d∈out∨∃u∈l,d∈u.cons) ∧ (∀d∈out,d∈o) ∧∀u∈l,∀c∈u.cons,c∈o
 | [],out,o,h,hd=>by cases h;exact⟨hd,fun d h=>.inl h,fun d h=>h,fun c h=>by cases h⟩
 | u :: l,out,o,h,hd=>by
  rw [rQ]at h;split at h
  · rename_i o1 h1;obtain⟨a1,a2,a3,a4⟩ :=mR h1 hd;obtain⟨b1,b2,b3,b4⟩ :=iL h a1;refine⟨b1,fun d hd=>?_,fun d hd=>b3 d (a3 d hd),fun v hv=>?_⟩
    · rcases b2 d hd with g| ⟨v,g1,g2⟩
      · rcases a2 d g with g|g
        ·exact .inl g
        ·exact .inr ⟨u,mem_cons_self ..,g⟩
      ·exact .inr ⟨v,mem_cons_of_mem _ g1,g2⟩
    · rcases List.mem_cons.1 hv with g|g
      ·rw [g];exact fun c hc=>b3 c (a4 c hc)
      ·exact b4 v g
  ·cases h
theorem aCZ (own:List aC) :∀ (t out:List aC),(∀s,bE out s=true→bE (nJ own out t) s=true) ∧∀s∈t,bE own s=true∨bE (nJ own out t) s=true
 | [],out=> ⟨fun s h=>h,fun s h=>by cases h⟩
 | x :: t,out=>by
  rw [nJ];obtain⟨h1,h2⟩ :=aCZ own t (if bE own x=true∨bE out x=true then out else out++ [x])
  have h0:∀s,bE out s=true→bE (if bE own x=true∨bE out x=true then out else out++ [x]) s=true:=fun s h=>by
   split
   ·exact h
   ·rw [lB,h];rfl
  refine⟨fun s h=>h1 s (h0 s h),fun s hs=>?_⟩;rcases List.mem_cons.1 hs with rfl|hs
  · by_cases ho:bE own s=true
    ·exact .inl ho
    · refine .inr (h1 s ?_);split
      · rename_i g;exact g.resolve_left ho
      ·rw [lB];simp [bE]
  ·exact h2 s hs
theorem iM (own:List aC) :∀ (l:List LUnit) (out:List aC),(∀s,bE out s=true→bE (nK own out l) s=true) ∧∀u∈l,∀s∈u.needs,bE own s=true∨bE (nK own out l) s=true
 | [],out=> ⟨fun s h=>h,fun u h=>by cases h⟩
 | u::l,out=>by
  rw [nK];obtain⟨h1,h2⟩ :=iM own l (nJ own out u.needs);obtain⟨g1,g2⟩ :=aCZ own u.needs out;refine⟨fun s h=>h1 s (g1 s h),fun v hv s hs=>?_⟩;rcases List.mem_cons.1 hv with rfl|hv
  ·exact(g2 s hs).imp_right (h1 s)
  ·exact h2 v hv s hs
theorem aBA {l:List LUnit}{u:LUnit}(hu:u∈l){s:aC}(hs:s∈aE u) :s∈aP l:=List.mem_flatten.2 ⟨aE u,List.mem_map.2 ⟨u,hu,rfl⟩,hs⟩
theorem lT {l:List LUnit}{u:LUnit}(hu:u∈l) :aLc (aP l) (cA l) u:=fun s hs=>by
 unfold jY;split
 · rename_i h;have h1:bE (aP l) s=false:= (kM s _ 0).1 h;have h2:bE (cA l) s=true:=by
    rcases List.mem_append.1 hs with g|g
    ·rw [hasS_mem.2 (aBA hu g)]at h1;cases h1
    · rcases(iM (aP l) l []).2 u hu s g with g|g
      ·rw [g]at h1;cases h1
      ·exact g
   have:¬dM s (cA l) 0<0:=fun g=>by rw [(kM s _ 0).1 g]at h2;cases h2
   omega
 ·omega
def zZ (l:List LUnit)(cs:List Con) :Prog:= ⟨fU (aP l) [] cs 0 l,dU 0 l,dM lF (aP l) 0,cs⟩
structure LinkOk (l:List LUnit) (cs:List Con) :Prop where
 hl:l.length≤10
 good:∀u∈l,GoodU u
 cons:hP l=some cs
 differ:bG (aP l) =true
 lost:cA l= []
 main:¬zU lF l 0<0
 size:aI l≤300
 c20:cs.length≤20
theorem aDu {ls:List aC}{cs:List Con}{l:List LUnit}(hl:l.length≤10)(hg:∀u∈l,GoodU u)(hls:ls.length≤1000)(hn:∀u∈l,aLc (aP l) ls u) :uG ls cs l= (zY 0 l,fU (aP l) ls cs 0 l) :=by
 have h1:=aBu l (fun u h=> (hg u h).few);have h2:=aE1 hg;unfold uG;rw [aOy (by omega) hls l [] [] (fun u hu=> ⟨hg u hu,hn u hu⟩) (by simp;omega)];rfl
theorem aLp {l:List LUnit}(hu:∀u∈l,FewU u) : (eM l).1=zX∧ (eM l).2≠0∨∃cs,LinkOk l cs∧eM l= (zZ l cs,0) :=by
 unfold eM;split
 · rename_i h0;obtain⟨hl10,hg⟩ :=iV hu h0;split
   ·exact .inl ⟨rfl,by simp⟩
   · rename_i c hc;split
     · rename_i h1;split
       · rename_i h6;refine .inr ⟨c,⟨hl10,hg,hc,h1.1,h1.2.1,h1.2.2,h6.1,h6.2⟩,?_⟩;have:=aDu (cs:=c) hl10 hg (ls:=[]) (by simp) (fun u hu=>by have:=lT hu;rw [h1.2.1]at this;exact this);rw [this];simp only [nW];rfl
       ·exact .inl ⟨rfl,by simp⟩
     ·exact .inl ⟨rfl,by simp⟩
 ·exact .inl ⟨rfl,by simp⟩
theorem aBB :∀ (l:List LUnit) (i:Nat),i<aI l→∃l1 u l2 j,l=l1++u::l2∧j<u.nodes.length∧i=aI l1+j
 | [],i,h=>by simp [aI]at h
 | u ::l,i,h=>by
  rw [aI]at h;by_cases hi:i<u.nodes.length
  ·exact⟨[],u,l,i,rfl,hi,by simp [aI]⟩
  · obtain⟨l1,v,l2,j,h1,h2,h3⟩ :=aBB l (i-u.nodes.length) (by omega);exact⟨u::l1,v,l2,j,by rw [h1];rfl,h2,by rw [aI];omega⟩
theorem aNM {u:LUnit}(h:GoodU u)(off:Nat) :∀f∈aE2 off u,(off:Int) ≤f∧f<off+u.nodes.length:=fun f hf=>by
 have hw:=iW h;obtain⟨k,hk,rfl⟩ :=List.mem_map.1 hf;have hr:=hw.fine.funs k hk;obtain⟨j,hj⟩ :=hw.mem hr.1 hr.2;have h1:= (List.getElem?_eq_some_iff.1 hj).1;rw [hw.len]at h1
 change j<u.nodes.length at h1
 rw [hw.toL off j k hj];omega
theorem qH :∀ (l:List LUnit) (off:Nat),(∀u∈l,GoodU u) →∀f∈dU off l,(off:Int) ≤f∧f<off+aI l
 | [],off,_,f,hf=>by cases hf
 | u ::l,off,hg,f,hf=>by
  rw [dU]at hf;rw [aI];rcases List.mem_append.1 hf with h|h
  · have:=aNM (hg u (mem_cons_self ..)) off f h;omega
  · have:=qH l _ (fun x hx=>hg x (mem_cons_of_mem _ hx)) f h;omega
theorem aXG {u:LUnit}(h:GoodU u) : (aE u).length≤u.nodes.length:=by
 unfold aE;rw [length_map];rcases h.cases with⟨h0,_⟩ | ⟨_,hr⟩
 ·rw [h0];simp
 · have:= (Fs.of (kK h.few) hr).head.2.2.1;simpa [eD,bU]using this
theorem aIU :∀ (l:List LUnit),(∀u∈l,GoodU u) → (aP l).length≤aI l
 | [],_=>by simp [aP]
 | u::l,hg=>by
  have:=aXG (hg u (mem_cons_self ..));have:=aIU l (fun x hx=>hg x (mem_cons_of_mem _ hx));rw [lR,aI,List.length_append];omega
theorem yG {u:LUnit}(h:GoodU u){c:Con}(hc:c∈u.cons) :fH c=true∧c.name.length≤40:=by
 have hp:=h.few.p;simp only [aM,and_eq_true,eX]at hp;refine⟨?_,by simpa using List.all_eq_true.1 hp.1.2 c hc⟩;have hf:=h.formed;unfold gR at hf;simp only [and_eq_true]at hf;have h2:=hf.2;split at h2
 · simp only [and_eq_true]at h2;exact(Fs.of (aAA h.few) h2.2).head.2.2.2.2.2.2 c hc
 ·exact(Fs.of (kK h.few) h2).head.2.2.2.2.2.2 c hc
section
variable {l :List LUnit} {cs:List Con}
theorem LinkOk.laid (h:LinkOk l cs){l1 l2:List LUnit}{u:LUnit}(hl:l=l1++u::l2) :Laid (zZ l cs) (aI l1) (bI u) (mfU (aP l) [] u) (mcU cs u) (toL (bI u) (aI l1)) :=
 uH h.good rfl hl
theorem aIV {l:List LUnit}{cs:List Con}(hc:hP l=some cs){u:LUnit}(hu:u∈l){i:Nat}{d:Con}(hd:u.cons[i]?=some d) :0≤kO (mcU cs u) (i:Int) ∧cs[(kO (mcU cs u) (i:Int)).toNat]?=some d:=by
 have hf:=iL hc (by simp);have hm:=hf.2.2.2 u hu d (mem_of_getElem? hd);obtain⟨j,hj⟩ :=List.mem_iff_getElem?.1 hm;have e:=aBv cs u.cons 0 [] i d hd;rw [show(0:Int) + (i:Int) =i by omega,xE hf.1 hj]at e;unfold mcU;rw [e];exact⟨by omega,by rw [Int.toNat_natCast];exact hj⟩
theorem aLq {T ls:List aC}{s:aC}(h:bE T s=true) :0≤jY T ls s∧jY T ls s<T.length∧T[(jY T ls s).toNat]?=some s:=by
 unfold jY;split
 · rename_i g;rw [(kM s T 0).1 g]at h;cases h
 · rename_i g;rcases fS s T 0 with r| ⟨_,r1,r2⟩
   ·omega
   ·exact⟨by omega,by omega,by simpa using r2⟩
theorem LinkOk.own (h:LinkOk l cs){u:LUnit}(hu:u∈l){s:aC}(hs:s∈aE u++u.needs) :bE (aP l) s=true:=by
 rcases List.mem_append.1 hs with g|g
 ·exact hasS_mem.2 (aBA hu g)
 · rcases(iM (aP l) l []).2 u hu s g with g|g
   ·exact g
   · change bE (cA l) s=true at g
     rw [h.lost]at g;cases g
theorem LinkOk.maps (h:LinkOk l cs){u:LUnit}(hu:u∈l) :MapsOk (jE u) (zZ l cs) (mfU (aP l) [] u) (mcU cs u) :=by
 refine⟨fun i h0 h1=>?_,fun i d hd=>aIV h.cons hu hd⟩;have hw: (jE u).funs.length=u.funs.length+u.needs.length:=by simp [jE]
 rw [hw]at h1;obtain⟨s,hs,e⟩ :=aAD (T:=aP l) (ls:=[]) (u:=u) h0 (by omega);have:=aLq (ls:=[]) (h.own hu (mem_of_getElem? hs));rw [e];have e2: (zZ l cs).funs.length= (aP l).length:=rR l 0;omega
theorem LinkOk.len (h:LinkOk l cs) : (zZ l cs).nodes.length=aI l:=oH l 0 h.good
theorem LinkOk.walk (h:LinkOk l cs) :dF (zZ l cs) = (List.range (aI l)).map fun(i:Nat) => (i:Int) :=by
 have e:=aAE (T:=aP l) (ls:=[]) (cs:=cs) (a:=zZ l cs) h.good rfl (N:= (zZ l cs).nodes.length) (by rw [h.len];exact Nat.le_refl _) l [] rfl;unfold dF
 change ((dU (aI []) l).map _).flatten=_
 rw [e];refine List.map_congr_left (fun i _=>?_);simp [aI]
theorem LinkOk.fs (h:LinkOk l cs) :Fs (zZ l cs) :=by
 have hf:=iL h.cons (by simp);have hm:0≤dM lF (aP l) 0∧dM lF (aP l) 0< (aP l).length:=by
  have g:¬dM lF (aP l) 0<0:=fun g=>h.main ((oI lF l 0).2 ((kM lF (aP l) 0).1 g));rcases fS lF (aP l) 0 with r|r<;>omega
 have hfl: (zZ l cs).funs.length= (aP l).length:=rR l 0;refine uD (N:=aI l) h.len h.size (by omega) (by rw [hfl];exact aIU l h.good) hm.1 (by rw [hfl];exact hm.2) h.c20 (fun c hc=>?_) hf.1 (fun i x hx=>?_) (fun f hf=>?_) h.walk
 · rcases hf.2.1 c hc with g| ⟨u,g1,g2⟩
   ·cases g
   ·exact yG (h.good u g1) g2
 · have hi:= (List.getElem?_eq_some_iff.1 hx).1;rw [h.len]at hi;obtain⟨l1,u,l2,j,h1,h2,h3⟩ :=aBB l i hi;have hu:u∈l:=by rw [h1];simp
   have hg:=h.good u hu;have hw:=iW hg;have hL:=h.laid h1;have hsz:aI l=aI l1+ (u.nodes.length+aI l2) :=by rw [h1,iY,aI]
   obtain⟨k,hk⟩ :∃k,(dF (bI u))[j]?=some k:= ⟨_,List.getElem?_eq_getElem (by rw [hw.len];exact h2)⟩;have hkr:=hw.into k (mem_of_getElem? hk);obtain⟨y,hy⟩ :∃y,u.nodes[k.toNat]?=some y:= ⟨_,List.getElem?_eq_getElem (by have:=hkr.2;change k<u.nodes.length at this;omega)⟩;have e:=hL.node j k hk;rw [←h3,hx,fP (p:=bI u) hy]at e;have e:=Option.some.inj e;obtain⟨n1,_,n3⟩ :=kL hg hy;rw [e];refine⟨aK3 (h.maps hu) _ n1,xC _ n3,fun c hc=>?_⟩;obtain⟨c0,hc0,rfl⟩ :=List.mem_map.1 hc;have ek:dA (bI u) k=y.kids:=by unfold dA;rw [show(bI u).nodes=u.nodes from rfl,hy]
   obtain⟨j2,hj,e2⟩ :=hw.after j k c0 hk (by rw [ek];exact hc0);rw [hL.to j2 c0 e2];have:= (List.getElem?_eq_some_iff.1 e2).1;rw [hw.len]at this
   change j2<u.nodes.length at this
   omega
 · have:=qH l 0 h.good f hf;omega
end
end
end Go.Hb

set_option linter.defProp false
set_option linter.unusedVariables false
set_option linter.unusedSimpArgs false
set_option linter.unusedSectionVars false
set_option maxRecDepth 100000
set_option maxHeartbeats 4000000
namespace Go.Hb
open Bool (and_eq_true)
open List (all_eq_true append_nil drop find?_some getElem?_eq_getElem getElem?_map length length_map map map_append map_congr_left map_map mem_cons_of_mem mem_cons_self mem_of_find?_eq_some mem_of_getElem? nodup_append range take)
open Go.Proofs Tryz
noncomputable section
theorem oJ :∀ (A B X:List Con),cU X (A++B) = (cU X A).bind fun Z=>cU Z B
 | [],B,X=>rfl
 | c::A,B,X=>by
  rw [List.cons_append,cU,cU];cases jD X c with
  |none=>rfl
  |some o=>exact oJ A B o
def mS (l:List LUnit) :List Con:= (l.map LUnit.cons).flatten
theorem aBC :∀ (l:List LUnit) (X:List Con),rQ X l=cU X (mS l)
 | [],X=>rfl
 | u::l,X=>by
  rw [rQ,show mS (u::l) =u.cons++mS l from rfl,oJ];cases cU X u.cons with
  |none=>rfl
  |some o=>exact aBC l o
theorem aQr {Z:List Con}(hz: (Z.map Con.name).Nodup){c:Con}(hc:c∈Z) :jD Z c=some Z:=by
 unfold jD;split
 · rename_i hf;have:=List.find?_eq_none.1 hf c hc;simp at this
 · rename_i d hf;have h1:=mem_of_find?_eq_some hf;have h2:d.name=c.name:=by simpa using find?_some hf
   obtain⟨i,hi⟩ :=List.mem_iff_getElem?.1 h1;obtain⟨j,hj⟩ :=List.mem_iff_getElem?.1 hc;have e1:=xE hz hi;have e2:=xE hz hj;rw [h2,e2]at e1;have e3:j=i:=by omega
   rw [e3,hi]at hj;rw [Option.some.inj hj];simp
theorem aQs (Z:List Con)(c:Con) :cU Z [c] =jD Z c:=by
 rw [cU];cases jD Z c with
 |none=>rfl
 |some o=>rfl
theorem aFi {X Y Y1:List Con}{c:Con}(hx: (X.map Con.name).Nodup)(h:jD Y c=some Y1) :cU X Y1= (cU X Y).bind fun Z=>jD Z c:=by
 unfold jD at h;split at h
 · cases h;rw [oJ];congr 1;exact funext fun Z=>aQs Z c
 · rename_i d hf;split at h
   · rename_i ha;cases h;cases hz:cU X Y with
     |none=>rfl
     | some Z=>
      obtain⟨z1,_,_,z4⟩ :=mR hz hx;have h1:=mem_of_find?_eq_some hf;have h2:d.name=c.name:=by simpa using find?_some hf
      have e:c=d:=by
       obtain⟨a,b⟩ :=c;obtain⟨a',b'⟩ :=d;simp only at ha h2;rw [ha,h2]
      exact(aQr z1 (z4 c (by rw [e];exact h1))).symm
   ·cases h
theorem aC0 {X:List Con}(hx: (X.map Con.name).Nodup) :∀ (t Y Y':List Con),cU Y t=some Y'→cU X Y'= (cU X Y).bind fun Z=>cU Z t
 | [],Y,Y',h=>by
  cases h;cases cU X Y<;>rfl
 | c ::t,Y,Y',h=>by
  rw [cU]at h;split at h
  · rename_i Y1 h1;rw [aC0 hx t Y1 Y' h,aFi hx h1];cases cU X Y with
    |none=>rfl
    | some Z=>
     show(jD Z c).bind _=cU Z (c::t);rw [cU];cases jD Z c<;>rfl
  ·cases h
theorem aFj {X:List Con}(hx: (X.map Con.name).Nodup) :∀ (t Y Z:List Con),cU Y t=none→cU X Y=some Z→cU Z t=none
 | [],Y,Z,h,_=>by cases h
 | c :: t, Y,Z,h,hz=>by
  rw [cU]at h ⊢;split at h
  · rename_i Y1 h1;have e:=aFi hx h1;rw [hz]at e;cases h2:jD Z c with
    |none=>rfl
    |some Z1=>exact aFj hx t Y1 Z1 h (by rw [e];exact h2)
  · rename_i h1;have e :jD Z c=none:=by
     unfold jD at h1;split at h1
     ·cases h1
     · rename_i d hf;split at h1
       ·cases h1
       · rename_i ha;obtain⟨z1,_,_,z4⟩ :=mR hz hx;have hd:=z4 d (mem_of_find?_eq_some hf);have h2:d.name=c.name:=by simpa using find?_some hf
         unfold jD;split
         · rename_i hg;have:=List.find?_eq_none.1 hg d hd;simp [h2]at this
         · rename_i f hg;have hfm:=mem_of_find?_eq_some hg;have h3:f.name=c.name:=by simpa using find?_some hg
           obtain⟨i,hi⟩ :=List.mem_iff_getElem?.1 hd;obtain⟨j,hj⟩ :=List.mem_iff_getElem?.1 hfm;have e1:=xE z1 hi;have e2:=xE z1 hj;rw [h2]at e1;rw [h3,e1]at e2;have e3:i=j:=by omega
           rw [e3,hj]at hi;rw [if_neg (by rw [Option.some.inj hi];exact ha)]
    rw [e]
theorem aFk {Y:List Con}(hy: (Y.map Con.name).Nodup) :∀ (t X:List Con),Y=X++t→cU X t=some Y
 | [],X,h=>by rw [h,append_nil];rfl
 | c ::t,X,h=>by
  have e:jD X c=some (X++ [c]) :=by
   unfold jD;split
   ·rfl
   · rename_i d hf;exfalso;have h1:=mem_of_find?_eq_some hf;have h2:d.name=c.name:=by simpa using find?_some hf
     rw [h,map_append,nodup_append]at hy;exact hy.2.2 d.name (List.mem_map.2 ⟨d,h1,rfl⟩) c.name (by simp) h2
  rw [cU,e];exact aFk hy t (X++ [c]) (by rw [h,List.append_assoc];rfl)
theorem aNN {l1 l2:List LUnit}{c1 c2:List Con}(h1:hP l1=some c1)(h2:hP l2=some c2) :cU [] (c1++c2) =hP (l1++l2) :=by
 have n1:= (iL h1 (by simp)).1;unfold hP at h1 h2 ⊢;rw [aBC]at h1 h2 ⊢;rw [show mS (l1++l2) =mS l1++mS l2 by simp [mS],oJ,oJ,h1,aFk n1 c1 [] rfl];show cU c1 c2=cU c1 (mS l2);rw [aC0 n1 (mS l2) [] c2 h2];rfl
theorem aQt {l1 l2:List LUnit}{c:List Con}(h:hP (l1++l2) =some c) : (∃c1,hP l1=some c1) ∧∃c2,hP l2=some c2:=by
 unfold hP at h ⊢;simp only [aBC]at h ⊢;rw [show mS (l1++l2) =mS l1++mS l2 by simp [mS],oJ]at h;cases e1:cU [] (mS l1)with
 |none=>rw [e1]at h;cases h
 | some c1=>
  rw [e1]at h;refine⟨⟨c1,rfl⟩,?_⟩;cases e2:cU [] (mS l2)with
  |some c2=>exact⟨c2,rfl⟩
  | none=>
   have n1: (c1.map Con.name).Nodup:= (mR e1 (by simp)).1;have:=aFj n1 (mS l2) [] c1 e2 rfl
   change cU c1 (mS l2) =some c at h
   rw [this]at h;cases h
theorem aGQ (own:List aC) :∀ (t out:List aC) (s:aC),s∈nJ own out t→s∈out∨s∈t
 | [],out,s,h=>.inl h
 | x ::t,out,s,h=>by
  rw [nJ]at h;rcases aGQ own t _ s h with g|g
  · split at g
    ·exact .inl g
    · rcases List.mem_append.1 g with g|g
      ·exact .inl g
      ·rw [List.mem_singleton.1 g];exact .inr (mem_cons_self ..)
  ·exact .inr (mem_cons_of_mem _ g)
theorem oK (own:List aC) :∀ (l:List LUnit) (out:List aC) (s:aC),s∈nK own out l→s∈out∨∃u∈l,s∈u.needs
 | [],out,s,h=>.inl h
 | u ::l,out,s,h=>by
  rw [nK]at h;rcases oK own l _ s h with g| ⟨v,g1,g2⟩
  · rcases aGQ own u.needs out s g with g|g
    ·exact .inl g
    ·exact .inr ⟨u,mem_cons_self ..,g⟩
  ·exact .inr ⟨v,mem_cons_of_mem _ g1,g2⟩
def aLr (own out:List aC) :Prop:=out.Nodup∧∀s∈out,bE own s=false
theorem aGR (own:List aC) :∀ (t out:List aC),aLr own out→aLr own (nJ own out t)
 | [],out,h=>h
 | x ::t,out,h=>by
  rw [nJ];refine aGR own t _ ?_;split
  ·exact h
  · rename_i g;rw [not_or,Bool.not_eq_true,Bool.not_eq_true]at g;refine⟨?_,fun s hs=>?_⟩
    · rw [nodup_append];refine⟨h.1,by simp,fun a ha b hb e=>?_⟩;rw [List.mem_singleton.1 hb]at e;have:=hasS_mem.2 ha;rw [e,g.2]at this;cases this
    · rcases List.mem_append.1 hs with k|k
      ·exact h.2 s k
      ·rw [List.mem_singleton.1 k];exact g.1
theorem aGS (own:List aC) :∀ (l:List LUnit) (out:List aC),aLr own out→aLr own (nK own out l)
 | [],out,h=>h
 |u::l,out,h=>by rw [nK];exact aGS own l _ (aGR own u.needs out h)
theorem aGT (l:List LUnit) :aLr (aP l) (cA l) :=aGS _ l [] ⟨List.nodup_nil,fun s h=>by cases h⟩
theorem aGU {l:List LUnit}:cA l= [] ↔∀u∈l,∀s∈u.needs,bE (aP l) s=true:=by
 constructor
 · intro h u hu s hs;rcases(iM (aP l) l []).2 u hu s hs with g|g
   ·exact g
   · change bE (cA l) s=true at g
     rw [h]at g;cases g
 · intro h;cases e:cA l with
   |nil=>rfl
   | cons s r=>
    have hm:s∈cA l:=by rw [e];exact mem_cons_self ..
    have h1:= (aGT l).2 s hm;rcases oK (aP l) l [] s hm with g| ⟨u,g1,g2⟩
    ·cases g
    ·rw [h u g1 s g2]at h1;cases h1
def aW (nm:aC)(l:List LUnit)(c:List Con) :LUnit:= ⟨nm,c,zY 0 l,cA l,fU (aP l) (cA l) c 0 l⟩
structure PartOk (l:List LUnit) (c:List Con) :Prop where
 hl:l.length≤10
 good:∀u∈l,GoodU u
 cons:hP l=some c
 differ:bG (aP l) =true
 size:aI l≤300
 c20:c.length≤20
 n20: (cA l).length≤20
theorem xK {nm:aC}{l:List LUnit}(hn:jB nm=true)(hu:∀u∈l,FewU u)(h0:dE l=true) :
  ((qG nm l).2=7∧ (hP l=none∨bG (aP l) =false)) ∨ (qG nm l).2=3∨∃c,PartOk l c∧qG nm l= (aW nm l c,0) :=by
 unfold qG;rw [if_pos ⟨hn,h0⟩];obtain⟨hl10,hg⟩ :=iV hu h0;split
 · rename_i hc;exact .inl ⟨rfl,.inl hc⟩
 · rename_i c hc;split
   · rename_i h1;split
     · rename_i h6;refine .inr (.inr ⟨c,⟨hl10,hg,hc,h1,h6.1,h6.2.1,h6.2.2⟩,?_⟩);rw [aDu hl10 hg (by omega) (fun u hu=>lT hu)];rfl
     ·exact .inr (.inl rfl)
   · rename_i h1;exact .inl ⟨rfl,.inr (by simpa using h1)⟩
section
variable {l :List LUnit} {c:List Con}
theorem lU (nm:aC)(l:List LUnit)(c:List Con) :aE (aW nm l c) =aP l:=aCY l 0
theorem jM (h:PartOk l c)(nm:aC) : (aW nm l c).nodes.length=aI l:=oH l 0 h.good
theorem lV (nm:aC)(l:List LUnit)(c:List Con) : (aW nm l c).funs.length= (aP l).length:=by
 have:=lU nm l c;unfold aE at this;rw [←this,length_map]
theorem qI (nm:aC)(l:List LUnit)(c:List Con) :bU (aW nm l c) =dU 0 l:=nW l 0
theorem aFJ {a:Prog}{MF:LUnit→List (Int×Int)}(hg:∀u∈l,GoodU u)(hc:hP l=some c)(hN:a.nodes.length=aI l)(h300:aI l≤300)(hf:a.funs=dU 0 l)(hf1:aP l≠ [])(hm:a.main=0)(hcs:a.cons=c)(hc20:c.length≤20)
  (hL:∀ (l1 l2:List LUnit) (u:LUnit),l=l1++u::l2→Laid a (aI l1) (bI u) (MF u) (mcU c u) (toL (bI u) (aI l1)) ∧MapsOk (jE u) a (MF u) (mcU c u)) :Fs a:=by
 have hcf:=iL hc (by simp);have hfl:a.funs.length= (aP l).length:=by rw [hf];exact rR l 0
 have h1:1≤ (aP l).length:=by cases e:aP l with
  |nil=>exact absurd e hf1
  |cons s r=>simp
 have walk:∀ (l2 l1:List LUnit),l=l1++l2→ ((dU (aI l1) l2).map (pre a a.nodes.length)).flatten= (range (aI l2)).map fun i=> ((aI l1+i:Nat) :Int) :=by
  intro l2
  induction l2 with
  |nil=>intro l1 _;rfl
  | cons u l2 ih=>
   intro l1 hl;have hw:=iW (hg u (by rw [hl];simp));have hsz:aI l=aI l1+ (u.nodes.length+aI l2) :=by rw [hl,iY,aI]
   have e1:= (hL l1 l2 u hl).1.walkW hw (F:=a.nodes.length) (by change u.nodes.length≤_;omega);have e2:=ih (l1++ [u]) (by rw [hl,List.append_assoc];rfl);have es:aI (l1++ [u]) =aI l1+u.nodes.length:=by rw [iY,aI,aI];omega
   rw [es]at e2;rw [dU,map_append,List.flatten_append,e2]
   change ((aE2 (aI l1) u).map (pre a a.nodes.length)).flatten=_ at e1
   rw [e1,aI,List.range_add,map_append,map_map];congr 1;refine map_congr_left (fun i _=>?_);simp only [Function.comp];omega
 refine uD (N:=aI l) hN h300 (by omega) (by rw [hfl];exact aIU l hg) (by omega) (by omega) (by rw [hcs];exact hc20) (fun d hd=>?_) (by rw [hcs];exact hcf.1) (fun i x hx=>?_) (fun f hfm=>?_) ?_
 · rw [hcs]at hd;rcases hcf.2.1 d hd with g| ⟨u,g1,g2⟩
   ·cases g
   ·exact yG (hg u g1) g2
 · have hi:= (List.getElem?_eq_some_iff.1 hx).1;rw [hN]at hi;obtain⟨l1,u,l2,j,h1,h2,h3⟩ :=aBB l i hi;have hu:u∈l:=by rw [h1];simp
   have hgu:=hg u hu;have hw:=iW hgu;obtain⟨hL,hM⟩ :=hL l1 l2 u h1;have hsz:aI l=aI l1+ (u.nodes.length+aI l2) :=by rw [h1,iY,aI]
   obtain⟨k,hk⟩ :∃k,(dF (bI u))[j]?=some k:= ⟨_,getElem?_eq_getElem (by rw [hw.len];exact h2)⟩;have hkr:=hw.into k (mem_of_getElem? hk);obtain⟨y,hy⟩ :∃y,u.nodes[k.toNat]?=some y:= ⟨_,getElem?_eq_getElem (by have:=hkr.2;change k<u.nodes.length at this;omega)⟩;have e:=hL.node j k hk;rw [←h3,hx,fP (p:=bI u) hy]at e;have e:=Option.some.inj e;obtain⟨n1,_,n3⟩ :=kL hgu hy;rw [e];refine⟨aK3 hM _ n1,xC _ n3,fun c hc=>?_⟩;obtain⟨c0,hc0,rfl⟩ :=List.mem_map.1 hc;have ek:dA (bI u) k=y.kids:=by unfold dA;rw [show(bI u).nodes=u.nodes from rfl,hy]
   obtain⟨j2,hj,e2⟩ :=hw.after j k c0 hk (by rw [ek];exact hc0);rw [hL.to j2 c0 e2];have:= (List.getElem?_eq_some_iff.1 e2).1;rw [hw.len]at this
   change j2<u.nodes.length at this
   omega
 · rw [hf]at hfm;have:=qH l 0 hg f hfm;omega
 · have e:=walk l [] rfl;unfold dF;rw [hf]
   change ((dU (aI []) l).map _).flatten=_
   rw [e];refine map_congr_left (fun i _=>?_);simp [aI]
theorem aLs {s:aC}{l:List aC}:dM s l 0<l.length:=by
 rcases fS s l 0 with h|h<;>omega
def mfX (T ls:List aC)(u:LUnit) :List (Int×Int) :=aII ((nL T ls u).map fun(g:Int) =>if g< (T.length:Int)then g else 0) 0 []
theorem aTV {T ls:List aC}{u:LUnit}{i:Int}(h0:0≤i)(h1:i<u.funs.length+u.needs.length) :kO (mfX T ls u) i=if kO (mfU T ls u) i<T.length then kO (mfU T ls u) i else 0:=by
 have hl:=aCp T ls u;have e:=aDs (nL T ls u) i h0 (by omega);have e2:=aDs ((nL T ls u).map fun(g:Int) =>if g< (T.length:Int)then g else 0) i h0 (by rw [length_map];omega);rw [getElem?_map,e]at e2;exact(Option.some.inj e2).symm
theorem aQu {T ls:List aC}{u:LUnit}(hn:aLc T ls u){x:Node}(hx:bC (jE u) x=true)(mc:List (Int×Int))(to:List Int) :eA T.length ls.length (eT (mfU T ls u) mc to x) =eT (mfX T ls u) mc to x:=by
 have hwl: (jE u).funs.length=u.funs.length+u.needs.length:=by simp [jE]
 simp only [bC,eJ,and_eq_true]at hx;have h1:=hx.1.1.1;by_cases e4:x.op=4
 · rw [e4]at h1;simp [bH,cN,hwl]at h1;by_cases hneg:0≤x.n
   · have e1:bN (mfU T ls u) mc x.op x.n=x.n:=by unfold bN;rw [if_pos e4,if_pos hneg]
     have e2:bN (mfX T ls u) mc x.op x.n=x.n:=by unfold bN;rw [if_pos e4,if_pos hneg]
     unfold eA eT;rw [e1,e2,if_neg (fun g=>by have:=g.2.2;simp only at this;omega)]
   · obtain⟨s,hs,e⟩ :=aAD (T:=T) (ls:=ls) (u:=u) (i:= -1-x.n) (by omega) (by omega);have h0:=hn s (mem_of_getElem? hs);have hr:=aAC T ls s;have hlt:jY T ls s<T.length+ls.length:=by
      have a1:=aLs (s:=s) (l:=T);have a2:=aLs (s:=s) (l:=ls);unfold jY;split<;>omega
     have e1:bN (mfU T ls u) mc x.op x.n= -1-jY T ls s:=by unfold bN;rw [if_pos e4,if_neg hneg,e]
     have e2:bN (mfX T ls u) mc x.op x.n= -1- (if jY T ls s<T.length then jY T ls s else 0) :=by
      unfold bN;rw [if_pos e4,if_neg hneg,aTV (by omega) (by omega),e]
     unfold eA eT;rw [e1,e2];simp only;by_cases g:jY T ls s<T.length
     ·rw [if_pos g,if_neg (fun k=>by omega)]
     ·rw [if_neg g,if_pos ⟨e4,by omega,by omega⟩];rfl
 · have e1:bN (mfU T ls u) mc x.op x.n=bN (mfX T ls u) mc x.op x.n:=by unfold bN;rw [if_neg e4,if_neg e4]
   unfold eA eT;rw [e1,if_neg (fun g=>e4 g.1)]
theorem aQv (h:PartOk l c)(nm:aC){l1 l2:List LUnit}{u:LUnit}(hl:l=l1++u::l2) :Laid (eD (aW nm l c)) (aI l1) (bI u) (mfX (aP l) (cA l) u) (mcU c u) (toL (bI u) (aI l1)) :=by
 have hu:u∈l:=by rw [hl];simp
 have hw:=iW (h.good u hu);have hL:=uH (T:=aP l) (ls:=cA l) (cs:=c) (a:=bI (aW nm l c)) h.good rfl hl;refine⟨fun i k hk=>?_,hL.to⟩;have e:=hL.node i k hk;have hkr:=hw.into k (mem_of_getElem? hk);obtain⟨y,hy⟩ :∃y,u.nodes[k.toNat]?=some y:= ⟨_,getElem?_eq_getElem (by have:=hkr.2;change k<u.nodes.length at this;omega)⟩;have e2: (eD (aW nm l c)).nodes[aI l1+i]?= ((bI (aW nm l c)).nodes[aI l1+i]?).map (eA (aW nm l c).funs.length (aW nm l c).needs.length) :=getElem?_map ..;rw [e2,e,fP (p:=bI u) hy,lV];simp only [Option.map_some];congr 1;exact aQu (lT hu) (kL (h.good u hu) hy).1 _ _
theorem aQw (h:PartOk l c)(nm:aC)(hf:aP l≠ []){u:LUnit}(hu:u∈l) :MapsOk (jE u) (eD (aW nm l c)) (mfX (aP l) (cA l) u) (mcU c u) :=by
 refine⟨fun i h0 h1=>?_,fun i d hd=>aIV h.cons hu hd⟩;have hw: (jE u).funs.length=u.funs.length+u.needs.length:=by simp [jE]
 rw [hw]at h1;have hfl: (eD (aW nm l c)).funs.length= (aP l).length:=by
  show(bU _).length=_;rw [qI,rR]
 have h1':1≤ (aP l).length:=by cases e:aP l with
  |nil=>exact absurd e hf
  |cons s r=>simp
 obtain⟨s,hs,e⟩ :=aAD (T:=aP l) (ls:=cA l) (u:=u) h0 (by omega);have:=lT hu s (mem_of_getElem? hs);rw [hfl,aTV h0 (by omega),e];split<;>omega
theorem aGV {u:LUnit}(h:GoodU u) : (∀s∈aE u,jB s=true) ∧∀s∈u.needs,jB s=true:=by
 have hf:=h.formed;unfold gR at hf;simp only [and_eq_true,gP]at hf;exact⟨List.all_eq_true.1 hf.1.1.1.2.1,List.all_eq_true.1 hf.1.1.2.1⟩
theorem aLt {l:List LUnit}{s:aC}(h:s∈aP l) :∃u∈l,s∈aE u:=by
 obtain⟨x,hx,hs⟩ :=List.mem_flatten.1 h;obtain⟨u,hu,rfl⟩ :=List.mem_map.1 hx;exact⟨u,hu,hs⟩
theorem aLu (h:PartOk l c){nm:aC}(h30: (aP l).length≤30) :FewU (aW nm l c) :=by
 have hcf:=iL h.cons (by simp);refine⟨by rw [lV];exact h30,by have:=h.n20;show(cA l).length≤25;omega,?_,fun f hf=>?_,fun s hs=>?_⟩
 · simp only [aM,and_eq_true,decide_eq_true_eq,eX];have h1:=h.size;have h2:=h.c20;refine⟨⟨⟨⟨by rw [jM h];omega,by simp⟩,by show c.length≤25;omega⟩,List.all_eq_true.2 fun d hd=>?_⟩,List.all_eq_true.2 fun x hx=>?_⟩
   · rcases hcf.2.1 d hd with g| ⟨u,g1,g2⟩
     ·cases g
     ·simpa using(yG (h.good u g1) g2).2
   · obtain⟨i,hi⟩ :=List.mem_iff_getElem?.1 hx;have hlt:= (List.getElem?_eq_some_iff.1 hi).1;rw [jM h]at hlt;obtain⟨l1,u,l2,j,h1,h2,h3⟩ :=aBB l i hlt;have hgu:=h.good u (by rw [h1];simp);have hw:=iW hgu;have hL:=uH (T:=aP l) (ls:=cA l) (cs:=c) (a:=bI (aW nm l c)) h.good rfl h1;obtain⟨k,hk⟩ :∃k,(dF (bI u))[j]?=some k:= ⟨_,getElem?_eq_getElem (by rw [hw.len];exact h2)⟩;have hkr:=hw.into k (mem_of_getElem? hk);obtain⟨y,hy⟩ :∃y,u.nodes[k.toNat]?=some y:= ⟨_,getElem?_eq_getElem (by have:=hkr.2;change k<u.nodes.length at this;omega)⟩;have e:=hL.node j k hk;have hi': (bI (aW nm l c)).nodes[i]?=some x:=hi;rw [←h3,hi',fP (p:=bI u) hy]at e;rw [Option.some.inj e];exact xC _ (kL hgu hy).2.2
 · have hm:f.name∈aP l:=by rw [←lU nm l c];exact List.mem_map.2 ⟨f,hf,rfl⟩
   obtain⟨u,hu,hs⟩ :=aLt hm;obtain⟨g,hg,e⟩ :=List.mem_map.1 hs;rw [←e];exact(h.good u hu).few.nm g hg
 · rcases oK (aP l) l [] s hs with g| ⟨u,g1,g2⟩
   ·cases g
   ·exact(h.good u g1).few.nd s g2
theorem aFl (h:PartOk l c){nm:aC}(hn:nm.length≤30)(h30: (aP l).length≤30) :jX (aW nm l c) =true:=by
 have hf:=aLu h (nm:=nm) h30;unfold jX;simp only [and_eq_true,decide_eq_true_eq,all_eq_true];exact⟨⟨⟨⟨⟨hf.f,hf.n⟩,hn⟩,hf.nm⟩,hf.nd⟩,hf.p⟩
theorem aGW (h:PartOk l c){nm:aC}(hn:jB nm=true)(h30: (aP l).length≤30) :GoodU (aW nm l c) :=by
 have hfew:=aLu h (nm:=nm) h30;refine⟨hfew,?_⟩;have hinv:=aGT l;have hcf:=iL h.cons (by simp);unfold gR;simp only [and_eq_true,decide_eq_true_eq,all_eq_true,gP];rw [lU];refine⟨⟨⟨⟨⟨hn,h.n20⟩,fun s hs=>?_,h.differ⟩,fun s hs=>?_,(iK _).2 hinv.1⟩,fun s hs=>by rw [hinv.2 s hs];rfl⟩,?_⟩
 · obtain⟨u,hu,hs⟩ :=aLt hs;exact(aGV (h.good u hu)).1 s hs
 · rcases oK (aP l) l [] s hs with g| ⟨u,g1,g2⟩
   ·cases g
   ·exact(aGV (h.good u g1)).2 s g2
 · split
   · rename_i h0;rw [lV]at h0;have hnil:aP l= [] :=List.eq_nil_of_length_eq_zero h0
     have hz:∀u∈l,u.nodes= [] :=fun u hu=>by
      rcases(h.good u hu).cases with⟨_,g⟩ | ⟨g,_⟩
      ·exact g
      · exfalso;cases e:u.funs with
        |nil=>exact g e
        | cons f r=>
         have:f.name∈aP l:=aBA hu (by unfold aE;rw [e];exact mem_cons_self ..);rw [hnil]at this;cases this
     have hs:aI l=0:=by
      clear hinv hcf hfew h hnil h0 h30
      induction l with
      |nil=>rfl
      |cons u l ih=>rw [aI,hz u (mem_cons_self ..),ih (fun v hv=>hz v (mem_cons_of_mem _ hv))];rfl
     simp only [and_eq_true,decide_eq_true_eq];refine⟨by rw [jM h,hs],?_⟩;refine(uD (a:=mQ (aW nm l c)) (N:=1) rfl (by omega) (by simp [mQ]) (by simp [mQ]) (by simp [mQ]) (by simp [mQ]) h.c20 (fun d hd=>?_) hcf.1 (fun i x hx=>?_) (fun f hf=>?_) (by rfl)).fo
     · rcases hcf.2.1 d hd with g| ⟨u,g1,g2⟩
       ·cases g
       ·exact yG (h.good u g1) g2
     · simp only [mQ]at hx;have hi:= (List.getElem?_eq_some_iff.1 hx).1;simp at hi;rw [hi]at hx;simp at hx;rw [←hx];refine⟨by simp [bC,eJ,bH,dD,eK],by simp [aV,hJ],fun k hk=>by cases hk⟩
     · simp [mQ]at hf;rw [hf];omega
   · rename_i h0;rw [lV]at h0;have hne:aP l≠ [] :=fun e=>h0 (by rw [e];rfl);exact(aFJ (a:=eD (aW nm l c)) (MF:=mfX (aP l) (cA l)) h.good h.cons (by show((aW nm l c).nodes.map _).length=_;rw [length_map,jM h]) h.size (qI nm l c) hne rfl rfl h.c20 (fun l1 l2 u hl=> ⟨aQv h nm hl,aQw h nm hne (by rw [hl];simp)⟩)).fo
end
theorem aTW {T ls:List aC}{s:aC}(h:bE T s=true∨bE ls s=true) :0≤jY T ls s∧jY T ls s<T.length+ls.length∧ (T++ls)[(jY T ls s).toNat]?=some s:=by
 cases ht:bE T s with
 | true=>
  obtain⟨h0,h1,h2⟩ :=aLq (ls:=ls) ht;exact⟨h0,by omega,by rw [List.getElem?_append_left (by omega)];exact h2⟩
 | false=>
  rw [ht]at h;have hl:=h.resolve_left (by simp);have e:jY T ls s=T.length+dM s ls 0:=by unfold jY;rw [if_pos ((kM s T 0).2 ht)]
  have hn:¬dM s ls 0<0:=fun g=>by rw [(kM s ls 0).1 g]at hl;cases hl
  rcases fS s ls 0 with r| ⟨_,r1,r2⟩
  ·omega
  · rw [e];refine⟨by omega,by omega,?_⟩;rw [List.getElem?_append_right (by omega),show((T.length:Int) +dM s ls 0).toNat-T.length= (dM s ls 0).toNat by omega];simpa using r2
theorem names_in {l:List LUnit}{u:LUnit}(hu:u∈l){s:aC}(hs:s∈aE u++u.needs) :bE (aP l) s=true∨bE (cA l) s=true:=by
 rcases List.mem_append.1 hs with g|g
 ·exact .inl (hasS_mem.2 (aBA hu g))
 ·exact(iM (aP l) l []).2 u hu s g
theorem aLv {T ls:List aC}{cs:List Con}{l l1 l2:List LUnit}{u:LUnit}(hg:∀x∈l,GoodU x)(hl:l=l1++u::l2)(off:Nat){j:Nat}{k:Int}(hk: (dF (bI u))[j]?=some k) :
  (fU T ls cs off l)[aI l1+j]?=some (eT (mfU T ls u) (mcU cs u) (toL (bI u) (off+aI l1)) (nodeAt (bI u) k)) :=by
 have h1:=oH (T:=T) (ls:=ls) (cs:=cs) l1 off (fun x hx=>hg x (by rw [hl];simp [hx]));have hlt:= (List.getElem?_eq_some_iff.1 hk).1;rw [hl,yE,fU,List.getElem?_append_right (by omega),h1,show aI l1+j-aI l1=j by omega,List.getElem?_append_left (by unfold aFI;rw [length_map];exact hlt)];unfold aFI;rw [getElem?_map,hk];rfl
section
variable {l :List LUnit} {c1:List Con} {nm:aC}
theorem aGX (h:PartOk l c1) :dF (bI (aW nm l c1)) = (range (aI l)).map fun(i:Nat) => (i:Int) :=by
 have hn: (bI (aW nm l c1)).nodes.length=aI l:=jM h nm;have e:=aAE (T:=aP l) (ls:=cA l) (cs:=c1) (a:=bI (aW nm l c1)) h.good rfl (N:= (bI (aW nm l c1)).nodes.length) (by rw [hn];exact Nat.le_refl _) l [] rfl;unfold dF;rw [show(bI (aW nm l c1)).funs=dU 0 l from qI nm l c1]
 change ((dU (aI []) l).map _).flatten=_
 rw [e];refine map_congr_left (fun i _=>?_);simp [aI]
theorem aOE (h:PartOk l c1)(hgd:GoodU (aW nm l c1))(off i:Nat)(hi:i<aI l) :iH (toL (bI (aW nm l c1)) off) (i:Int) = ((off+i:Nat) :Int) :=by
 refine(iW hgd).toL off i _ ?_;rw [aGX h,getElem?_map,List.getElem?_range hi];rfl
theorem aFm (h:PartOk l c1)(hgd:GoodU (aW nm l c1))(T:List aC)(c:List Con)(off:Nat) :aFI T [] c off (aW nm l c1) =fU T [] c off l:=by
 have hlen:=jM h nm;refine List.ext_getElem? (fun i=>?_);by_cases hi:i<aI l
 · obtain⟨m1,u,m2,j,hl,hj,e⟩ :=aBB l i hi;have hu:u∈l:=by rw [hl];simp
   have hgu:=h.good u hu;have hw:=iW hgu;obtain⟨k,hk⟩ :∃k,(dF (bI u))[j]?=some k:= ⟨_,getElem?_eq_getElem (by rw [hw.len];exact hj)⟩;have hkr:=hw.into k (mem_of_getElem? hk);obtain⟨x,hx⟩ :∃x,u.nodes[k.toNat]?=some x:= ⟨_,getElem?_eq_getElem (by have:=hkr.2;change k<u.nodes.length at this;omega)⟩;have hR:=aLv (T:=T) (ls:=[]) (cs:=c) h.good hl off hk;have hL:=aLv (T:=aP l) (ls:=cA l) (cs:=c1) h.good hl 0 hk;rw [←e,fP (p:=bI u) hx]at hR hL;have hL': (bI (aW nm l c1)).nodes[i]?=_:=hL;unfold aFI;rw [hR,getElem?_map,aGX h,getElem?_map,List.getElem?_range hi];simp only [Option.map_some];rw [fP (p:=bI (aW nm l c1)) (k:= (i:Int)) (by rw [Int.toNat_natCast];exact hL')];congr 1;obtain⟨n1,_,_⟩ :=kL hgu hx;have hwl: (jE u).funs.length=u.funs.length+u.needs.length:=by simp [jE]
   have hcon:∀n:Int,0≤n→n<u.cons.length→kO (mcU c (aW nm l c1)) (kO (mcU c1 u) n) =kO (mcU c u) n:=fun n h0 h1=>by
    have hd:u.cons[n.toNat]?=some (u.cons[n.toNat]'(by omega)) :=getElem?_eq_getElem (by omega);obtain⟨a0,a1⟩ :=aIV h.cons hu hd;have b:=aBv c u.cons 0 [] n.toNat _ hd;have d:=aBv c c1 0 [] (kO (mcU c1 u) ((n.toNat:Nat) :Int)).toNat _ a1;rw [show(0:Int) + ((n.toNat:Nat) :Int) =n by omega]at b;rw [show((n.toNat:Nat) :Int) =n by omega]at a0 d;rw [show(0:Int) + (((kO (mcU c1 u) n).toNat:Nat) :Int) =kO (mcU c1 u) n by omega]at d;show kO (aIB c c1 0 []) (kO (mcU c1 u) n) =kO (aIB c u.cons 0 []) n;rw [d,b]
   have hp:fK (mcU c (aW nm l c1)) (fK (mcU c1 u) x.pats) =fK (mcU c u) x.pats:=uE (cons:=u.cons) (fun n a b=> (hcon n a b).symm) x.pats (pJ fun q hq=> ((aIj n1).pats q hq).2);have hkids: (x.kids.map (iH (toL (bI u) (0+aI m1)))).map (iH (toL (bI (aW nm l c1)) off)) =x.kids.map (iH (toL (bI u) (off+aI m1))) :=by
    rw [map_map];refine map_congr_left (fun c0 hc0=>?_);have hr:= (hw.fine.node _ x hx).2.2 c0 hc0;obtain⟨j0,hj0⟩ :=hw.mem (k:=c0) (by omega) hr.2;have hlt:= (List.getElem?_eq_some_iff.1 hj0).1;rw [hw.len]at hlt
    change j0<u.nodes.length at hlt
    have hsz:aI l=aI m1+ (u.nodes.length+aI m2) :=by rw [hl,iY,aI]
    simp only [Function.comp];rw [hw.toL _ j0 c0 hj0,hw.toL _ j0 c0 hj0,aOE h hgd off _ (by omega)];congr 1;omega
   have hn:bN (mfU T [] (aW nm l c1)) (mcU c (aW nm l c1)) x.op (bN (mfU (aP l) (cA l) u) (mcU c1 u) x.op x.n) =bN (mfU T [] u) (mcU c u) x.op x.n:=by
    have hh:=n1;simp only [bC,eJ,and_eq_true]at hh;have h1:=hh.1.1.1;unfold bN;by_cases e4:x.op=4
    · rw [e4]at h1;simp [bH,cN,hwl]at h1;rw [if_pos e4,if_pos e4,if_pos e4];by_cases hneg:0≤x.n
      ·rw [if_pos hneg,if_pos hneg,if_pos hneg]
      · rw [if_neg hneg,if_neg hneg];obtain⟨s,hs,es⟩ :=aAD (T:=aP l) (ls:=cA l) (u:=u) (i:= -1-x.n) (by omega) (by omega);obtain⟨s2,hs2,es2⟩ :=aAD (T:=T) (ls:=[]) (u:=u) (i:= -1-x.n) (by omega) (by omega);rw [hs]at hs2;obtain⟨g0,g1,g2⟩ :=aTW (names_in hu (mem_of_getElem? hs));rw [es,es2,←Option.some.inj hs2,if_neg (by omega),show(-1:Int) - (-1-jY (aP l) (cA l) s) =jY (aP l) (cA l) s by omega];obtain⟨s3,hs3,es3⟩ :=aAD (T:=T) (ls:=[]) (u:=aW nm l c1) (i:=jY (aP l) (cA l) s) g0 (by rw [lV];exact g1);rw [lU,show(aW nm l c1).needs=cA l from rfl,g2]at hs3;rw [es3,←Option.some.inj hs3]
    · rw [if_neg e4,if_neg e4,if_neg e4];by_cases e14:x.op=14
      · rw [e14]at h1;simp [bH,cN]at h1;have h2:x.n≤ ((u.cons.length:Nat) :Int) -1:=h1.2;rw [if_pos e14,if_pos e14,if_pos e14];exact hcon x.n (by omega) (by omega)
      ·rw [if_neg e14,if_neg e14,if_neg e14]
   show eT _ _ _ (eT _ _ _ x) =eT _ _ _ x;unfold eT;simp only;rw [hp,hkids,hn]
 ·rw [List.getElem?_eq_none (by rw [aE3 hgd,hlen];omega),List.getElem?_eq_none (by rw [oH l off h.good];omega)]
theorem aC1 (off:Nat) :∀ (l:List LUnit) (o:Nat),(∀u∈l,GoodU u) →dU (off+o) l= (dU o l).map fun f=> (off:Int) +f
 | [],o,_=>rfl
 | u::l,o,hg=>by
  have hw:=iW (hg u (mem_cons_self ..));rw [dU,dU,map_append,Nat.add_assoc,aC1 off l _ (fun x hx=>hg x (mem_cons_of_mem _ hx))];congr 1;unfold aE2;rw [map_map];refine map_congr_left (fun f hf=>?_);have hr:=hw.fine.funs f hf;obtain⟨j,hj⟩ :=hw.mem hr.1 hr.2;simp only [Function.comp];rw [hw.toL _ j f hj,hw.toL _ j f hj];omega
theorem aBD (h:PartOk l c1)(hgd:GoodU (aW nm l c1))(off:Nat) :aE2 off (aW nm l c1) =dU off l:=by
 have e:=aC1 off l 0 h.good;rw [Nat.add_zero]at e;rw [e];unfold aE2;rw [qI];refine map_congr_left (fun f hf=>?_);have hr:=qH l 0 h.good f hf;have:=aOE h hgd off f.toNat (by omega);rw [show((f.toNat:Nat) :Int) =f by omega]at this;rw [this];omega
end
section
variable {l1 l2:List LUnit} {c1 c2:List Con} {n1 n2:aC}
theorem aBE (l m:List LUnit) :aP (l++m) =aP l++aP m:=by simp [aP]
theorem aDv :aP [aW n1 l1 c1,aW n2 l2 c2] =aP (l1++l2) :=by
 rw [lR,lR,lU,lU,aBE];show aP l1++ (aP l2++ []) =_;rw [append_nil]
theorem two_lost :cA [aW n1 l1 c1,aW n2 l2 c2] = [] ↔cA (l1++l2) = [] :=by
 rw [aGU,aGU,aDv];constructor
 · intro h u hu s hs;rcases List.mem_append.1 hu with g|g
   · rcases(iM (aP l1) l1 []).2 u g s hs with k|k
     ·rw [aBE,lB,k];rfl
     ·exact h _ (mem_cons_self ..) s (hasS_mem.1 k)
   · rcases(iM (aP l2) l2 []).2 u g s hs with k|k
     ·rw [aBE,lB,k,Bool.or_true]
     ·exact h (aW n2 l2 c2) (by simp) s (hasS_mem.1 k)
 · intro h u hu s hs;rcases List.mem_cons.1 hu with rfl|hu
   · rcases oK (aP l1) l1 [] s hs with g| ⟨v,g1,g2⟩
     ·cases g
     ·exact h v (List.mem_append_left _ g1) s g2
   · rw [List.mem_singleton.1 hu]at hs;rcases oK (aP l2) l2 [] s hs with g| ⟨v,g1,g2⟩
     ·cases g
     ·exact h v (List.mem_append_right _ g1) s g2
theorem aNO (hf:∀u∈l1++l2,FewU u)(h0:dE (l1++l2) =true)(p1:PartOk l1 c1)(p2:PartOk l2 c2)(g1:GoodU (aW n1 l1 c1))(g2:GoodU (aW n2 l2 c2)) :eM [aW n1 l1 c1,aW n2 l2 c2] =eM (l1++l2) :=by
 have hab:dE [aW n1 l1 c1,aW n2 l2 c2] =true:=by
  unfold dE;simp [g1.formed,g2.formed]
 have hgab:∀u∈ [aW n1 l1 c1,aW n2 l2 c2],GoodU u:=fun u hu=>by
  rcases List.mem_cons.1 hu with rfl|hu
  ·exact g1
  ·rw [List.mem_singleton.1 hu];exact g2
 have hc:hP [aW n1 l1 c1,aW n2 l2 c2] =hP (l1++l2) :=by
  rw [←aNN p1.cons p2.cons];unfold hP;rw [aBC];show cU [] (c1++ (c2++ [])) =_;rw [append_nil]
 have hs:aI [aW n1 l1 c1,aW n2 l2 c2] =aI (l1++l2) :=by
  rw [aI,aI,aI,jM p1,jM p2,iY];omega
 have hm:zU lF [aW n1 l1 c1,aW n2 l2 c2] 0<0↔zU lF (l1++l2) 0<0:=by
  rw [oI,oI,aDv]
 obtain⟨hl10,hg⟩ :=iV hf h0;unfold eM;rw [if_pos hab,if_pos h0,hc];cases hP (l1++l2)with
 |none=>rfl
 | some c=>
  simp only;rw [aDv,hs];by_cases k:bG (aP (l1++l2)) =true∧cA (l1++l2) = [] ∧¬zU lF (l1++l2) 0<0
  · rw [if_pos k,if_pos ⟨k.1,two_lost.2 k.2.1,fun g=>k.2.2 (hm.1 g)⟩];have e1:=aDu (cs:=c) hl10 hg (ls:=[]) (by simp) (fun u hu=>by have:=lT hu;rw [k.2.1]at this;exact this);have e2:=aDu (cs:=c) (l:=[aW n1 l1 c1,aW n2 l2 c2]) (by simp) hgab (ls:=[]) (by simp) (fun u hu=>by have:=lT hu;rw [two_lost.2 k.2.1]at this;exact this);have en:fU (aP (l1++l2)) [] c 0 [aW n1 l1 c1,aW n2 l2 c2] =fU (aP (l1++l2)) [] c 0 (l1++l2) :=by
     rw [fU,fU,fU,aFm p1 g1,aFm p2 g2,append_nil,yE,jM p1]
    have eb:dU 0 [aW n1 l1 c1,aW n2 l2 c2] =dU 0 (l1++l2) :=by
     rw [dU,dU,dU,aBD p1 g1,aBD p2 g2,append_nil,aGL,jM p1]
    rw [e1,e2];simp only [nW];rw [aDv,en,eb]
  ·rw [if_neg k,if_neg (fun g=>k ⟨g.1,two_lost.1 g.2.1,fun j=>g.2.2 (hm.2 j)⟩)]
end
def bAh(a:List LUnit):TS:=dY PP 35 [(.ilst 5 (map LUnit.av a) false)] [] 0
def aTX(a:List LUnit):=tT 0 (bAh a)<|fQ 7 13 [(.ilst 5 (map LUnit.av a) false)]<|fun b=>.b 1 5 b (fQ 1 18 [(.ilst 5 (map LUnit.av a) false)]<|fun c=>gE 4 0 (bV c))<|gE 6 0 (bV false)
def aXH:=fun a b c d e f=>aTX a b d|>.t e c f tv
def aXI:=fun a b c d=>aTX a b c|>.f d tv
structure Mover where
 unit:LUnit
 prog:Prog
 names:List aC
def Mover.av (m:Mover) :AV:=.agg [aA m.unit.name,.ilst 2 (map Con.av m.unit.cons) false,.ilst 2 (map LFun.av m.unit.funs) false,.ilst 1 (map aA m.unit.needs) false,.ilst 4 (map Node.av m.unit.nodes) false,.ilst 4 (map Node.av m.prog.nodes) false,.ilst 1 (map aR m.prog.funs) false,.int .i64 m.prog.main,.ilst 2 (map Con.av m.prog.cons) false,.ilst 1 (map aA m.names) false]
theorem aNP (l:List LUnit) :Pure PP 35 [.ilst 5 (map LUnit.av l) false] (.bool (iU l&&dE l)) :=by
 have h0:=aQj l;refine aT (by kernel_rfl) rfl rfl ?_;cases e:iU l with
 |false=>rw [e]at h0;exact aXI l false h0 rfl
 | true=>
  rw [e]at h0;have h1:=aS1 l (fun u h=>aEM ((aCV e).2 u h));exact aXH l true _ h0 rfl h1
section
variable (l :List LUnit)
end
def ConsTo (uc pc:List Con)(mc:List (Int×Int)) :Prop:=∀ (i:Nat) (d:Con),uc[i]?=some d→0≤kO mc (i:Int) ∧pc[(kO mc (i:Int)).toNat]?=some d
theorem ConsTo.at {uc pc:List Con}{mc:List (Int×Int)}(h:ConsTo uc pc mc){n:Int}(h0:0≤n)(h1:n<uc.length) :∃d,uc[n.toNat]?=some d∧0≤kO mc n∧pc[(kO mc n).toNat]?=some d:=by
 have e:uc[n.toNat]?=some (uc[n.toNat]'(by omega)) :=getElem?_eq_getElem (by omega);have:=h n.toNat _ e;rw [show((n.toNat:Nat) :Int) =n by omega]at this;exact⟨_,e,this.1,this.2⟩
section
variable (m :Mover) (mc:List (Int×Int))
end
section
variable {P :Program}
def aZz (P:Program)(is:List Ins)(s:TS) :Option (AV×Nat×List Prop) :=
 match zP P is s.as with
 | some (s1,ps) =>match s1.cs,s1.fr.kind,s1.fr.mode,s1.fr.roundOf,s1.fr.defers with
  | [],.normal,.ret,none,[] =>match P.funcs[s1.fr.fn]? with
   | some fd=>match kR P s1.h s1.fr.tm fd.results.toList with
    |some [v] =>some (v,s1.fr.fn,ps)
    |_=>none
   |none=>none
  |_,_,_,_,_=>none
 |none=>none
theorem aIW {f : Nat} {args : List AV} {is : List Ins}{b:Bool}{ps:List Prop}{cargs:List Value}(hb:nT P f=true)(hk:AV.keylessL args=true)(h0:aZz P is (start P f args) =some (.bool b,f,ps))(hps:AllP ps)(w:World)(hv:VRs (embOf w) args cargs) :
  Calls P f ⟨cargs⟩ w fun e w'=>e= .returned (.bool b) ∧GrownO w w':=by
 intro base;unfold nT at hb;split at hb
 · rename_i fn hf;split at hb
   · rename_i c hc;have hg:cO P f args .normal=some ⟨f,dG .leaf 0 args,max fn.ntmps args.length,[.code c],[],.run,.normal,none⟩ :=by simp [cO,hf,hc]
     have fr':FR (embOf w) _ (Frame.enter P f ⟨cargs⟩ .normal) :=iR hg hv;have f1:FR (embOf w) (start P f args).as.fr (Frame.enter P f ⟨cargs⟩ .normal) :=by
      have e1: (start P f args).as.fr= ⟨f,mkT ((range args.length).zip args),max fn.ntmps args.length,[.code c],[],.run,.normal,none⟩ :=by simp [start,hf,hc,TS.as,TF.fr]
      rw [e1];refine⟨fr'.fn,⟨fr'.tm.1,fun t a e=>?_⟩,fr'.todo,fr'.defers,fr'.mode,fr'.kind,fr'.round⟩;have h1:=aD4 (aAo e);have hlt:= (List.getElem?_eq_some_iff.1 h1).1;have h2: (dG .leaf 0 args).at t=some a:=by
       unfold dG;rw [bY,if_pos hlt];exact h1
      exact fr'.tm.2 t a h2
     have e2 : (start P f args).as.cs = [] := by unfold start;split; · split<;>rfl
                                                 ·rfl
     have e3 : (start P f args).as.h = ⟨.leaf, 0⟩ := by unfold start;split; · split<;>rfl
                                                        ·rfl
     unfold aZz at h0;split at h0
     · rename_i s1 qs h1;split at h0
       · rename_i hcs hkd hmo hro hde;split at h0
         · rename_i fd hfd;split at h0
           · rename_i v hrs;simp only [Option.some.injEq,Prod.mk.injEq]at h0;obtain⟨rfl,hfn,rfl⟩ :=h0;have hl:LeadsM P 0 (start P f args).as s1:=kH h1 (fun p hpp=>hps.mem p hpp);obtain⟨E',g,ccs,w',s2,f2,fs2,r2,x⟩ :=hl (by rw [e3];exact Nat.le_refl _) (embOf w) _ [] w base f1 (by rw [e2];rfl) (by rw [e3];exact aOT w);rw [hcs]at fs2;have:=fs2.nil_inv;subst this;obtain⟨cv,g1,g2⟩ :=wI r2 f2.tm hrs;simp only [aBM,VR]at g2;subst g2;have fm:=f2.mode;rw [hmo]at fm;simp only [MR]at fm;have fdd:=f2.defers;rw [hde]at fdd;rw [e3]at x;have hno:∀ {b o},¬ (⟨.leaf,0⟩ :Hp).look b=some o:=fun {b o} e=>by simp [Hp.look,T.at_leaf]at e
             refine⟨.returned (.bool b),w',g,⟨rfl,⟨x.os,x.output,fun i hi=>?_⟩,x.froz,x.size⟩,s2,by rw [f2.fn,hfn],fm,fdd.nil_inv,by rw [f2.kind,hkd],fd,by rw [f2.fn];exact hfd,g1⟩;have:=x.keep i hi (fun b o L e=>absurd e hno);rw [this];cases w.heap[i]? with
             |none=>rfl
             |some ob=>cases ob<;>simp
           ·cases h0
         ·cases h0
       ·cases h0
     ·cases h0
   ·cases hb
 ·cases hb
theorem cW {f:Nat}{args:List AV}{b:Bool}{cargs:List Value}(L:List Pf)(is:List Ins)(w:World)(hv:VRs (embOf w) args cargs)(hb:nT P f=true:=by kernel_rfl)(hk:AV.keylessL args=true:=by kernel_rfl)(h0:aZz P is (start P f args) =some (.bool b,f,L.map Pf.p) :=by kernel_rfl) :
    Calls P f ⟨cargs⟩ w fun e w'=>e= .returned (.bool b) ∧GrownO w w':=aIW hb hk h0 (aYb L) w hv
end
theorem aQx {x:Node}(h:aK9 x) :aVd x:= ⟨by have:=h.1;omega,by have:=h.2;omega⟩
theorem yH :FitP zX:= ⟨by simp [zX],by simp [zX],by simp [zX],fun x hx=>by cases hx⟩
theorem aQy {l:List LUnit}(hu:∀u∈l,FewU u) :FitP (eM l).1:=by
 unfold eM;split
 · rename_i h0;obtain⟨hl10,hg⟩ :=iV hu h0;split
   ·exact yH
   · rename_i c hc;split
     · split
       · rename_i h6;have hp:=aTk (ls:=[]) (cs:=c) hl10 hg (by simp);have h1:=hp.len;have h2:=hp.funs;exact⟨by dsimp only;omega,by simp;omega,by dsimp only;omega,fun x hx=>aQx (hp.fit x hx)⟩
       ·exact yH
     ·exact yH
 ·exact yH
theorem aXJ (l:List LUnit)(n:Int)(y0 y1:Bool)(h0:Pure PP 35 [(.ilst 5 (map LUnit.av l) false)] (bV y0))(h1: (!y0) =true)(h2:Pure PP 14 [] (bV y1)) :
  ∀ (w:World) (cargs:List Value),VRs (embOf w) [.ilst 5 (map LUnit.av l) false,.int .i64 n] cargs→Calls PP 7 ⟨cargs⟩ w fun e w'=>e= .returned (.bool y1) ∧GrownO w w':=
 fun w cargs hv=>cW [qp h0,qp h1,qp h2] [rn 8,pB y0,rn 2,bt 16,rn 13,pB y1,rn 3] w hv
theorem aXK (l:List LUnit)(n:Int)(y0 y1:Bool)(h0:Pure PP 35 [(.ilst 5 (map LUnit.av l) false)] (bV y0))(h1: (!y0) =false)(h2:decide (n< (0:Int)) =true)(h3:Pure PP 14 [] (bV y1)) :
  ∀ (w:World) (cargs:List Value),VRs (embOf w) [.ilst 5 (map LUnit.av l) false,.int .i64 n] cargs→Calls PP 7 ⟨cargs⟩ w fun e w'=>e= .returned (.bool y1) ∧GrownO w w':=
 fun w cargs hv=>cW [qp h0,qp h1,qp h2,qp h3] [rn 8,pB y0,rn 2,bf 16,rn 4,bt 20,rn 9,pB y1,rn 3] w hv
theorem aXL (l:List LUnit)(n:Int)(y0 y1:Bool)(h0:Pure PP 35 [(.ilst 5 (map LUnit.av l) false)] (bV y0))(h1: (!y0) =false)(h2:decide (n< (0:Int)) =false)(h3:decide (n> (l.length:Int)) =true)(h4:Pure PP 14 [] (bV y1)) :
  ∀ (w:World) (cargs:List Value),VRs (embOf w) [.ilst 5 (map LUnit.av l) false,.int .i64 n] cargs→Calls PP 7 ⟨cargs⟩ w fun e w'=>e= .returned (.bool y1) ∧GrownO w w':=
 fun w cargs hv=>cW [qp h0,qp h1,qp h2,ql LUnit.av l,qp h3,qp h4] [rn 8,pB y0,rn 2,bf 16,rn 4,bf 20,rn 2,aL l,rn 3,bt 25,rn 3,pB y1,rn 3] w hv
theorem aXM (l:List LUnit)(n:Int)(y0:Bool)(y1:Prog)(y2:Int)(y3:LUnit)(y4:Int)(y5:LUnit)(y6:Int)(y7:Bool)(h0:Pure PP 35 [(.ilst 5 (map LUnit.av l) false)] (bV y0))(h1: (!y0) =false)(h2:decide (n< (0:Int)) =false)(h3:decide (n> (l.length:Int)) =false)(h4:Pure PP 24 [(.ilst 5 (map LUnit.av l) false)] (.tup [(Prog.av y1),(nI y2)]))(h5:0≤n)(h6:n.toNat≤length l)(h7:Pure PP 27 [(.str 1 97),(.ilst 5 (map LUnit.av (take n.toNat l)) false)] (.tup [(.agg [(aA y3.name),(iC y3.cons),(.ilst 2 (map LFun.av y3.funs) false),(iS y3.needs),(iN y3.nodes)]),(nI y4)]))(h8:Pure PP 27 [(.str 1 98),(.ilst 5 (map LUnit.av (drop n.toNat l)) false)] (.tup [(.agg [(aA y5.name),(iC y5.cons),(.ilst 2 (map LFun.av y5.funs) false),(iS y5.needs),(iN y5.nodes)]),(nI y6)]))(h9: (y4 != (0:Int)) =true)(h10: (y2 != (0:Int)) =true)(h11:Pure PP 14 [] (bV y7)) :
  ∀ (w:World) (cargs:List Value),VRs (embOf w) [.ilst 5 (map LUnit.av l) false,.int .i64 n] cargs→Calls PP 7 ⟨cargs⟩ w fun e w'=>e= .returned (.bool y7) ∧GrownO w w':=
 fun w cargs hv=>cW [qp h0,qp h1,qp h2,ql LUnit.av l,qp h3,qp h4,qp (p:=nR PP 22 (.ilst 5 (map LUnit.av l) false) none (some (nI n)) (.ilst 5 (map LUnit.av (take n.toNat l)) false)) (mL (k:=n) (by kernel_rfl) h5 h6),qp h7,qp (p:=nR PP 22 (.ilst 5 (map LUnit.av l) false) (some (nI n)) none (.ilst 5 (map LUnit.av (drop n.toNat l)) false)) (jV (k:=n) (by kernel_rfl) h5 h6),qp h8,qp h9,qp h10,qp h11] [rn 8,pB y0,rn 2,bf 16,rn 4,bf 20,rn 2,aL l,rn 3,bf 25,rn 5,.pure (.tup [(Prog.av y1),(nI y2)]),rn 11,.ans (.ev (.ilst 5 (map LUnit.av (take n.toNat l)) false)),.pure (.tup [(.agg [(aA y3.name),(iC y3.cons),(.ilst 2 (map LFun.av y3.funs) false),(iS y3.needs),(iN y3.nodes)]),(nI y4)]),rn 11,.ans (.ev (.ilst 5 (map LUnit.av (drop n.toNat l)) false)),.pure (.tup [(.agg [(aA y5.name),(iC y5.cons),(.ilst 2 (map LFun.av y5.funs) false),(iS y5.needs),(iN y5.nodes)]),(nI y6)]),rn 13,bt 48,rn 10,bt 54,rn 8,pB y7,rn 4] w hv
theorem aXN (l:List LUnit)(n:Int)(y0:Bool)(y1:Prog)(y2:Int)(y3:LUnit)(y4:Int)(y5:LUnit)(y6:Int)(y7:Bool)(h0:Pure PP 35 [(.ilst 5 (map LUnit.av l) false)] (bV y0))(h1: (!y0) =false)(h2:decide (n< (0:Int)) =false)(h3:decide (n> (l.length:Int)) =false)(h4:Pure PP 24 [(.ilst 5 (map LUnit.av l) false)] (.tup [(Prog.av y1),(nI y2)]))(h5:0≤n)(h6:n.toNat≤length l)(h7:Pure PP 27 [(.str 1 97),(.ilst 5 (map LUnit.av (take n.toNat l)) false)] (.tup [(.agg [(aA y3.name),(iC y3.cons),(.ilst 2 (map LFun.av y3.funs) false),(iS y3.needs),(iN y3.nodes)]),(nI y4)]))(h8:Pure PP 27 [(.str 1 98),(.ilst 5 (map LUnit.av (drop n.toNat l)) false)] (.tup [(.agg [(aA y5.name),(iC y5.cons),(.ilst 2 (map LFun.av y5.funs) false),(iS y5.needs),(iN y5.nodes)]),(nI y6)]))(h9: (y4 != (0:Int)) =true)(h10: (y2 != (0:Int)) =false)(h11: (y4 != (7:Int)) =true)(h12: (y6 != (7:Int)) =true)(h13:Pure PP 14 [] (bV y7)) :
  ∀ (w:World) (cargs:List Value),VRs (embOf w) [.ilst 5 (map LUnit.av l) false,.int .i64 n] cargs→Calls PP 7 ⟨cargs⟩ w fun e w'=>e= .returned (.bool y7) ∧GrownO w w':=
 fun w cargs hv=>cW [qp h0,qp h1,qp h2,ql LUnit.av l,qp h3,qp h4,qp (p:=nR PP 22 (.ilst 5 (map LUnit.av l) false) none (some (nI n)) (.ilst 5 (map LUnit.av (take n.toNat l)) false)) (mL (k:=n) (by kernel_rfl) h5 h6),qp h7,qp (p:=nR PP 22 (.ilst 5 (map LUnit.av l) false) (some (nI n)) none (.ilst 5 (map LUnit.av (drop n.toNat l)) false)) (jV (k:=n) (by kernel_rfl) h5 h6),qp h8,qp h9,qp h10,qp h11,qp h12,qp h13] [rn 8,pB y0,rn 2,bf 16,rn 4,bf 20,rn 2,aL l,rn 3,bf 25,rn 5,.pure (.tup [(Prog.av y1),(nI y2)]),rn 11,.ans (.ev (.ilst 5 (map LUnit.av (take n.toNat l)) false)),.pure (.tup [(.agg [(aA y3.name),(iC y3.cons),(.ilst 2 (map LFun.av y3.funs) false),(iS y3.needs),(iN y3.nodes)]),(nI y4)]),rn 11,.ans (.ev (.ilst 5 (map LUnit.av (drop n.toNat l)) false)),.pure (.tup [(.agg [(aA y5.name),(iC y5.cons),(.ilst 2 (map LFun.av y5.funs) false),(iS y5.needs),(iN y5.nodes)]),(nI y6)]),rn 13,bt 48,rn 10,bf 54,rn 3,bt 57,rn 5,bt 62,pB y7,rn 4] w hv
theorem aXO (l:List LUnit)(n:Int)(y0:Bool)(y1:Prog)(y2:Int)(y3:LUnit)(y4:Int)(y5:LUnit)(y6:Int)(y7:Bool)(h0:Pure PP 35 [(.ilst 5 (map LUnit.av l) false)] (bV y0))(h1: (!y0) =false)(h2:decide (n< (0:Int)) =false)(h3:decide (n> (l.length:Int)) =false)(h4:Pure PP 24 [(.ilst 5 (map LUnit.av l) false)] (.tup [(Prog.av y1),(nI y2)]))(h5:0≤n)(h6:n.toNat≤length l)(h7:Pure PP 27 [(.str 1 97),(.ilst 5 (map LUnit.av (take n.toNat l)) false)] (.tup [(.agg [(aA y3.name),(iC y3.cons),(.ilst 2 (map LFun.av y3.funs) false),(iS y3.needs),(iN y3.nodes)]),(nI y4)]))(h8:Pure PP 27 [(.str 1 98),(.ilst 5 (map LUnit.av (drop n.toNat l)) false)] (.tup [(.agg [(aA y5.name),(iC y5.cons),(.ilst 2 (map LFun.av y5.funs) false),(iS y5.needs),(iN y5.nodes)]),(nI y6)]))(h9: (y4 != (0:Int)) =false)(h10: (y6 != (0:Int)) =true)(h11: (y2 != (0:Int)) =true)(h12:Pure PP 14 [] (bV y7)) :
  ∀ (w:World) (cargs:List Value),VRs (embOf w) [.ilst 5 (map LUnit.av l) false,.int .i64 n] cargs→Calls PP 7 ⟨cargs⟩ w fun e w'=>e= .returned (.bool y7) ∧GrownO w w':=
 fun w cargs hv=>cW [qp h0,qp h1,qp h2,ql LUnit.av l,qp h3,qp h4,qp (p:=nR PP 22 (.ilst 5 (map LUnit.av l) false) none (some (nI n)) (.ilst 5 (map LUnit.av (take n.toNat l)) false)) (mL (k:=n) (by kernel_rfl) h5 h6),qp h7,qp (p:=nR PP 22 (.ilst 5 (map LUnit.av l) false) (some (nI n)) none (.ilst 5 (map LUnit.av (drop n.toNat l)) false)) (jV (k:=n) (by kernel_rfl) h5 h6),qp h8,qp h9,qp h10,qp h11,qp h12] [rn 8,pB y0,rn 2,bf 16,rn 4,bf 20,rn 2,aL l,rn 3,bf 25,rn 5,.pure (.tup [(Prog.av y1),(nI y2)]),rn 11,.ans (.ev (.ilst 5 (map LUnit.av (take n.toNat l)) false)),.pure (.tup [(.agg [(aA y3.name),(iC y3.cons),(.ilst 2 (map LFun.av y3.funs) false),(iS y3.needs),(iN y3.nodes)]),(nI y4)]),rn 11,.ans (.ev (.ilst 5 (map LUnit.av (drop n.toNat l)) false)),.pure (.tup [(.agg [(aA y5.name),(iC y5.cons),(.ilst 2 (map LFun.av y5.funs) false),(iS y5.needs),(iN y5.nodes)]),(nI y6)]),rn 13,bf 48,rn 4,bt 51,rn 6,bt 54,rn 8,pB y7,rn 4] w hv
theorem aXP (l:List LUnit)(n:Int)(y0:Bool)(y1:Prog)(y2:Int)(y3:LUnit)(y4:Int)(y5:LUnit)(y6:Int)(y7:Bool)(h0:Pure PP 35 [(.ilst 5 (map LUnit.av l) false)] (bV y0))(h1: (!y0) =false)(h2:decide (n< (0:Int)) =false)(h3:decide (n> (l.length:Int)) =false)(h4:Pure PP 24 [(.ilst 5 (map LUnit.av l) false)] (.tup [(Prog.av y1),(nI y2)]))(h5:0≤n)(h6:n.toNat≤length l)(h7:Pure PP 27 [(.str 1 97),(.ilst 5 (map LUnit.av (take n.toNat l)) false)] (.tup [(.agg [(aA y3.name),(iC y3.cons),(.ilst 2 (map LFun.av y3.funs) false),(iS y3.needs),(iN y3.nodes)]),(nI y4)]))(h8:Pure PP 27 [(.str 1 98),(.ilst 5 (map LUnit.av (drop n.toNat l)) false)] (.tup [(.agg [(aA y5.name),(iC y5.cons),(.ilst 2 (map LFun.av y5.funs) false),(iS y5.needs),(iN y5.nodes)]),(nI y6)]))(h9: (y4 != (0:Int)) =false)(h10: (y6 != (0:Int)) =true)(h11: (y2 != (0:Int)) =false)(h12: (y4 != (7:Int)) =true)(h13: (y6 != (7:Int)) =true)(h14:Pure PP 14 [] (bV y7)) :
  ∀ (w:World) (cargs:List Value),VRs (embOf w) [.ilst 5 (map LUnit.av l) false,.int .i64 n] cargs→Calls PP 7 ⟨cargs⟩ w fun e w'=>e= .returned (.bool y7) ∧GrownO w w':=
 fun w cargs hv=>cW [qp h0,qp h1,qp h2,ql LUnit.av l,qp h3,qp h4,qp (p:=nR PP 22 (.ilst 5 (map LUnit.av l) false) none (some (nI n)) (.ilst 5 (map LUnit.av (take n.toNat l)) false)) (mL (k:=n) (by kernel_rfl) h5 h6),qp h7,qp (p:=nR PP 22 (.ilst 5 (map LUnit.av l) false) (some (nI n)) none (.ilst 5 (map LUnit.av (drop n.toNat l)) false)) (jV (k:=n) (by kernel_rfl) h5 h6),qp h8,qp h9,qp h10,qp h11,qp h12,qp h13,qp h14] [rn 8,pB y0,rn 2,bf 16,rn 4,bf 20,rn 2,aL l,rn 3,bf 25,rn 5,.pure (.tup [(Prog.av y1),(nI y2)]),rn 11,.ans (.ev (.ilst 5 (map LUnit.av (take n.toNat l)) false)),.pure (.tup [(.agg [(aA y3.name),(iC y3.cons),(.ilst 2 (map LFun.av y3.funs) false),(iS y3.needs),(iN y3.nodes)]),(nI y4)]),rn 11,.ans (.ev (.ilst 5 (map LUnit.av (drop n.toNat l)) false)),.pure (.tup [(.agg [(aA y5.name),(iC y5.cons),(.ilst 2 (map LFun.av y5.funs) false),(iS y5.needs),(iN y5.nodes)]),(nI y6)]),rn 13,bf 48,rn 4,bt 51,rn 6,bf 54,rn 3,bt 57,rn 5,bt 62,pB y7,rn 4] w hv
theorem aTY (l:List LUnit)(n:Int)(y0:Bool)(y1:Prog)(y2:Int)(y3:LUnit)(y4:Int)(y5:LUnit)(y6:Int)(y7:Bool)(h0:Pure PP 35 [(.ilst 5 (map LUnit.av l) false)] (bV y0))(h1: (!y0) =false)(h2:decide (n< (0:Int)) =false)(h3:decide (n> (l.length:Int)) =false)(h4:Pure PP 24 [(.ilst 5 (map LUnit.av l) false)] (.tup [(Prog.av y1),(nI y2)]))(h5:0≤n)(h6:n.toNat≤length l)(h7:Pure PP 27 [(.str 1 97),(.ilst 5 (map LUnit.av (take n.toNat l)) false)] (.tup [(.agg [(aA y3.name),(iC y3.cons),(.ilst 2 (map LFun.av y3.funs) false),(iS y3.needs),(iN y3.nodes)]),(nI y4)]))(h8:Pure PP 27 [(.str 1 98),(.ilst 5 (map LUnit.av (drop n.toNat l)) false)] (.tup [(.agg [(aA y5.name),(iC y5.cons),(.ilst 2 (map LFun.av y5.funs) false),(iS y5.needs),(iN y5.nodes)]),(nI y6)]))(h9: (y4 != (0:Int)) =false)(h10: (y6 != (0:Int)) =false)(h11:Pure PP 36 [(.agg [(aA y3.name),(iC y3.cons),(.ilst 2 (map LFun.av y3.funs) false),(iS y3.needs),(iN y3.nodes)])] (bV y7))(h12: (!y7) =true)(h13:decide ((y3.funs.length:Int) > (30:Int)) =true) :
  ∀ (w:World) (cargs:List Value),VRs (embOf w) [.ilst 5 (map LUnit.av l) false,.int .i64 n] cargs→Calls PP 7 ⟨cargs⟩ w fun e w'=>e= .returned (.bool true) ∧GrownO w w':=
 fun w cargs hv=>cW [qp h0,qp h1,qp h2,ql LUnit.av l,qp h3,qp h4,qp (p:=nR PP 22 (.ilst 5 (map LUnit.av l) false) none (some (nI n)) (.ilst 5 (map LUnit.av (take n.toNat l)) false)) (mL (k:=n) (by kernel_rfl) h5 h6),qp h7,qp (p:=nR PP 22 (.ilst 5 (map LUnit.av l) false) (some (nI n)) none (.ilst 5 (map LUnit.av (drop n.toNat l)) false)) (jV (k:=n) (by kernel_rfl) h5 h6),qp h8,qp h9,qp h10,qp h11,qp h12,ql LFun.av y3.funs,qp h13] [rn 8,pB y0,rn 2,bf 16,rn 4,bf 20,rn 2,aL l,rn 3,bf 25,rn 5,.pure (.tup [(Prog.av y1),(nI y2)]),rn 11,.ans (.ev (.ilst 5 (map LUnit.av (take n.toNat l)) false)),.pure (.tup [(.agg [(aA y3.name),(iC y3.cons),(.ilst 2 (map LFun.av y3.funs) false),(iS y3.needs),(iN y3.nodes)]),(nI y4)]),rn 11,.ans (.ev (.ilst 5 (map LUnit.av (drop n.toNat l)) false)),.pure (.tup [(.agg [(aA y5.name),(iC y5.cons),(.ilst 2 (map LFun.av y5.funs) false),(iS y5.needs),(iN y5.nodes)]),(nI y6)]),rn 13,bf 48,rn 4,bf 51,rn 6,pB y7,rn 2,bt 68,rn 20,aL y3.funs,rn 2,bt 87,rn 8] w hv
theorem aTZ (l:List LUnit)(n:Int)(y0:Bool)(y1:Prog)(y2:Int)(y3:LUnit)(y4:Int)(y5:LUnit)(y6:Int)(y7 y8 y9:Bool)(h0:Pure PP 35 [(.ilst 5 (map LUnit.av l) false)] (bV y0))(h1: (!y0) =false)(h2:decide (n< (0:Int)) =false)(h3:decide (n> (l.length:Int)) =false)(h4:Pure PP 24 [(.ilst 5 (map LUnit.av l) false)] (.tup [(Prog.av y1),(nI y2)]))(h5:0≤n)(h6:n.toNat≤length l)(h7:Pure PP 27 [(.str 1 97),(.ilst 5 (map LUnit.av (take n.toNat l)) false)] (.tup [(.agg [(aA y3.name),(iC y3.cons),(.ilst 2 (map LFun.av y3.funs) false),(iS y3.needs),(iN y3.nodes)]),(nI y4)]))(h8:Pure PP 27 [(.str 1 98),(.ilst 5 (map LUnit.av (drop n.toNat l)) false)] (.tup [(.agg [(aA y5.name),(iC y5.cons),(.ilst 2 (map LFun.av y5.funs) false),(iS y5.needs),(iN y5.nodes)]),(nI y6)]))(h9: (y4 != (0:Int)) =false)(h10: (y6 != (0:Int)) =false)(h11:Pure PP 36 [(.agg [(aA y3.name),(iC y3.cons),(.ilst 2 (map LFun.av y3.funs) false),(iS y3.needs),(iN y3.nodes)])] (bV y7))(h12: (!y7) =false)(h13:Pure PP 37 [(.agg [(aA y3.name),(iC y3.cons),(.ilst 2 (map LFun.av y3.funs) false),(iS y3.needs),(iN y3.nodes)])] (bV y8))(h14: (!y8) =false)(h15:Pure PP 36 [(.agg [(aA y5.name),(iC y5.cons),(.ilst 2 (map LFun.av y5.funs) false),(iS y5.needs),(iN y5.nodes)])] (bV y9))(h16: (!y9) =true)(h17:decide ((y3.funs.length:Int) > (30:Int)) =false) :
  ∀ (w:World) (cargs:List Value),VRs (embOf w) [.ilst 5 (map LUnit.av l) false,.int .i64 n] cargs→Calls PP 7 ⟨cargs⟩ w fun e w'=>e= .returned (Value.bool (decide ((y5.funs.length:Int) > (30:Int)))) ∧GrownO w w':=
 fun w cargs hv=>cW [qp h0,qp h1,qp h2,ql LUnit.av l,qp h3,qp h4,qp (p:=nR PP 22 (.ilst 5 (map LUnit.av l) false) none (some (nI n)) (.ilst 5 (map LUnit.av (take n.toNat l)) false)) (mL (k:=n) (by kernel_rfl) h5 h6),qp h7,qp (p:=nR PP 22 (.ilst 5 (map LUnit.av l) false) (some (nI n)) none (.ilst 5 (map LUnit.av (drop n.toNat l)) false)) (jV (k:=n) (by kernel_rfl) h5 h6),qp h8,qp h9,qp h10,qp h11,qp h12,qp h13,qp h14,qp h15,qp h16,ql LFun.av y3.funs,qp h17,ql LFun.av y5.funs] [rn 8,pB y0,rn 2,bf 16,rn 4,bf 20,rn 2,aL l,rn 3,bf 25,rn 5,.pure (.tup [(Prog.av y1),(nI y2)]),rn 11,.ans (.ev (.ilst 5 (map LUnit.av (take n.toNat l)) false)),.pure (.tup [(.agg [(aA y3.name),(iC y3.cons),(.ilst 2 (map LFun.av y3.funs) false),(iS y3.needs),(iN y3.nodes)]),(nI y4)]),rn 11,.ans (.ev (.ilst 5 (map LUnit.av (drop n.toNat l)) false)),.pure (.tup [(.agg [(aA y5.name),(iC y5.cons),(.ilst 2 (map LFun.av y5.funs) false),(iS y5.needs),(iN y5.nodes)]),(nI y6)]),rn 13,bf 48,rn 4,bf 51,rn 6,pB y7,rn 2,bf 68,rn 1,pB y8,rn 3,bf 73,rn 1,pB y9,rn 3,bt 78,rn 10,aL y3.funs,rn 2,bf 87,rn 2,aL y5.funs,rn 5] w hv
theorem aT0 (l:List LUnit)(n:Int)(y0:Bool)(y1:Prog)(y2:Int)(y3:LUnit)(y4:Int)(y5:LUnit)(y6:Int)(y7 y8:Bool)(y9 y10:Bool)(y11:Prog)(y12:Int)(y13 y14:Bool)(h0:Pure PP 35 [(.ilst 5 (map LUnit.av l) false)] (bV y0))(h1: (!y0) =false)(h2:decide (n< (0:Int)) =false)(h3:decide (n> (l.length:Int)) =false)(h4:Pure PP 24 [(.ilst 5 (map LUnit.av l) false)] (.tup [(Prog.av y1),(nI y2)]))(h5:0≤n)(h6:n.toNat≤length l)(h7:Pure PP 27 [(.str 1 97),(.ilst 5 (map LUnit.av (take n.toNat l)) false)] (.tup [(.agg [(aA y3.name),(iC y3.cons),(.ilst 2 (map LFun.av y3.funs) false),(iS y3.needs),(iN y3.nodes)]),(nI y4)]))(h8:Pure PP 27 [(.str 1 98),(.ilst 5 (map LUnit.av (drop n.toNat l)) false)] (.tup [(.agg [(aA y5.name),(iC y5.cons),(.ilst 2 (map LFun.av y5.funs) false),(iS y5.needs),(iN y5.nodes)]),(nI y6)]))(h9: (y4 != (0:Int)) =false)(h10: (y6 != (0:Int)) =false)(h11:Pure PP 36 [(.agg [(aA y3.name),(iC y3.cons),(.ilst 2 (map LFun.av y3.funs) false),(iS y3.needs),(iN y3.nodes)])] (bV y7))(h12: (!y7) =false)(h13:Pure PP 37 [(.agg [(aA y3.name),(iC y3.cons),(.ilst 2 (map LFun.av y3.funs) false),(iS y3.needs),(iN y3.nodes)])] (bV y8))(h14: (!y8) =false)(h15:Pure PP 36 [(.agg [(aA y5.name),(iC y5.cons),(.ilst 2 (map LFun.av y5.funs) false),(iS y5.needs),(iN y5.nodes)])] (bV y9))(h16: (!y9) =false)(h17:Pure PP 37 [(.agg [(aA y5.name),(iC y5.cons),(.ilst 2 (map LFun.av y5.funs) false),(iS y5.needs),(iN y5.nodes)])] (bV y10))(h18: (!y10) =false)(h19:Pure PP 24 [(.ilst 5 (map LUnit.av [y3,y5]) false)] (.tup [(Prog.av y11),(nI y12)]))(h20: (y2==y12) =true)(h21:Pure PP 26 [(Prog.av y1),(Prog.av y11)] (bV y13))(h22:y13=true)(h23:Pure PP 14 [] (bV y14)) :
  ∀ (w:World) (cargs:List Value),VRs (embOf w) [.ilst 5 (map LUnit.av l) false,.int .i64 n] cargs→Calls PP 7 ⟨cargs⟩ w fun e w'=>e= .returned (.bool y14) ∧GrownO w w':=
 fun w cargs hv=>cW [qp h0,qp h1,qp h2,ql LUnit.av l,qp h3,qp h4,qp (p:=nR PP 22 (.ilst 5 (map LUnit.av l) false) none (some (nI n)) (.ilst 5 (map LUnit.av (take n.toNat l)) false)) (mL (k:=n) (by kernel_rfl) h5 h6),qp h7,qp (p:=nR PP 22 (.ilst 5 (map LUnit.av l) false) (some (nI n)) none (.ilst 5 (map LUnit.av (drop n.toNat l)) false)) (jV (k:=n) (by kernel_rfl) h5 h6),qp h8,qp h9,qp h10,qp h11,qp h12,qp h13,qp h14,qp h15,qp h16,qp h17,qp h18,qp (p:=getCells (putCells .leaf 0 [(aA y3.name),(iC y3.cons),(.ilst 2 (map LFun.av y3.funs) false),(iS y3.needs),(iN y3.nodes),(aA y5.name),(iC y5.cons),(.ilst 2 (map LFun.av y5.funs) false),(iS y5.needs),(iN y5.nodes)]) 0 (2*5) =some [(aA y3.name),(iC y3.cons),(.ilst 2 (map LFun.av y3.funs) false),(iS y3.needs),(iN y3.nodes),(aA y5.name),(iC y5.cons),(.ilst 2 (map LFun.av y5.funs) false),(iS y5.needs),(iN y5.nodes)]) rfl,qp (p:=cE [(aA y3.name),(iC y3.cons),(.ilst 2 (map LFun.av y3.funs) false),(iS y3.needs),(iN y3.nodes),(aA y5.name),(iC y5.cons),(.ilst 2 (map LFun.av y5.funs) false),(iS y5.needs),(iN y5.nodes)] =true) rfl,qp (p:=[(.agg [(aA y3.name),(iC y3.cons),(.ilst 2 (map LFun.av y3.funs) false),(iS y3.needs),(iN y3.nodes)]),(.agg [(aA y5.name),(iC y5.cons),(.ilst 2 (map LFun.av y5.funs) false),(iS y5.needs),(iN y5.nodes)])] = (map LUnit.av [y3,y5])) rfl,qp (p:= (AV.gl 3 5 0 2 true) = (.gl 3 5 0 [y3,y5].length true)) rfl,qp (p:=AV.keylessL (map LUnit.av [y3,y5]) =true) (aN _ (fun _=>rfl) _),qp (p:=AV.frzOk 3 5 (map LUnit.av [y3,y5]) (map LUnit.av [y3,y5]) (.gl 3 5 0 [y3,y5].length false)) (aB8 _ _),qp h19,qp h20,qp h21,qp h22,qp h23] [rn 8,pB y0,rn 2,bf 16,rn 4,bf 20,rn 2,aL l,rn 3,bf 25,rn 5,.pure (.tup [(Prog.av y1),(nI y2)]),rn 11,.ans (.ev (.ilst 5 (map LUnit.av (take n.toNat l)) false)),.pure (.tup [(.agg [(aA y3.name),(iC y3.cons),(.ilst 2 (map LFun.av y3.funs) false),(iS y3.needs),(iN y3.nodes)]),(nI y4)]),rn 11,.ans (.ev (.ilst 5 (map LUnit.av (drop n.toNat l)) false)),.pure (.tup [(.agg [(aA y5.name),(iC y5.cons),(.ilst 2 (map LFun.av y5.funs) false),(iS y5.needs),(iN y5.nodes)]),(nI y6)]),rn 13,bf 48,rn 4,bf 51,rn 6,pB y7,rn 2,bf 68,rn 1,pB y8,rn 3,bf 73,rn 1,pB y9,rn 3,bf 78,rn 1,pB y10,rn 3,bf 82,rn 7,.toL 96 true [(aA y3.name),(iC y3.cons),(.ilst 2 (map LFun.av y3.funs) false),(iS y3.needs),(iN y3.nodes),(aA y5.name),(iC y5.cons),(.ilst 2 (map LFun.av y5.funs) false),(iS y5.needs),(iN y5.nodes)],.lset 3 (map LUnit.av [y3,y5]),.set 96 (.gl 3 5 0 [y3,y5].length true),.weak 96,.frz 96 3 (map LUnit.av [y3,y5]),.pure (.tup [(Prog.av y11),(nI y12)]),rn 13,bt 103,rn 2,pB y13,rn 2,bt 108,pB y14,rn 4] w hv
theorem aLw {u:LUnit}(h:GoodU u) :NumU u:=fun x hx=>by
 obtain⟨i,hi⟩ :=List.mem_iff_getElem?.1 hx;have hn:= (kL h hi).1;have hw: (jE u).funs.length=u.funs.length+u.needs.length:=by simp [jE]
 have h1:=h.few.f;have h2:=h.few.n;have h3:=h.small.2;simp only [bC,eJ,and_eq_true]at hn;have hh:=hn.1.1.1;unfold bH at hh;split at hh
 ·simp [cN]at hh;omega
 · split at hh
   ·simp [cN]at hh;omega
   · split at hh
     ·rw [hw]at hh;simp [cN]at hh;omega
     · split at hh
       ·simp [cN]at hh;omega
       · split at hh
         · simp [cN]at hh;have h4:x.n≤ ((u.cons.length:Nat) :Int) -1:=hh.2;omega
         ·have:=of_decide_eq_true hh;omega
theorem aNQ {a b:List aC}(h:bG (a++b) =true) :bG a=true∧bG b=true:=by
 rw [iK,nodup_append]at h;exact⟨(iK a).2 h.1,(iK b).2 h.2.1⟩
theorem aLx {nm:aC}{l1:List LUnit}(hn:jB nm=true)(hu:∀u∈l1,FewU u)(h0:dE l1=true)(hc:∃c,hP l1=some c)(hd:bG (aP l1) =true) : (qG nm l1).2≠7:=by
 rcases xK hn hu h0 with⟨_,h|h⟩ |h| ⟨c,_,h⟩
 · obtain⟨c,e⟩ :=hc;rw [e]at h;cases h
 ·rw [hd]at h;cases h
 ·rw [h];decide
 ·rw [h];simp
theorem lParts_calls (l:List LUnit)(hn:∀u∈l,NumU u)(n:Int)(hk:Pure PP 14 [] (.bool true)) :
  ∀ (w:World) (cargs:List Value),VRs (embOf w) [.ilst 5 (map LUnit.av l) false,.int .i64 n] cargs→Calls PP 7 ⟨cargs⟩ w fun e w'=>e= .returned (.bool true) ∧GrownO w w':=by
 have h0:=aNP l;cases e:iU l&&dE l with
 |false=>rw [e]at h0;exact aXJ l n false true h0 rfl hk
 | true =>
  rw [e]at h0;rw [and_eq_true]at e;obtain⟨h11,hs⟩ :=aCV e.1;have hf:∀u∈l,FewU u:=fun u h=>aEM (hs u h);by_cases c1:n<0
  ·exact aXK l n true true h0 rfl (by simp;omega) hk
  by_cases c2:n>l.length
  ·exact aXL l n true true h0 rfl (by simp;omega) (by simp;omega) hk
  have hL:=aFg l h11 (fun u h=> ⟨hf u h,hn u h⟩);have eL:l.take n.toNat++l.drop n.toNat=l:=List.take_append_drop ..;have m1:∀u∈l.take n.toNat,u∈l:=fun u h=>List.mem_of_mem_take h;have m2:∀u∈l.drop n.toNat,u∈l:=fun u h=>List.mem_of_mem_drop h;have n1:jB [97] =true:=by decide +kernel
  have n2:jB [98] =true:=by decide +kernel
  have hP1:=aFh [97] (l.take n.toNat) (by rw [List.length_take];omega) (fun u h=> ⟨hf u (m1 u h),hn u (m1 u h)⟩);have hP2:=aFh [98] (l.drop n.toNat) (by rw [List.length_drop];omega) (fun u h=> ⟨hf u (m2 u h),hn u (m2 u h)⟩);have hun:=e.2;simp only [dE,and_eq_true,decide_eq_true_eq,all_eq_true]at hun;have u1:dE (l.take n.toNat) =true:=by
   simp only [dE,and_eq_true,decide_eq_true_eq,all_eq_true];exact⟨by rw [List.length_take];omega,fun u h=>hun.2 u (m1 u h)⟩
  have u2:dE (l.drop n.toNat) =true:=by
   simp only [dE,and_eq_true,decide_eq_true_eq,all_eq_true];exact⟨by rw [List.length_drop];omega,fun u h=>hun.2 u (m2 u h)⟩
  have hA: (eM l).2=0→ (qG [97] (l.take n.toNat)).2≠7∧ (qG [98] (l.drop n.toNat)).2≠7:=fun h=>by
   rcases aLp hf with⟨_,z⟩ | ⟨cs,ok,_⟩
   ·exact absurd h z
   · have hc:=ok.cons;have hd:=ok.differ;rw [←eL]at hc hd;rw [aBE]at hd;obtain⟨d1,d2⟩ :=aNQ hd;obtain⟨k1,k2⟩ :=aQt hc;exact⟨aLx n1 (fun u h=>hf u (m1 u h)) u1 k1 d1,aLx n2 (fun u h=>hf u (m2 u h)) u2 k2 d2⟩
  have t0: (decide (n< (0:Int))) =false:=by simp;omega
  have t1: (decide (n> ((length l:Nat) :Int))) =false:=by simp;omega
  by_cases f0: (qG [97] (l.take n.toNat)).2=0
  · by_cases g0: (qG [98] (l.drop n.toNat)).2=0
    · obtain⟨c1,p1,e1⟩ :∃c,PartOk (l.take n.toNat) c∧qG [97] (l.take n.toNat) = (aW [97] (l.take n.toNat) c,0) :=by
       rcases xK n1 (fun u h=>hf u (m1 u h)) u1 with⟨h,_⟩ |h|h
       ·rw [h]at f0;cases f0
       ·rw [h]at f0;cases f0
       ·exact h
      obtain⟨c2,p2,e2⟩ :∃c,PartOk (l.drop n.toNat) c∧qG [98] (l.drop n.toNat) = (aW [98] (l.drop n.toNat) c,0) :=by
       rcases xK n2 (fun u h=>hf u (m2 u h)) u2 with⟨h,_⟩ |h|h
       ·rw [h]at g0;cases g0
       ·rw [h]at g0;cases g0
       ·exact h
      rw [e1]at hP1;rw [e2]at hP2;have sA:=aEN (aW [97] (l.take n.toNat) c1);have sB:=aEN (aW [98] (l.drop n.toNat) c2);have fA: (aW [97] (l.take n.toNat) c1).funs.length= (aP (l.take n.toNat)).length:=lV _ _ _;have fB: (aW [98] (l.drop n.toNat) c2).funs.length= (aP (l.drop n.toNat)).length:=lV _ _ _;by_cases a30: (aP (l.take n.toNat)).length≤30
      · have gA:=aGW p1 n1 a30;have wA:=aFl p1 (nm:=[97]) (by decide) a30;have oA:=aER (aW [97] (l.take n.toNat) c1) gA.few;rw [wA]at sA;rw [gA.formed]at oA;by_cases b30: (aP (l.drop n.toNat)).length≤30
        · have gB:=aGW p2 n2 b30;have wB:=aFl p2 (nm:=[98]) (by decide) b30;have oB:=aER (aW [98] (l.drop n.toNat) c2) gB.few;rw [wB]at sB;rw [gB.formed]at oB;have hlaw:=aNO (n1:=[97]) (n2:=[98]) (by rw [eL];exact hf) (by rw [eL];exact e.2) p1 p2 gA gB;rw [eL]at hlaw
          have hQ:=aFg [aW [97] (l.take n.toNat) c1,aW [98] (l.drop n.toNat) c2] (by simp) (fun u hu=>by
           rcases List.mem_cons.1 hu with rfl|hu
           ·exact⟨gA.few,aLw gA⟩
           ·rw [List.mem_singleton.1 hu];exact⟨gB.few,aLw gB⟩)
          rw [hlaw]at hQ;exact aT0 l n true (eM l).1 (eM l).2 _ 0 _ 0 true true true true (eM l).1 (eM l).2 true true h0 rfl t0 t1 hL (by omega) (by omega) hP1 hP2 rfl rfl sA rfl oA rfl sB rfl oB rfl hQ (by simp) (aNj _ (aQy hf)) rfl hk
        · have wB:jX (aW [98] (l.drop n.toNat) c2) =false:=by
           unfold jX;rw [decide_eq_false (by rw [fB];exact b30)];simp
          rw [wB]at sB;have hd: (decide (((length (aW [98] (l.drop n.toNat) c2).funs:Nat) :Int) > (30:Int))) =true:=by rw [fB];simp;omega
          have:=aTZ l n true (eM l).1 (eM l).2 _ 0 _ 0 true true false h0 rfl t0 t1 hL (by omega) (by omega) hP1 hP2 rfl rfl sA rfl oA rfl sB rfl (by rw [fA];simp;omega);rw [hd]at this;exact this
      · have wA:jX (aW [97] (l.take n.toNat) c1) =false:=by
         unfold jX;rw [decide_eq_false (by rw [fA];exact a30)];simp
        rw [wA]at sA;exact aTY l n true (eM l).1 (eM l).2 _ 0 _ 0 false h0 rfl t0 t1 hL (by omega) (by omega) hP1 hP2 rfl rfl sA rfl (by rw [fA];simp;omega)
    · by_cases e0: (eM l).2=0
      · obtain⟨k1,k2⟩ :=hA e0;exact aXP l n true (eM l).1 (eM l).2 _ _ _ _ true h0 rfl t0 t1 hL (by omega) (by omega) hP1 hP2 (by simpa using f0) (by simpa using g0) (by simpa using e0) (by simpa using k1) (by simpa using k2) hk
      ·exact aXO l n true (eM l).1 (eM l).2 _ _ _ _ true h0 rfl t0 t1 hL (by omega) (by omega) hP1 hP2 (by simpa using f0) (by simpa using g0) (by simpa using e0) hk
  · by_cases e0: (eM l).2=0
    · obtain⟨k1,k2⟩ :=hA e0;exact aXN l n true (eM l).1 (eM l).2 _ _ _ _ true h0 rfl t0 t1 hL (by omega) (by omega) hP1 hP2 (by simpa using f0) (by simpa using e0) (by simpa using k1) (by simpa using k2) hk
    ·exact aXM l n true (eM l).1 (eM l).2 _ _ _ _ true h0 rfl t0 t1 hL (by omega) (by omega) hP1 hP2 (by simpa using f0) (by simpa using e0) hk
section
variable {H :Type} {enc:TypeId×Value→H} {w:World} {spare:Nat→Bool} {held:Bool}
theorem bAi {α:Type}{cs:List α}(h:cs.length=5) :∃a b c d e,cs= [a,b,c,d,e] :=by
 match cs,h with
 | [a,b,c,d,e],_=>exact⟨a,b,c,d,e,rfl⟩
section
theorem cells49 :Tryz.prog.cellsOf 49=5:=by kernel_rfl
theorem cells47 :Tryz.prog.cellsOf 47=1:=by kernel_rfl
theorem aOF :Tryz.prog.cellsOf 71=2:=by kernel_rfl
theorem cells25 :Tryz.prog.cellsOf 25=1:=by kernel_rfl
abbrev aT1 :={x:Node // -9223372036854775808≤x.n∧x.n≤9223372036854775807}
abbrev aYP :={u:LUnit // NumU u}
theorem aNR (fuel:Nat)(cs:List Value)(x:DataW H×List MemPlace)(h:DataW.trod enc Tryz.prog w 0 spare held fuel 98 cs=some x) :∃p:aT1,Elt w 4 (Node.av p.1) cs:=by
 obtain⟨xs,m,rfl,rfl,hl,hlen,hf⟩ :=DataW.trod_struct Tryz.underlying98 h;rw [aOe]at hl;obtain⟨c0,c1,c2,c3,rfl⟩ :=four hl;have h0:DataW.trod enc Tryz.prog w 0 spare held m 95 (([c0,c1,c2,c3].drop 0).take (Tryz.prog.cellsOf 95)) =xs[0]?:=hf 0 _ rfl;have h1:DataW.trod enc Tryz.prog w 0 spare held m 3 (([c0,c1,c2,c3].drop 1).take (Tryz.prog.cellsOf 3)) =xs[1]?:=hf 1 _ rfl;have h2:DataW.trod enc Tryz.prog w 0 spare held m 29 (([c0,c1,c2,c3].drop 2).take (Tryz.prog.cellsOf 29)) =xs[2]?:=hf 2 _ rfl;have h3:DataW.trod enc Tryz.prog w 0 spare held m 96 (([c0,c1,c2,c3].drop 3).take (Tryz.prog.cellsOf 96)) =xs[3]?:=hf 3 _ rfl;simp only [aUv,cells3,cells29,aOd,drop,take]at h0 h1 h2 h3;obtain⟨x0,h0⟩ :=got h0 hlen (by decide);obtain⟨x1,h1⟩ :=got h1 hlen (by decide);obtain⟨x2,h2⟩ :=got h2 hlen (by decide);obtain⟨x3,h3⟩ :=got h3 hlen (by decide);obtain⟨f,e0⟩ :=rI Tryz.underlying95 h0;obtain⟨n,e1,hw⟩ :=DataW.trod_int Tryz.underlying3 h1;obtain⟨ks,c,e2,v2⟩ :=aOV h2;obtain⟨ps,c',e3,v3⟩ :=iF Pat.av Tryz.underlying96 aEq (by omega) h3 (fun fu _ cs x hx=>aRr fu cs x hx);cases e0;cases e1;cases e2;cases e3;have hr: -9223372036854775808≤n∧n≤9223372036854775807:=by
  have e1:IntKind.i64.min= -9223372036854775808:=by decide
  have e2:IntKind.i64.max=9223372036854775807:=by decide
  have hw:=hw.2;simp only [Lit.wf,and_eq_true,decide_eq_true_eq]at hw;omega
 refine⟨⟨⟨f,n,ks,ps⟩,hr⟩,?_⟩;simp only [Node.av,aH];refine aBj (VRs.cons (by simp only [VR]) (VRs.cons (by simp only [VR]) (VRs.cons v2 (VRs.cons v3 (VRs.nil _))))) ?_;rfl
theorem aQz (fuel:Nat)(cs:List Value)(x:DataW H×List MemPlace)(h:DataW.trod enc Tryz.prog w 0 spare held fuel 71 cs=some x) :∃p:LFun,Elt w 2 (LFun.av p) cs:=by
 obtain⟨xs,m,rfl,rfl,hl,hlen,hf⟩ :=DataW.trod_struct Tryz.underlying71 h;rw [aOF]at hl;obtain⟨c0,c1,rfl⟩ :=two hl;have h0:DataW.trod enc Tryz.prog w 0 spare held m 9 (([c0,c1].drop 0).take (Tryz.prog.cellsOf 9)) =xs[0]?:=hf 0 _ rfl;have h1:DataW.trod enc Tryz.prog w 0 spare held m 3 (([c0,c1].drop 1).take (Tryz.prog.cellsOf 3)) =xs[1]?:=hf 1 _ rfl;simp only [cells9,cells3,drop,take]at h0 h1;obtain⟨x0,h0⟩ :=got h0 hlen (by decide);obtain⟨x1,h1⟩ :=got h1 hlen (by decide);obtain⟨s,c,e0,v0⟩ :=wT Tryz.underlying9 h0;obtain⟨n,e1⟩ :=rI Tryz.underlying3 h1;cases e0;cases e1;refine⟨⟨s,n⟩,?_⟩;simp only [LFun.av];refine aBj (VRs.cons v0 (VRs.cons (by simp only [VR]) (VRs.nil _))) ?_;rfl
theorem aQA {fuel:Nat}{cs:List Value}{x:DataW H×List MemPlace}(h:DataW.trod enc Tryz.prog w 0 spare held fuel 25 cs=some x) :∃ (l:List aC) (c:Value),cs= [c] ∧VR (embOf w) (.ilst 1 (l.map aA) false) c:=
 iF aA Tryz.underlying25 cells9 (by omega) h (fun fu _ cs x hx=>by
  obtain⟨s,c,rfl,v⟩ :=wT Tryz.underlying9 hx;exact⟨s,aOc v rfl (aRp v rfl)⟩)
theorem aNS (fuel:Nat)(cs:List Value)(x:DataW H×List MemPlace)(h:DataW.trod enc Tryz.prog w 0 spare held fuel 49 cs=some x) :∃p:aYP,Elt w 5 (LUnit.av p.1) cs:=by
 obtain⟨xs,m,rfl,rfl,hl,hlen,hf⟩ :=DataW.trod_struct Tryz.underlying49 h;rw [cells49]at hl;obtain⟨c0,c1,c2,c3,c4,rfl⟩ :=bAi hl;have h0:DataW.trod enc Tryz.prog w 0 spare held m 9 (([c0,c1,c2,c3,c4].drop 0).take (Tryz.prog.cellsOf 9)) =xs[0]?:=hf 0 _ rfl;have h1:DataW.trod enc Tryz.prog w 0 spare held m 41 (([c0,c1,c2,c3,c4].drop 1).take (Tryz.prog.cellsOf 41)) =xs[1]?:=hf 1 _ rfl;have h2:DataW.trod enc Tryz.prog w 0 spare held m 47 (([c0,c1,c2,c3,c4].drop 2).take (Tryz.prog.cellsOf 47)) =xs[2]?:=hf 2 _ rfl;have h3:DataW.trod enc Tryz.prog w 0 spare held m 25 (([c0,c1,c2,c3,c4].drop 3).take (Tryz.prog.cellsOf 25)) =xs[3]?:=hf 3 _ rfl;have h4:DataW.trod enc Tryz.prog w 0 spare held m 40 (([c0,c1,c2,c3,c4].drop 4).take (Tryz.prog.cellsOf 40)) =xs[4]?:=hf 4 _ rfl;simp only [cells9,cells41,cells47,cells25,cells40,drop,take]at h0 h1 h2 h3 h4;obtain⟨x0,h0⟩ :=got h0 hlen (by decide);obtain⟨x1,h1⟩ :=got h1 hlen (by decide);obtain⟨x2,h2⟩ :=got h2 hlen (by decide);obtain⟨x3,h3⟩ :=got h3 hlen (by decide);obtain⟨x4,h4⟩ :=got h4 hlen (by decide);obtain⟨s,c,e0,v0⟩ :=wT Tryz.underlying9 h0;obtain⟨ks,ck,e1,v1⟩ :=iF Con.av Tryz.underlying41 aJD (by omega) h1 (fun fu _ cs x hx=>aRs fu cs x hx);obtain⟨fs,cf,e2,v2⟩ :=iF LFun.av Tryz.underlying47 aOF (by omega) h2 (fun fu _ cs x hx=>aQz fu cs x hx);obtain⟨nd,cn,e3,v3⟩ :=aQA h3;obtain⟨ns,cx,e4,v4⟩ :=iF (fun p:aT1=>Node.av p.1) Tryz.underlying40 aOe (by omega) h4 (fun fu _ cs x hx=>aNR fu cs x hx);cases e0;cases e1;cases e2;cases e3;cases e4;refine⟨⟨⟨s,ks,fs,nd,ns.map Subtype.val⟩,fun x hx=>?_⟩,?_⟩
 · obtain⟨p,_,rfl⟩ :=List.mem_map.1 hx;exact p.2
 · simp only [LUnit.av];rw [show ns.map (fun p:aT1=>Node.av p.1) =map Node.av (ns.map Subtype.val)by rw [map_map];rfl]at v4;refine aBj (VRs.cons v0 (VRs.cons v1 (VRs.cons v2 (VRs.cons v3 (VRs.cons v4 (VRs.nil _)))))) ?_;rfl
theorem lift_units (fuel:Nat)(cs:List Value)(x:DataW H×List MemPlace)(h:DataW.trod enc Tryz.prog w 0 spare held fuel 22 cs=some x) :∃ (l:List LUnit) (c:Value),(∀u∈l,NumU u) ∧cs= [c] ∧VR (embOf w) (.ilst 5 (map LUnit.av l) false) c:=by
 obtain⟨ys,c,e,v⟩ :=iF (fun p:aYP=>LUnit.av p.1) Tryz.underlying22 cells49 (by omega) h (fun fu _ cs x hx=>aNS fu cs x hx);refine⟨ys.map Subtype.val,c,fun u hu=>?_,e,?_⟩
 · obtain⟨p,_,rfl⟩ :=List.mem_map.1 hu;exact p.2
 ·rw [map_map];exact v
end
end
end
end Go.Hb
