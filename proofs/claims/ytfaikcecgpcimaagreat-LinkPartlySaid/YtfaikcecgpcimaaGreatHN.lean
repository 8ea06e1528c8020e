/- A machine on abstract values, its soundness, ways, plain laws. -/
import Derived.Test.YtfaikcecgpcimaaGreatHF
import Derived.Test.YtfaikcecgpcimaaGreatHG
import Derived.Test.YtfaikcecgpcimaaGreatHK
import Derived.Test.YtfaikcecgpcimaaGreatHL
import Derived.Test.YtfaikcecgpcimaaGreatHM
set_option linter.defProp false
set_option linter.unusedVariables false
set_option linter.unusedSimpArgs false
set_option linter.unusedSectionVars false
set_option maxRecDepth 100000
set_option maxHeartbeats 4000000
namespace Go.Hb
open AV (frzOk ilst int keyless keylessL)
open Bool (and_eq_true)
open Eq (mp)
open List (append_assoc append_nil drop length length_append length_cons length_map length_set map map_cons map_nil mem_cons_of_mem mem_cons_self mem_of_getElem? nil_append replicate set take zipWith)
open Pats (av)
open Go.Proofs Tryz
noncomputable section
def aRX(b:List Node)(c d:List Int)(a:List ONode)(e f:Int)(g:aC)(i:List Pat):TS:=cK PP 206 [(.ptr 0 0),(.agg [(nI e),(nI f),(aB g),(iP i)])] [oC 0 [(iN b),(.gl 1 4 0 a.length false),(iI c),(iI d)],oL 1 4 (map ONode.av a)] 2
def aDI(d:List Node)(e f:List Int)(a:List ONode)(g k:Int)(l:aC)(b:List Pat)(i j:Int)(c:List Pat):TS:=⟨(tf 206 42 [kp 0 0,kp 4 2,kp 5 3,(26,(iP b)),(27,(nI (b.length:Int))),(28,(nI j))] [kc f206 244,kl f206 244,.inBlock 0,kc f206 31]),[],[oC 0 [(iN d),(.gl 1 4 0 a.length false),(iI e),(iI f)],oL 1 4 (map ONode.av a),oC 2 [(nI 0),(nI 0),(.str 0 0),.nils],oC 3 [(nI g),(nI i),(.str 0 0),(.gl 4 4 0 c.length false)],oL 4 4 (av c)],5⟩
def aRY(b:List Node)(c d:List Int)(a:List ONode)(e:Int):TS:=cK PP 144 [(.ptr 0 0),(nI e)] [oC 0 [(iN b),(.gl 1 4 0 a.length false),(iI c),(iI d)],oL 1 4 (map ONode.av a)] 2
def uL(c:List Node)(d e:List Int)(a:List ONode)(p:Int)(f:List Pat)(g i j:Int)(k:List Int)(l:List Pat)(m n o:Int)(b:List Pat):TS:=⟨(tf 144 94 [kp 0 0,(4,(nI 0)),kp 5 1,kp 6 2,(56,(iP f)),(57,(nI g)),(58,(nI o))] [kc f144 500,kl f144 500,.inBlock 1,kc f144 63]),[],[oC 0 [(iN c),(.gl 3 4 0 a.length false),(iI d),(iI e)],oC 1 [(nI i),(nI j),(iI k),(iP l)],oC 2 [(nI m),(nI n),.nils,(.gl 4 4 0 b.length false)],oL 3 4 (map ONode.av a),oL 4 4 (av b)],5⟩
def aHi(d:List Node)(e f:List Int)(a:List ONode)(i:Int)(b:List Int)(g:Int)(c:List ONode):TS:=⟨(tf 207 39 [kp 0 0,(2,(nI (a.length:Int))),(3,(.func 144 [(.ptr 0 0)] [])),(11,(iI b)),(12,(nI g)),(13,(nI 0))] [kc f207 12,kl f207 12,.inBlock 0]),[(tf 144 94 [(4,(nI 0)),(9,(nI (a.length:Int))),kp 86 0,(88,(iI b)),(89,(nI (a.length:Int))),(91,(.func 144 [(.ptr 0 0)] []))] [ko f144 510 6,kc f144 511])],[oC 0 [(iN d),(.gl 1 4 0 c.length false),(iI e),(iI f)],oL 1 4 (map ONode.av c)],2⟩
def aRZ(d:List Node)(e f:List Int)(a:List ONode)(j g:Int)(b:List Int)(i:Int)(c:List ONode):TS:=⟨(tf 207 39 [kp 0 0,(2,(nI (a.length:Int))),(3,(.func 144 [(.ptr 0 0)] [])),(10,(nI g)),(11,(iI b)),(12,(nI i)),(13,(nI 0))] [kc f207 819,.inBlock 1,kc f207 103,kl f207 12,.inBlock 0]),[(tf 144 94 [(4,(nI 0)),(9,(nI (a.length:Int))),kp 86 0,(88,(iI b)),(89,(nI (a.length:Int))),(91,(.func 144 [(.ptr 0 0)] []))] [ko f144 510 6,kc f144 511])],[oC 0 [(iN d),(.gl 1 4 0 c.length false),(iI e),(iI f)],oL 1 4 (map ONode.av c)],2⟩
def aMW(d:List Node)(e f:List Int)(a:List ONode)(n g:Int)(b:List Int)(i:Int)(c:List ONode)(j:Nat)(k l:Int)(m:List Pat):TS:=⟨(tf 207 39 [kp 0 0,(2,(nI (a.length:Int))),(3,(.func 144 [(.ptr 0 0)] [])),(10,(nI g)),(11,(iI b)),(12,(nI i)),(13,(nI 0))] [kc f207 819,.inBlock 1,kc f207 103,kl f207 12,.inBlock 0]),[(tf 144 94 [(4,(nI 0)),(9,(nI (a.length:Int))),kp 86 0,(88,(iI b)),(89,(nI (a.length:Int))),(91,(.func 144 [(.ptr 0 0)] []))] [ko f144 510 6,kc f144 511])],[oC 0 [(iN d),(.gl 1 4 0 c.length false),(iI e),(iI f)],(1,(.lst 4 (set (map ONode.av c) j (.agg [(nI k),(nI l),(.gl 2 1 0 ([] :List Int).length false),(iP m)]))),false),oL 2 1 (jI ([] :List Int))],3⟩
def aBc(d:List Node)(e f:List Int)(a:List ONode)(l:Int)(b:List Int)(g:Int)(c:List ONode)(i:List Int)(j:Value)(k:Int):TS:=⟨(tf 207 39 [kp 0 0,(2,(nI (a.length:Int))),(3,(.func 144 [(.ptr 0 0)] [])),(11,(iI b)),(12,(nI g)),(13,(nI k))] [kc f207 12,kl f207 12,.inBlock 0]),[(tf 144 94 [(4,(nI 0)),(9,(nI (a.length:Int))),kp 86 0,(88,(iI b)),(89,(nI (a.length:Int))),(91,(.func 144 [(.ptr 0 0)] []))] [ko f144 510 6,kc f144 511])],[oC 0 [(iN d),(.gl 1 4 0 c.length false),(iI e),(iI f)],oL 1 4 (map ONode.av c),(2,(.lstv j 1 (jI i)),true)],3⟩
def aR0(d:List Node)(e f:List Int)(a:List ONode)(m g:Int)(b:List Int)(i:Int)(c:List ONode)(j:List Int)(k:Value)(l:Int):TS:=⟨(tf 207 39 [kp 0 0,(2,(nI (a.length:Int))),(3,(.func 144 [(.ptr 0 0)] [])),(10,(nI g)),(11,(iI b)),(12,(nI i)),(13,(nI l))] [kc f207 819,.inBlock 1,kc f207 103,kl f207 12,.inBlock 0]),[(tf 144 94 [(4,(nI 0)),(9,(nI (a.length:Int))),kp 86 0,(88,(iI b)),(89,(nI (a.length:Int))),(91,(.func 144 [(.ptr 0 0)] []))] [ko f144 510 6,kc f144 511])],[oC 0 [(iN d),(.gl 1 4 0 c.length false),(iI e),(iI f)],oL 1 4 (map ONode.av c),(2,(.lstv k 1 (jI j)),true)],3⟩
def aMX(e:List Node)(f g:List Int)(a:List ONode)(p i:Int)(b:List Int)(j:Int)(c:List ONode)(d:List Int)(k:Int)(l:Nat)(m n:Int)(o:List Pat):TS:=⟨(tf 207 39 [kp 0 0,(2,(nI (a.length:Int))),(3,(.func 144 [(.ptr 0 0)] [])),(10,(nI i)),(11,(iI b)),(12,(nI j)),(13,(nI k))] [kc f207 819,.inBlock 1,kc f207 103,kl f207 12,.inBlock 0]),[(tf 144 94 [(4,(nI 0)),(9,(nI (a.length:Int))),kp 86 0,(88,(iI b)),(89,(nI (a.length:Int))),(91,(.func 144 [(.ptr 0 0)] []))] [ko f144 510 6,kc f144 511])],[oC 0 [(iN e),(.gl 1 4 0 c.length false),(iI f),(iI g)],(1,(.lst 4 (set (map ONode.av c) l (.agg [(nI m),(nI n),(.gl 2 1 0 d.length false),(iP o)]))),false),oL 2 1 (jI d)],3⟩
def aR1(e:List Node)(f c:List Int)(g:List ONode)(d a:Int)(i:aC)(b:List Pat):=tT 2 (aRX e f c g d a i b)<|.b 22 15 (d==6) (.y fun j:Int=>.i [rn 1,.reg (rd 6 (.ans (.idx (aQ j))::rd 3 []))] [hA (0≤a),.a (((c)[a.toNat]?) =some j) (cH (f:=aQ))]<|gm 5 aI b<|.i [rn 4,.cnil 4 3 4] []<|gu 0 5 (av ([] :List Pat))<|gv 0 4 3 (.gl 5 4 0 ([] :List Pat).length false)<|.W 0 6 [3,4,5] (aDI e f c g d a i b j 0 ([] :List Pat)))<|gm 7 aI b<|.i [rn 4,.cnil 4 3 4] []<|gu 0 5 (av ([] :List Pat))<|gv 0 4 3 (.gl 5 4 0 ([] :List Pat).length false)<|.W 0 6 [3,4,5] (aDI e f c g d a i b a 0 ([] :List Pat))
def aVV:=fun a b c d e f g i j k l m=>aR1 a b c d e f g i|>.t k j l m ⟨(aD _ (fun _=>aN _) _),⟨dJ,trivial⟩⟩
def aVW:=fun a b c d e f g i j=>aR1 a b c d e f g i|>.f j ⟨(aD _ (fun _=>aN _) _),⟨dJ,trivial⟩⟩
def aR2(g:List Node)(i j:List Int)(b:List ONode)(k s:Int)(t:aC)(n:List Pat)(l m:Int)(a:List Pat):=tT 2 (aDI g i j b k s t n l m a)<|gd 5 29 (m< (n.length:Int)) (aGg 6 n m<|fun o p q r=>.y fun c:Int=>.y fun d:Int=>.y fun e:aC=>.y fun f:List Pat=>.i [rn 4,.reg (rd 4 [.call (.agg [(nI c),(nI d),(aB e),(iP f)]) (aE [oC 0 [(iN g),(.gl 1 4 0 b.length false),(iI i),(iI j)],oL 1 4 (map ONode.av b),oC 2 [(nI 0),(nI 0),(.str 0 0),.nils],oC 3 [(nI k),(nI l),(.str 0 0),(.gl 4 4 0 a.length false)],oL 4 4 (av a),oC 5 [(nI o),(nI p),(aB q),(iP r)]] 7),.d,.app (av (a++ [(Pat.mk c d e f)])) (a++ [(Pat.mk c d e f)]).length,.d,.d])] [hA (Spec PP (.enter 206 [(.ptr 0 0),(.agg [(nI o),(nI p),(aB q),(iP r)])]) (aE [oC 0 [(iN g),(.gl 1 4 0 b.length false),(iI i),(iI j)],oL 1 4 (map ONode.av b),oC 2 [(nI 0),(nI 0),(.str 0 0),.nils],oC 3 [(nI k),(nI l),(.str 0 0),(.gl 4 4 0 a.length false)],oL 4 4 (av a),oC 5 [(nI o),(nI p),(aB q),(iP r)]] 7) (.ret (.agg [(nI c),(nI d),(aB e),(iP f)])) (aE [oC 0 [(iN g),(.gl 1 4 0 b.length false),(iI i),(iI j)],oL 1 4 (map ONode.av b),oC 2 [(nI 0),(nI 0),(.str 0 0),.nils],oC 3 [(nI k),(nI l),(.str 0 0),(.gl 4 4 0 a.length false)],oL 4 4 (av a),oC 5 [(nI o),(nI p),(aB q),(iP r)]] 7)),hB aI a,hA (length (a++ [(Pat.mk c d e f)]) ≤1000000),hC aI a [(Pat.mk c d e f)],hE aI a [(Pat.mk c d e f)],hr (AV.gl 4 4 0 a.length false),hr (AV.gl 4 4 0 a.length false)]<|gw 3 40 (m+1)<|.W 3 8 [2,3,7] (aDI g i j b k s t n l (m+1) (a++ [(Pat.mk c d e f)])))<|gY 8 2 3 4 4 aI dJ a false<|.E 0 5 [] (.agg [(nI k),(nI l),(.str 0 0),(iP a)]) [oC 0 [(iN g),(.gl 1 4 0 b.length false),(iI i),(iI j)],oL 1 4 (map ONode.av b)] 2
def aVX:=fun a b c d e f g i j k l m n o p q r s t u v w x y z=>aR2 a b c d e f g i j k l|>.t u m n o p v w q r s t x y z ⟨(aD _ (fun _=>aN _) _),⟨dJ,trivial⟩⟩
def aVY:=fun a b c d e f g i j k l m=>aR2 a b c d e f g i j k l|>.f m ⟨(aD _ (fun _=>aN _) _),trivial⟩
def aHj(d:List Node)(e c:List Int)(g:List ONode)(f:Int):=tT 1 (aRY d e c g f)<|gX Node.av 11 d f<|fun a=>.b 22 26 (a.op==4) (gd 6 22 (a.n<0) (.y fun b:Int=>.i [rn 1,.reg (rd 7 (.ans (.idx (aQ b))::rd 4 []))] [hA (0≤ (IntKind.i64.wrap ((-1:Int) -a.n))),.a (((e)[(IntKind.i64.wrap ((-1:Int) -a.n)).toNat]?) =some b) (cH (f:=aQ))]<|gm 6 aI a.pats<|.i [rn 4,.cnil 3 3 4] []<|gu 0 4 (av ([] :List Pat))<|gv 0 3 3 (.gl 4 4 0 ([] :List Pat).length false)<|.W 0 5 [2,3,1,4] (uL d e c g f a.pats (a.pats.length:Int) a.op a.n a.kids a.pats a.op (IntKind.i64.wrap ((-1:Int) -b)) 0 ([] :List Pat)))<|.b 8 42 (a.op==14) (.y fun b:Int=>.i [rn 1,.reg (rd 6 (.ans (.idx (aQ b))::rd 3 []))] [hA (0≤a.n),.a (((c)[a.n.toNat]?) =some b) (cH (f:=aQ))]<|gm 6 aI a.pats<|.i [rn 4,.cnil 3 3 4] []<|gu 0 4 (av ([] :List Pat))<|gv 0 3 3 (.gl 4 4 0 ([] :List Pat).length false)<|.W 0 5 [2,3,1,4] (uL d e c g f a.pats (a.pats.length:Int) a.op a.n a.kids a.pats a.op b 0 ([] :List Pat)))<|gm 8 aI a.pats<|.i [rn 4,.cnil 3 3 4] []<|gu 0 4 (av ([] :List Pat))<|gv 0 3 3 (.gl 4 4 0 ([] :List Pat).length false)<|.W 0 5 [2,3,1,4] (uL d e c g f a.pats (a.pats.length:Int) a.op a.n a.kids a.pats a.op a.n 0 ([] :List Pat)))<|.b 14 42 (a.op==14) (.y fun b:Int=>.i [rn 1,.reg (rd 6 (.ans (.idx (aQ b))::rd 3 []))] [hA (0≤a.n),.a (((c)[a.n.toNat]?) =some b) (cH (f:=aQ))]<|gm 6 aI a.pats<|.i [rn 4,.cnil 3 3 4] []<|gu 0 4 (av ([] :List Pat))<|gv 0 3 3 (.gl 4 4 0 ([] :List Pat).length false)<|.W 0 5 [2,3,1,4] (uL d e c g f a.pats (a.pats.length:Int) a.op a.n a.kids a.pats a.op b 0 ([] :List Pat)))<|gm 8 aI a.pats<|.i [rn 4,.cnil 3 3 4] []<|gu 0 4 (av ([] :List Pat))<|gv 0 3 3 (.gl 4 4 0 ([] :List Pat).length false)<|.W 0 5 [2,3,1,4] (uL d e c g f a.pats (a.pats.length:Int) a.op a.n a.kids a.pats a.op a.n 0 ([] :List Pat))
def aVZ:=fun a b c d e f g i j k l m n=>aHj a b c d e f i j|>.t k|>.t l g m n ⟨(aD _ (fun _=>aN _) _),⟨dJ,trivial⟩⟩
def aV0:=fun a b c d e f g i j k l=>aHj a b c d e f g i|>.t j|>.f k|>.f l ⟨(aD _ (fun _=>aN _) _),⟨dJ,trivial⟩⟩
def aV1:=fun a b c d e f g i j k l m n=>aHj a b c d e f i j|>.f k|>.t l g m n ⟨(aD _ (fun _=>aN _) _),⟨dJ,trivial⟩⟩
def aV2:=fun a b c d e f g i j k=>aHj a b c d e f g i|>.f j|>.f k ⟨(aD _ (fun _=>aN _) _),⟨dJ,trivial⟩⟩
def aR3(k:List Node)(l m:List Int)(b:List ONode)(v:Int)(w:List Pat)(x n o:Int)(e:List Int)(p:List Pat)(c d q:Int)(a:List Pat):=tT 1 (uL k l m b v w x n o e p c d q a)<|gd 5 59 (q<x) (aGg 6 w q<|fun r s t u=>.y fun f:Int=>.y fun g:Int=>.y fun i:aC=>.y fun j:List Pat=>.i [rn 4,.reg (rd 4 [.call (.agg [(nI f),(nI g),(aB i),(iP j)]) (aE [oC 0 [(iN k),(.gl 3 4 0 b.length false),(iI l),(iI m)],oC 1 [(nI n),(nI o),(iI e),(iP p)],oC 2 [(nI c),(nI d),.nils,(.gl 4 4 0 a.length false)],oL 3 4 (map ONode.av b),oL 4 4 (av a),oC 5 [(nI r),(nI s),(aB t),(iP u)]] 7),.d,.app (av (a++ [(Pat.mk f g i j)])) (a++ [(Pat.mk f g i j)]).length,.d,.d])] [hA (Spec PP (.enter 206 [(.ptr 0 0),(.agg [(nI r),(nI s),(aB t),(iP u)])]) (aE [oC 0 [(iN k),(.gl 3 4 0 b.length false),(iI l),(iI m)],oC 1 [(nI n),(nI o),(iI e),(iP p)],oC 2 [(nI c),(nI d),.nils,(.gl 4 4 0 a.length false)],oL 3 4 (map ONode.av b),oL 4 4 (av a),oC 5 [(nI r),(nI s),(aB t),(iP u)]] 7) (.ret (.agg [(nI f),(nI g),(aB i),(iP j)])) (aE [oC 0 [(iN k),(.gl 3 4 0 b.length false),(iI l),(iI m)],oC 1 [(nI n),(nI o),(iI e),(iP p)],oC 2 [(nI c),(nI d),.nils,(.gl 4 4 0 a.length false)],oL 3 4 (map ONode.av b),oL 4 4 (av a),oC 5 [(nI r),(nI s),(aB t),(iP u)]] 7)),hB aI a,hA (length (a++ [(Pat.mk f g i j)]) ≤1000000),hC aI a [(Pat.mk f g i j)],hE aI a [(Pat.mk f g i j)],hr (AV.gl 4 4 0 a.length false),hr (AV.gl 4 4 0 a.length false)]<|gw 3 70 (q+1)<|.W 3 8 [1,2,3,7] (uL k l m b v w x n o e p c d (q+1) (a++ [(Pat.mk f g i j)])))<|gY 12 2 3 4 4 aI dJ a false<|.i [.reg (rd 7 (.app (map ONode.av (b++ [(ONode.mk c d KV.nil a)])) (b++ [(ONode.mk c d KV.nil a)]).length::rd 3 []))] [hb ONode.av b,hA (length (b++ [(ONode.mk c d KV.nil a)]) ≤1000000),hc ONode.av b [(ONode.mk c d KV.nil a)],he ONode.av b [(ONode.mk c d KV.nil a)]]<|gl 12 aQ e<|.W 4 7 [6] (aHi k l m b v e (e.length:Int) (b++ [(ONode.mk c d KV.nil a)]))
def aV3:=fun a b c d e f g i j k l m n o p q r s t u v w x y z A B C D=>aR3 a b c d e f g i j k l m n o p|>.t y q r s t z A u v w x B C D ⟨(aD _ (fun _=>aN _) _),⟨dJ,trivial⟩⟩
def aV4:=fun a b c d e f g i j k l m n o p q r=>aR3 a b c d e f g i j k l m n o p|>.f q r ⟨(aD _ (fun _=>aN _) _),trivial⟩
def aR4(d:List Node)(e f:List Int)(c:List ONode)(k:Int)(g:List Int)(i:Int)(b:List ONode):=tT 1 (aHi d e f c k g i b)<|gd 5 14 (0<i) (gX aQ 6 g 0<|fun a=>.y fun j:List Node=>gk 7 (.enter 144 [(.ptr 0 0),(nI a)]) [oC 0 [(iN d),(.gl 1 4 0 b.length false),(iI e),(iI f)],oL 1 4 (map ONode.av b)] 2 (nI (b.length:Int)) [oC 0 [(iN d),(.gl 2 4 0 (b++map Node.o j).length false),(iI e),(iI f)],oL 2 4 (map ONode.av (b++map Node.o j))] 3<|.W 2 3 [2] (aRZ d e f c k (b.length:Int) g i (b++map Node.o j)))<|.y fun a:ONode=>.i [rn 11,.lw 1 (map ONode.av (set b c.length (ONode.mk a.op a.n (KV.row []) a.pats)))] [.a (b[c.length]?=some a) (p':=(map ONode.av b) ≠ []) aGi,.a (b[c.length]?=some a∧a.kv=KV.nil) (p':=VW (map ONode.av b) (map ONode.av (set b c.length (ONode.mk a.op a.n (KV.row []) a.pats)))) fun⟨ha,hb⟩=>(aP0 ha hb)]<|.i [.cset 0 1 (.gl 1 4 0 (set b c.length (ONode.mk a.op a.n (KV.row []) a.pats)).length false)] [.q (p:=(AV.gl 1 4 0 b.length false) = (.gl 1 4 0 (set b c.length (ONode.mk a.op a.n (KV.row []) a.pats)).length false)) (bQ (length_set ..).symm)]<|.E 0 2 [1] (nI (c.length:Int)) [oC 0 [(iN d),(.gl 1 4 0 (set b c.length (ONode.mk a.op a.n (KV.row []) a.pats)).length false),(iI e),(iI f)],oL 1 4 (map ONode.av (set b c.length (ONode.mk a.op a.n (KV.row []) a.pats)))] 2
def aV5:=fun a b c d e f g i j k l m n o=>aR4 a b c d e f g i|>.t l j m n k o ⟨(aD _ (fun _=>aN _) _),trivial⟩
def aV6:=fun b c d e f g i j k l a m=>aR4 b c d e f g i j|>.f l k a ⟨a,m⟩ ⟨(aD _ (fun _=>aN _) _),trivial⟩
def aR5(f:List Node)(g i:List Int)(d:List ONode)(n:Int)(k:List Int)(l:Int)(b:List ONode)(c:List Int)(e:Value)(j:Int):=tT 1 (aBc f g i d n k l b c e j)<|gd 5 14 (j<l) (gX aQ 6 k j<|fun a=>.y fun m:List Node=>gk 7 (.enter 144 [(.ptr 0 0),(nI a)]) [oC 0 [(iN f),(.gl 1 4 0 b.length false),(iI g),(iI i)],oL 1 4 (map ONode.av b),(2,(.lstv e 1 (jI c)),true)] 3 (nI (b.length:Int)) [oC 0 [(iN f),(.gl 3 4 0 (b++map Node.o m).length false),(iI g),(iI i)],(2,(.lstv e 1 (jI c)),true),oL 3 4 (map ONode.av (b++map Node.o m))] 4<|.W 2 4 [3,2] (aR0 f g i d n (b.length:Int) k l (b++map Node.o m) c e j))<|.y fun a:ONode=>.i [rn 11,.vfrz 2 1 (map ONode.av (set b d.length (ONode.mk a.op a.n (KV.row c) a.pats)))] [.a (b[d.length]?=some a) (p':=(map ONode.av b) ≠ []) aGi,hk aQ c,.a (b[d.length]?=some a∧a.kv=KV.val e) (p':=VQ e 1 (jI c) (map ONode.av b) (map ONode.av (set b d.length (ONode.mk a.op a.n (KV.row c) a.pats)))) fun⟨ha,hb⟩=>(aP1 ha hb)]<|.i [.cset 0 1 (.gl 1 4 0 (set b d.length (ONode.mk a.op a.n (KV.row c) a.pats)).length false)] [.q (p:=(AV.gl 1 4 0 b.length false) = (.gl 1 4 0 (set b d.length (ONode.mk a.op a.n (KV.row c) a.pats)).length false)) (bQ (length_set ..).symm)]<|.E 0 3 [1] (nI (d.length:Int)) [oC 0 [(iN f),(.gl 1 4 0 (set b d.length (ONode.mk a.op a.n (KV.row c) a.pats)).length false),(iI g),(iI i)],oL 1 4 (map ONode.av (set b d.length (ONode.mk a.op a.n (KV.row c) a.pats)))] 2
def aV7:=fun a b c d e f g i j k l m n o p q r=>aR5 a b c d e f g i j k l|>.t o m p q n r ⟨(aD _ (fun _=>aN _) _),⟨kk,trivial⟩⟩
def aV8:=fun b c d e f g i j k l m n o a p=>aR5 b c d e f g i j k l m|>.f o n a ⟨a,p⟩ ⟨(aD _ (fun _=>aN _) _),trivial⟩
theorem aV9 (fr:List Node)(fs cs:List Int)(L:List ONode)(at0 n10:Int)(c1_2:List Int)(t12:Int)(l1:List ONode)(ix:Nat)(w_op w_n:Int)(w_pats:List Pat)(h0:0≤ ((L.length:Nat) :Int))(h1: ((L.length:Nat) :Int) < ((l1.length:Nat) :Int))(h2: ((L.length:Nat) :Int).toNat=ix)(h3:ix<length l1)(h4:length (([] :List Int) ++ [n10]) ≤1000000){res:Res}{h':Hp}(hk:∀ua un uc,Ends PP 1 (let u:=Value.slice ua un uc; (aBc fr fs cs L at0 c1_2 t12 (set l1 ix (ONode.mk w_op w_n (KV.val u) w_pats)) (([] :List Int) ++ [n10]) u 1)).as res h') :
  Ends PP 1 (aMW fr fs cs L at0 n10 c1_2 t12 l1 ix w_op w_n w_pats).as res h':=
 aDG (n1:=5) (t:=fun u=> (aBc fr fs cs L at0 c1_2 t12 (set l1 ix (ONode.mk w_op w_n (KV.val u) w_pats)) (([] :List Int) ++ [n10]) u 1)) (k:=1) (b:=4) (i:=ix) (o:=2) (ys:=fun u=> (map ONode.av (set l1 ix (ONode.mk w_op w_n (KV.val u) w_pats)))) (ks:=[1,4]) (ps:=fun u=>[NQ (set (map ONode.av l1) ix (.agg [(nI w_op),(nI w_n),(.gl 4 1 0 (([] :List Int) ++ [n10]).length false),(iP w_pats)])) ix 2 4 1 (jI (([] :List Int) ++ [n10])).length u (map ONode.av (set l1 ix (ONode.mk w_op w_n (KV.val u) w_pats))),0≤ ((L.length:Nat) :Int),((L.length:Nat) :Int) < ((l1.length:Nat) :Int),(set (map ONode.av l1) ix (.agg [(nI w_op),(nI w_n),(.gl 2 1 0 ([] :List Int).length false),(iP w_pats)]))[(0+ ((L.length:Nat) :Int).toNat)]?=some (.agg [(nI w_op),(nI w_n),(.gl 2 1 0 ([] :List Int).length false),(iP w_pats)]),0+ ([] :List Int).length≤length (jI ([] :List Int)),length (([] :List Int) ++ [n10]) ≤1000000,take ([] :List Int).length (drop 0 (jI ([] :List Int))) ++ (jI [n10]) = (jI (([] :List Int) ++ [n10])),([] :List Int).length+length (jI [n10]) =length (([] :List Int) ++ [n10]),0≤ ((L.length:Nat) :Int),((L.length:Nat) :Int) < ((l1.length:Nat) :Int),(set (map ONode.av l1) ix (.agg [(nI w_op),(nI w_n),(.gl 2 1 0 ([] :List Int).length false),(iP w_pats)]))[(0+ ((L.length:Nat) :Int).toNat)]?=some (.agg [(nI w_op),(nI w_n),(.gl 2 1 0 ([] :List Int).length false),(iP w_pats)]),mV (.agg [(nI w_op),(nI w_n),(.gl 2 1 0 ([] :List Int).length false),(iP w_pats)]) 2 [(.gl 4 1 0 (([] :List Int) ++ [n10]).length false)] =some (.agg [(nI w_op),(nI w_n),(.gl 4 1 0 (([] :List Int) ++ [n10]).length false),(iP w_pats)]),(AV.gl 1 4 0 l1.length false) = (AV.gl 1 4 0 l1.length false),(AV.gl 1 4 0 l1.length false) = (AV.gl 1 4 0 l1.length false),(set (map ONode.av l1) ix (.agg [(nI w_op),(nI w_n),(.gl 2 1 0 ([] :List Int).length false),(iP w_pats)])).set (0+ ((L.length:Nat) :Int).toNat) (.agg [(nI w_op),(nI w_n),(.gl 4 1 0 (([] :List Int) ++ [n10]).length false),(iP w_pats)]) = (set (map ONode.av l1) ix (.agg [(nI w_op),(nI w_n),(.gl 4 1 0 (([] :List Int) ++ [n10]).length false),(iP w_pats)])),(AV.gl 1 4 0 l1.length false) = (.gl 1 4 0 (set l1 ix (ONode.mk w_op w_n (KV.val u) w_pats)).length false),(AV.gl 1 4 0 l1.length false) = (.gl 1 4 0 (set l1 ix (ONode.mk w_op w_n (KV.val u) w_pats)).length false),(AV.gl 1 4 0 l1.length false) = (.gl 1 4 0 (set l1 ix (ONode.mk w_op w_n (KV.val u) w_pats)).length false)]) (is:=[.reg [.d,.d,.d,.d,.d,.d,.d,.d,.d,.d,.ans (.ix),.d,.ans (.idx (.agg [(nI w_op),(nI w_n),(.gl 2 1 0 ([] :List Int).length false),(iP w_pats)])),.d,.d,.app (jI (([] :List Int) ++ [n10])) (([] :List Int) ++ [n10]).length,.ans (.ix),.d,.st (.agg [(nI w_op),(nI w_n),(.gl 2 1 0 ([] :List Int).length false),(iP w_pats)]) (.agg [(nI w_op),(nI w_n),(.gl 4 1 0 (([] :List Int) ++ [n10]).length false),(iP w_pats)])],.lset 1 (set (map ONode.av l1) ix (.agg [(nI w_op),(nI w_n),(.gl 4 1 0 (([] :List Int) ++ [n10]).length false),(iP w_pats)])),.run 1]) (is2:=fun u=>[.set 23 (.gl 1 4 0 (set l1 ix (ONode.mk w_op w_n (KV.val u) w_pats)).length false),.set 28 (.gl 1 4 0 (set l1 ix (ONode.mk w_op w_n (KV.val u) w_pats)).length false),.cset 0 1 (.gl 1 4 0 (set l1 ix (ONode.mk w_op w_n (KV.val u) w_pats)).length false),.run 5]) (fun u=>by kernel_rfl) (fun u=>by kernel_rfl) (fun u=> ⟨(aD _ (fun _=>aN _) _),⟨(aD _ (fun _=>rfl) _),trivial⟩⟩) (fun u=> ⟨(aYs [(nI w_op),(nI w_n)] [(iP w_pats)] h3 (length_map ..) (by simp) rfl),h0,h1,(aHg h2 h3),(aGb _ _),h4,(aGc _ _ _),(aGd _ _ _),h0,h1,(aHg h2 h3),rfl,rfl,rfl,(aRV h2),(bQ (length_set ..).symm),(bQ (length_set ..).symm),(bQ (length_set ..).symm)⟩) hk
theorem aWa (fr:List Node)(fs cs:List Int)(L:List ONode)(at0 n10:Int)(c1_2:List Int)(t12:Int)(l1:List ONode)(k2:List Int)(t13:Int)(ix:Nat)(w_op w_n:Int)(w_pats:List Pat)(h0:0≤ ((L.length:Nat) :Int))(h1: ((L.length:Nat) :Int) < ((l1.length:Nat) :Int))(h2: ((L.length:Nat) :Int).toNat=ix)(h3:ix<length l1)(h4:length (k2++ [n10]) ≤1000000)(h5: (IntKind.i64.wrap (t13+ (1:Int))) = (t13+ (1:Int))){res:Res}{h':Hp}(hk:∀ua un uc,Ends PP 1 (let u:=Value.slice ua un uc; (aBc fr fs cs L at0 c1_2 t12 (set l1 ix (ONode.mk w_op w_n (KV.val u) w_pats)) (k2++ [n10]) u (t13+ (1:Int)))).as res h') :
  Ends PP 1 (aMX fr fs cs L at0 n10 c1_2 t12 l1 k2 t13 ix w_op w_n w_pats).as res h':=
 aDG (n1:=5) (t:=fun u=> (aBc fr fs cs L at0 c1_2 t12 (set l1 ix (ONode.mk w_op w_n (KV.val u) w_pats)) (k2++ [n10]) u (t13+ (1:Int)))) (k:=1) (b:=4) (i:=ix) (o:=2) (ys:=fun u=> (map ONode.av (set l1 ix (ONode.mk w_op w_n (KV.val u) w_pats)))) (ks:=[1,4]) (ps:=fun u=>[NQ (set (map ONode.av l1) ix (.agg [(nI w_op),(nI w_n),(.gl 4 1 0 (k2++ [n10]).length false),(iP w_pats)])) ix 2 4 1 (jI (k2++ [n10])).length u (map ONode.av (set l1 ix (ONode.mk w_op w_n (KV.val u) w_pats))),0≤ ((L.length:Nat) :Int),((L.length:Nat) :Int) < ((l1.length:Nat) :Int),(set (map ONode.av l1) ix (.agg [(nI w_op),(nI w_n),(.gl 2 1 0 k2.length false),(iP w_pats)]))[(0+ ((L.length:Nat) :Int).toNat)]?=some (.agg [(nI w_op),(nI w_n),(.gl 2 1 0 k2.length false),(iP w_pats)]),0+k2.length≤length (jI k2),length (k2++ [n10]) ≤1000000,take k2.length (drop 0 (jI k2)) ++ (jI [n10]) = (jI (k2++ [n10])),k2.length+length (jI [n10]) =length (k2++ [n10]),0≤ ((L.length:Nat) :Int),((L.length:Nat) :Int) < ((l1.length:Nat) :Int),(set (map ONode.av l1) ix (.agg [(nI w_op),(nI w_n),(.gl 2 1 0 k2.length false),(iP w_pats)]))[(0+ ((L.length:Nat) :Int).toNat)]?=some (.agg [(nI w_op),(nI w_n),(.gl 2 1 0 k2.length false),(iP w_pats)]),mV (.agg [(nI w_op),(nI w_n),(.gl 2 1 0 k2.length false),(iP w_pats)]) 2 [(.gl 4 1 0 (k2++ [n10]).length false)] =some (.agg [(nI w_op),(nI w_n),(.gl 4 1 0 (k2++ [n10]).length false),(iP w_pats)]),(AV.gl 1 4 0 l1.length false) = (AV.gl 1 4 0 l1.length false),(AV.gl 1 4 0 l1.length false) = (AV.gl 1 4 0 l1.length false),(set (map ONode.av l1) ix (.agg [(nI w_op),(nI w_n),(.gl 2 1 0 k2.length false),(iP w_pats)])).set (0+ ((L.length:Nat) :Int).toNat) (.agg [(nI w_op),(nI w_n),(.gl 4 1 0 (k2++ [n10]).length false),(iP w_pats)]) = (set (map ONode.av l1) ix (.agg [(nI w_op),(nI w_n),(.gl 4 1 0 (k2++ [n10]).length false),(iP w_pats)])),(AV.gl 1 4 0 l1.length false) = (.gl 1 4 0 (set l1 ix (ONode.mk w_op w_n (KV.val u) w_pats)).length false),(AV.gl 1 4 0 l1.length false) = (.gl 1 4 0 (set l1 ix (ONode.mk w_op w_n (KV.val u) w_pats)).length false),(AV.gl 1 4 0 l1.length false) = (.gl 1 4 0 (set l1 ix (ONode.mk w_op w_n (KV.val u) w_pats)).length false),(nI (IntKind.i64.wrap (t13+ (1:Int)))) = (nI (t13+ (1:Int)))]) (is:=[.reg [.d,.d,.d,.d,.d,.d,.d,.d,.d,.d,.ans (.ix),.d,.ans (.idx (.agg [(nI w_op),(nI w_n),(.gl 2 1 0 k2.length false),(iP w_pats)])),.d,.d,.app (jI (k2++ [n10])) (k2++ [n10]).length,.ans (.ix),.d,.st (.agg [(nI w_op),(nI w_n),(.gl 2 1 0 k2.length false),(iP w_pats)]) (.agg [(nI w_op),(nI w_n),(.gl 4 1 0 (k2++ [n10]).length false),(iP w_pats)])],.lset 1 (set (map ONode.av l1) ix (.agg [(nI w_op),(nI w_n),(.gl 4 1 0 (k2++ [n10]).length false),(iP w_pats)])),.run 1]) (is2:=fun u=>[.set 23 (.gl 1 4 0 (set l1 ix (ONode.mk w_op w_n (KV.val u) w_pats)).length false),.set 28 (.gl 1 4 0 (set l1 ix (ONode.mk w_op w_n (KV.val u) w_pats)).length false),.cset 0 1 (.gl 1 4 0 (set l1 ix (ONode.mk w_op w_n (KV.val u) w_pats)).length false),.run 2,.set 38 (nI (t13+ (1:Int))),.run 3]) (fun u=>by kernel_rfl) (fun u=>by kernel_rfl) (fun u=> ⟨(aD _ (fun _=>aN _) _),⟨(aD _ (fun _=>rfl) _),trivial⟩⟩) (fun u=> ⟨(aYs [(nI w_op),(nI w_n)] [(iP w_pats)] h3 (length_map ..) (by simp) rfl),h0,h1,(aHg h2 h3),(aGb _ _),h4,(aGc _ _ _),(aGd _ _ _),h0,h1,(aHg h2 h3),rfl,rfl,rfl,(aRV h2),(bQ (length_set ..).symm),(bQ (length_set ..).symm),(bQ (length_set ..).symm),(congrArg (int .i64) h5)⟩) hk
abbrev MC (fr:List Node)(fs cs:List Int)(b n:Nat) :AObj:=.cells (putCells .leaf 0 [.ilst 4 (map Node.av fr) false,.gl b 4 0 n false,.ilst 1 (map aQ fs) false,.ilst 1 (map aQ cs) false]) 4 [] false
abbrev MHp (fr:List Node)(fs cs:List Int)(L:List ONode) :List (Nat×AObj×Bool) :=[(0,MC fr fs cs 1 (length L),false),(1,OL L,true)]
abbrev PtC (f n:Int)(s:aC)(ps:List Pat) :AObj:=.cells (putCells .leaf 0 [.int .i64 f,.int .i64 n,aB s,.ilst 4 (av ps) false]) 4 [] false
abbrev aZ0 (f v:Int)(b n:Nat) :AObj:=.cells (putCells .leaf 0 [.int .i64 f,.int .i64 v,.str 0 0,.gl b 4 0 n false]) 4 [] false
abbrev XC (o v:Int)(b n:Nat) :AObj:=.cells (putCells .leaf 0 [.int .i64 o,.int .i64 v,.nils,.gl b 4 0 n false]) 4 [] false
abbrev ZPt :AObj:=.cells (putCells .leaf 0 [.int .i64 0,.int .i64 0,.str 0 0,.nils]) 4 [] false
def MPS (fr:List Node)(fs cs:List Int)(L:List ONode)(p:Pat) :Prop:=∀p',aLU p=true→aGG cs p=some p'→Spec PP (.enter 206 [.ptr 0 0,Pat.av p]) (aE (MHp fr fs cs L) 2) (.ret (Pat.av p')) (aE (MHp fr fs cs L) 2)
section
variable (fr :List Node) (fs cs:List Int) (L:List ONode)
theorem aJM (f n:Int)(s:aC)(ps:List Pat)(v:Int)(hpl:ps.length<1000000)(ih:∀p∈ps,MPS fr fs cs L p) :∀ (t:List Pat) (i:Nat) (acc t':List Pat),ps.drop i=t→acc.length=i→gR t=true→jS cs t=some t' →
  Ends PP 2 (aDI fr fs cs L f n s ps v (i:Int) acc).as (.ret (.agg [.int .i64 f,.int .i64 v,.str 0 0,.ilst 4 (av (acc++t')) false])) (aE (MHp fr fs cs L) 2)
 | [],i,acc,t',h,ha,hn,ht=>by
  have:=aT h;cases ht;rw [append_nil];exact aVY fr fs cs L f n s ps v i acc sd
 | .mk f1 n1 s1 ps1::t,i,acc,t',h,ha,hn,ht=>by
  obtain⟨g1,g2,g3⟩ :=aR h;have hi:= (List.getElem?_eq_some_iff.1 g1).1;rw [gR,and_eq_true]at hn;simp only [jS]at ht;split at ht
  · rename_i p' hp';split at ht
    · rename_i t1 ht1;cases ht;obtain⟨f2,n2,s2,ps2⟩ :=p';have hs:=ih (.mk f1 n1 s1 ps1) (mem_of_getElem? g1) _ hn.1 hp'
      have hs':=aCT (ks:=[0,1]) (n2:=7) (args':=[.ptr 0 0,Pat.av (.mk f1 n1 s1 ps1)])
       (lc:=[(0,MC fr fs cs 1 (length L),false),(1,OL L,true),(2,ZPt,false),(3,aZ0 f v 4 (length acc),false),(4,.lst 4 (av acc),true),(5,PtC f1 n1 s1 ps1,false)])
       (lc':=[(0,MC fr fs cs 1 (length L),false),(1,OL L,true),(2,ZPt,false),(3,aZ0 f v 4 (length acc),false),(4,.lst 4 (av acc),true),(5,PtC f1 n1 s1 ps1,false)])
       hs (by kernel_rfl) (aYu _) (by kernel_rfl) (by kernel_rfl) ⟨nK L,trivial⟩ (by kernel_rfl) ⟨nK L,trivial⟩
      refine(aVX fr fs cs L f n s ps v i acc f1 n1 s1 ps1 f2 n2 s2 ps2 sd sd sd hs' (by simp;omega) sd).ends ?_;have:=aJM f n s ps v hpl ih t (i+1) (acc++ [.mk f2 n2 s2 ps2]) t1 g2 (by simp [ha]) hn.2 ht1;rw [append_assoc]at this;exact this
    ·cases ht
  ·cases ht
mutual
theorem aR6 :∀ (p:Pat),cL p<1000000→MPS fr fs cs L p
 | .mk f n s ps,h,p',hn,hp'=>by
  simp only [cL]at h;have:=eP ps;refine⟨(aRX fr fs cs L f n s ps).as.fr,by kernel_rfl,?_⟩;rw [aLU,and_eq_true,decide_eq_true_eq]at hn;simp only [aGG]at hp';split at hp'
  · rename_i n' hn';split at hp'
    · rename_i ps' hps';cases hp';have hloop:=aJM fr fs cs L f n s ps n' (by omega) (aHk ps (by omega)) ps 0 [] ps' rfl rfl hn.2 hps';rw [nil_append]at hloop;have E:Ends PP 2 (aRX fr fs cs L f n s ps).as (.ret (Pat.av (.mk f n' s ps'))) (aE (MHp fr fs cs L) 2) :=by
       rw [hn.1]at hloop ⊢;unfold aDk at hn';split at hn'
       · rename_i hf;split at hn'
         · rename_i h0;exact(aVV fr fs cs L f n [] ps n' (by simp [hf]) h0 hn').ends hloop
         ·cases hn'
       · rename_i hf;cases hn';exact(aVW fr fs cs L f n [] ps (by simp [hf])).ends hloop
      exact mp (by kernel_rfl) E
    ·cases hp'
  ·cases hp'
theorem aHk :∀ (ps:List Pat),bC ps<1000000→∀p∈ps,MPS fr fs cs L p
 | [],_,p,hp=>by cases hp
 | q::ps,h,p,hp=>by
  simp only [bC]at h;rcases List.mem_cons.1 hp with e|hp
  ·rw [e];exact aR6 q (by omega)
  ·exact aHk ps (by omega) p hp
end
end
def MNS (p:Prog)(fs cs:List Int)(at0:Int)(L:List ONode)(ns:List Node) :Prop:=
 aEK PP 1 (.enter 144 [.ptr 0 0,.int .i64 at0]) (aE (MHp p.nodes fs cs L) 2) (.ret (.int .i64 ((length L:Nat) :Int))) (aE (MHp p.nodes fs cs (L++map Node.o ns)) 2)
def aR7 (p:Prog)(fs cs:List Int)(L:List ONode)(s:TS)(ns:List Node) :Prop:=Ends PP 1 s.as (.ret (.int .i64 ((length L:Nat) :Int))) (aE (MHp p.nodes fs cs (L++map Node.o ns)) 2)
section
variable (p :Prog) (fs cs:List Int) (L:List ONode) (at0:Int)
theorem aJN (x:Node)(v:Int)(hps:bC x.pats<1000000)(hl:L.length<1000000) :∀ (t:List Pat) (i:Nat) (acc t':List Pat),x.pats.drop i=t→acc.length=i→gR t=true→jS cs t=some t' →
  LeadsM PP 1 (uL p.nodes fs cs L at0 x.pats ((length x.pats:Nat) :Int) x.op x.n x.kids x.pats x.op v (i:Int) acc).as (aHi p.nodes fs cs L at0 x.kids ((length x.kids:Nat) :Int) (L++ [⟨x.op,v,.nil,acc++t'⟩])).as
 | [],i,acc,t',h,ha,hn,ht=>by
  have:=aT h;cases ht;rw [append_nil];exact aV4 p.nodes fs cs L at0 x.pats _ x.op x.n x.kids x.pats x.op v i acc sd (by simp;omega)
 | .mk f1 n1 s1 ps1::t,i,acc,t',h,ha,hn,ht=>by
  obtain⟨g1,g2,g3⟩ :=aR h;have hi:= (List.getElem?_eq_some_iff.1 g1).1;have:=eP x.pats;rw [gR,and_eq_true]at hn;simp only [jS]at ht;split at ht
  · rename_i p' hp';split at ht
    · rename_i t1 ht1;cases ht;obtain⟨f2,n2,s2,ps2⟩ :=p';have hs:=aHk p.nodes fs cs L x.pats hps (.mk f1 n1 s1 ps1) (mem_of_getElem? g1) _ hn.1 hp'
      have hs':=aCT (ks:=[0,3]) (n2:=7) (args':=[.ptr 0 0,Pat.av (.mk f1 n1 s1 ps1)])
       (lc:=[(0,MC p.nodes fs cs 3 (length L),false),(1,aFf x,false),(2,XC x.op v 4 (length acc),false),(3,OL L,true),(4,.lst 4 (av acc),true),(5,PtC f1 n1 s1 ps1,false)])
       (lc':=[(0,MC p.nodes fs cs 3 (length L),false),(1,aFf x,false),(2,XC x.op v 4 (length acc),false),(3,OL L,true),(4,.lst 4 (av acc),true),(5,PtC f1 n1 s1 ps1,false)])
       hs (by kernel_rfl) (aYu _) (by kernel_rfl) (by kernel_rfl) ⟨nK L,trivial⟩ (by kernel_rfl) ⟨nK L,trivial⟩
      have h1:=aV3 p.nodes fs cs L at0 x.pats ((length x.pats:Nat) :Int) x.op x.n x.kids x.pats x.op v i acc f1 n1 s1 ps1 f2 n2 s2 ps2 sd sd sd hs' (by simp;omega) sd;have:=aJN x v hps hl t (i+1) (acc++ [.mk f2 n2 s2 ps2]) t1 g2 (by simp [ha]) hn.2 ht1;rw [append_assoc]at this;exact h1.trans this
    ·cases ht
  ·cases ht
theorem aOV (n10:Int)(ks:List Int)(t12:Int)(l:List ONode){ix:Nat}{a b:Int}{P:List Pat}(h:l[ix]?=some ⟨a,b,.nil,P⟩) :LeadsM PP 1 (aRZ p.nodes fs cs L at0 n10 ks t12 l).as (aMW p.nodes fs cs L at0 n10 ks t12 l ix a b P).as:=
 aZi (k:=1) (e0:=4) (e:=1) (by kernel_rfl) (by kernel_rfl) (aYt (f:=ONode.av) [.int .i64 a,.int .i64 b] [.ilst 4 (av P) false] h rfl) (by kernel_rfl)
theorem aOW (n10:Int)(ks:List Int)(t12:Int)(l:List ONode)(k2:List Int)(w:Value)(i:Int){ix:Nat}{a b:Int}{P:List Pat}(h:l[ix]?=some ⟨a,b,.val w,P⟩) :LeadsM PP 1 (aR0 p.nodes fs cs L at0 n10 ks t12 l k2 w i).as (aMX p.nodes fs cs L at0 n10 ks t12 l k2 i ix a b P).as:=
 aVT (k:=1) (b:=2) (e0:=4) (e:=1) (u:=w) (xs:=map aQ k2) (n:=length k2) (by kernel_rfl) (by kernel_rfl) (by decide) (length_map ..) (aYt (f:=ONode.av) [.int .i64 a,.int .i64 b] [.ilst 4 (av P) false] h rfl) (by kernel_rfl)
variable (k :Nat) (ih:∀ (M:List ONode) (c:Int) (ns:List Node),eQ p fs cs k M.length c=some ns→MNS p fs cs c M ns) (x:Node) (v:Int) (P:List Pat) (hk:x.kids.length<1000000)
include ih hk
theorem aJO :∀ (ts:List Int) (i:Nat) (w:Value) (r0:List Node) (k2 ks:List Int) (r:List Node),x.kids.drop i=ts→k2.length=i→iR (eQ p fs cs k) (L.length+1+r0.length) ts=some (ks,r) →
  aR7 p fs cs L (aBc p.nodes fs cs L at0 x.kids ((length x.kids:Nat) :Int) (L++ ⟨x.op,v,.val w,P⟩ ::map Node.o r0) k2 w (i:Int)) (⟨x.op,v,k2++ks,P⟩ :: (r0++r))
 | [],i,w,r0,k2,ks,r,h,hl,hm=>by
  have:=aT h;cases hm;have h1:=aV8 p.nodes fs cs L at0 x.kids ((length x.kids:Nat) :Int) (L++ ⟨x.op,v,.val w,P⟩ ::map Node.o r0) k2 w i ⟨x.op,v,.val w,P⟩ sd (oW ..) rfl;rw [oY]at h1;rw [append_nil,append_nil];exact h1
 | c :: ts,i,w,r0,k2,ks,r,h,hl,hm=>by
  obtain⟨g1,g2,g3⟩ :=aR h;have hi:= (List.getElem?_eq_some_iff.1 g1).1;simp only [iR]at hm;split at hm
  · rename_i ns hns;split at hm
    · rename_i ks1 r1 hm1;cases hm;have hlen: (L++ (⟨x.op,v,.val w,P⟩ :ONode) ::map Node.o r0).length=L.length+1+r0.length:=by simp;omega
      have hs:=ih (L++ ⟨x.op,v,.val w,P⟩ ::map Node.o r0) c ns (by rw [hlen];exact hns);unfold MNS at hs
      have hs':=lT (m:=1) (ks:=[0,1]) (n2:=3) (n3:=4) (v':=.int .i64 ((length (L++ (⟨x.op,v,.val w,P⟩ :ONode) ::map Node.o r0) :Nat) :Int)) (args':=[.ptr 0 0,.int .i64 c])
       (lc:=[(0,MC p.nodes fs cs 1 (length (L++ (⟨x.op,v,.val w,P⟩ :ONode) ::map Node.o r0)),false),(1,OL (L++ ⟨x.op,v,.val w,P⟩ ::map Node.o r0),true),(2,.lstv w 1 (map aQ k2),true)])
       (lc':=[(0,MC p.nodes fs cs 3 (length ((L++ (⟨x.op,v,.val w,P⟩ :ONode) ::map Node.o r0) ++map Node.o ns)),false),(2,.lstv w 1 (map aQ k2),true),(3,OL ((L++ ⟨x.op,v,.val w,P⟩ ::map Node.o r0) ++map Node.o ns),true)])
       hs (by rfl) (by rfl) (by kernel_rfl) (by rfl) (by rfl) (by kernel_rfl) (by kernel_rfl) ⟨nK _,trivial⟩ (by kernel_rfl) ⟨nK _,trivial⟩
      have h0:=aV7 p.nodes fs cs L at0 x.kids ((length x.kids:Nat) :Int) (L++ ⟨x.op,v,.val w,P⟩ ::map Node.o r0) k2 w i c ns sd sd sd hs';have e2: (L++ (⟨x.op,v,.val w,P⟩ :ONode) ::map Node.o r0) ++map Node.o ns=L++ ⟨x.op,v,.val w,P⟩ ::map Node.o (r0++ns) :=by simp
      rw [e2,hlen]at h0;refine(h0.trans (aOW p fs cs L at0 _ _ _ _ k2 w i (oW L _ _))).ends ?_;refine aWa p.nodes fs cs L at0 _ x.kids _ _ k2 i (length L) x.op v P (by omega) (by simp;omega) (by omega) (by simp) (by simp;omega) sd (fun ua un uc=>?_);have:=aJO ts (i+1) (.slice ua un uc) (r0++ns) (k2++ [((L.length+1+r0.length:Nat) :Int)]) ks1 r1 g2 (by simp [hl]) (by rw [length_append,←Nat.add_assoc];exact hm1);dsimp only;rw [oY];simp only [append_assoc,List.singleton_append]at this ⊢;exact this
    ·cases hm
  ·cases hm
theorem aR8 (ks:List Int)(r:List Node)(hm:iR (eQ p fs cs k) (L.length+1) x.kids=some (ks,r)) :
  aR7 p fs cs L (aHi p.nodes fs cs L at0 x.kids ((length x.kids:Nat) :Int) (L++ [⟨x.op,v,.nil,P⟩])) (⟨x.op,v,ks,P⟩ ::r) :=by
 cases hx:x.kids with
 | nil=>
  rw [hx]at hm;cases hm;have h1:=aV6 p.nodes fs cs L at0 [] ((length ([] :List Int) :Nat) :Int) (L++ [⟨x.op,v,.nil,P⟩]) ⟨x.op,v,.nil,P⟩ (by simp) (oW ..) rfl;rw [oY]at h1;exact h1
 | cons c ts=>
  have hm0:=hm;rw [hx]at hm;simp only [iR]at hm;split at hm
  · rename_i ns hns;split at hm
    · rename_i ks1 r1 hm1;cases hm;have hlen: (L++ [(⟨x.op,v,.nil,P⟩ :ONode)]).length=L.length+1:=by simp
      have hs:=ih (L++ [⟨x.op,v,.nil,P⟩]) c ns (by rw [hlen];exact hns);unfold MNS at hs
      have hs':=lT (m:=1) (ks:=[0,1]) (n2:=2) (n3:=3) (v':=.int .i64 ((length (L++ [(⟨x.op,v,.nil,P⟩ :ONode)]) :Nat) :Int)) (args':=[.ptr 0 0,.int .i64 c])
       (lc:=[(0,MC p.nodes fs cs 1 (length (L++ [(⟨x.op,v,.nil,P⟩ :ONode)])),false),(1,OL (L++ [⟨x.op,v,.nil,P⟩]),true)])
       (lc':=[(0,MC p.nodes fs cs 2 (length ((L++ [(⟨x.op,v,.nil,P⟩ :ONode)]) ++map Node.o ns)),false),(2,OL ((L++ [⟨x.op,v,.nil,P⟩]) ++map Node.o ns),true)])
       hs (by rfl) (by rfl) (by kernel_rfl) (by rfl) (by rfl) (by kernel_rfl) (by kernel_rfl) ⟨nK _,trivial⟩ (by kernel_rfl) ⟨nK _,trivial⟩
      have h0:=aV5 p.nodes fs cs L at0 x.kids ((length x.kids:Nat) :Int) (L++ [(⟨x.op,v,.nil,P⟩ :ONode)]) c ns (by rw [hx];simp) (by omega) (by rw [hx];rfl) hs';have e2: (L++ [(⟨x.op,v,.nil,P⟩ :ONode)]) ++map Node.o ns=L++ ⟨x.op,v,.nil,P⟩ ::map Node.o ns:=by simp
      rw [e2,hlen]at h0;rw [hx]at h0;refine(h0.trans (aOV p fs cs L at0 _ _ _ _ (oW L _ _))).ends ?_;refine aV9 p.nodes fs cs L at0 _ (c::ts) _ _ (length L) x.op v P (by omega) (by simp;omega) (by omega) (by simp) (by simp) (fun ua un uc=>?_);have:=aJO p fs cs L at0 k ih x v P hk ts 1 (.slice ua un uc) ns [((L.length+1:Nat) :Int)] ks1 r1 (by rw [hx];rfl) rfl hm1;rw [hx]at this;dsimp only;rw [oY];exact this
    ·cases hm
  ·cases hm
end
theorem mNd_spec (p :Prog)(fs cs:List Int)(hT:∀x∈p.nodes,gR x.pats=true) :∀ (k:Nat) (L:List ONode) (at0:Int) (ns:List Node),eQ p fs cs k L.length at0=some ns→MNS p fs cs at0 L ns
 |0,L,at0,ns,h=>by cases h
 | k+1, L, at0, ns, h=>by
  simp only [eQ]at h;split at h
  · rename_i hh;obtain⟨hat,hlen⟩ :=hh;split at h
    · rename_i y hy;split at h
      · rename_i hb;split at h
        · rename_i n' hn';split at h
          · rename_i ps' hps';split at h
            · rename_i ks r hks;cases h;have hC:= (aJN p fs cs L at0 y n' hb.2 hlen y.pats 0 [] ps' rfl rfl (hT y (mem_of_getElem? hy)) hps').ends (aR8 p fs cs L at0 k (mNd_spec p fs cs hT k) y n' ps' hb.1 ks r hks)
              suffices hh:aR7 p fs cs L (aRY p.nodes fs cs L at0) (⟨y.op,n',ks,ps'⟩ ::r)from⟨(aRY p.nodes fs cs L at0).as.fr,by kernel_rfl,mp (by kernel_rfl) hh⟩
              unfold mN at hn';split at hn'
              · rename_i h4;split at hn'
                · rename_i g hg;split at hn'
                  · rename_i hr;cases hn';have w1:IntKind.i64.wrap (-1-y.n) = -1-y.n:=aGI (by omega) (by omega);have w2:IntKind.i64.wrap (-1-g) = -1-g:=aGI (by omega) (by omega);have h0:=aVZ p.nodes fs cs L at0 y g hat hy (by simp [h4.1]) (by simp [h4.2]) (by rw [w1];omega) (by rw [w1];exact hg);rw [w2]at h0;exact h0.ends hC
                  ·cases hn'
                ·cases hn'
              · rename_i h4;split at hn'
                · rename_i h14;split at hn'
                  · rename_i h0;exact(aV1 p.nodes fs cs L at0 y n' hat hy (by simp [h14]) (by simp [h14]) h0 hn').ends hC
                  ·cases hn'
                · rename_i h14;cases hn';by_cases ho:y.op=4
                  ·exact(aV0 p.nodes fs cs L at0 y hat hy (by simp [ho]) (by simp;omega) (by simp [ho])).ends hC
                  ·exact(aV2 p.nodes fs cs L at0 y hat hy (by simp [ho]) (by simp [h14])).ends hC
            ·cases h
          ·cases h
        ·cases h
      ·cases h
    ·cases h
  ·cases h
def aR9(a:aC)(b:List Con)(c:List aC)(d:List LUnit):TS:=cK PP 81 [(.agg [(aB a),(iC b),.nils,(iS c),.nils]),(.ilst 5 (map LUnit.av d) false)] [] 0
def aAq(c:aC)(d:List Con)(e:List aC)(f:List LUnit)(g:List aC)(i:Int)(a:List LFun)(b:List ONode):TS:=⟨(tf 81 115 [(1,(.ilst 5 (map LUnit.av f) false)),kp 2 0,kp 4 1,(5,(iS g)),(6,(nI i))] [kc f81 116,kl f81 116,.inBlock 0,kc f81 15]),[],[oC 0 [(aB c),(iC d),(.gl 2 2 0 a.length false),(iS e),(.gl 3 4 0 b.length false)],oC 1 [(.str 0 0),.nils,.nils,.nils,.nils],oL 2 2 (map LFun.av a),oL 3 4 (map ONode.av b)],4⟩
def aAr(e:aC)(f:List Con)(g:List aC)(i:List LUnit)(j:List aC)(k:aC)(l:List Con)(m:List LFun)(n:List aC)(o:List Node)(a:List aC)(p:Int)(b:List Int)(q:Int)(c:List LFun)(d:List ONode):TS:=⟨(tf 81 115 [(1,(.ilst 5 (map LUnit.av i) false)),kp 2 0,kp 4 1,(5,(iS j)),(6,(nI q)),kp 7 2,(8,(.gl 3 1 0 b.length false)),(9,.nils),(10,(.gl 4 1 0 a.length false)),(11,(nI p))] [kc f81 119412,kl f81 119412,.inBlock 2,kc f81 14927,.inBlock 1,kc f81 467,kl f81 116,.inBlock 0,kc f81 15]),[],[oC 0 [(aB e),(iC f),(.gl 5 2 0 c.length false),(iS g),(.gl 6 4 0 d.length false)],oC 1 [(.str 0 0),.nils,.nils,.nils,.nils],oC 2 [(aB k),(iC l),(.ilst 2 (map LFun.av m) false),(iS n),(iN o)],oL 3 1 (jI b),oL 4 1 (map aB a),oL 5 2 (map LFun.av c),oL 6 4 (map ONode.av d)],7⟩
def aAs(e:aC)(f:List Con)(g:List aC)(i:List LUnit)(j:List aC)(k:aC)(l:List Con)(m:List LFun)(n:List aC)(o:List Node)(a:List Int)(p:Int)(b:List Int)(q:Int)(c:List LFun)(d:List ONode):TS:=⟨(tf 81 115 [(1,(.ilst 5 (map LUnit.av i) false)),kp 2 0,kp 4 1,(5,(iS j)),(6,(nI q)),kp 7 2,(8,(.gl 3 1 0 a.length false)),(9,(.gl 4 1 0 b.length false)),(13,(nI p))] [kc f81 238836,kl f81 238836,.inBlock 4,kc f81 29855,.inBlock 1,kc f81 467,kl f81 116,.inBlock 0,kc f81 15]),[],[oC 0 [(aB e),(iC f),(.gl 5 2 0 c.length false),(iS g),(.gl 6 4 0 d.length false)],oC 1 [(.str 0 0),.nils,.nils,.nils,.nils],oC 2 [(aB k),(iC l),(.ilst 2 (map LFun.av m) false),(iS n),(iN o)],oL 3 1 (jI a),oL 4 1 (jI b),oL 5 2 (map LFun.av c),oL 6 4 (map ONode.av d)],7⟩
def aAt(c:aC)(d:List Con)(e:List aC)(f:List LUnit)(g:List aC)(i:List Int)(j:aC)(k:List Con)(l:List LFun)(m:List aC)(n:List Node)(o:List Int)(p:Int)(a:List LFun)(b:List ONode)(q:Int):TS:=⟨(tf 81 115 [(1,(.ilst 5 (map LUnit.av f) false)),kp 2 0,kp 4 1,(5,(iS g)),(6,(nI q)),kp 7 2,(8,(iI i)),(9,(iI o)),(14,(nI p))] [kc f81 238844,kl f81 238844,.inBlock 6,.inBlock 1,kc f81 467,kl f81 116,.inBlock 0,kc f81 15]),[],[oC 0 [(aB c),(iC d),(.gl 3 2 0 a.length false),(iS e),(.gl 4 4 0 b.length false)],oC 1 [(.str 0 0),.nils,.nils,.nils,.nils],oC 2 [(aB j),(iC k),(.ilst 2 (map LFun.av l) false),(iS m),(iN n)],oL 3 2 (map LFun.av a),oL 4 4 (map ONode.av b)],5⟩
def aMY(c:aC)(d:List Con)(e:List aC)(f:List LUnit)(g:List aC)(i j:List Int)(k:aC)(l:List Con)(m:List LFun)(n:List aC)(o:List Node)(a:List LFun)(p:Int)(b:List ONode)(q:Int):TS:=⟨(tf 81 115 [(1,(.ilst 5 (map LUnit.av f) false)),kp 2 0,kp 4 1,(5,(iS g)),(6,(nI q)),kp 7 2,(8,(iI i)),(9,(iI j)),(14,(nI p))] [kc f81 3821513,.inBlock 7,kc f81 955379,kl f81 238844,.inBlock 6,.inBlock 1,kc f81 467,kl f81 116,.inBlock 0,kc f81 15]),[],[oC 0 [(aB c),(iC d),(.gl 3 2 0 a.length false),(iS e),(.gl 4 4 0 b.length false)],oC 1 [(.str 0 0),.nils,.nils,.nils,.nils],oC 2 [(aB k),(iC l),(.ilst 2 (map LFun.av m) false),(iS n),(iN o)],oL 3 2 (map LFun.av a),oL 4 4 (map ONode.av b)],5⟩
def aHl(a:aC)(b:List LUnit):TS:=cK PP 28 [(aB a),(.ilst 5 (map LUnit.av b) false)] [] 0
def vJ(b:aC)(c:List LUnit)(a:List Con)(d:List aC)(e f:Int):TS:=⟨(tf 28 72 [(1,(.ilst 5 (map LUnit.av c) false)),kp 4 0,(5,(nI 0)),(7,(iC a)),kp 9 1,(10,(nI e)),(11,(nI f))] [kc f28 4084,kl f28 4084,.inBlock 0,kc f28 511]),[],[oC 0 [(.str 0 0),.nils,.nils,.nils,.nils],oC 1 [(aB b),(iC a),.nils,(iS d),.nils]],2⟩
def aSa (c:aC)(d:List Con)(e:List aC)(b:List LUnit):=fun a f=>(tT 0 (aR9 c d e b)<|.y fun a:List aC=>gp 8 72 [(.ilst 5 (map LUnit.av b) false)] (iS a)<|.i [rn 9,.cnil 0 2 2] []<|gu 0 2 (map LFun.av ([] :List LFun))<|gv 0 0 2 (.gl 2 2 0 ([] :List LFun).length false)<|.i [.cnil 0 4 4] []<|gu 0 3 (map ONode.av ([] :List ONode))<|gv 0 0 4 (.gl 3 4 0 ([] :List ONode).length false)<|.W 0 4 [0,1,2,3] (aAq c d e b a 0 ([] :List LFun) ([] :List ONode))) a f ⟨kk,⟨(aD _ (fun _=>aN _) _),trivial⟩⟩
def aSb(f:aC)(g:List Con)(i:List aC)(j:List LUnit)(l:List aC)(k:Int)(d:List LFun)(b:List ONode):=tT 0 (aAq f g i j l k d b)<|gl 5 LUnit.av j<|gd 2 20 (k< (j.length:Int)) (gX LUnit.av 8 j k<|fun a=>.y fun c:List aC=>.i [rn 10,.reg [.d,.call (.gl 5 1 0 c.length false) (aE [oC 0 [(aB f),(iC g),(.gl 2 2 0 d.length false),(iS i),(.gl 3 4 0 b.length false)],oC 1 [(.str 0 0),.nils,.nils,.nils,.nils],oL 2 2 (map LFun.av d),oL 3 4 (map ONode.av b),oC 4 [(aB a.name),(iC a.cons),(.ilst 2 (map LFun.av a.funs) false),(iS a.needs),(iN a.nodes)],oL 5 1 (map aB c)] 6),.d,.d,.app (map aB (c++a.needs)) (c++a.needs).length,.d]] [hA (Spec PP (.enter 39 [(.agg [(aB a.name),(iC a.cons),(.ilst 2 (map LFun.av a.funs) false),(iS a.needs),(iN a.nodes)])]) (aE [oC 0 [(aB f),(iC g),(.gl 2 2 0 d.length false),(iS i),(.gl 3 4 0 b.length false)],oC 1 [(.str 0 0),.nils,.nils,.nils,.nils],oL 2 2 (map LFun.av d),oL 3 4 (map ONode.av b),oC 4 [(aB a.name),(iC a.cons),(.ilst 2 (map LFun.av a.funs) false),(iS a.needs),(iN a.nodes)]] 5) (.ret (.gl 5 1 0 c.length false)) (aE [oC 0 [(aB f),(iC g),(.gl 2 2 0 d.length false),(iS i),(.gl 3 4 0 b.length false)],oC 1 [(.str 0 0),.nils,.nils,.nils,.nils],oL 2 2 (map LFun.av d),oL 3 4 (map ONode.av b),oC 4 [(aB a.name),(iC a.cons),(.ilst 2 (map LFun.av a.funs) false),(iS a.needs),(iN a.nodes)],oL 5 1 (map aB c)] 6)),hb aB c,hA (length (c++a.needs) ≤1000000),hc aB c a.needs,he aB c a.needs,hr (ilst 1 (map aB a.needs) false),hr (ilst 1 (map aB a.needs) false)]<|.i [rn 7,.nilL 8 1] []<|gu 0 7 (jI ([] :List Int))<|gs 0 8 (.gl 7 1 0 ([] :List Int).length false)<|.W 0 8 [0,1,4,7,6,2,3] (aAr f g i j l a.name a.cons a.funs a.needs a.nodes (c++a.needs) 0 ([] :List Int) k d b))<|.y fun e:List Node=>.i [rn 3,.lset 3 (jN e)] [.a (b=map Node.o e) (p':=(map ONode.av b) = (jN e)) aDv]<|.i [.cset 0 4 (.gl 3 4 0 e.length false)] [.a (e.length=b.length) (p':=(AV.gl 3 4 0 b.length false) = (.gl 3 4 0 e.length false)) (fun h=>(bQ h.symm))]<|gy 0 0 2 2 2 LFun.av d false<|gy 0 0 4 3 4 Node.av e false<|gE 5 4 (.agg [(aB f),(iC g),(.ilst 2 (map LFun.av d) false),(iS i),(iN e)])
def aSc:=fun a b c d e f g i j k l m n o p=>aSb a b c d e f g i|>.t l j m n k o p ⟨kk,⟨kk,⟨kk,⟨(aD _ (fun _=>aN _) _),trivial⟩⟩⟩⟩
def aSd:=fun a b c d e f g i j k l m=>aSb a b c d e f g i|>.f k j l m tv
def aLY(g:aC)(i:List Con)(e:List aC)(j:List LUnit)(a:List aC)(k:aC)(l:List Con)(m:List LFun)(n:List aC)(o:List Node)(c:List aC)(b:Int)(d:List Int)(p:Int)(q:List LFun)(r:List ONode):=tT 0 (aAr g i e j a k l m n o c b d p q r)<|gd 8 35 (b< (c.length:Int)) (.i [rn 9,.ans (.ix)] [hA (0≤b),hA (b< (c.length:Int))]<|.y fun f:aC=>gj aB 0 c b.toNat f<|gpI 0 82 [(iS a),(aB f)]<|fun t=>gd 8 45 (t<0) (.y fun s:Int=>.i [rn 1,.reg (.d::.ans (.len (a.length:Int))::rd 4 [.ans (.ix),.ans (.idx (aB f)),.pure (nI s),.d,.d])] [hl aB a,hA (0≤b),hA (b< (c.length:Int)),.a (((c)[b.toNat]?) =some f) (eZ (f:=aB)),hA (Pure PP 82 [(iS e),(aB f)] (nI s)),.q (p:=(nI ((map aB a).length:Int)) = (nI (a.length:Int))) (congrArg (int .i64) (aH2 _ _)),.q (p:=(nI ((map aB a).length:Int)) = (nI (a.length:Int))) (congrArg (int .i64) (aH2 _ _))]<|ga 4 aQ d [(IntKind.i64.wrap ((a.length:Int) +s))]<|gw 6 37 (b+1)<|.W 3 9 [0,1,2,8,4,5,6] (aAr g i e j a k l m n o c (b+1) (d++ [(IntKind.i64.wrap ((a.length:Int) +s))]) p q r))<|ga 6 aQ d [t]<|gw 6 37 (b+1)<|.W 3 9 [0,1,2,8,4,5,6] (aAr g i e j a k l m n o c (b+1) (d++ [t]) p q r))<|.i [rn 9,.nilL 9 1] []<|gu 0 7 (jI ([] :List Int))<|gs 0 9 (.gl 7 1 0 ([] :List Int).length false)<|.W 0 8 [0,1,2,3,7,5,6] (aAs g i e j a k l m n o d 0 ([] :List Int) p q r)
def aSe:=fun d e f g i j k l m n o p q r s t u v w x a b c y z A B C=>aLY d e f g i j k l m n o p q r s t|>.t x a b u c v y|>.t z w a b c A B C ⟨kk,⟨kk,⟨kk,⟨(aD _ (fun _=>aN _) _),trivial⟩⟩⟩⟩
def aSf:=fun a b c d e f g i j k l m n o p q r s t u v w x y z A=>aLY a b c d e f g i j k l m n o p q|>.t t u v r w s x|>.f y z A ⟨kk,⟨kk,⟨kk,⟨(aD _ (fun _=>aN _) _),trivial⟩⟩⟩⟩
def aSg:=fun a b c d e f g i j k l m n o p q r=>aLY a b c d e f g i j k l m n o p q|>.f r ⟨kk,⟨kk,⟨kk,⟨(aD _ (fun _=>aN _) _),trivial⟩⟩⟩⟩
def aSh(g:aC)(e:List Con)(i:List aC)(j:List LUnit)(k:List aC)(l:aC)(c:List Con)(m:List LFun)(n:List aC)(o:List Node)(f:List Int)(d:Int)(a:List Int)(p:Int)(q:List LFun)(r:List ONode):=tT 0 (aAs g e i j k l c m n o f d a p q r)<|gl 6 Con.av c<|gd 2 64 (d< (c.length:Int)) (.y fun s:Con=>.y fun b:Int=>.i [rn 4,.reg (rd 6 [.ans (.idx (Con.av s)),.d,.d,.pure (nI b),.d,.app (jI (a++ [b])) (a++ [b]).length,.d])] [hA (0≤d),.a (((c)[d.toNat]?) =some s) (cH (f:=Con.av)),hA (Pure PP 162 [(iC e),(aB s.name)] (nI b)),hb aQ a,hA (length (a++ [b]) ≤1000000),hc aQ a [b],he aQ a [b]]<|gw 4 66 (d+1)<|.W 3 9 [0,1,2,3,8,5,6] (aAs g e i j k l c m n o f (d+1) (a++ [b]) p q r))<|gz 3 8 3 1 aQ f false<|gz 0 9 4 1 aQ a false<|.W 5 7 [0,1,2,5,6] (aAt g e i j k f l c m n o a 0 q r p)
def aSi:=fun a b c d e f g i j k l m n o p q r s t u v w x y=>aSh a b c d e f g i j k l m n o p q|>.t t r s u v w x y ⟨kk,⟨kk,⟨kk,⟨(aD _ (fun _=>aN _) _),trivial⟩⟩⟩⟩
def aSj:=fun a b c d e f g i j k l m n o p q r=>aSh a b c d e f g i j k l m n o p q|>.f r ⟨kk,⟨(aD _ (fun _=>aN _) _),trivial⟩⟩
def aSk(g:aC)(i:List Con)(j:List aC)(k:List LUnit)(l:List aC)(m:List Int)(n:aC)(o:List Con)(d:List LFun)(p:List aC)(q:List Node)(r:List Int)(e:Int)(a:List LFun)(b:List ONode)(f:Int):=tT 0 (aAt g i j k l m n o d p q r e a b f)<|gl 6 LFun.av d<|gd 2 83 (e< (d.length:Int)) (.y fun c:LFun=>.i [rn 5,.reg (rd 5 (.ans (.idx (LFun.av c))::rd 7 [.app (map LFun.av (a++ [(LFun.mk c.name (b.length:Int))])) (a++ [(LFun.mk c.name (b.length:Int))]).length,.d,.d]))] [hA (0≤e),.a (((d)[e.toNat]?) =some c) (cH (f:=LFun.av)),hb LFun.av a,hA (length (a++ [(LFun.mk c.name (b.length:Int))]) ≤1000000),hc LFun.av a [(LFun.mk c.name (b.length:Int))],he LFun.av a [(LFun.mk c.name (b.length:Int))]]<|.W 0 7 [0,1,2,6,4] (aMY g i j k l m r n o d p q (a++ [(LFun.mk c.name (b.length:Int))]) e b f))<|gw 6 22 (f+1)<|.W 3 5 [0,1,3,4] (aAq g i j k l (f+1) a b)
def aSl:=fun a b c d e f g i j k l m n o p q r s t u v=>aSk a b c d e f g i j k l m n o p q|>.t s r t u v ⟨kk,⟨(aD _ (fun _=>aN _) _),trivial⟩⟩
def aSm:=fun a b c d e f g i j k l m n o p q r s=>aSk a b c d e f g i j k l m n o p q|>.f r s ⟨kk,⟨(aD _ (fun _=>aN _) _),trivial⟩⟩
def aSn (j:aC)(k:List Con)(l:List aC)(q:List LUnit)(r:List aC)(o p:List Int)(e:aC)(f:List Con)(c:List LFun)(g:List aC)(i:List Node)(b:List LFun)(m:Int)(a:List ONode)(s:Int):=fun n d t u v w=>(tT 0 (aMY j k l q r o p e f c g i b m a s)<|.y fun n:LFun=>.y fun d:List Node=>.i [.reg (rd 6 (.ans (.idx (LFun.av n))::rd 4 [.call (.gl 5 4 0 (a++map Node.o d).length false) (aE [oC 0 [(aB j),(iC k),(.gl 3 2 0 b.length false),(iS l),(.gl 4 4 0 a.length false)],oC 1 [(.str 0 0),.nils,.nils,.nils,.nils],oC 2 [(aB e),(iC f),(.ilst 2 (map LFun.av c) false),(iS g),(iN i)],oL 3 2 (map LFun.av b),oL 5 4 (map ONode.av (a++map Node.o d))] 6),.d,.d]))] [hA (0≤m),.a (((c)[m.toNat]?) =some n) (cH (f:=LFun.av)),hA (Spec PP (.enter 147 [(.gl 4 4 0 a.length false),(.agg [(aB e),(iC f),(.ilst 2 (map LFun.av c) false),(iS g),(iN i)]),(nI n.body),(iI o),(iI p)]) (aE [oC 0 [(aB j),(iC k),(.gl 3 2 0 b.length false),(iS l),(.gl 4 4 0 a.length false)],oC 1 [(.str 0 0),.nils,.nils,.nils,.nils],oC 2 [(aB e),(iC f),(.ilst 2 (map LFun.av c) false),(iS g),(iN i)],oL 3 2 (map LFun.av b),oL 4 4 (map ONode.av a)] 5) (.ret (.gl 5 4 0 (a++map Node.o d).length false)) (aE [oC 0 [(aB j),(iC k),(.gl 3 2 0 b.length false),(iS l),(.gl 4 4 0 a.length false)],oC 1 [(.str 0 0),.nils,.nils,.nils,.nils],oC 2 [(aB e),(iC f),(.ilst 2 (map LFun.av c) false),(iS g),(iN i)],oL 3 2 (map LFun.av b),oL 5 4 (map ONode.av (a++map Node.o d))] 6))]<|gw 4 85 (m+1)<|.W 3 6 [0,1,2,3,5] (aAt j k l q r o e f c g i p (m+1) b (a++map Node.o d) s)) n d t u v w ⟨kk,⟨(aD _ (fun _=>aN _) _),trivial⟩⟩
def aDJ(b:aC)(a:List LUnit):=tT 0 (aHl b a)<|eU 9 86 [(aB b)]<|fun g=>.b 2 15 (!g) (.i [rn 13,.cnilI 0 1 2] []<|.i [.cnilI 0 2 2] []<|.i [.cnilI 0 3 1] []<|.i [.cnilI 0 4 4] []<|gE 0 1 (.tup [(.agg [(.str 0 0),(.ilst 2 (jC ([] :List Con)) true),(.ilst 2 (map LFun.av ([] :List LFun)) true),(.ilst 1 (map aB ([] :List aC)) true),(.ilst 4 (jN ([] :List Node)) true)]),(nI 2)]))<|eU 1 18 [(.ilst 5 (map LUnit.av a) false)]<|fun i=>.b 3 19 (!i) (.i [rn 8,.cnilI 0 1 2] []<|.i [.cnilI 0 2 2] []<|.i [.cnilI 0 3 1] []<|.i [.cnilI 0 4 4] []<|gE 0 1 (.tup [(.agg [(.str 0 0),(.ilst 2 (jC ([] :List Con)) true),(.ilst 2 (map LFun.av ([] :List LFun)) true),(.ilst 1 (map aB ([] :List aC)) true),(.ilst 4 (jN ([] :List Node)) true)]),(nI 2)]))<|.y fun c:List aC=>gp 5 72 [(.ilst 5 (map LUnit.av a) false)] (iS c)<|.y fun d:List Con=>.y fun e:Bool=>gp 5 80 [(.ilst 5 (map LUnit.av a) false)] (.tup [(iC d),(bV e)])<|.b 12 30 (!e) (.i [rn 13,.cnilI 0 1 2] []<|.i [.cnilI 0 2 2] []<|.i [.cnilI 0 3 1] []<|.i [.cnilI 0 4 4] []<|gE 0 1 (.tup [(.agg [(.str 0 0),(.ilst 2 (jC ([] :List Con)) true),(.ilst 2 (map LFun.av ([] :List LFun)) true),(.ilst 1 (map aB ([] :List aC)) true),(.ilst 4 (jN ([] :List Node)) true)]),(nI 7)]))<|eU 1 71 [(iS c)]<|fun j=>.b 3 34 (!j) (.i [rn 8,.cnilI 0 1 2] []<|.i [.cnilI 0 2 2] []<|.i [.cnilI 0 3 1] []<|.i [.cnilI 0 4 4] []<|gE 0 1 (.tup [(.agg [(.str 0 0),(.ilst 2 (jC ([] :List Con)) true),(.ilst 2 (map LFun.av ([] :List LFun)) true),(.ilst 1 (map aB ([] :List aC)) true),(.ilst 4 (jN ([] :List Node)) true)]),(nI 7)]))<|.y fun f:List aC=>gp 7 74 [(.ilst 5 (map LUnit.av a) false)] (iS f)<|.W 15 2 [0,1] (vJ b a d f 0 0)
def aSo:=fun a b c d e=>aDJ a b c d|>.t e tv
def aSp:=fun a b c d e f g i=>aDJ a b c e|>.f f d g|>.t i tv
def aSq:=fun a b c d e f g i j k l m n o=>aDJ a b c i|>.f j d k|>.f l e m f g n|>.t o tv
def aSr:=fun a b c d e f g i j k l m n o p q r=>aDJ a b c j|>.f k d l|>.f m e n f g o|>.f p i q|>.t r tv
def aSs:=fun a b c d e f g i j k l m n o p q r s t=>aDJ a b c k|>.f l d m|>.f n e o f g p|>.f q i r|>.f s j t tv
def aDK(g:aC)(b:List LUnit)(c:List Con)(d:List aC)(f e:Int):=tT 0 (vJ g b c d f e)<|gl 5 LUnit.av b<|gd 2 44 (e< (b.length:Int)) (gX LUnit.av 8 b e<|fun a=>gl 2 Node.av a.nodes<|gw 1 54 (f+ (a.nodes.length:Int))<|gw 6 46 (e+1)<|.W 3 2 [0,1] (vJ g b c d (f+ (a.nodes.length:Int)) (e+1)))<|gd 8 57 (f>300) (.i [rn 19,.cnilI 0 1 2] []<|.i [.cnilI 0 2 2] []<|.i [.cnilI 0 3 1] []<|.i [.cnilI 0 4 4] []<|gE 0 2 (.tup [(.agg [(.str 0 0),(.ilst 2 (jC ([] :List Con)) true),(.ilst 2 (map LFun.av ([] :List LFun)) true),(.ilst 1 (map aB ([] :List aC)) true),(.ilst 4 (jN ([] :List Node)) true)]),(nI 3)]))<|gl 1 Con.av c<|gd 3 62 ((c.length:Int) >20) (.i [rn 14,.cnilI 0 1 2] []<|.i [.cnilI 0 2 2] []<|.i [.cnilI 0 3 1] []<|.i [.cnilI 0 4 4] []<|gE 0 2 (.tup [(.agg [(.str 0 0),(.ilst 2 (jC ([] :List Con)) true),(.ilst 2 (map LFun.av ([] :List LFun)) true),(.ilst 1 (map aB ([] :List aC)) true),(.ilst 4 (jN ([] :List Node)) true)]),(nI 3)]))<|gl 2 aB d<|gd 3 67 ((d.length:Int) >20) (.i [rn 8,.cnilI 0 1 2] []<|.i [.cnilI 0 2 2] []<|.i [.cnilI 0 3 1] []<|.i [.cnilI 0 4 4] []<|gE 0 2 (.tup [(.agg [(.str 0 0),(.ilst 2 (jC ([] :List Con)) true),(.ilst 2 (map LFun.av ([] :List LFun)) true),(.ilst 1 (map aB ([] :List aC)) true),(.ilst 4 (jN ([] :List Node)) true)]),(nI 3)]))<|.y fun a:LUnit=>gp 6 81 [(.agg [(aB g),(iC c),.nils,(iS d),.nils]),(.ilst 5 (map LUnit.av b) false)] (.agg [(aB a.name),(iC a.cons),(.ilst 2 (map LFun.av a.funs) false),(iS a.needs),(iN a.nodes)])<|gE 4 2 (.tup [(.agg [(aB a.name),(iC a.cons),(.ilst 2 (map LFun.av a.funs) false),(iS a.needs),(iN a.nodes)]),(nI 0)])
def aSt:=fun a b c d e f g i j k l m=>aDK a b c d e f|>.t i g j k l m tv
def aSu:=fun a b c d e f g i=>aDK a b c d e f|>.f g|>.t i tv
def aSv:=fun a b c d e f g i j=>aDK a b c d e f|>.f g|>.f i|>.t j tv
def aSw:=fun a b c d e f g i j k=>aDK a b c d e f|>.f g|>.f i|>.f j|>.t k tv
def aSx:=fun a b c d e f g i j k l m=>aDK a b c d e f|>.f i|>.f j|>.f k|>.f l g m tv
theorem iT (s:aC) :∀ (l:List aC) (i:Nat),dH s l i= -1∨ ((i:Int) ≤dH s l i∧dH s l i<i+l.length∧l[(dH s l i).toNat-i]?=some s)
 | [],i=>.inl rfl
 | x ::l,i=>by
  rw [dH];by_cases e:x=s
  · rw [if_pos e];exact .inr ⟨by omega,by simp;omega,by simp [e]⟩
  · rw [if_neg e];rcases iT s l (i+1)with h| ⟨h1,h2,h3⟩
    ·exact .inl h
    · refine .inr ⟨by omega,by simp;omega,?_⟩;rw [show(dH s l (i+1)).toNat-i= ((dH s l (i+1)).toNat- (i+1)) +1 by omega];simpa using h3
def vN (T ls:List aC)(s:aC) :Int:=if dH s T 0<0 then(T.length:Int) +dH s ls 0 else dH s T 0
theorem aLZ (T ls:List aC)(s:aC) : -1≤vN T ls s∧vN T ls s≤T.length+ls.length:=by
 unfold vN;have h1:=iT s T 0;have h2:=iT s ls 0;split<;>omega
def aDL (T ls:List aC)(u:LUnit) :List Int:= (aH u++u.needs).map (vN T ls)
def aDM (cs:List Con)(u:LUnit) :List Int:=u.cons.map (fun c=>nO c.name cs 0)
def aDN (T ls:List aC)(cs:List Con) :List LFun→List Node→List LUnit→Option (List LFun×List Node)
 |fs,ns,[] =>some (fs,ns)
 | fs,ns,u::l=>match iR (eQ (eV u) (aDL T ls u) (aDM cs u) u.nodes.length) ns.length (dE u)with
  |some (ks,r) =>aDN T ls cs (fs++zipWith LFun.mk (aH u) ks) (ns++r) l
  |none=>none
theorem vK {g:Nat→Int→Option (List Node)}:∀ {cs:List Int} {len:Nat} {ks:List Int} {r:List Node},iR g len cs=some (ks,r) →ks.length=cs.length
 | [],len,ks,r,h=>by cases h;rfl
 | c ::cs,len,ks,r,h=>by
  rw [iR]at h;split at h
  · split at h
    ·rename_i h1;cases h;rw [length_cons,length_cons,vK h1]
    ·cases h
  ·cases h
section
variable (nm :aC) (cs:List Con) (ls:List aC) (l:List LUnit) (T:List aC) (hT:T.length≤1000) (hls:ls.length≤1000) (hcs:cs.length≤1000)
include hT hls in
theorem aSy (u:LUnit)(cl:List aC)(hcl:cl.length≤1000)(i:Int)(fs:List LFun)(L:List ONode) :∀ (t:List aC) (k:Nat) (acc:List Int),cl.drop k=t→acc.length=k →
  LeadsM PP 0 (aAr nm cs ls l T u.name u.cons u.funs u.needs u.nodes cl (k:Int) acc i fs L).as (aAs nm cs ls l T u.name u.cons u.funs u.needs u.nodes (acc++t.map (vN T ls)) 0 [] i fs L).as
 | [],k,acc,h,ha=>by
  have:=aT h;rw [map_nil,append_nil];exact aSg nm cs ls l T u.name u.cons u.funs u.needs u.nodes cl k acc i fs L sd
 | s ::t,k,acc,h,ha=>by
  obtain⟨q1,q2,q3⟩ :=aR h;have ih:=aSy u cl hcl i fs L t (k+1) (acc++ [vN T ls s]) q2 (by simp [ha]);rw [append_assoc]at ih;have r1:=iT s T 0;have r2:=iT s ls 0;by_cases hn:dH s T 0<0
  · have ef:vN T ls s= (T.length:Int) +dH s ls 0:=by unfold vN;rw [if_pos hn]
    have hw:IntKind.i64.wrap (((length T:Nat) :Int) +dH s ls 0) = (T.length:Int) +dH s ls 0:=by apply wrap64<;>omega
    have h1:=aSe nm cs ls l T u.name u.cons u.funs u.needs u.nodes cl k acc i fs L s _ _ sd sd sd sd (aDy T s (by omega)) (by simpa using hn) (aDy ls s (by omega)) (by simp;omega) sd;rw [hw,←ef]at h1;exact h1.trans ih
  · have ef:vN T ls s=dH s T 0:=by unfold vN;rw [if_neg hn]
    have h1:=aSf nm cs ls l T u.name u.cons u.funs u.needs u.nodes cl k acc i fs L s _ sd sd sd sd (aDy T s (by omega)) (by simpa using hn) (by simp;omega) sd;rw [←ef]at h1;exact h1.trans ih
include hcs in
theorem aSz (u:LUnit)(hu:u.cons.length≤1000)(F:List Int)(i:Int)(fs:List LFun)(L:List ONode) :∀ (t:List Con) (k:Nat) (acc:List Int),u.cons.drop k=t→acc.length=k →
  LeadsM PP 0 (aAs nm cs ls l T u.name u.cons u.funs u.needs u.nodes F (k:Int) acc i fs L).as (aAt nm cs ls l T F u.name u.cons u.funs u.needs u.nodes (acc++t.map (fun c=>nO c.name cs 0)) 0 fs L i).as
 | [],k,acc,h,ha=>by
  have:=aT h;rw [map_nil,append_nil];exact aSj nm cs ls l T u.name u.cons u.funs u.needs u.nodes F k acc i fs L sd
 | c::t,k,acc,h,ha=>by
  obtain⟨q1,q2,q3⟩ :=aR h;have ih:=aSz u hu F i fs L t (k+1) (acc++ [nO c.name cs 0]) q2 (by simp [ha]);rw [append_assoc]at ih;exact(aSi nm cs ls l T u.name u.cons u.funs u.needs u.nodes F k acc i fs L c _ sd sd sd (aRz cs c.name (by omega)) (by simp;omega) sd).trans ih
theorem aSA (u:LUnit)(hu:u.funs.length≤1000)(hx:∀x∈u.nodes,gR x.pats=true)(F C:List Int)(K:Nat)(i:Nat)(hi:i<1000) :∀ (t:List LFun) (k:Nat) (fs:List LFun) (L:List ONode) (ks:List Int) (r:List Node),u.funs.drop k=t→fs.length+t.length≤100000 →
  iR (eQ (eV u) F C K) L.length (t.map LFun.body) =some (ks,r) →
  LeadsM PP 0 (aAt nm cs ls l T F u.name u.cons u.funs u.needs u.nodes C (k:Int) fs L (i:Int)).as (aAq nm cs ls l T ((i:Int) +1) (fs++zipWith LFun.mk (t.map LFun.name) ks) (L++map Node.o r)).as
 | [],k,fs,L,ks,r,h,hf,hm=>by
  have:=aT h;cases hm;simp only [map_nil,List.zipWith_nil_left,append_nil];exact aSm nm cs ls l T F u.name u.cons u.funs u.needs u.nodes C k fs L i sd sd
 | f :: t,k,fs,L,ks,r,h,hf,hm=>by
  obtain⟨q1,q2,q3⟩ :=aR h;simp only [length_cons]at hf;simp only [map_cons,iR]at hm;split at hm
  · rename_i ns hns;split at hm
    · rename_i ks1 r1 hm1;cases hm;have hs:=rMv_spec u F C hx K L f.body ns hns
      have hs':=zT (ks:=[4]) (n2:=5) (args':=[.gl 4 4 0 (length L) false,UAV u,.int .i64 f.body,.ilst 1 (map aQ F) false,.ilst 1 (map aQ C) false])
       (lc:=[(0,(.cells (putCells .leaf 0 [(aB nm),(.ilst 2 (map Con.av cs) false),(.gl 3 2 0 (length (fs++ [(⟨f.name,((L.length:Nat) :Int)⟩ :LFun)])) false),(.ilst 1 (map aB ls) false),(.gl 4 4 0 (length L) false)]) 5 [] false),false),(1,(.cells (putCells .leaf 0 [(.str 0 0),.nils,.nils,.nils,.nils]) 5 [] false),false),(2,nP u,false),(3,(.lst 2 (map LFun.av (fs++ [(⟨f.name,((L.length:Nat) :Int)⟩ :LFun)]))),true),(4,OL L,true)])
       (x:=[(0,(.cells (putCells .leaf 0 [(aB nm),(.ilst 2 (map Con.av cs) false),(.gl 3 2 0 (length (fs++ [(⟨f.name,((L.length:Nat) :Int)⟩ :LFun)])) false),(.ilst 1 (map aB ls) false),(.gl 4 4 0 (length L) false)]) 5 [] false),false),(1,(.cells (putCells .leaf 0 [(.str 0 0),.nils,.nils,.nils,.nils]) 5 [] false),false),(2,nP u,false),(3,(.lst 2 (map LFun.av (fs++ [(⟨f.name,((L.length:Nat) :Int)⟩ :LFun)]))),true)])
       hs (by kernel_rfl) (by kernel_rfl) (by kernel_rfl) ⟨nK L,trivial⟩ (by kernel_rfl) (by kernel_rfl) (by kernel_rfl) (by kernel_rfl) ⟨nK _,trivial⟩ (by kernel_rfl)
      have h1:=aSl nm cs ls l T F u.name u.cons u.funs u.needs u.nodes C k fs L i f sd sd sd (by simp;omega);have h2:=aSn nm cs ls l T F C u.name u.cons u.funs u.needs u.nodes (fs++ [(⟨f.name,((L.length:Nat) :Int)⟩ :LFun)]) k L i f ns sd sd (mp (by kernel_rfl) hs') sd;have h3:=aSA u hu hx F C K i hi t (k+1) (fs++ [(⟨f.name,((L.length:Nat) :Int)⟩ :LFun)]) (L++map Node.o ns) ks1 r1 q2 (by simp;omega) (by rw [length_append,length_map];exact hm1);have e1:fs++zipWith LFun.mk (map LFun.name (f::t)) (((L.length:Nat) :Int) ::ks1) = (fs++ [(⟨f.name,((L.length:Nat) :Int)⟩ :LFun)]) ++zipWith LFun.mk (map LFun.name t) ks1:=by simp
      have e2:L++map Node.o (ns++r1) = (L++map Node.o ns) ++map Node.o r1:=by simp
      rw [e1,e2];exact h1.trans (h2.trans h3)
    ·cases hm
  ·cases hm
include hT hls hcs in
theorem aSB (hl:l.length≤11)(hu:∀u∈l,FewU u∧∀x∈u.nodes,gR x.pats=true) :∀ (t:List LUnit) (i:Nat) (fs:List LFun) (ns:List Node) (fs':List LFun) (ns':List Node),l.drop i=t→fs.length≤30*i→aDN T ls cs fs ns t=some (fs',ns') →
  Ends PP 0 (aAq nm cs ls l T (i:Int) fs (map Node.o ns)).as (.ret (LUnit.av ⟨nm,cs,fs',ls,ns'⟩)) (aE [] 0)
 | [],i,fs,ns,fs',ns',h,ha,hm=>by
  have:=aT h;cases hm;exact aSd nm cs ls l T i fs (map Node.o ns) ns sd rfl (by simp)
 | u ::t,i,fs,ns,fs',ns',h,ha,hm=>by
  obtain⟨q1,q2,q3⟩ :=aR h;have hf:= (hu u (mem_of_getElem? q1)).1;have hx:= (hu u (mem_of_getElem? q1)).2;have f1:=hf.f;have f2:=hf.n;have f3:u.cons.length≤25:=by have:=hf.p;simp only [aL,and_eq_true,decide_eq_true_eq]at this;exact this.1.1.2
  have hnm: (aH u).length=u.funs.length:=by simp [aH]
  rw [aDN]at hm;split at hm
  · rename_i ks r hk;have hkl:=vK hk;have hs:=aRA u (by omega)
    have hs':=zT (ks:=[]) (n2:=5) (args':=[UAV u])
     (lc:=[(0,(.cells (putCells .leaf 0 [(aB nm),(.ilst 2 (map Con.av cs) false),(.gl 2 2 0 (length fs) false),(.ilst 1 (map aB ls) false),(.gl 3 4 0 (length (map Node.o ns)) false)]) 5 [] false),false),(1,(.cells (putCells .leaf 0 [(.str 0 0),.nils,.nils,.nils,.nils]) 5 [] false),false),(2,(.lst 2 (map LFun.av fs)),true),(3,OL (map Node.o ns),true),(4,nP u,false)])
     (x:=[(0,(.cells (putCells .leaf 0 [(aB nm),(.ilst 2 (map Con.av cs) false),(.gl 2 2 0 (length fs) false),(.ilst 1 (map aB ls) false),(.gl 3 4 0 (length (map Node.o ns)) false)]) 5 [] false),false),(1,(.cells (putCells .leaf 0 [(.str 0 0),.nils,.nils,.nils,.nils]) 5 [] false),false),(2,(.lst 2 (map LFun.av fs)),true),(3,OL (map Node.o ns),true),(4,nP u,false)])
     hs (by kernel_rfl) (by kernel_rfl) (by kernel_rfl) trivial (by kernel_rfl) (by kernel_rfl) (by kernel_rfl) (by kernel_rfl) ⟨aD _ (fun _=>rfl) _,trivial⟩ (by kernel_rfl)
    have h0:=aSc nm cs ls l T i fs (map Node.o ns) u (aH u) sd sd sd (mp (by kernel_rfl) hs') (by simp;omega);have h1:=aSy nm cs ls l T hT hls u (aH u++u.needs) (by simp;omega) i fs (map Node.o ns) (aH u++u.needs) 0 [] rfl rfl;have h2:=aSz nm cs ls l T hcs u (by omega) (aDL T ls u) i fs (map Node.o ns) u.cons 0 [] rfl rfl;have h3:=aSA nm cs ls l T u (by omega) hx (aDL T ls u) (aDM cs u) u.nodes.length i (by omega) u.funs 0 fs (map Node.o ns) ks r rfl (by omega) (by rw [length_map];exact hk);rw [←List.map_append]at h3;have hb: (dE u).length=u.funs.length:=by simp [dE]
    exact h0.ends (h1.ends (h2.ends (h3.ends (aSB hl hu t (i+1) _ (ns++r) fs' ns' q2 (by simp;omega) hm))))
  ·cases hm
end
theorem aOX (nm:aC)(cs:List Con)(ls:List aC)(l:List LUnit)(hl:l.length≤11)(hls:ls.length≤1000)(hcs:cs.length≤1000)(hu:∀u∈l,FewU u∧∀x∈u.nodes,gR x.pats=true){fs:List LFun}{ns:List Node}(h:aDN (dU l) ls cs [] [] l=some (fs,ns)) :
  Pure PP 81 [.agg [aB nm,.ilst 2 (map Con.av cs) false,.nils,.ilst 1 (map aB ls) false,.nils],.ilst 5 (map LUnit.av l) false] (LUnit.av ⟨nm,cs,fs,ls,ns⟩) :=by
 have:=uI l (fun u h=> (hu u h).1);exact dF (s:=aR9 nm cs ls l) (by kernel_rfl) (by kernel_rfl) (by simp [keylessL,keyless,aB]) (jL _) ((aSa nm cs ls l (dU l) (aA7 l hl (fun u h=> (hu u h).1.f))).ends (aSB nm cs ls l (dU l) (by omega) hls hcs hl hu l 0 [] [] fs ns rfl (by simp) h))
mutual
theorem aWb {cons:List Con}{C:List Int}(hC:C.length=cons.length) :∀ (q:Pat),cT cons q=true→∃q',aGG C q=some q'∧cL q'=cL q
 | .mk f n s ps,h=>by
  rw [cT,and_eq_true]at h;obtain⟨ps',hps,hz⟩ :=aDO hC ps h.2;have hN:∃n',aDk C f n=some n':=by
   unfold aDk;by_cases hf:f=6
   · subst hf;have hh:=h.1;simp only [cZ]at hh;simp [dB]at hh;obtain⟨⟨⟨h0,h1⟩,_⟩,_⟩ :=hh;rw [if_pos rfl,if_pos h0];exact⟨_,List.getElem?_eq_getElem (by omega)⟩
   ·rw [if_neg hf];exact⟨_,rfl⟩
  obtain⟨n',hn⟩ :=hN;refine⟨.mk f n' [] ps',?_,by rw [cL,cL,hz]⟩;have hs:s= [] :=by have:=h.1;rw [cZ,and_eq_true]at this;simpa using this.2
  rw [aGG,hn];simp only;rw [hps,hs]
theorem aDO {cons:List Con}{C:List Int}(hC:C.length=cons.length) :∀ (ps:List Pat),bS cons ps=true→∃ps',jS C ps=some ps'∧bC ps'=bC ps
 | [],_=> ⟨[],rfl,rfl⟩
 | q::ps,h=>by
  rw [bS,and_eq_true]at h;obtain⟨q',h1,z1⟩ :=aWb hC q h.1;obtain⟨ps',h2,z2⟩ :=aDO hC ps h.2;refine⟨q'::ps',?_,by rw [bC,bC,z1,z2]⟩;rw [jS,h1];simp only;rw [h2]
end
def aJP (x:Node) :Prop:=x.kids.length≤10∧bC x.pats≤120
theorem aDP {g:Nat→Int→Option (List Node)}{q:Int→List Int}:∀ (ks:List Int) (len:Nat),
  (∀k∈ks,∀len:Nat,len+ (q k).length≤1000000→∃ns,g len k=some ns∧ns.length= (q k).length∧∀x∈ns,aJP x) →len+ ((ks.map q).flatten).length≤1000000 →
  ∃ks' r,iR g len ks=some (ks',r) ∧r.length= ((ks.map q).flatten).length∧∀x∈r,aJP x
 | [],len,_,_=> ⟨[],[],rfl,rfl,fun x hx=>by cases hx⟩
 | k ::ks,len,hg,hb=>by
  simp only [map_cons,List.flatten_cons,length_append]at hb ⊢;obtain⟨ns,e,hl,hf⟩ :=hg k (mem_cons_self ..) len (by omega);obtain⟨ks',r,e2,hl2,hf2⟩ :=aDP ks (len+ns.length) (fun c hc=>hg c (mem_cons_of_mem _ hc)) (by omega);refine⟨(len:Int) ::ks',ns++r,?_,by rw [length_append];omega,fun x hx=>?_⟩
  · rw [iR,e];simp only;rw [e2]
  · rcases List.mem_append.1 hx with h|h
    ·exact hf x h
    ·exact hf2 x h
structure MovN (p:Prog) (F C:List Int) (i:Nat) (x:Node) :Prop where
 kl:x.kids.length≤10
 kids:∀k∈x.kids,(i:Int) <k∧k<p.nodes.length
 ps:bC x.pats≤120
 n:∃n',mN F C x.op x.n=some n'
 pats:∃ps',jS C x.pats=some ps'∧bC ps'=bC x.pats
theorem aFg {p:Prog}{F C:List Int}(hN:∀ (i:Nat) (x:Node),p.nodes[i]?=some x→MovN p F C i x) :∀ (k:Nat) (a:Int) (len:Nat),0≤a→a<p.nodes.length→p.nodes.length-a.toNat≤k→len+ (pre p k a).length≤1000000 →
  ∃ns,eQ p F C k len a=some ns∧ns.length= (pre p k a).length∧∀x∈ns,aJP x
 |0,a,len,ha,hn,hf,_=>by omega
 | k + 1,a,len,ha,hn,hf,hb=>by
  obtain⟨x,hx⟩ :∃x,p.nodes[a.toNat]?=some x:= ⟨_,List.getElem?_eq_getElem (by omega)⟩;have hm:=hN _ _ hx;have e:pre p (k+1) a=a:: (x.kids.map (pre p k)).flatten:=by rw [pre,hx]
  rw [e]at hb ⊢;simp only [length_cons]at hb ⊢
  obtain⟨ks,r,e1,e2,e3⟩ :=aDP (g:=eQ p F C k) (q:=pre p k) x.kids (len+1) (fun c hc len h1=>by
   have:=hm.kids c hc;exact aFg hN k c len (by omega) (by omega) (by omega) h1) (by omega)
  obtain⟨n',hn'⟩ :=hm.n;obtain⟨ps',hp',hz⟩ :=hm.pats;have h1:=hm.kl;have h2:=hm.ps;refine⟨⟨x.op,n',ks,ps'⟩ ::r,?_,by simp [e2],fun y hy=>?_⟩
  · rw [eQ,if_pos ⟨ha,by omega⟩,hx];simp only;rw [if_pos ⟨by omega,by omega⟩,hn'];simp only;rw [hp'];simp only;rw [e1]
  · rcases List.mem_cons.1 hy with h|h
    · rw [h];exact⟨by rw [vK e1];exact h1,by rw [hz];exact h2⟩
    ·exact e3 y h
theorem aMZ {p p':Prog}{f:Node→Node}(h:p'.nodes=p.nodes.map f)(hf:∀x,(f x).kids=x.kids) :∀ (k:Nat) (a:Int),pre p' k a=pre p k a
 |0,a=>rfl
 | k+1,a=>by
  have ih:pre p' k=pre p k:=funext (aMZ h hf k);rw [pre,pre,h,List.getElem?_map];cases p.nodes[a.toNat]? with
  |none=>rfl
  |some x=>simp only [Option.map];rw [hf,ih]
theorem aFh (a b:Nat)(x:Node) : (fW a b x).kids=x.kids:=by unfold fW;split<;>rfl
theorem aOY (a b:Nat)(x:Node) : (fW a b x).pats=x.pats:=by unfold fW;split<;>rfl
theorem aWc (a b:Nat)(x:Node) : (fW a b x).op=x.op:=by unfold fW;split<;>rfl
structure GoodU (u:LUnit) :Prop where
 few:FewU u
 formed:hR u=true
theorem GoodU.small {u:LUnit}(h:GoodU u) :u.nodes.length≤320∧u.cons.length≤25:=by
 have:=h.few.p;simp only [aL,and_eq_true,decide_eq_true_eq]at this;exact⟨this.1.1.1.1,this.1.1.2⟩
theorem GoodU.cases {u:LUnit}(h:GoodU u) : (u.funs= [] ∧u.nodes= []) ∨ (u.funs≠ [] ∧aZ (jP u) =true) :=by
 have hf:=h.formed;unfold hR at hf;simp only [and_eq_true]at hf;have h2:=hf.2;split at h2
 · rename_i h0;simp only [and_eq_true,decide_eq_true_eq]at h2;exact .inl ⟨List.eq_nil_of_length_eq_zero h0,List.eq_nil_of_length_eq_zero h2.1⟩
 · rename_i h0;exact .inr ⟨fun e=>h0 (by rw [e];rfl),h2⟩
theorem aFi {u:LUnit}(h:GoodU u)(hr:aZ (jP u) =true){F C:List Int}(hF:F.length=u.funs.length+u.needs.length)(hB:∀g∈F,-1000000000≤g∧g≤1000000000)(hC:C.length=u.cons.length)(i:Nat)(x:Node)(hx:u.nodes[i]?=some x) :MovN (eV u) F C i x∧gR x.pats=true:=by
 have hs:=vG h.few;have hfn:=nM hs hr;have hx': (jP u).nodes[i]?=some (fW u.funs.length u.needs.length x) :=by simp [jP,List.getElem?_map,hx]
 obtain⟨hfi,hk10,hks⟩ :=hfn.node i _ hx';have hok:= (yJ hs hr).2.2.2 i _ hx';rw [aFh]at hk10 hks;have hnl: (jP u).nodes.length=u.nodes.length:=by simp [jP]
 rw [hnl]at hks;have hpq:∀q∈x.pats,cL q≤12∧cT u.cons q=true:=fun q hq=>hfi.pats q (by rw [aOY];exact hq);have h10:x.pats.length≤10:=by
  have:=h.few.p;simp only [aL,and_eq_true]at this;have:=List.all_eq_true.1 this.2 x (mem_of_getElem? hx);simp only [bG,and_eq_true,decide_eq_true_eq]at this;exact this.1.2
 have hpsz:bC x.pats≤12*x.pats.length:=aA5 (fun q hq=> (hpq q hq).1);have hpk:=rC (fun q hq=> (hpq q hq).2);have hfl:=h.few.f;have hnd:=h.few.n;refine⟨⟨hk10,hks,by omega,?_,aDO hC x.pats hpk⟩,aDF x.pats hpk⟩;simp only [bR,and_eq_true,jG]at hok;obtain⟨⟨⟨h1,_⟩,_⟩,_⟩ :=hok;rw [aWc]at h1;have hpf: (jP u).funs.length=u.funs.length:=by simp [jP,dE]
 unfold mN;by_cases h4:x.op=4∧x.n<0
 · rw [if_pos h4];have hr4: -(u.funs.length:Int) -u.needs.length≤x.n:=by
    by_cases hb: -(u.funs.length:Int) -u.needs.length≤x.n∧x.n≤ -(u.funs.length:Int) -1
    ·exact hb.1
    · have:fW u.funs.length u.needs.length x=x:=by unfold fW;rw [if_neg (fun g=>hb g.2)]
      rw [this,h4.1]at h1;simp [dC,dB,hpf]at h1;omega
   have hi: (-1-x.n).toNat<F.length:=by omega
   rw [List.getElem?_eq_getElem hi];have:=hB _ (List.getElem_mem hi);simp only;rw [if_pos ⟨by omega,this⟩];exact⟨_,rfl⟩
 · rw [if_neg h4];by_cases h14:x.op=14
   · rw [if_pos h14];have:fW u.funs.length u.needs.length x=x:=by unfold fW;rw [if_neg (fun g=>by have:=g.1;omega)]
     rw [this,h14]at h1;simp [dC,dB,jP]at h1;rw [if_pos h1.1];have h1b:=of_decide_eq_true h1.2;have hi:x.n.toNat<C.length:=by omega
     exact⟨_,List.getElem?_eq_getElem hi⟩
   ·rw [if_neg h14];exact⟨_,rfl⟩
theorem aM0 {u:LUnit}(h:GoodU u) :∀x∈u.nodes,gR x.pats=true:=fun x hx=>by
 rcases h.cases with⟨_,h0⟩ | ⟨_,hr⟩
 ·rw [h0]at hx;cases hx
 · obtain⟨i,hi⟩ :=List.mem_iff_getElem?.1 hx;exact(aFi h hr (F:=replicate (u.funs.length+u.needs.length) 0) (C:=replicate u.cons.length 0) (by simp) (fun g hg=>by rw [(List.mem_replicate.1 hg).2];omega) (by simp) i x hi).2
theorem aSC {u:LUnit}(h:GoodU u){F C:List Int}(hF:F.length=u.funs.length+u.needs.length)(hB:∀g∈F,-1000000000≤g∧g≤1000000000)(hC:C.length=u.cons.length)(len:Nat)(hlen:len≤100000) :
  ∃ks r,iR (eQ (eV u) F C u.nodes.length) len (dE u) =some (ks,r) ∧r.length=u.nodes.length∧∀x∈r,aJP x:=by
 rcases h.cases with⟨h0,h1⟩ | ⟨_,hr⟩
 · rw [dE,h0,h1];exact⟨[],[],rfl,rfl,fun x hx=>by cases hx⟩
 · have hs:=vG h.few;obtain⟨_,p2,_,_⟩ :=yJ hs hr;have hfn:=nM hs hr;have hnl: (jP u).nodes.length=u.nodes.length:=by simp [jP]
   have hpre:∀k a,pre (jP u) k a=pre (eV u) k a:=aMZ (f:=fW u.funs.length u.needs.length) rfl (aFh _ _);have hsm:=h.small;have e: ((dE u).map (pre (eV u) u.nodes.length)).flatten= ((jP u).funs.map (pre (jP u) (jP u).nodes.length)).flatten:=by
    rw [hnl];show _= ((dE u).map _).flatten;congr 2;exact(funext (hpre _)).symm
   obtain⟨ks,r,e1,e2,e3⟩ :=aDP (g:=eQ (eV u) F C u.nodes.length) (q:=pre (eV u) u.nodes.length) (dE u) len (fun k hk len hl=>by
    have:=hfn.funs k hk;rw [hnl]at this;exact aFg (fun i x hx=> (aFi h hr hF hB hC i x hx).1) _ k len this.1 this.2 (by simp [eV]) hl) (by rw [e,p2,hnl];omega)
   exact⟨ks,r,e1,by rw [e2,e,p2,hnl],e3⟩
def fA :List LUnit→Nat
 | [] =>0
 |u::l=>u.nodes.length+fA l
theorem aJQ :∀ {l:List LUnit},(∀u∈l,GoodU u) →fA l≤320*l.length
 | [],_=>by simp [fA]
 | u::l,h=>by
  have h1:= (h u (mem_cons_self ..)).small;have h2:=aJQ (l:=l) (fun x hx=>h x (mem_cons_of_mem _ hx));simp only [fA,length_cons];omega
theorem aM1 {T ls:List aC}{cs:List Con}(hT:T.length≤1000)(hls:ls.length≤1000) :∀ (l:List LUnit) (fs:List LFun) (ns:List Node),(∀u∈l,GoodU u) →ns.length+fA l≤100000→ (∀x∈ns,aJP x) →
  ∃fs' ns',aDN T ls cs fs ns l=some (fs',ns') ∧ns'.length=ns.length+fA l∧ (∀x∈ns',aJP x) ∧fs'.length≤fs.length+30*l.length
 | [],fs,ns,_,_,hf=> ⟨fs,ns,rfl,rfl,hf,by simp⟩
 | u::l,fs,ns,hg,hb,hf=>by
  have hu:=hg u (mem_cons_self ..);rw [fA]at hb;have hff:=hu.few.f;have hnd:=hu.few.n
  obtain⟨ks,r,e1,e2,e3⟩ :=aSC hu (F:=aDL T ls u) (C:=aDM cs u) (by simp [aDL,aH]) (fun g hg=>by
   obtain⟨s,_,rfl⟩ :=List.mem_map.1 hg;have:=aLZ T ls s;omega) (by simp [aDM]) ns.length (by omega)
  obtain⟨fs',ns',g1,g2,g3,g4⟩ :=aM1 hT hls l (fs++zipWith LFun.mk (aH u) ks) (ns++r) (fun x hx=>hg x (mem_cons_of_mem _ hx)) (by simp;omega) (fun x hx=>by
   rcases List.mem_append.1 hx with h|h
   ·exact hf x h
   ·exact e3 x h)
  refine⟨fs',ns',?_,by rw [g2,fA];simp;omega,g3,by simp [aH]at g4 ⊢;omega⟩;rw [aDN,e1];exact g1
def sA :LUnit:= ⟨[],[],[],[],[]⟩
theorem rG {l:List LUnit}(hu:∀u∈l,FewU u)(h:jO l=true) :l.length≤10∧∀u∈l,GoodU u:=by
 simp only [jO,and_eq_true,decide_eq_true_eq]at h;exact⟨h.1,fun u hm=> ⟨hu u hm,List.all_eq_true.1 h.2 u hm⟩⟩
theorem aBd :∀ {l:List LUnit} {out o:List Con},(∀u∈l,FewU u) →uJ out l=some o→o.length≤out.length+25*l.length
 | [],out,o,_,h=>by cases h;simp
 | u ::l,out,o,hu,h=>by
  have hn:u.cons.length≤25:=by have:= (hu u (mem_cons_self ..)).p;simp only [aL,and_eq_true,decide_eq_true_eq]at this;exact this.1.1.2
  rw [uJ]at h;split at h
  · rename_i o1 h1;have:=vI h1;have:=aBd (fun x hx=>hu x (mem_cons_of_mem _ hx)) h;simp;omega
  ·cases h
theorem aBe {own:List aC}:∀ {l:List LUnit} {out:List aC},(∀u∈l,FewU u) → (aAm own out l).length≤out.length+25*l.length
 | [],out,_=>by simp [aAm]
 | u::l,out,hu=>by
  have hn:= (hu u (mem_cons_self ..)).n;have h1:=vH own u.needs out;have h2:=aBe (own:=own) (l:=l) (out:=xA own out u.needs) (fun x hx=>hu x (mem_cons_of_mem _ hx));rw [aAm];simp;omega
def aBS (ls:List aC)(cs:List Con)(l:List LUnit) :List LFun×List Node:= (aDN (dU l) ls cs [] [] l).getD ([],[])
structure PutOk (ls:List aC) (cs:List Con) (l:List LUnit) :Prop where
 eq:aDN (dU l) ls cs [] [] l=some (aBS ls cs l)
 len: (aBS ls cs l).2.length=fA l
 fit:∀x∈ (aBS ls cs l).2,aJP x
 funs: (aBS ls cs l).1.length≤300
theorem aSD {ls:List aC}{cs:List Con}{l:List LUnit}(hl:l.length≤10)(hg:∀u∈l,GoodU u)(hls:ls.length≤1000) :PutOk ls cs l:=by
 have:=uI l (fun u h=> (hg u h).few);have:=aJQ hg;obtain⟨fs,ns,h1,h2,h3,h4⟩ :=aM1 (T:=dU l) (ls:=ls) (cs:=cs) (by omega) hls l [] [] hg (by simp;omega) (fun x hx=>by cases hx);have e:aBS ls cs l= (fs,ns) :=by unfold aBS;rw [h1];rfl
 exact⟨by rw [h1,e],by rw [e];simpa using h2,by rw [e];exact h3,by rw [e];simp at h4 ⊢;omega⟩
def sB (nm:aC)(l:List LUnit) :LUnit×Int:=
 if lG nm=true∧jO l=true then
  match aFe l with
  |none=> (sA,7)
  | some c=>if cI (dU l) =true then
    (if fA l≤300∧c.length≤20∧ (dO l).length≤20 then(⟨nm,c,(aBS (dO l) c l).1,dO l,(aBS (dO l) c l).2⟩,0)else(sA,3))
   else(sA,7)
 else(sA,2)
theorem aM2 {E:Emb}{e:Int}{cv:Value}(h:VR E (.tup [.agg [(.str 0 0),(.ilst 2 (map Con.av ([] :List Con)) true),(.ilst 2 (map LFun.av ([] :List LFun)) true),(.ilst 1 (map aB ([] :List aC)) true),(.ilst 4 (map Node.av ([] :List Node)) true)],.int .i64 e]) cv) :VR E (.tup [LUnit.av sA,.int .i64 e]) cv:=by
 simp only [VR]at h ⊢;obtain⟨us,h1,h2⟩ :=h;obtain⟨u,us',rfl,h3,h4⟩ :=h2.cons_inv;simp only [VR]at h3;obtain⟨ws,rfl,h5⟩ :=h3;obtain⟨a1,w1,rfl,c1,h5⟩ :=h5.cons_inv;obtain⟨a2,w2,rfl,c2,h5⟩ :=h5.cons_inv;obtain⟨a3,w3,rfl,c3,h5⟩ :=h5.cons_inv;obtain⟨a4,w4,rfl,c4,h5⟩ :=h5.cons_inv;obtain⟨a5,w5,rfl,c5,h5⟩ :=h5.cons_inv;refine⟨_,h1,VRs.cons ?_ h4⟩;simp only [LUnit.av,VR];exact⟨_,rfl,VRs.cons c1 (VRs.cons (jK c2) (VRs.cons (jK c3) (VRs.cons (jK c4) (VRs.cons (jK c5) h5))))⟩
theorem aWd {l:List LUnit}(h:Pure PP 80 [.ilst 5 (map LUnit.av l) false] aCd) :Pure PP 80 [.ilst 5 (map LUnit.av l) false] (.tup [.ilst 2 (map Con.av ([] :List Con)) false,.bool false]) :=
 aA6 h (fun E cv hv=>by
  simp only [VR]at hv ⊢;obtain⟨us,h1,h2⟩ :=hv;obtain⟨a1,w1,rfl,c1,h2⟩ :=h2.cons_inv;exact⟨_,h1,VRs.cons (jK (xs:=map Con.av []) c1) h2⟩)
theorem aSE (nm:aC)(l:List LUnit)(hl:l.length≤11)(hu:∀u∈l,FewU u)(c:List Con)(ls:List aC){res:Res}(hend:Ends PP 0 (vJ nm l c ls (fA l:Int) (l.length:Int)).as res (aE [] 0)) :∀ (t:List LUnit) (i n:Nat),l.drop i=t→n+fA t=fA l→n≤320*i→i≤l.length →
  Ends PP 0 (vJ nm l c ls (n:Int) (i:Int)).as res (aE [] 0)
 | [],i,n,h,hn,hb,hi=>by
  have:=aT h;simp only [fA]at hn;obtain rfl:i=l.length:=by omega
  obtain rfl:n=fA l:=by omega
  exact hend
 | u::t,i,n,h,hn,hb,hi=>by
  obtain⟨q1,q2,q3⟩ :=aR h;simp only [fA]at hn;have hs:u.nodes.length≤320:=by have:= (hu u (mem_of_getElem? q1)).p;simp only [aL,and_eq_true,decide_eq_true_eq]at this;exact this.1.1.1.1
  have h1:=aSt nm l c ls n i u sd sd sd sd sd;have ih:=aSE nm l hl hu c ls hend t (i+1) (n+u.nodes.length) q2 (by omega) (by omega) (by omega);rw [Int.natCast_add,Int.natCast_add]at ih;exact h1.ends ih
theorem aL0 (nm:aC)(l:List LUnit)(hl:l.length≤11)(hu:∀u∈l,FewU u) :Pure PP 28 [aB nm,.ilst 5 (map LUnit.av l) false] (.tup [LUnit.av (sB nm l).1,.int .i64 (sB nm l).2]) :=by
 have hal:=uI l hu;have pn:=aDl nm;have p0:=aRF l hu;have p1:=aRI l hl hu;have p2:=aA7 l hl (fun u h=> (hu u h).f);have p3:=qR (dU l) (by omega);have p4:=aRH l hl hu;have err:∀e:Int,Ends PP 0 (aHl nm l).as (.ret (.tup [(.agg [(.str 0 0),(.ilst 2 (map Con.av ([] :List Con)) true),(.ilst 2 (map LFun.av ([] :List LFun)) true),(.ilst 1 (map aB ([] :List aC)) true),(.ilst 4 (map Node.av ([] :List Node)) true)]),.int .i64 e])) (aE [] 0) →Pure PP 28 [aB nm,.ilst 5 (map LUnit.av l) false] (.tup [LUnit.av sA,.int .i64 e]) :=fun e h=>
  aA6 (dF (s:=aHl nm l) (by kernel_rfl) (by kernel_rfl) (by simp [keylessL,keyless,aB]) (by simp [keylessL,keyless]) h) (fun E cv hv=>aM2 hv)
 unfold sB;cases hn:lG nm with
 | false=>
  rw [hn]at pn;rw [if_neg (fun h=>by cases h.1)];exact err 2 (aSo nm l false pn rfl)
 | true =>
  rw [hn]at pn;by_cases h0:jO l=true
  · rw [h0] at p0;rw [if_pos ⟨rfl,h0⟩];obtain⟨hl10,hg⟩ :=rG hu h0;cases hc:aFe l with
    | none=>
     rw [hc]at p1;exact err 7 (aSq nm l true true (dU l) [] false pn rfl p0 rfl p2 (aWd p1) rfl)
    | some c =>
     rw [hc]at p1;have hcl:=aBd hu hc;have hll:=aBe (own:=dU l) (out:=[]) hu;have hll: (dO l).length≤25*l.length:=by simpa [dO]using hll
     dsimp only;cases h3:cI (dU l)with
     | false=>
      rw [h3]at p3;rw [if_neg (fun h=>by cases h)];exact err 7 (aSr nm l true true (dU l) c true false pn rfl p0 rfl p2 p1 rfl p3 rfl)
     | true =>
      rw [h3]at p3;rw [if_pos rfl];have hp:=aSD (ls:=dO l) (cs:=c) hl10 hg (by omega);have p6:=aOX nm c (dO l) l hl (by omega) (by simp at hcl;omega) (fun u h=> ⟨hu u h,aM0 (hg u h)⟩) hp.eq;have E:=aSs nm l true true (dU l) c true true (dO l) pn rfl p0 rfl p2 p1 rfl p3 rfl p4;have L:=fun {res:Res} (hend:Ends PP 0 (vJ nm l c (dO l) (fA l:Int) (l.length:Int)).as res (aE [] 0)) =>E.ends (aSE nm l hl hu c (dO l) hend l 0 0 rfl (by omega) (by omega) (by omega));by_cases h6:fA l≤300
      · by_cases h7:c.length≤20
        · by_cases h8: (dO l).length≤20
          · rw [if_pos ⟨h6,h7,h8⟩]
            exact dF (s:=aHl nm l) (by kernel_rfl) (by kernel_rfl) (by simp [keylessL,keyless,aB]) (by simp [keylessL,keyless,jL])
             (L (aSx nm l c (dO l) _ _ ⟨nm,c,(aBS (dO l) c l).1,dO l,(aBS (dO l) c l).2⟩ (by simp) (by simp;omega) (by simp;omega) (by simp;omega) p6))
          · rw [if_neg (fun h=>h8 h.2.2)];exact err 3 (L (aSw nm l c (dO l) _ _ (by simp) (by simp;omega) (by simp;omega) (by simp;omega)))
        · rw [if_neg (fun h=>h7 h.2.1)];exact err 3 (L (aSv nm l c (dO l) _ _ (by simp) (by simp;omega) (by simp;omega)))
      · rw [if_neg (fun h=>h6 h.1)];exact err 3 (L (aSu nm l c (dO l) _ _ (by simp) (by simp;omega)))
  · rw [if_neg (fun h=>h0 h.2)];rw [Bool.not_eq_true]at h0;rw [h0]at p0;exact err 2 (aSp nm l true false pn rfl p0 rfl)
def aYv(a:LUnit):TS:=cK PP 161 [(.agg [(aB a.name),(iC a.cons),(.ilst 2 (map LFun.av a.funs) false),(iS a.needs),(iN a.nodes)])] [] 0
def aHm(a:LUnit)(c:Int)(b:List aC):TS:=⟨(tf 161 20 [(2,.nils),(3,(.gl 0 1 0 b.length false)),(7,(.ilst 2 (map LFun.av a.funs) false)),(8,(nI (a.funs.length:Int))),(9,(nI c))] [kc f161 116,kl f161 116,.inBlock 0,kc f161 15]),[],[oL 0 1 (map aB b)],1⟩
def aYw(a:Con):TS:=cK PP 159 [(.agg [(aB a.name),(nI a.args)])] [] 0
def aZ2(a:List aC):TS:=cK PP 139 [(iS a)] [] 0
def aHn(a:List aC)(b:Int):TS:=⟨(tf 204 19 [(0,(iS a)),(1,(.func 202 [] [])),(4,(nI 0)),(7,(nI (a.length:Int))),(8,(nI b))] [kc f204 52,kl f204 52,.inBlock 0,kc f204 7]),[(tf 201 9 [(4,(bV false)),(5,(iS a)),(6,(.func 202 [] []))] [ko f201 6 2,kc f201 7]),(tf 139 10 [(0,(iS a)),(2,(bV false)),(3,(iS a))] [ko f139 6 1,kc f139 7])],[],0⟩
def aBf(a:List aC)(c:Int)(b:List (aC×Bool)):TS:=⟨(tf 203 25 [(1,(.func 141 [] [])),(4,(bV false)),(5,(.map 0)),(9,(iS a)),(10,(nI (a.length:Int))),(11,(nI c))] [kc f203 116,kl f203 116,.inBlock 0,kc f203 15]),[(tf 139 10 [(2,(bV false)),(6,(bV true)),(7,(iS a))] [ko f139 6 5,kc f139 7])],[(0,(.map (aF aB kY 0 b) b.length),true)],1⟩
def aSF(a:List Node):TS:=cK PP 189 [(iN a)] [] 0
def aZ3(a:List Node):TS:=⟨(tf 189 8 [(0,(iN a)),(2,.nils),(3,(iN a))] [ko f189 12 1,kc f189 13,kc f189 7]),[],[],0⟩
def aZm(a:List Node):TS:=⟨(tf 189 8 [(0,(iN a)),(2,.nils),(3,.nils)] [ko f189 12 1,kc f189 13,kc f189 7]),[],[],0⟩
def aZn(a:List Node)(b:Addr)(c d:Nat):TS:=⟨(tf 189 8 [(0,(iN a)),(2,.nils),(3,(.val (Value.slice (some b) c d)))] [ko f189 12 1,kc f189 13,kc f189 7]),[],[],0⟩
def aSG(a b:List aC):TS:=cK PP 160 [(.slice 0 0 2 2 1 true)] [oC 0 [(iS a),(iS b)]] 1
def aYx(a:List Con)(b:aC):TS:=cK PP 158 [(iC a),(.func 159 [] []),(aB b)] [] 0
def aHo(a:List Con)(b:aC)(c:Int):TS:=⟨(tf 223 19 [(0,(iC a)),(1,(.func 224 [] [(.ptr 0 0),(.ptr 1 0)])),(4,(nI 0)),(7,(nI (a.length:Int))),(8,(nI c))] [kc f223 52,kl f223 52,.inBlock 0,kc f223 7]),[(tf 158 10 [(6,(nI 0)),(7,(iC a)),(8,(.func 224 [] [(.ptr 0 0),(.ptr 1 0)]))] [ko f158 6 2,kc f158 7])],[oC 0 [(.func 159 [] [])],oC 1 [(aB b)]],2⟩
def aZ4(a:List aC)(b:aC):TS:=cK PP 151 [(iS a),(aB b)] [] 0
def aHp(a:List aC)(b:aC)(c:Int):TS:=⟨(tf 151 19 [(0,(iS a)),(1,(aB b)),(4,(nI 0)),(7,(nI (a.length:Int))),(8,(nI c))] [kc f151 52,kl f151 52,.inBlock 0,kc f151 7]),[],[],0⟩
def aYy(a:LUnit):TS:=cK PP 121 [(.agg [(aB a.name),(iC a.cons),(.ilst 2 (map LFun.av a.funs) false),(iS a.needs),(iN a.nodes)])] [] 0
def aHq(a:LUnit)(c:List aC)(d:Int)(b:List Int):TS:=⟨(tf 121 114 [kp 1 0,(2,(bV false)),(3,(iS c)),kp 4 1,(49,(.ilst 2 (map LFun.av a.funs) false)),(50,(nI (a.funs.length:Int))),(51,(nI d))] [kc f121 500,kl f121 500,.inBlock 0,kc f121 63]),[],[oC 0 [(aB a.name),(iC a.cons),(.ilst 2 (map LFun.av a.funs) false),(iS a.needs),(iN a.nodes)],oC 1 [(.gl 2 4 0 a.nodes.length false),(.gl 3 1 0 b.length false),(nI 0),(iC a.cons)],oL 2 4 (jN a.nodes),oL 3 1 (jI b)],4⟩
def rH(a:LUnit)(d:List aC)(e:Int)(b:List Node)(c:List Int)(f:Int):TS:=⟨(tf 121 114 [kp 1 0,(2,(bV false)),(3,(iS d)),kp 4 1,(76,(.gl 2 4 0 b.length false)),(77,(nI e)),(78,(nI f))] [kc f121 2036,kl f121 2036,.inBlock 2,kc f121 255]),[],[oC 0 [(aB a.name),(iC a.cons),(.ilst 2 (map LFun.av a.funs) false),(iS a.needs),(iN a.nodes)],oC 1 [(.gl 2 4 0 b.length false),(.gl 3 1 0 c.length false),(nI 0),(iC a.cons)],oL 2 4 (jN b),oL 3 1 (jI c)],4⟩
def aWe (a:LUnit):=(tT 0 (aYv a)<|gl 14 LFun.av a.funs<|.i [rn 4,.nilL 3 1] []<|gu 0 1 (map aB ([] :List aC))<|gs 0 3 (.gl 1 1 0 ([] :List aC).length false)<|.W 0 2 [1] (aHm a 0 ([] :List aC))) ⟨kk,trivial⟩
def aSH(c:LUnit)(a:Int)(b:List aC):=tT 0 (aHm c a b)<|gd 5 10 (a< (c.funs.length:Int)) (gX LFun.av 6 c.funs a<|fun d=>ga 9 aB b [d.name]<|gw 5 18 (a+1)<|.W 3 4 [3] (aHm c (a+1) (b++ [d.name])))<|gz 8 2 0 1 aB b false<|gE 0 1 (iS b)
def aWf:=fun a b c d e f g i j=>aSH a b c|>.t e d f g i j ⟨kk,trivial⟩
def aWg:=fun a b c d=>aSH a b c|>.f d tv
def aWh (a:Con):=(tT 0 (aYw a)<|gE 12 1 (aB a.name)) tv
def aWi (a:List aC):=(tT 0 (aZ2 a)<|gl 25 aB a<|.W 4 0 [] (aHn a 0)) tv
def aL1(a:List aC)(b:Int):=tT 0 (aHn a b)<|gd 5 9 (b< (a.length:Int)) (gX aB 14 a b<|fun c=>eU 9 85 [(aB c)]<|fun d=>.b 6 16 (!d) (.b 15 6 (!(decide (b≥0))) (.i [rn 9,.mset 0 (aF aB kY 0 ([] :List (aC×Bool))) ([] :List (aC×Bool)).length] [hr (aF aB kY 0 ([] :List (aC×Bool))),hr (length ([] :List (aC×Bool)))]<|gl 6 aB a<|.W 4 1 [0] (aBf a 0 ([] :List (aC×Bool))))<|gE 6 0 (bV false))<|gw 5 18 (b+1)<|.W 3 0 [] (aHn a (b+1)))<|.i [rn 24,.mset 0 (aF aB kY 0 ([] :List (aC×Bool))) ([] :List (aC×Bool)).length] [hr (aF aB kY 0 ([] :List (aC×Bool))),hr (length ([] :List (aC×Bool)))]<|gl 6 aB a<|.W 4 1 [0] (aBf a 0 ([] :List (aC×Bool)))
def aWj:=fun a b c d e f g i j k=>aL1 a b|>.t e c f g d i|>.t j|>.f k tv
def aWk:=fun a b c d e f g i j k=>aL1 a b|>.t e c f g d i|>.f j k tv
def aWl:=fun a b c=>aL1 a b|>.f c ⟨aM (fun _=>rfl) (fun _=>rfl) _ _ _,trivial⟩
def aL2(f:List aC)(c:Int)(a:List (aC×Bool)):=tT 0 (aBf f c a)<|gd 5 12 (c< (f.length:Int)) (gX aB 6 f c<|fun g=>gpS 9 141 [(aB g)]<|fun d=>.o (.y fun b:Bool=>.i [.ans (.look (some (yB d a,(kY b))))] [.a (dL d a=some b) (p':=eT (aB d) (aF aB kY 0 a) 0=some (some (yB d a,(kY b)))) (uY gB)]<|.b 1 19 b (gE 11 1 (bV false))<|gpS 6 141 [(aB g)]<|fun e=>.i [.mput (aF aB kY 0 (bP e true a)) (bP e true a).length] [.q (p:=qI (aF aB kY 0 a) a.length (aB e) (kY true) =some ((aF aB kY 0 (bP e true a)),length (bP e true a))) (aGe gB _ _ _)]<|gw 4 24 (c+1)<|.W 3 1 [0] (aBf f (c+1) (bP e true a)))<|.i [.ans (.look none)] [.a (dL d a=none) (p':=eT (aB d) (aF aB kY 0 a) 0=some none) (uX gB)]<|gpS 7 141 [(aB g)]<|fun b=>.i [.mput (aF aB kY 0 (bP b true a)) (bP b true a).length] [.q (p:=qI (aF aB kY 0 a) a.length (aB b) (kY true) =some ((aF aB kY 0 (bP b true a)),length (bP b true a))) (aGe gB _ _ _)]<|gw 4 24 (c+1)<|.W 3 1 [0] (aBf f (c+1) (bP b true a)))<|gE 12 1 (bV true)
def aWm:=fun a b c d e f g i j k l m=>aL2 a b c|>.t g d i j e k|>.1 f l|>.t m tv
def aWn:=fun a b c d e f g i j k l m n=>aL2 a b c|>.t g d i j e k|>.2 l f m n ⟨aM (fun _=>rfl) (fun _=>rfl) _ _ _,trivial⟩
def aWo:=fun a b c d=>aL2 a b c|>.f d tv
def aZ5 (a:List Node):=(tT 0 (aSF a)<|.W 8 0 [] (aZ3 a)) tv
def aZ6 (a:List Node):=(tT 0 (aZm a)<|.i [rn 8,.nilL 2 4] []<|.E 0 1 [0] (.gl 0 4 0 0 false) [oL 0 4 (jN ([] :List Node))] 1) ⟨kk,trivial⟩
def aZ7 (a:List Node)(b:Addr)(c d:Nat):=fun e=>(tT 0 (aZn a b c d)<|.i [rn 8,.toL 5 true []] [.q (p:=getCells (putCells .leaf 0 []) 0 (0*4) =some []) rfl,hr true]<|gu 0 0 (jN ([] :List Node))<|gs 0 5 (.gl 0 4 0 ([] :List Node).length true)<|.i [.weak 5] []<|ga 0 Node.av ([] :List Node) a<|.E 3 2 [1] (.gl 0 4 0 (([] :List Node) ++a).length false) [oL 0 4 (jN (([] :List Node) ++a))] 1) e ⟨kk,trivial⟩
def aSI(a b:List aC):=tT 1 (aSG a b)<|gl 36 aB a<|gw 1 18 (0+ (a.length:Int))<|gd 7 20 ((0+ (a.length:Int)) <0) (.P 4 1 [] [((.iface 9 (.str 16 134789072936214216453580009062074836332)),false)] [oC 0 [(iS a),(iS b)]] 1)<|gl 27 aB b<|gw 1 18 ((0+ (a.length:Int)) + (b.length:Int))<|gd 7 20 (((0+ (a.length:Int)) + (b.length:Int)) <0) (.P 4 1 [] [((.iface 9 (.str 16 134789072936214216453580009062074836332)),false)] [oC 0 [(iS a),(iS b)]] 1)<|gd 29 6 (((0+ (a.length:Int)) + (b.length:Int)) <0) .x<|gw 12 14 (((0+ (a.length:Int)) + (b.length:Int)) -0)<|gd 7 16 ((((0+ (a.length:Int)) + (b.length:Int)) -0) >0) (.i [rn 7,.appN (map aB (replicate (((0+ (a.length:Int)) + (b.length:Int)) -0).toNat ([] :aC))) (((0+ (a.length:Int)) + (b.length:Int)) -0).toNat] [hA ((((0+ (a.length:Int)) + (b.length:Int)) -0) = (((((0+ (a.length:Int)) + (b.length:Int)) -0).toNat:Nat) :Int)),hA (0< (((0+ (a.length:Int)) + (b.length:Int)) -0).toNat),hA ((((0+ (a.length:Int)) + (b.length:Int)) -0).toNat<100000),.q (p:=gU [AV.str 0 0] (((0+ (a.length:Int)) + (b.length:Int)) -0).toNat= (map aB (replicate (((0+ (a.length:Int)) + (b.length:Int)) -0).toNat ([] :aC)))) (aJs _),.q (p:=bU (map aB (replicate (((0+ (a.length:Int)) + (b.length:Int)) -0).toNat ([] :aC))) =true) (uG _)]<|.i [.toL 22 false (map aB (replicate (((0+ (a.length:Int)) + (b.length:Int)) -0).toNat ([] :aC)))] [.q (p:=getCells (putCells .leaf 0 (map aB (replicate (((0+ (a.length:Int)) + (b.length:Int)) -0).toNat ([] :aC)))) 0 ((((0+ (a.length:Int)) + (b.length:Int)) -0).toNat*1) =some (map aB (replicate (((0+ (a.length:Int)) + (b.length:Int)) -0).toNat ([] :aC)))) (aRp _),.q (p:=bU (map aB (replicate (((0+ (a.length:Int)) + (b.length:Int)) -0).toNat ([] :aC))) =true) (uG _)]<|.i [.lset 1 (map aB (replicate (((0+ (a.length:Int)) + (b.length:Int)) -0).toNat ([] :aC)))] [.q (p:=lD false 1 (((0+ (a.length:Int)) + (b.length:Int)) -0).toNat (map aB (replicate (((0+ (a.length:Int)) + (b.length:Int)) -0).toNat ([] :aC))) = (map aB (replicate (((0+ (a.length:Int)) + (b.length:Int)) -0).toNat ([] :aC)))) (aRq _)]<|.i [rn 2,.ans (.ev (.gl 1 1 0 0 false))] [.a (0≤ (((0+ (a.length:Int)) + (b.length:Int)) -0).toNat) (p':=aH1 PP 25 (.gl 1 1 0 ((((0+ (a.length:Int)) + (b.length:Int)) -0).toNat) false) none (some (nI 0)) (.gl 1 1 0 0 false)) (fun h=>(aPL (k:=0) (by kernel_rfl) (by decide) h))]<|.i [rn 38,.app (map aB a) a.length] [.q (p:=0+0≤length (map aB (replicate (((0+ (a.length:Int)) + (b.length:Int)) -0).toNat ([] :aC)))) (Nat.zero_le _),hA (a.length≤1000000),.q (p:=take 0 (drop 0 (map aB (replicate (((0+ (a.length:Int)) + (b.length:Int)) -0).toNat ([] :aC)))) ++ (map aB a) = (map aB a)) (by rw [List.take_zero,nil_append]),.q (p:=0+length (map aB a) =a.length) (by rw [Nat.zero_add,length_map])]<|ga 26 aB a b<|gz 21 2 3 1 aB (a++b) false<|.E 0 4 [] (iS (a++b)) [oC 0 [(iS a),(iS b)]] 1)<|.i [rn 38,.nilL 31 1] []<|gu 0 1 (map aB ([] :List aC))<|gs 0 31 (.gl 1 1 0 ([] :List aC).length false)<|ga 0 aB ([] :List aC) a<|ga 26 aB (([] :List aC) ++a) b<|gz 21 2 3 1 aB ((([] :List aC) ++a) ++b) false<|.E 0 4 [] (iS ((([] :List aC) ++a) ++b)) [oC 0 [(iS a),(iS b)]] 1
def aWp:=fun b c d e f a g i j k l m n o=>aSI b c d|>.f e f|>.f a|>.f a g|>.t i j k l m n o tv
def aWq:=fun b c d e f a g i j k=>aSI b c d|>.f e f|>.f a|>.f a g|>.f i j k tv
def aWr (a:List Con)(b:aC):=(tT 0 (aYx a b)<|gl 19 Con.av a<|.W 4 2 [0,1] (aHo a b 0)) tv
def aL3(c:List Con)(a:aC)(b:Int):=tT 0 (aHo c a b)<|gd 5 9 (b< (c.length:Int)) (gX Con.av 14 c b<|fun e=>.y fun d:aC=>.i [rn 8,.reg (.d::.d::.pure (aB d)::rd 3 [])] [hA (Pure PP 159 [(.agg [(aB e.name),(nI e.args)])] (aB d)),hr (aB a),hr (aB a)]<|.b 3 16 (bB d.length (aA d) a.length (aA a)) (gE 11 3 (nI b))<|gw 5 18 (b+1)<|.W 3 3 [0,1] (aHo c a (b+1)))<|gE 11 2 (nI (-1))
def aWs:=fun a b c d e f g i j k=>aL3 a b c|>.t f d g i e j|>.t k tv
def aWt:=fun a b c d e f g i j k l=>aL3 a b c|>.t f d g i e j|>.f k l tv
def aWu:=fun a b c d=>aL3 a b c|>.f d tv
def aWv (a:List aC)(b:aC):=(tT 0 (aZ4 a b)<|gl 8 aB a<|.W 4 0 [] (aHp a b 0)) tv
def aL4(b:List aC)(c:aC)(a:Int):=tT 0 (aHp b c a)<|gd 5 9 (a< (b.length:Int)) (gX aB 14 b a<|fun d=>.b 3 16 (bB c.length (aA c) d.length (aA d)) (gE 7 0 (nI a))<|gw 5 18 (a+1)<|.W 3 0 [] (aHp b c (a+1)))<|gE 7 0 (nI (-1))
def aWw:=fun a b c d e f g i=>aL4 a b c|>.t e d f g|>.t i tv
def aWx:=fun a b c d e f g i j=>aL4 a b c|>.t e d f g|>.f i j tv
def aWy:=fun a b c d=>aL4 a b c|>.f d tv
def aBg(a:LUnit):=tT 0 (aYy a)<|.y fun b:List aC=>gp 8 161 [(.agg [(aB a.name),(iC a.cons),(.ilst 2 (map LFun.av a.funs) false),(iS a.needs),(iN a.nodes)])] (iS b)<|eU 7 85 [(aB a.name)]<|fun c=>.b 2 16 (!c) (gE 32 1 (bV false))<|gl 2 aB a.needs<|gd 3 22 ((a.needs.length:Int) >20) (gE 26 1 (bV false))<|eU 1 139 [(iS b)]<|fun d=>.b 3 27 (!d) (gE 21 1 (bV false))<|eU 2 139 [(iS a.needs)]<|fun e=>.b 3 33 (!e) (gE 15 1 (bV false))<|gk 4 (.enter 160 [(.slice 1 0 2 2 1 true)]) [oC 0 [(aB a.name),(iC a.cons),(.ilst 2 (map LFun.av a.funs) false),(iS a.needs),(iN a.nodes)],oC 1 [(iS b),(iS a.needs)]] 2 (iS (b++a.needs)) [oC 0 [(aB a.name),(iC a.cons),(.ilst 2 (map LFun.av a.funs) false),(iS a.needs),(iN a.nodes)],oC 1 [(iS b),(iS a.needs)]] 2<|eU 0 139 [(iS (b++a.needs))]<|fun f=>.b 3 41 (!f) (gE 6 2 (bV false))<|.i [rn 3,.reg (rd 4 (.call (.gl 3 4 0 a.nodes.length false) (aE [oC 0 [(aB a.name),(iC a.cons),(.ilst 2 (map LFun.av a.funs) false),(iS a.needs),(iN a.nodes)],oC 1 [(iS b),(iS a.needs)],oL 3 4 (jN a.nodes)] 4)::rd 3 []))] [hA (Spec PP (.enter 189 [(iN a.nodes)]) (aE [oC 0 [(aB a.name),(iC a.cons),(.ilst 2 (map LFun.av a.funs) false),(iS a.needs),(iN a.nodes)],oC 1 [(iS b),(iS a.needs)]] 3) (.ret (.gl 3 4 0 a.nodes.length false)) (aE [oC 0 [(aB a.name),(iC a.cons),(.ilst 2 (map LFun.av a.funs) false),(iS a.needs),(iN a.nodes)],oC 1 [(iS b),(iS a.needs)],oL 3 4 (jN a.nodes)] 4)),hr (ilst 2 (jC a.cons) false),hr (ilst 2 (jC a.cons) false)]<|gl 5 LFun.av a.funs<|.i [rn 4,.cnil 2 1 1] []<|gu 0 4 (jI ([] :List Int))<|gv 0 2 1 (.gl 4 1 0 ([] :List Int).length false)<|.W 0 5 [0,2,3,4] (aHq a b 0 ([] :List Int))
def aWz:=fun a b c d e f=>aBg a b d c e|>.t f tv
def aWA:=fun a b c d e f g=>aBg a b d c e|>.f f|>.t g tv
def aWB:=fun a b c d e f g i j k=>aBg a b e c f|>.f g|>.f i d j|>.t k tv
def aWC:=fun a b c d e f g i j k l m n=>aBg a b f c g|>.f i|>.f j d k|>.f l e m|>.t n tv
def aWD:=fun a b c d e f g i j k l m n o p q r=>aBg a b g c i|>.f j|>.f k d l|>.f m e n|>.f o p f q|>.t r tv
def aWE:=fun a b c d e f g i j k l m n o p q r s=>aBg a b g c i|>.f j|>.f k d l|>.f m e n|>.f o p f q|>.f r s ⟨kk,⟨kk,trivial⟩⟩
def aHr(a:LUnit)(b:List aC)(c:Int)(d:List Int):=tT 0 (aHq a b c d)<|gd 5 52 (c< (a.funs.length:Int)) (gX LFun.av 6 a.funs c<|fun e=>ga 10 aQ d [e.body]<|gw 6 62 (c+1)<|.W 3 7 [0,1,2,6] (aHq a b (c+1) (d++ [e.body])))<|gl 6 aB b<|.b 2 65 ((b.length:Int) ==0) (gl 6 Node.av a.nodes<|gd 2 69 ((a.nodes.length:Int) >0) (gE 6 4 (bV false))<|.i [rn 13,.ctoL 1 0 true [(nI 3),(nI 0),.nils,.nils]] [hr (some [(nI 3),(nI 0),.nils,.nils]),hr true]<|.i [.lw 4 (jN [(Node.mk 3 0 [] [])])] [.q (p:=([(.agg [(nI 3),(nI 0),.nils,.nils])] :List AV) ≠ []) (by simp),.q (p:=VW [(.agg [(nI 3),(nI 0),.nils,.nils])] (jN [(Node.mk 3 0 [] [])])) (aMM _ _)]<|gv 0 1 0 (.gl 4 4 0 [(Node.mk 3 0 [] [])].length true)<|.i [.cweak 1 0] []<|.i [.ctoL 1 1 false [(nI 0)]] [hr (some [(nI 0)]),hr true]<|gu 0 5 (jI [0])<|gv 0 1 1 (.gl 5 1 0 [0].length true)<|.i [.cweak 1 1] []<|.W 8 6 [0,1,4,5] (rH a b (([(Node.mk 3 0 [] [])].length:Nat) :Int) [(Node.mk 3 0 [] [])] [0] 0))<|.W 12 4 [0,1,2,3] (rH a b (a.nodes.length:Int) a.nodes d 0)
def aWF:=fun a b c d e f g i j k=>aHr a b c d|>.t f e g i j k ⟨kk,⟨kk,trivial⟩⟩
def aWG:=fun a b c d e f g=>aHr a b c d|>.f e|>.t f|>.t g tv
def aWH:=fun a b c d e f g=>aHr a b c d|>.f e|>.t f|>.f g ⟨kk,⟨kk,trivial⟩⟩
def aWI:=fun a b c d e f=>aHr a b c d|>.f e|>.f f ⟨kk,⟨kk,trivial⟩⟩
def aDQ(e:LUnit)(f:List aC)(g:Int)(b:List Node)(d:List Int)(c:Int):=tT 0 (rH e f g b d c)<|gd 5 79 (c<g) (.i [rn 7,.ans (.ix)] [hA (0≤c),hA (c< (b.length:Int))]<|.y fun a:Node=>gj Node.av 0 b c.toNat a<|gw 9 85 ((-1:Int) -a.n)<|.b 8 89 (a.op==4) (gl 2 aB f<|gd 3 95 (((-1:Int) -a.n) ≥ (f.length:Int)) (gl 2 aB f<|gl 2 aB e.needs<|gw 1 102 ((f.length:Int) + (e.needs.length:Int))<|gd 3 104 (((-1:Int) -a.n) < ((f.length:Int) + (e.needs.length:Int))) (.i [rn 5,.ans (.ix)] [hA (0≤c),hA (c< (b.length:Int))]<|.i [rn 1,.st (Node.av a) (Node.av (Node.mk a.op (-1) a.kids a.pats))] [.a (((b)[c.toNat]?) =some a) (eZ (f:=Node.av)),hr (some (Node.av (Node.mk a.op (-1) a.kids a.pats)))]<|.i [.lset 2 (jN (set b c.toNat (Node.mk a.op (-1) a.kids a.pats)))] [.q (p:=(jN b).set (0+c.toNat) (Node.av (Node.mk a.op (-1) a.kids a.pats)) = (jN (set b c.toNat (Node.mk a.op (-1) a.kids a.pats)))) (mI _ _ _ _)]<|.i [.set 76 (.gl 2 4 0 (set b c.toNat (Node.mk a.op (-1) a.kids a.pats)).length false)] [.q (p:=(AV.gl 2 4 0 b.length false) = (.gl 2 4 0 (set b c.toNat (Node.mk a.op (-1) a.kids a.pats)).length false)) (bQ (length_set ..).symm)]<|.i [.set 106 (.gl 2 4 0 (set b c.toNat (Node.mk a.op (-1) a.kids a.pats)).length false)] [.q (p:=(AV.gl 2 4 0 b.length false) = (.gl 2 4 0 (set b c.toNat (Node.mk a.op (-1) a.kids a.pats)).length false)) (bQ (length_set ..).symm)]<|.i [.cset 1 0 (.gl 2 4 0 (set b c.toNat (Node.mk a.op (-1) a.kids a.pats)).length false)] [.q (p:=(AV.gl 2 4 0 b.length false) = (.gl 2 4 0 (set b c.toNat (Node.mk a.op (-1) a.kids a.pats)).length false)) (bQ (length_set ..).symm)]<|gw 4 110 (c+1)<|.W 3 5 [0,1,2,3] (rH e f g (set b c.toNat (Node.mk a.op (-1) a.kids a.pats)) d (c+1)))<|gw 5 110 (c+1)<|.W 3 5 [0,1,2,3] (rH e f g b d (c+1)))<|gw 15 110 (c+1)<|.W 3 5 [0,1,2,3] (rH e f g b d (c+1)))<|gw 21 110 (c+1)<|.W 3 5 [0,1,2,3] (rH e f g b d (c+1)))<|.i [rn 5,.frz 111 2 (jN b)] [hk Node.av b,.q (p:=frzOk 2 4 (jN b) (jN b) (.agg [(.gl 2 4 0 b.length false),(.gl 3 1 0 d.length false),(nI 0),(iC e.cons)])) (by simp [frzOk,AV.frzOkL,List.take_of_length_le])]<|.i [.frz 111 3 (jI d)] [hk aQ d,.q (p:=frzOk 3 1 (jI d) (jI d) (.agg [(iN b),(.gl 3 1 0 d.length false),(nI 0),(iC e.cons)])) (by simp [frzOk,AV.frzOkL,List.take_of_length_le])]<|gpI 0 138 [(.agg [(iN b),(iI d),(nI 0),(iC e.cons)])]<|fun a=>gE 4 4 (bV (a==0))
def aWJ:=fun d e f g i j k l a b c m n o p q r=>aDQ d e f g i j|>.t l a b k c m|>.t n|>.t o p|>.t q a b c r ⟨kk,⟨kk,trivial⟩⟩
def aWK:=fun a b c d e f g i j k l m n o p q r=>aDQ a b c d e f|>.t i j k g l m|>.t n|>.t o p|>.f q r ⟨kk,⟨kk,trivial⟩⟩
def aWL:=fun a b c d e f g i j k l m n o p=>aDQ a b c d e f|>.t i j k g l m|>.t n|>.f o p ⟨kk,⟨kk,trivial⟩⟩
def aM3:=fun a b c d e f g i j k l m n o=>aDQ a b c d e f|>.t i j k g l m|>.f n o ⟨kk,⟨kk,trivial⟩⟩
def aM4:=fun a b c d e f g i j=>aDQ a b c d e f|>.f i g j tv
def aZo(a b:List aC):TS:=cK PP 21 [(iS a),(iS b)] [] 0
def aCe(a b:List aC)(c:Int):TS:=⟨(tf 21 26 [(0,(iS a)),(1,(iS b)),(4,(bV false)),(5,(nI c))] [kc f21 116,kl f21 116,.inBlock 0,kc f21 15]),[],[],0⟩
def aZ8(a:Bool)(b:Int):TS:=cK PP 67 [(bV a),(nI b)] [] 0
def aZ9(a:aC):TS:=cK PP 141 [(aB a)] [] 0
def aZp(a b:List aC):=tT 0 (aZo a b)<|gl 8 aB a<|gl 1 aB b<|.b 2 10 ((a.length:Int) != (b.length:Int)) (gE 6 0 (bV false))<|.W 9 0 [] (aCe a b 0)
def aSJ:=fun a b c=>aZp a b|>.f c tv
def aSK(b e:List aC)(a:Int):=tT 0 (aCe b e a)<|gl 5 aB b<|gd 2 14 (a< (b.length:Int)) (.y fun c:aC=>.y fun d:aC=>.i [rn 5,.reg (.d::.d::.ans (.idx (aB c))::rd 3 [.ans (.idx (aB d)),.d,.d])] [hA (0≤a),.a (((b)[a.toNat]?) =some c) (cH (f:=aB)),hA (0≤a),.a (((e)[a.toNat]?) =some d) (cH (f:=aB))]<|.b 0 25 (!(bB c.length (aA c) d.length (aA d))) (gE 6 0 (bV false))<|gw 6 16 (a+1)<|.W 3 0 [] (aCe b e (a+1)))<|gE 7 0 (bV true)
def aSL:=fun b c d e f g a i j k l=>aSK b c d|>.t g e f a i a j|>.f k l tv
def aSM:=fun a b c d=>aSK a b c|>.f d tv
def aSN(a:Bool)(b:Int):=tT 0 (aZ8 a b)<|.b 4 4 a (gQ 6 0 [((.iface 201 (.agg [(nI b)])),false)])<|gE 3 0 (.tup [])
def aWM:=fun a b c=>aSN a b|>.t c tv
def aWN:=fun a b c=>aSN a b|>.f c tv
def aWO (a:aC):=(tT 0 (aZ9 a)<|gE 10 0 (aB a)) tv
theorem aFj (a:List aC)(ha:a.length<1000000) :∀ (t:List aC) (i:Nat),a.drop i=t→Ends PP 0 (aCe a a (i:Int)).as (.ret (.bool true)) (aE [] 0)
 | [],i,h=>by
  have:=aT h;exact aSM a a i sd
 | x::t,i,h=>by
  obtain⟨q1,q2,q3⟩ :=aR h;exact(aSL a a i x x sd sd sd sd (by rw [mP];rfl) sd).ends (aFj a ha t (i+1) q2)
theorem aOZ (a:List aC)(ha:a.length<1000000) :Pure PP 21 [.ilst 1 (map aB a) false,.ilst 1 (map aB a) false] (.bool true) :=
 aP (by kernel_rfl) rfl rfl ((aSJ a a (by simp)).ends (aFj a ha a 0 rfl))
theorem aJR (u:LUnit)(hu:FitU u) :∀ (t:List LFun) (i:Nat),u.funs.drop i=t→Ends PP 0 (aG1 u u (i:Int)).as (.ret (.bool true)) (aE [] 0)
 | [],i,h=>by
  have:=aT h;exact aU9 u u i true sd (aOP (aLI (eV u) hu.p) (fun E c h=>aA8 h) (fun E c h=>aA8 h))
 | x::t,i,h=>by
  obtain⟨q1,q2,q3⟩ :=aR h;have hf:=hu.f;exact(aU8 u u i x x sd sd sd sd (by rw [mP];simp) sd).ends (aJR u hu t (i+1) q2)
theorem aJS (u:LUnit)(hu:FitU u) :Pure PP 29 [LUnit.av u,LUnit.av u] (.bool true) :=
 dF (s:=aYe u u) (by kernel_rfl) (by kernel_rfl) (by simp [keylessL,jL]) rfl ((aU7 u u true (by rw [mP];rfl) (aOZ u.needs hu.n) rfl (by simp)).ends (aJR u hu u.funs 0 rfl))
theorem aZq (e:Int) :Pure PP 67 [.bool false,.int .i64 e] (.tup []) :=
 aP (by kernel_rfl) rfl rfl (aWN false e rfl)
theorem aZr (e:Int) :aFR PP 67 [.bool true,.int .i64 e] [((.iface 201 (.agg [(.int .i64 e)])),false)] :=
 throws_at (by kernel_rfl) rfl (fun x hx=>by rw [List.mem_singleton.1 hx];rfl) (aWM true e rfl)
theorem aDR (s:aC) :Pure PP 141 [aB s] (aB s) :=aP (by kernel_rfl) rfl rfl (aWO s)
theorem uM (c:Con) :Pure PP 159 [.agg [aB c.name,.int .i64 c.args]] (aB c.name) :=
 dF (s:=aYw c) (by kernel_rfl) (by kernel_rfl) rfl rfl (aWh c)
theorem aJT (u:LUnit)(hl:u.funs.length≤1000) :∀ (t:List LFun) (i:Nat) (acc:List aC),u.funs.drop i=t→acc.length=i→Ends PP 0 (aHm u (i:Int) acc).as (.ret (.ilst 1 (map aB (acc++t.map LFun.name)) false)) (aE [] 0)
 | [],i,acc,h,ha=>by
  have:=aT h;rw [map_nil,append_nil];exact aWg u i acc sd
 | c::t,i,acc,h,ha=>by
  obtain⟨q1,q2,q3⟩ :=aR h;have hi:= (List.getElem?_eq_some_iff.1 q1).1;refine(aWf u i acc c sd sd sd (by simp;omega) sd).ends ?_;have:=aJT u hl t (i+1) (acc++ [c.name]) q2 (by simp [ha]);rw [append_assoc]at this;exact this
theorem aJU (u:LUnit)(hl:u.funs.length≤1000) :Pure PP 161 [LUnit.av u] (.ilst 1 (map aB (aH u)) false) :=
 dF (s:=aYv u) (by kernel_rfl) (by kernel_rfl) (by simp [keylessL,jL]) (by simp [keyless]) ((aWe u).ends (aJT u hl u.funs 0 [] rfl rfl))
theorem aJV (l:List aC)(s:aC)(hl:l.length<1000000) :∀ (t:List aC) (i:Nat),l.drop i=t→Ends PP 0 (aHp l s (i:Int)).as (.ret (.int .i64 (dH s t i))) (aE [] 0)
 | [],i,h=>by
  have:=aT h;exact aWy l s i sd
 | c ::t,i,h=>by
  obtain⟨q1,q2,q3⟩ :=aR h;rw [dH];by_cases e:c=s
  · rw [if_pos e];exact aWw l s i c sd sd sd (by rw [bT];simp [e])
  · rw [if_neg e];exact(aWx l s i c sd sd sd (by rw [bT];simp [Ne.symm e]) sd).ends (aJV l s hl t (i+1) q2)
theorem aSO (l:List aC)(s:aC)(hl:l.length<1000000) :Pure PP 151 [.ilst 1 (map aB l) false,aB s] (.int .i64 (dH s l 0)) :=
 aP (by kernel_rfl) rfl rfl ((aWv l s).ends (aJV l s hl l 0 rfl))
theorem aJW (l:List Con)(s:aC)(hl:l.length<1000000) :∀ (t:List Con) (i:Nat),l.drop i=t→Ends PP 0 (aHo l s (i:Int)).as (.ret (.int .i64 (nO s t i))) (aE [] 0)
 | [],i,h=>by
  have:=aT h;exact aWu l s i sd
 | c ::t,i,h=>by
  obtain⟨q1,q2,q3⟩ :=aR h;rw [nO];by_cases e:c.name=s
  · rw [if_pos e];exact aWs l s i c _ sd sd sd (uM c) (by rw [bT];simp [e])
  · rw [if_neg e];exact(aWt l s i c _ sd sd sd (uM c) (by rw [bT];simp [e]) sd).ends (aJW l s hl t (i+1) q2)
theorem aSP (l:List Con)(s:aC)(hl:l.length<1000000) :Pure PP 158 [.ilst 2 (map Con.av l) false,.func 159 [] [],aB s] (.int .i64 (nO s l 0)) :=
 dF (s:=aYx l s) (by kernel_rfl) (by kernel_rfl) rfl rfl ((aWr l s).ends (aJW l s hl l 0 rfl))
def aSQ (pre:List aC)(m:List (aC×Bool)) :Prop:=∀s,dL s m=if bW pre s=true then some true else none
theorem aO0 {pre:List aC}{m:List (aC×Bool)}(h:aSQ pre m)(s:aC) :aSQ (pre++ [s]) (bP s true m) :=fun k=>by
 rw [uE,h k];by_cases e:k=s
 ·rw [if_pos e,if_pos (by rw [hasS_mem,e];simp)]
 · rw [if_neg e];have: (bW (pre++ [s]) k=true) = (bW pre k=true) :=by
    rw [hasS_mem,hasS_mem];simp [e]
   simp only [this]
theorem aYz (l:List aC)(hl:l.length<1000000) :∀ (t:List aC) (i:Nat) (m:List (aC×Bool)),l.drop i=t→aSQ (l.take i) m→Ends PP 0 (aBf l (i:Int) m).as (.ret (.bool (cB (l.take i) t))) (aE [] 0)
 | [],i,m,h,hm=>by
  have:=aT h;exact aWo l i m sd
 | s::t,i,m,h,hm=>by
  obtain⟨q1,q2,q3⟩ :=aR h;have g:=hm s;rw [cB];cases e:bW (l.take i) s with
  | true=>
   rw [e,if_pos rfl]at g;exact aWm l i m s s true sd sd sd (aDR s) g rfl
  | false=>
   rw [e,if_neg (by simp)]at g;have h1:=aWn l i m s s s sd sd sd (aDR s) g (aDR s) sd;have ih:=aYz l hl t (i+1) (bP s true m) q2 (by rw [aCc q1];exact aO0 hm s);rw [aCc q1]at ih;exact h1.ends ih
theorem aYA (l:List aC)(hl:l.length<1000000) :∀ (t:List aC) (i:Nat),l.drop i=t→Ends PP 0 (aHn l (i:Int)).as (.ret (.bool (t.all lG&&cI l))) (aE [] 0)
 | [],i,h=>by
  have:=aT h;have h2:=aYz l hl l 0 [] rfl (fun s=>by simp [dL,bW]);exact(aWl l i sd).ends h2
 | s::t,i,h=>by
  obtain⟨q1,q2,q3⟩ :=aR h;have hn:=aDm s;rw [List.all_cons];cases e:lG s with
  |false=>rw [e]at hn;exact aWj l i s false sd sd sd hn rfl (by simp)
  |true=>rw [e]at hn;rw [Bool.true_and];exact(aWk l i s true sd sd sd hn rfl sd).ends (aYA l hl t (i+1) q2)
theorem aDS (l:List aC)(hl:l.length<1000000) :Pure PP 139 [.ilst 1 (map aB l) false] (.bool (gI l)) :=
 aP (by kernel_rfl) rfl rfl ((aWi l).ends (aYA l hl l 0 rfl))
abbrev aHs (a b:List aC) :AObj:=.cells (putCells .leaf 0 [.ilst 1 (map aB a) false,.ilst 1 (map aB b) false]) 2 [] false
theorem aJX (a b:List aC)(ha:a.length≤1000)(hb:b.length≤1000) :aEK PP 1 (.enter 160 [.slice 0 0 2 2 1 true]) (aE [(0,aHs a b,false)] 1) (.ret (.ilst 1 (map aB (a++b)) false)) (aE [(0,aHs a b,false)] 1) :=by
 suffices hh:Ends PP 1 (aSG a b).as (.ret (.ilst 1 (map aB (a++b)) false)) (aE [(0,aHs a b,false)] 1)from⟨(aSG a b).as.fr,by kernel_rfl,mp (by kernel_rfl) hh⟩
 have w1:IntKind.i64.wrap ((0:Int) + ((length a:Nat) :Int)) = (0:Int) + ((length a:Nat) :Int) :=by apply wrap64<;>omega
 have w2:IntKind.i64.wrap (((0:Int) + ((length a:Nat) :Int)) + ((length b:Nat) :Int)) = ((0:Int) + ((length a:Nat) :Int)) + ((length b:Nat) :Int) :=by apply wrap64<;>omega
 have w3:IntKind.i64.wrap ((((0:Int) + ((length a:Nat) :Int)) + ((length b:Nat) :Int)) - (0:Int)) = (((0:Int) + ((length a:Nat) :Int)) + ((length b:Nat) :Int)) - (0:Int) :=by apply wrap64<;>omega
 by_cases h:a.length+b.length=0
 · have h1:=aWq a b w1 (decide_eq_false (by omega)) w2 (decide_eq_false (by omega)) w3 (decide_eq_false (by omega)) (by simp;omega) (by simp;omega);rw [nil_append]at h1;exact h1
 ·exact aWp a b w1 (decide_eq_false (by omega)) w2 (decide_eq_false (by omega)) w3 (decide_eq_true (by omega)) (by omega) (by omega) (by omega) (by omega) (by omega) (by simp;omega)
theorem aSR (xs:List Node)(h:xs.length≤1000000) :aCR PP (.enter 189 [.ilst 4 (map Node.av xs) false]) (aE [] 0) (.ret (.gl 0 4 0 (length xs) false)) (aE [(0,.lst 4 (map Node.av xs),true)] 1) :=by
 suffices hh:Ends PP 0 (aSF xs).as (.ret (.gl 0 4 0 (length xs) false)) (aE [(0,.lst 4 (map Node.av xs),true)] 1)from⟨(aSF xs).as.fr,by kernel_rfl,mp (by kernel_rfl) hh⟩
 refine(aZ5 xs).ends ?_;refine aPD (j:=3) (e:=4) (ex:=false) (xs:=map Node.av xs) (by kernel_rfl) (fun hx=>?_) (fun a n c=>?_)
 · have hx:xs= [] :=by simpa using hx
   subst hx;exact mp (by kernel_rfl) (aZ6 [])
 · have h1:=aZ7 xs a n c (by simpa using h);rw [nil_append]at h1;exact mp (by kernel_rfl) h1
theorem rI (l:List aC) :cI l=true↔l.Nodup:=
 ⟨fun h=> (rF l [] h).1,fun h=>aAo l [] h (fun _ _ hx=>by cases hx)⟩
theorem aL5 (a b:List aC)(ha:gI a=true)(hb:gI b=true) :gI (a++b) =b.all (fun s=> !bW a s) :=by
 simp only [gI,and_eq_true,rI]at ha hb;have hn: (a++b).all lG=true:=by rw [List.all_append,ha.1,hb.1];rfl
 rw [gI,hn,Bool.true_and];rw [Bool.eq_iff_iff,rI,List.nodup_append,List.all_eq_true];constructor
 · intro h s hs;rw [Bool.not_eq_true',Bool.eq_false_iff];intro hh;exact h.2.2 s (hasS_mem.1 hh) s hs rfl
 · intro h;refine⟨ha.2,hb.2,fun x hx y hy e=>?_⟩;have:=h y hy;rw [Bool.not_eq_true',Bool.eq_false_iff]at this;exact this (hasS_mem.2 (e ▸ hx))
def NumU (u:LUnit) :Prop:=∀x∈u.nodes,-9223372036854775808≤x.n∧x.n≤9223372036854775807
theorem aO1 {n:Int}(h: -9223372036854775808≤n∧n≤9223372036854775807) :IntKind.i64.wrap ((-1:Int) -n) = (-1:Int) -n:=by apply wrap64<;>omega
theorem aFk (b:Bool) : (checkN b== (0:Int)) =b:=by cases b<;>rfl
section
variable (u :LUnit) (hu:FewU u) (hi:NumU u)
include hu hi
theorem aYB (l3:List Int)(h3:l3=dE u) :∀ (t:List Node) (i:Nat),u.nodes.drop i=t→i≤u.nodes.length→Ends PP 0 (rH u (aH u) ((u.nodes.length:Nat) :Int) (pA (fW u.funs.length u.needs.length) u.nodes i) l3 (i:Int)).as (.ret (.bool (aZ (jP u)))) (aE [] 0)
 | [],i,h,hi=>by
  have hd:=aT h;rw [aJD (by omega),h3];have h1:=aM4 u (aH u) ((u.nodes.length:Nat) :Int) (jP u).nodes (jP u).funs i _ sd (aJm (vG hu));rw [aFk]at h1;exact h1
 | x :: t,i,h,hi2=>by
  obtain⟨q1,q2,q3⟩ :=aR h;have hi3:= (List.getElem?_eq_some_iff.1 q1).1;have hn:u.nodes.length≤320:=by have:=hu.p;simp only [aL,and_eq_true,decide_eq_true_eq]at this;exact this.1.1.1.1
  have hf:=hu.f;have hd:=hu.n;have hl: (pA (fW u.funs.length u.needs.length) u.nodes i).length=u.nodes.length:=aDC;have ho: (aH u).length=u.funs.length:=by simp [aH]
  have hg:=aJE (f:=fW u.funs.length u.needs.length) q1;have w1:=aO1 (hi x (mem_of_getElem? q1));have w2:IntKind.i64.wrap (((length (aH u) :Nat) :Int) + ((length u.needs:Nat) :Int)) = ((length (aH u) :Nat) :Int) + ((length u.needs:Nat) :Int) :=by apply wrap64<;>omega
  have ih:=aYB l3 h3 t (i+1) q2 (by omega);by_cases h4:x.op=4
  · by_cases ha: ((length (aH u) :Nat) :Int) ≤ -1-x.n
    · by_cases hb: -1-x.n< ((length (aH u) :Nat) :Int) + ((length u.needs:Nat) :Int)
      · have ef:fW u.funs.length u.needs.length x= ⟨x.op,-1,x.kids,x.pats⟩ :=by unfold fW;rw [if_pos ⟨h4,by omega⟩]
        have h1:=aWJ u (aH u) ((u.nodes.length:Nat) :Int) _ l3 i x sd sd (by rw [hl];omega) (by rw [Int.toNat_natCast];exact hg) w1 (by simp [h4]) (decide_eq_true ha) w2 (decide_eq_true hb) sd;rw [Int.toNat_natCast,←ef,aJF q1]at h1;exact h1.ends ih
      · have ef:fW u.funs.length u.needs.length x=x:=by unfold fW;rw [if_neg (fun g=>by have:=g.2;omega)]
        have h1:=aWK u (aH u) ((u.nodes.length:Nat) :Int) _ l3 i x sd sd (by rw [hl];omega) (by rw [Int.toNat_natCast];exact hg) w1 (by simp [h4]) (decide_eq_true ha) w2 (decide_eq_false hb) sd;rw [pC q1 ef]at h1 hl ⊢;exact h1.ends ih
    · have ef:fW u.funs.length u.needs.length x=x:=by unfold fW;rw [if_neg (fun g=>by have:=g.2;omega)]
      have h1:=aWL u (aH u) ((u.nodes.length:Nat) :Int) _ l3 i x sd sd (by rw [hl];omega) (by rw [Int.toNat_natCast];exact hg) w1 (by simp [h4]) (decide_eq_false ha) sd;rw [pC q1 ef]at h1 hl ⊢;exact h1.ends ih
  · have ef:fW u.funs.length u.needs.length x=x:=by unfold fW;rw [if_neg (fun g=>h4 g.1)]
    have h1:=aM3 u (aH u) ((u.nodes.length:Nat) :Int) _ l3 i x sd sd (by rw [hl];omega) (by rw [Int.toNat_natCast];exact hg) w1 (by simp [h4]) sd;rw [pC q1 ef]at h1 hl ⊢;exact h1.ends ih
theorem aSS :Ends PP 0 (rH u (aH u) (((length [(Node.mk 3 0 [] [])]) :Nat) :Int) [(Node.mk 3 0 [] [])] [0] 0).as (.ret (.bool (aZ (wZ u)))) (aE [] 0) :=by
 have h0:=aM3 u (aH u) 1 [(Node.mk 3 0 [] [])] [0] 0 ⟨3,0,[],[]⟩ (by decide) (by decide) (by decide) rfl (by decide) (by decide) (by decide);have h1:=aM4 u (aH u) 1 (wZ u).nodes (wZ u).funs 1 _ (by decide) (aJm (aDD hu));rw [aFk]at h1;exact h0.ends h1
theorem aYC (b:Bool)(hb:b=if u.funs.length=0 then decide (u.nodes.length=0) &&aZ (wZ u)else aZ (jP u)) :∀ (t:List LFun) (i:Nat) (acc:List Int),u.funs.drop i=t→acc.length=i→acc++t.map LFun.body=dE u→Ends PP 0 (aHq u (aH u) (i:Int) acc).as (.ret (.bool b)) (aE [] 0)
 | [], i,acc,h,ha,e=>by
  have:=aT h;have ho: (aH u).length=u.funs.length:=by simp [aH]
  rw [map_nil,append_nil]at e;by_cases h0:u.funs.length=0
  · rw [if_pos h0]at hb;by_cases h1:u.nodes.length=0
    · rw [decide_eq_true h1,Bool.true_and]at hb;rw [hb];exact(aWH u (aH u) i acc sd (by rw [ho,h0];rfl) (by rw [h1];rfl)).ends (aSS u hu hi)
    · rw [decide_eq_false h1,Bool.false_and]at hb;rw [hb];exact aWG u (aH u) i acc sd (by rw [ho,h0];rfl) (decide_eq_true (by omega))
  · rw [if_neg h0]at hb;rw [hb];have h2:=aYB u hu hi acc e u.nodes 0 rfl (Nat.zero_le _);rw [aFb]at h2;exact(aWI u (aH u) i acc sd (beq_eq_false_iff_ne.2 (by rw [ho];omega))).ends h2
 | f::t,i,acc,h,ha,e=>by
  obtain⟨q1,q2,q3⟩ :=aR h;have hf:=hu.f;exact(aWF u (aH u) i acc f sd sd sd (by simp;omega) sd).ends (aYC b hb t (i+1) (acc++ [f.body]) q2 (by simp [ha]) (by simpa using e))
theorem aST :Pure PP 121 [LUnit.av u] (.bool (hR u)) :=by
 have hf:=hu.f;have hd:=hu.n;refine dF (s:=aYy u) (by kernel_rfl) (by kernel_rfl) (by simp [keylessL,jL]) (by simp [keyless]) ?_;have hnl: (aH u).length=u.funs.length:=by simp [aH]
 have a0:=aJU u (by omega);have a1:=aDm u.name;have a2:=aDS (aH u) (by omega);have a3:=aDS u.needs (by omega);have a4:=aDS (aH u++u.needs) (by simp;omega);have hn:u.nodes.length≤320:=by have:=hu.p;simp only [aL,and_eq_true,decide_eq_true_eq]at this;exact this.1.1.1.1
 have hc:=aJX (aH u) u.needs (by omega) (by omega)
 have hc':=lT (m:=1) (ks:=[1]) (n2:=2) (n3:=2) (v':=.ilst 1 (map aB (aH u++u.needs)) false) (args':=[.slice 1 0 2 2 1 true])
  (lc:=[(0,nP u,false),(1,aHs (aH u) u.needs,false)]) (lc':=[(0,nP u,false),(1,aHs (aH u) u.needs,false)])
  hc (by rfl) (by kernel_rfl) (by kernel_rfl) (by rfl) (by rfl) (by kernel_rfl) (by kernel_rfl) trivial (by kernel_rfl) trivial
 have hk:=zT (ks:=[]) (n2:=3) (args':=[.ilst 4 (map Node.av u.nodes) false])
  (lc:=[(0,nP u,false),(1,aHs (aH u) u.needs,false)]) (x:=[(0,nP u,false),(1,aHs (aH u) u.needs,false)])
  (aSR u.nodes (by omega)) (by kernel_rfl) (by kernel_rfl) (by kernel_rfl) trivial (by kernel_rfl) (by kernel_rfl) (by kernel_rfl) (by kernel_rfl) ⟨aD _ (fun _=>rfl) _,trivial⟩ (by kernel_rfl)
 unfold hR;cases e1:lG u.name with
 |false=>rw [e1]at a1;simp only [Bool.false_and];exact aWz u (aH u) false a0 a1 rfl
 | true =>
  rw [e1]at a1;by_cases e2:u.needs.length≤20
  · rw [decide_eq_true e2];cases e3:gI (aH u)with
    |false=>rw [e3]at a2;simp only [Bool.true_and,Bool.false_and,Bool.and_false];exact aWB u (aH u) true false a0 a1 rfl (by simp;omega) a2 rfl
    | true=>
     rw [e3]at a2;cases e4:gI u.needs with
     |false=>rw [e4]at a3;simp only [Bool.true_and,Bool.false_and,Bool.and_false];exact aWC u (aH u) true true false a0 a1 rfl (by simp;omega) a2 rfl a3 rfl
     | true=>
      rw [e4]at a3;rw [aL5 _ _ e3 e4]at a4;simp only [Bool.true_and];cases e5:u.needs.all (fun s=> !bW (aH u) s)with
      | false=>
       rw [e5]at a4;rw [Bool.false_and];exact aWD u (aH u) true true true false a0 a1 rfl (by simp;omega) a2 rfl a3 rfl (mp (by kernel_rfl) hc') a4 rfl
      | true=>
       rw [e5]at a4;rw [Bool.true_and];exact(aWE u (aH u) true true true true a0 a1 rfl (by simp;omega) a2 rfl a3 rfl (mp (by kernel_rfl) hc') a4 rfl (mp (by kernel_rfl) hk)).ends (aYC u hu hi _ rfl u.funs 0 [] rfl rfl rfl)
  · rw [decide_eq_false e2];simp only [Bool.and_false,Bool.false_and];exact aWA u (aH u) true a0 a1 rfl (by simp;omega)
end
end
end Go.Hb

set_option linter.defProp false
set_option linter.unusedVariables false
set_option linter.unusedSimpArgs false
set_option linter.unusedSectionVars false
set_option maxRecDepth 100000
set_option maxHeartbeats 4000000
namespace Go.Hb
open AV (ilst keyless keylessL)
open Eq (mp)
open List (append_assoc append_nil drop length length_cons map map_map map_nil mem_of_getElem? take zipWith)
open Go.Proofs Tryz
noncomputable section
def aSU(a:List LUnit):TS:=cK PP 63 [(.ilst 5 (map LUnit.av a) false)] [] 0
def aBh(a:List LUnit)(e:Int)(f:Bool)(b c:List (aC×Int))(d:List aC):TS:=⟨(tf 63 87 [(2,.nilp),kp 3 0,(19,(.ilst 5 (map LUnit.av a) false)),(20,(nI (a.length:Int))),(21,(nI e))] [kc f63 244,kl f63 244,.inBlock 0,kc f63 31]),[],[oC 0 [(.ilst 5 (map LUnit.av a) false),(.map 1),(.map 2),(.gl 3 1 0 d.length false),(bV f)],(1,(.map (aF aB aQ 0 b) b.length),true),(2,(.map (aF aB aQ 0 c) c.length),true),oL 3 1 (map aB d)],4⟩
def aDT(a:List LUnit)(e:List LFun)(f g:Int)(i:Bool)(b:List aC)(c d:List (aC×Int))(j k:Int):TS:=⟨(tf 63 87 [(2,.nilp),kp 3 0,(4,(nI j)),(19,(.ilst 5 (map LUnit.av a) false)),(20,(nI (a.length:Int))),(21,(nI k)),(31,(.ilst 2 (map LFun.av e) false)),(32,(nI f)),(33,(nI g))] [kc f63 125340,kl f63 125340,.inBlock 2,.inBlock 1,kc f63 1959,kl f63 244,.inBlock 0,kc f63 31]),[],[oC 0 [(.ilst 5 (map LUnit.av a) false),(.map 1),(.map 2),(.gl 3 1 0 b.length false),(bV i)],(1,(.map (aF aB aQ 0 c) c.length),true),(2,(.map (aF aB aQ 0 d) d.length),true),oL 3 1 (map aB b)],4⟩
def aSV(d:List LUnit)(a b:List (aC×Int))(c:List aC)(e:Bool):TS:=cK PP 64 [(.ptr 0 0)] [oC 0 [(.ilst 5 (map LUnit.av d) false),(.map 1),(.map 2),(.gl 3 1 0 c.length false),(bV e)],(1,(.map (aF aB aQ 0 a) a.length),true),(2,(.map (aF aB aQ 0 b) b.length),true),oL 3 1 (map aB c)] 4
def aDU(a:List LUnit)(b c:List (aC×Int))(d:List aC)(f:Bool)(g:Int)(e:List aC):TS:=⟨(tf 64 50 [kp 0 0,(2,.nils),(3,(.gl 4 1 0 e.length false)),(13,(.ilst 5 (map LUnit.av a) false)),(14,(nI (a.length:Int))),(15,(nI g))] [kc f64 116,kl f64 116,.inBlock 0,kc f64 15]),[],[oC 0 [(.ilst 5 (map LUnit.av a) false),(.map 1),(.map 2),(.gl 3 1 0 d.length false),(bV f)],(1,(.map (aF aB aQ 0 b) b.length),true),(2,(.map (aF aB aQ 0 c) c.length),true),oL 3 1 (map aB d),oL 4 1 (map aB e)],5⟩
def uN(a:List LUnit)(b c:List (aC×Int))(d:List aC)(f:Bool)(g:List aC)(i j:Int)(e:List aC)(k:Int):TS:=⟨(tf 64 50 [kp 0 0,(2,.nils),(3,(.gl 4 1 0 e.length false)),(13,(.ilst 5 (map LUnit.av a) false)),(14,(nI (a.length:Int))),(15,(nI k)),(20,(iS g)),(21,(nI i)),(22,(nI j))] [kc f64 29900,kl f64 29900,.inBlock 2,.inBlock 1,kc f64 935,kl f64 116,.inBlock 0,kc f64 15]),[],[oC 0 [(.ilst 5 (map LUnit.av a) false),(.map 1),(.map 2),(.gl 3 1 0 d.length false),(bV f)],(1,(.map (aF aB aQ 0 b) b.length),true),(2,(.map (aF aB aQ 0 c) c.length),true),oL 3 1 (map aB d),oL 4 1 (map aB e)],5⟩
def aHt(c:List LUnit)(d e:List (aC×Int))(f:List aC)(g:Bool)(b:aC)(i:List aC)(j k l m n:Int)(a:List aC):TS:=⟨(tf 151 19 [(0,(.gl 4 1 0 a.length false)),(1,(aB b)),(4,(nI 0)),(7,(nI m)),(8,(nI l))] [kc f151 52,kl f151 52,.inBlock 0,kc f151 7]),[(tf 58 9 [(4,(bV false)),(5,(.gl 4 1 0 a.length false)),(6,(aB b))] [ko f58 6 2,kc f58 7]),(tf 64 50 [kp 0 0,(2,.nils),(3,(.gl 4 1 0 a.length false)),(7,(aB b)),(13,(.ilst 5 (map LUnit.av c) false)),(14,(nI (c.length:Int))),(15,(nI n)),(20,(iS i)),(21,(nI j)),(22,(nI k)),(37,(bV true)),(38,(.gl 4 1 0 a.length false)),(39,(aB b))] [ko f64 3827302 5,kc f64 3827303,.inBlock 3,kc f64 239207,kl f64 29900,.inBlock 2,.inBlock 1,kc f64 935,kl f64 116,.inBlock 0,kc f64 15])],[oC 0 [(.ilst 5 (map LUnit.av c) false),(.map 1),(.map 2),(.gl 3 1 0 f.length false),(bV g)],(1,(.map (aF aB aQ 0 d) d.length),true),(2,(.map (aF aB aQ 0 e) e.length),true),oL 3 1 (map aB f),oL 4 1 (map aB a)],5⟩
def aSW(d:List LUnit)(a b:List (aC×Int))(c:List aC)(e:Bool):TS:=cK PP 77 [(.ptr 0 0)] [oC 0 [(.ilst 5 (map LUnit.av d) false),(.map 1),(.map 2),(.gl 3 1 0 c.length false),(bV e)],(1,(.map (aF aB aQ 0 a) a.length),true),(2,(.map (aF aB aQ 0 b) b.length),true),oL 3 1 (map aB c)] 4
def aBi(a:List LUnit)(b c:List (aC×Int))(d:List aC)(f:Bool)(g:Int)(e:List Con):TS:=⟨(tf 77 51 [(2,.nils),(3,(.gl 4 2 0 e.length false)),(12,(.ilst 5 (map LUnit.av a) false)),(13,(nI (a.length:Int))),(14,(nI g))] [kc f77 436,kl f77 436,.inBlock 0,kc f77 55,.inScope (kd f77 6)]),[],[oC 0 [(.ilst 5 (map LUnit.av a) false),(.map 1),(.map 2),(.gl 3 1 0 d.length false),(bV f)],(1,(.map (aF aB aQ 0 b) b.length),true),(2,(.map (aF aB aQ 0 c) c.length),true),oL 3 1 (map aB d),oL 4 2 (jC e)],5⟩
def uO(a:List LUnit)(b c:List (aC×Int))(d:List aC)(f:Bool)(g:List Con)(i j k:Int)(e:List Con):TS:=⟨(tf 77 51 [(2,.nils),(3,(.gl 4 2 0 e.length false)),(12,(.ilst 5 (map LUnit.av a) false)),(13,(nI (a.length:Int))),(14,(nI j)),(23,(iC g)),(24,(nI i)),(25,(nI k))] [kc f77 223644,kl f77 223644,.inBlock 2,.inBlock 1,kc f77 3495,kl f77 436,.inBlock 0,kc f77 55,.inScope (kd f77 6)]),[],[oC 0 [(.ilst 5 (map LUnit.av a) false),(.map 1),(.map 2),(.gl 3 1 0 d.length false),(bV f)],(1,(.map (aF aB aQ 0 b) b.length),true),(2,(.map (aF aB aQ 0 c) c.length),true),oL 3 1 (map aB d),oL 4 2 (jC e)],5⟩
def aBj(b:List LUnit)(c d:List (aC×Int))(e:List aC)(f:Bool)(g:Int)(i:List Con)(j:Int)(k l m:aC)(n o p q:Int)(a:List Con):TS:=⟨(tf 223 19 [(0,(.gl 4 2 0 a.length false)),(1,(.func 224 [] [(.ptr 5 0),(.ptr 6 0)])),(4,(nI 0)),(7,(nI p)),(8,(nI o))] [kc f223 52,kl f223 52,.inBlock 0,kc f223 7]),[(tf 158 10 [(6,(nI 0)),(7,(.gl 4 2 0 a.length false)),(8,(.func 224 [] [(.ptr 5 0),(.ptr 6 0)]))] [ko f158 6 2,kc f158 7]),(tf 77 51 [(2,.nils),(3,(.gl 4 2 0 a.length false)),kp 7 7,(12,(.ilst 5 (map LUnit.av b) false)),(13,(nI (b.length:Int))),(14,(nI g)),(23,(iC i)),(24,(nI j)),(25,(nI q)),(29,(.gl 4 2 0 a.length false)),(31,(aB k))] [ko f77 14313266 3,kc f77 14313267,.inBlock 3,kc f77 1789159,kl f77 223644,.inBlock 2,.inBlock 1,kc f77 3495,kl f77 436,.inBlock 0,kc f77 55,.inScope (kd f77 6)])],[oC 0 [(.ilst 5 (map LUnit.av b) false),(.map 1),(.map 2),(.gl 3 1 0 e.length false),(bV f)],(1,(.map (aF aB aQ 0 c) c.length),true),(2,(.map (aF aB aQ 0 d) d.length),true),oL 3 1 (map aB e),oL 4 2 (jC a),oC 5 [(.func 159 [] [])],oC 6 [(aB l)],oC 7 [(aB m),(nI n)]],8⟩
theorem aWP (l:List LUnit)(mf: (List (aC×Int)))(mh: (List (aC×Int)))(od:List aC)(tw:Bool)(t14:Int)(t23:List Con)(t24:Int)(t31 c6_0 c7_0:aC)(c7_1 t8:Int)(t7 t25:Int)(l4:List Con)(y0:Con)(y1:aC)(h0:decide (t8<t7) =true)(h1:0≤t8)(h2:t8< ((l4.length:Nat) :Int))(h3: ((l4)[t8.toNat]?) =some y0)(h4:Pure PP 159 [(.agg [(aB y0.name),(nI y0.args)])] (aB y1))(h5: (bB y1.length (aA y1) c6_0.length (aA c6_0)) =true)(h6:decide (t8< (0:Int)) =false)(h7:Spec PP (.enter 67 [(bV (y0.args != c7_1)),(nI 7)]) (aE [oC 0 [(.ilst 5 (map LUnit.av l) false),(.map 1),(.map 2),(.gl 3 1 0 od.length false),(bV tw)],(1,(.map (aF aB aQ 0 mf) mf.length),true),(2,(.map (aF aB aQ 0 mh) mh.length),true),oL 3 1 (map aB od),oL 4 2 (jC l4),oC 5 [(.func 159 [] [])],oC 6 [(aB c6_0)],oC 7 [(aB c7_0),(nI c7_1)],oC 8 [(aB y0.name),(nI y0.args)]] 9) (.pan [((.iface 201 (.agg [(nI 7)])),false)]) (aE [oC 0 [(.ilst 5 (map LUnit.av l) false),(.map 1),(.map 2),(.gl 3 1 0 od.length false),(bV tw)],(1,(.map (aF aB aQ 0 mf) mf.length),true),(2,(.map (aF aB aQ 0 mh) mh.length),true),oL 3 1 (map aB od),oL 4 2 (jC l4),oC 5 [(.func 159 [] [])],oC 6 [(aB c6_0)],oC 7 [(aB c7_0),(nI c7_1)],oC 8 [(aB y0.name),(nI y0.args)]] 9)) :
  Ends PP 4 (aBj l mf mh od tw t14 t23 t24 t31 c6_0 c7_0 c7_1 t8 t7 t25 l4).as (.pan [((.iface 201 (.agg [(nI 7)])),false)]) (aE [oC 0 [(.ilst 5 (map LUnit.av l) false),(.map 1),(.map 2),(.gl 3 1 0 od.length false),(bV tw)],(1,(.map (aF aB aQ 0 mf) mf.length),true),(2,(.map (aF aB aQ 0 mh) mh.length),true),oL 3 1 (map aB od)] 4) :=
 aLX (n1:=9) (ks:=[]) (e:=8) (is1:=[.d,.d,.ans (.ix),.d,.ans (.idx (Con.av y0)),.d,.d,.d]) (v:= (.tup [])) (h2:=aE [oC 0 [(.ilst 5 (map LUnit.av l) false),(.map 1),(.map 2),(.gl 3 1 0 od.length false),(bV tw)],(1,(.map (aF aB aQ 0 mf) mf.length),true),(2,(.map (aF aB aQ 0 mh) mh.length),true),oL 3 1 (map aB od),oL 4 2 (jC l4),oC 5 [(.func 159 [] [])],oC 6 [(aB c6_0)],oC 7 [(aB c7_0),(nI c7_1)],oC 8 [(aB y0.name),(nI y0.args)]] 9) (is2:=[]) (os:=[]) (h':=aE [oC 0 [(.ilst 5 (map LUnit.av l) false),(.map 1),(.map 2),(.gl 3 1 0 od.length false),(bV tw)],(1,(.map (aF aB aQ 0 mf) mf.length),true),(2,(.map (aF aB aQ 0 mh) mh.length),true),oL 3 1 (map aB od),oL 4 2 (jC l4),oC 5 [(.func 159 [] [])],oC 6 [(aB c6_0)],oC 7 [(aB c7_0),(nI c7_1)],oC 8 [(aB y0.name),(nI y0.args)]] 9) (hp:=[oC 0 [(.ilst 5 (map LUnit.av l) false),(.map 1),(.map 2),(.gl 3 1 0 od.length false),(bV tw)],(1,(.map (aF aB aQ 0 mf) mf.length),true),(2,(.map (aF aB aQ 0 mh) mh.length),true),oL 3 1 (map aB od)]) (ch:=[((.iface 201 (.agg [(nI 7)])),false)]) (ps:=[decide (t8<t7) =true,0≤t8,t8< ((l4.length:Nat) :Int),(jC l4)[(0+t8.toNat)]?=some (Con.av y0),Pure PP 159 [(.agg [(aB y0.name),(nI y0.args)])] (aB y1),(aB c6_0) = (aB c6_0),(aB c6_0) = (aB c6_0),(bB y1.length (aA y1) c6_0.length (aA c6_0)) =true,decide (t8< (0:Int)) =false,0≤t8,t8< ((l4.length:Nat) :Int),(jC l4)[(0+t8.toNat)]?=some (Con.av y0),Spec PP (.enter 67 [(bV (y0.args != c7_1)),(nI 7)]) (aE [oC 0 [(.ilst 5 (map LUnit.av l) false),(.map 1),(.map 2),(.gl 3 1 0 od.length false),(bV tw)],(1,(.map (aF aB aQ 0 mf) mf.length),true),(2,(.map (aF aB aQ 0 mh) mh.length),true),oL 3 1 (map aB od),oL 4 2 (jC l4),oC 5 [(.func 159 [] [])],oC 6 [(aB c6_0)],oC 7 [(aB c7_0),(nI c7_1)],oC 8 [(aB y0.name),(nI y0.args)]] 9) (.pan [((.iface 201 (.agg [(nI 7)])),false)]) (aE [oC 0 [(.ilst 5 (map LUnit.av l) false),(.map 1),(.map 2),(.gl 3 1 0 od.length false),(bV tw)],(1,(.map (aF aB aQ 0 mf) mf.length),true),(2,(.map (aF aB aQ 0 mh) mh.length),true),oL 3 1 (map aB od),oL 4 2 (jC l4),oC 5 [(.func 159 [] [])],oC 6 [(aB c6_0)],oC 7 [(aB c7_0),(nI c7_1)],oC 8 [(aB y0.name),(nI y0.args)]] 9)]) (is:=[.run 5,.b 9 true,.run 14,.ans (.ix),.ans (.idx (Con.av y0)),.run 7,.reg [.d,.d,.pure (aB y1),.d,.d,.d],.run 3,.b 16 true,.run 20,.b 34 false,.run 2]) (by kernel_rfl) (by kernel_rfl) ⟨aM (fun _=>rfl) (fun _=>rfl) _ _ _,⟨aM (fun _=>rfl) (fun _=>rfl) _ _ _,⟨(aD _ (fun _=>rfl) _),trivial⟩⟩⟩ ⟨h0,h1,h2,(eZ h3),h4,rfl,rfl,h5,h6,h1,h2,(eZ h3),h7⟩
def aSX(d:List LUnit)(a b:List (aC×Int))(c:List aC)(e:Bool):TS:=cK PP 78 [(.ptr 0 0)] [oC 0 [(.ilst 5 (map LUnit.av d) false),(.map 1),(.map 2),(.gl 3 1 0 c.length false),(bV e)],(1,(.map (aF aB aQ 0 a) a.length),true),(2,(.map (aF aB aQ 0 b) b.length),true),oL 3 1 (map aB c)] 4
def aHu(a:List LUnit)(b c:List (aC×Int))(d:List aC)(e:Bool)(f g:Int):TS:=⟨(tf 78 22 [(2,(nI 0)),(3,(nI f)),(9,(.ilst 5 (map LUnit.av a) false)),(10,(nI (a.length:Int))),(11,(nI g))] [kc f78 116,kl f78 116,.inBlock 0,kc f78 15]),[],[oC 0 [(.ilst 5 (map LUnit.av a) false),(.map 1),(.map 2),(.gl 3 1 0 d.length false),(bV e)],(1,(.map (aF aB aQ 0 b) b.length),true),(2,(.map (aF aB aQ 0 c) c.length),true),oL 3 1 (map aB d)],4⟩
def aSY(a:List LUnit):=tT 0 (aSU a)<|gl 7 LUnit.av a<|gd 6 4 ((a.length:Int) >10) (gQ 7 0 [((.iface 201 (.agg [(nI 2)])),false)])<|.i [rn 9,.mset 0 (aF aB aQ 0 ([] :List (aC×Int))) ([] :List (aC×Int)).length] [hr (aF aB aQ 0 ([] :List (aC×Int))),hr (length ([] :List (aC×Int)))]<|.i [rn 1,.mset 1 (aF aB aQ 0 ([] :List (aC×Int))) ([] :List (aC×Int)).length] [hr (aF aB aQ 0 ([] :List (aC×Int))),hr (length ([] :List (aC×Int)))]<|gl 8 LUnit.av a<|.i [rn 4,.cnil 2 3 1] []<|gu 0 3 (map aB ([] :List aC))<|gv 0 2 3 (.gl 3 1 0 ([] :List aC).length false)<|.W 0 4 [2,0,1,3] (aBh a 0 false ([] :List (aC×Int)) ([] :List (aC×Int)) ([] :List aC))
def aWQ:=fun a b=>aSY a|>.t b tv
def aM5:=fun a b=>aSY a|>.f b ⟨aM (fun _=>rfl) (fun _=>rfl) _ _ _,⟨aM (fun _=>rfl) (fun _=>rfl) _ _ _,⟨kk,trivial⟩⟩⟩
def aL6(b:List LUnit)(c:Int)(g:Bool)(d e:List (aC×Int))(f:List aC):=tT 0 (aBh b c g d e f)<|gd 5 22 (c< (b.length:Int)) (gX LUnit.av 7 b c<|fun a=>eU 8 121 [(.agg [(aB a.name),(iC a.cons),(.ilst 2 (map LFun.av a.funs) false),(iS a.needs),(iN a.nodes)])]<|fun i=>.b 6 4 (!i) (gQ 7 5 [((.iface 201 (.agg [(nI 2)])),false)])<|gl 9 LFun.av a.funs<|.W 4 5 [0,1,2,3] (aDT b a.funs (a.funs.length:Int) 0 g f d e c c))<|.E 8 4 [0,1,2,3] (.ptr 0 0) [oC 0 [(.ilst 5 (map LUnit.av b) false),(.map 1),(.map 2),(.gl 3 1 0 f.length false),(bV g)],(1,(.map (aF aB aQ 0 d) d.length),true),(2,(.map (aF aB aQ 0 e) e.length),true),oL 3 1 (map aB f)] 4
def aWR:=fun a b c d e f g i j k l m n=>aL6 a b c d e f|>.t j g k l i m|>.t n tv
def aWS:=fun a b c d e f g i j k l m n=>aL6 a b c d e f|>.t j g k l i m|>.f n ⟨aM (fun _=>rfl) (fun _=>rfl) _ _ _,⟨aM (fun _=>rfl) (fun _=>rfl) _ _ _,⟨kk,trivial⟩⟩⟩
def aWT:=fun a b c d e f g=>aL6 a b c d e f|>.f g ⟨aM (fun _=>rfl) (fun _=>rfl) _ _ _,⟨aM (fun _=>rfl) (fun _=>rfl) _ _ _,⟨kk,trivial⟩⟩⟩
def aL7(i:List LUnit)(j:List LFun)(k f:Int)(l:Bool)(c:List aC)(b d:List (aC×Int))(e g:Int):=tT 0 (aDT i j k f l c b d e g)<|gd 5 34 (f<k) (gX LFun.av 6 j f<|fun a=>.o (.y fun m:Int=>.i [rn 6,.reg (rd 6 (.ans (.look (some (yB a.name b,(aQ m))))::rd 5 [])),rn 11,.reg (rd 8 (.app (map aB (c++ [a.name])) (c++ [a.name]).length::rd 3 []))] [.a (dL a.name b=some m) (p':=eT (aB a.name) (aF aB aQ 0 b) 0=some (some (yB a.name b,(aQ m)))) (uY gB),hb aB c,hA (length (c++ [a.name]) ≤1000000),hc aB c [a.name],he aB c [a.name]]<|gw 3 84 (f+1)<|.W 3 7 [0,1,2,6] (aDT i j k (f+1) true (c++ [a.name]) b d e g))<|.i [rn 6,.reg (rd 6 (.ans (.look none)::rd 5 [])),rn 5,.reg (rd 18 [.mval (.tup [(nI 0),(nI (b.length:Int))]) (aF aB aQ 0 (bP a.name 0 b)) (bP a.name 0 b).length,.d,.mval .undef (aF aB aQ 0 (bP a.name (c.length:Int) b)) (bP a.name (c.length:Int) b).length,.mval (.tup [(nI 0),(nI (d.length:Int))]) (aF aB aQ 0 (bP a.name 0 d)) (bP a.name 0 d).length,.d,.mval .undef (aF aB aQ 0 (bP a.name e d)) (bP a.name e d).length]),.reg (rd 8 (.app (map aB (c++ [a.name])) (c++ [a.name]).length::rd 3 []))] [.a (dL a.name b=none) (p':=eT (aB a.name) (aF aB aQ 0 b) 0=some none) (uX gB),.a (dL a.name b=none) (p':=aAS (aF aB aQ 0 b) b.length (aB a.name) (aQ 0) =some ((.tup [(nI 0),(nI (b.length:Int))]),(aF aB aQ 0 (bP a.name 0 b)),length (bP a.name 0 b))) (fun h=>(aMN gB h _)),.q (p:=0≤ (b.length:Int)) (Int.natCast_nonneg _),.a (dL a.name b=none) (p':=hM (aQ (c.length:Int)) (b.length:Int).toNat (aF aB aQ 0 (bP a.name 0 b)) =some (aF aB aQ 0 (bP a.name (c.length:Int) b))) (fun h=>(aJt h _ _)),.a (dL a.name b=none) (p':=(bP a.name 0 b).length=length (bP a.name (c.length:Int) b)) (fun h=>(aMO h _ _)),hr AV.undef,.a (dL a.name d=none) (p':=aAS (aF aB aQ 0 d) d.length (aB a.name) (aQ 0) =some ((.tup [(nI 0),(nI (d.length:Int))]),(aF aB aQ 0 (bP a.name 0 d)),length (bP a.name 0 d))) (fun h=>(aMN gB h _)),.q (p:=0≤ (d.length:Int)) (Int.natCast_nonneg _),.a (dL a.name d=none) (p':=hM (aQ e) (d.length:Int).toNat (aF aB aQ 0 (bP a.name 0 d)) =some (aF aB aQ 0 (bP a.name e d))) (fun h=>(aJt h _ _)),.a (dL a.name d=none) (p':=(bP a.name 0 d).length=length (bP a.name e d)) (fun h=>(aMO h _ _)),hr AV.undef,hr (nI (c.length:Int)),hr (nI (c.length:Int)),hr (AV.gl 3 1 0 c.length false),hr (AV.gl 3 1 0 c.length false),hr (aB a.name),hr (aB a.name),hr (aB a.name),hb aB c,hA (length (c++ [a.name]) ≤1000000),hc aB c [a.name],he aB c [a.name]]<|gw 3 84 (f+1)<|.W 3 7 [0,1,2,6] (aDT i j k (f+1) l (c++ [a.name]) (bP a.name (c.length:Int) b) (bP a.name e d) e g))<|gw 5 85 (g+1)<|.W 3 4 [0,1,2,3] (aBh i (g+1) l b d c)
def aWU:=fun a b c d e f g i j k l m n o p q r s=>aL7 a b c d e f g i j k|>.t n l o p|>.1 m q r s ⟨aM (fun _=>rfl) (fun _=>rfl) _ _ _,⟨aM (fun _=>rfl) (fun _=>rfl) _ _ _,⟨kk,trivial⟩⟩⟩
def aWV:=fun c d e f g i j k l m n o p q a b r s=>aL7 c d e f g i j k l m|>.t o n p q|>.2 a a a a b b b r s ⟨aM (fun _=>rfl) (fun _=>rfl) _ _ _,⟨aM (fun _=>rfl) (fun _=>rfl) _ _ _,⟨kk,trivial⟩⟩⟩
def aWW:=fun a b c d e f g i j k l m=>aL7 a b c d e f g i j k|>.f l m ⟨aM (fun _=>rfl) (fun _=>rfl) _ _ _,⟨aM (fun _=>rfl) (fun _=>rfl) _ _ _,⟨kk,trivial⟩⟩⟩
def aWX (a:List LUnit)(b c:List (aC×Int))(d:List aC)(e:Bool):=(tT 4 (aSV a b c d e)<|gl 15 LUnit.av a<|.i [rn 4,.nilL 3 1] []<|gu 0 4 (map aB ([] :List aC))<|gs 0 3 (.gl 4 1 0 ([] :List aC).length false)<|.W 0 5 [4] (aDU a b c d e 0 ([] :List aC))) ⟨aM (fun _=>rfl) (fun _=>rfl) _ _ _,⟨aM (fun _=>rfl) (fun _=>rfl) _ _ _,⟨kk,⟨kk,trivial⟩⟩⟩⟩
def aSZ(a:List LUnit)(b c:List (aC×Int))(d:List aC)(g:Bool)(e:Int)(f:List aC):=tT 4 (aDU a b c d g e f)<|gd 5 16 (e< (a.length:Int)) (gX LUnit.av 6 a e<|fun i=>gl 8 aB i.needs<|.W 4 6 [4] (uN a b c d g i.needs (i.needs.length:Int) 0 f e))<|gz 8 2 4 1 aB f false<|.E 0 5 [] (iS f) [oC 0 [(.ilst 5 (map LUnit.av a) false),(.map 1),(.map 2),(.gl 3 1 0 d.length false),(bV g)],(1,(.map (aF aB aQ 0 b) b.length),true),(2,(.map (aF aB aQ 0 c) c.length),true),oL 3 1 (map aB d)] 4
def aWY:=fun a b c d e f g i j k l=>aSZ a b c d e f g|>.t j i k l ⟨aM (fun _=>rfl) (fun _=>rfl) _ _ _,⟨aM (fun _=>rfl) (fun _=>rfl) _ _ _,⟨kk,⟨kk,trivial⟩⟩⟩⟩
def aWZ:=fun a b c d e f g i=>aSZ a b c d e f g|>.f i ⟨aM (fun _=>rfl) (fun _=>rfl) _ _ _,⟨aM (fun _=>rfl) (fun _=>rfl) _ _ _,⟨kk,trivial⟩⟩⟩
def aL8(f:List LUnit)(a g:List (aC×Int))(i:List aC)(j:Bool)(k:List aC)(l c:Int)(d:List aC)(e:Int):=tT 4 (uN f a g i j k l c d e)<|gd 5 23 (c<l) (gX aB 6 k c<|fun b=>.o (.y fun m:Int=>.i [rn 10,.ans (.look (some (yB b a,(aQ m))))] [.a (dL b a=some m) (p':=eT (aB b) (aF aB aQ 0 a) 0=some (some (yB b a,(aQ m)))) (uY gB)]<|gw 22 47 (c+1)<|.W 3 5 [4] (uN f a g i j k l (c+1) d e))<|.i [rn 10,.ans (.look none)] [.a (dL b a=none) (p':=eT (aB b) (aF aB aQ 0 a) 0=some none) (uX gB)]<|.W 36 5 [4] (aHt f a g i j b k l c 0 (d.length:Int) e d))<|gw 5 48 (e+1)<|.W 3 5 [4] (aDU f a g i j (e+1) d)
def aW0:=fun a b c d e f g i j k l m n o p q r=>aL8 a b c d e f g i j k|>.t n l o p|>.1 m q r ⟨aM (fun _=>rfl) (fun _=>rfl) _ _ _,⟨aM (fun _=>rfl) (fun _=>rfl) _ _ _,⟨kk,⟨kk,trivial⟩⟩⟩⟩
def aW1:=fun a b c d e f g i j k l m n o p=>aL8 a b c d e f g i j k|>.t m l n o|>.2 p ⟨aM (fun _=>rfl) (fun _=>rfl) _ _ _,⟨aM (fun _=>rfl) (fun _=>rfl) _ _ _,⟨kk,⟨kk,trivial⟩⟩⟩⟩
def aW2:=fun a b c d e f g i j k l m=>aL8 a b c d e f g i j k|>.f l m ⟨aM (fun _=>rfl) (fun _=>rfl) _ _ _,⟨aM (fun _=>rfl) (fun _=>rfl) _ _ _,⟨kk,⟨kk,trivial⟩⟩⟩⟩
def aL9(e:List LUnit)(f g:List (aC×Int))(i:List aC)(j:Bool)(b:aC)(k:List aC)(l c d n m:Int)(a:List aC):=tT 4 (aHt e f g i j b k l c d n m a)<|gd 5 9 (d<n) (.i [rn 14,.ans (.ix)] [hA (0≤d),hA (d< (a.length:Int))]<|.y fun o:aC=>gj aB 0 a d.toNat o<|.b 2 16 (bB b.length (aA b) o.length (aA o)) (.b 16 42 (!(decide (d≥0))) (ga 5 aB a [b]<|gw 5 47 (c+1)<|.W 3 7 [6] (uN e f g i j k l (c+1) (a++ [b]) m))<|gw 5 47 (c+1)<|.W 3 5 [4] (uN e f g i j k l (c+1) a m))<|gw 5 18 (d+1)<|.W 3 5 [4] (aHt e f g i j b k l c (d+1) n m a))<|ga 21 aB a [b]<|gw 5 47 (c+1)<|.W 3 7 [6] (uN e f g i j k l (c+1) (a++ [b]) m)
def aW3:=fun a b c d e f g i j k l m n o p q r s t u v=>aL9 a b c d e f g i j k l m n|>.t p q r o s|>.t t|>.f u v ⟨aM (fun _=>rfl) (fun _=>rfl) _ _ _,⟨aM (fun _=>rfl) (fun _=>rfl) _ _ _,⟨kk,⟨kk,trivial⟩⟩⟩⟩
def aW4:=fun a b c d e f g i j k l m n o p q r s t u=>aL9 a b c d e f g i j k l m n|>.t p q r o s|>.f t u ⟨aM (fun _=>rfl) (fun _=>rfl) _ _ _,⟨aM (fun _=>rfl) (fun _=>rfl) _ _ _,⟨kk,⟨kk,trivial⟩⟩⟩⟩
def aW5:=fun a b c d e f g i j k l m n o p q=>aL9 a b c d e f g i j k l m n|>.f o p q ⟨aM (fun _=>rfl) (fun _=>rfl) _ _ _,⟨aM (fun _=>rfl) (fun _=>rfl) _ _ _,⟨kk,⟨kk,trivial⟩⟩⟩⟩
def aW6 (a:List LUnit)(b c:List (aC×Int))(d:List aC)(e:Bool):=(tT 4 (aSW a b c d e)<|gl 18 LUnit.av a<|.i [rn 4,.nilL 3 2] []<|gu 0 4 (jC ([] :List Con))<|gs 0 3 (.gl 4 2 0 ([] :List Con).length false)<|.W 0 5 [4] (aBi a b c d e 0 ([] :List Con))) ⟨aM (fun _=>rfl) (fun _=>rfl) _ _ _,⟨aM (fun _=>rfl) (fun _=>rfl) _ _ _,⟨kk,⟨kk,trivial⟩⟩⟩⟩
def aMa(a:List LUnit)(c d:List (aC×Int))(e:List aC)(i:Bool)(b:Int)(f:List Con):=tT 4 (aBi a c d e i b f)<|gd 5 15 (b< (a.length:Int)) (gX LUnit.av 6 a b<|fun g=>gl 9 Con.av g.cons<|.b 2 21 ((g.cons.length:Int) ==0) (gw 4 49 (b+1)<|.W 3 6 [4] (aBi a c d e i (b+1) f))<|gl 6 Con.av g.cons<|.W 4 6 [4] (uO a c d e i g.cons (g.cons.length:Int) b 0 f))<|gz 8 2 4 2 Con.av f false<|.E 0 5 [] (iC f) [oC 0 [(.ilst 5 (map LUnit.av a) false),(.map 1),(.map 2),(.gl 3 1 0 e.length false),(bV i)],(1,(.map (aF aB aQ 0 c) c.length),true),(2,(.map (aF aB aQ 0 d) d.length),true),oL 3 1 (map aB e)] 4
def aW7:=fun a b c d e f g i j k l m n=>aMa a b c d e f g|>.t j i k l|>.t m n ⟨aM (fun _=>rfl) (fun _=>rfl) _ _ _,⟨aM (fun _=>rfl) (fun _=>rfl) _ _ _,⟨kk,⟨kk,trivial⟩⟩⟩⟩
def aW8:=fun a b c d e f g i j k l m=>aMa a b c d e f g|>.t j i k l|>.f m ⟨aM (fun _=>rfl) (fun _=>rfl) _ _ _,⟨aM (fun _=>rfl) (fun _=>rfl) _ _ _,⟨kk,⟨kk,trivial⟩⟩⟩⟩
def aW9:=fun a b c d e f g i=>aMa a b c d e f g|>.f i ⟨aM (fun _=>rfl) (fun _=>rfl) _ _ _,⟨aM (fun _=>rfl) (fun _=>rfl) _ _ _,⟨kk,trivial⟩⟩⟩
def aS0(e:List LUnit)(f g:List (aC×Int))(i:List aC)(j:Bool)(k:List Con)(l a b:Int)(c:List Con):=tT 4 (uO e f g i j k l a b c)<|gd 5 26 (b<l) (gX Con.av 6 k b<|fun d=>.W 34 8 [4,6,7,5] (aBj e f g i j a k l d.name d.name d.name d.args 0 (c.length:Int) b c))<|gw 5 49 (a+1)<|.W 3 5 [4] (aBi e f g i j (a+1) c)
def aXa:=fun a b c d e f g i j k l m n o=>aS0 a b c d e f g i j k|>.t m l n o ⟨aM (fun _=>rfl) (fun _=>rfl) _ _ _,⟨aM (fun _=>rfl) (fun _=>rfl) _ _ _,⟨kk,⟨kk,trivial⟩⟩⟩⟩
def aXb:=fun a b c d e f g i j k l m=>aS0 a b c d e f g i j k|>.f l m ⟨aM (fun _=>rfl) (fun _=>rfl) _ _ _,⟨aM (fun _=>rfl) (fun _=>rfl) _ _ _,⟨kk,⟨kk,trivial⟩⟩⟩⟩
def aMb(k:List LUnit)(c d:List (aC×Int))(e:List aC)(l:Bool)(n:Int)(o:List Con)(p:Int)(s i j:aC)(g f r m:Int)(a:List Con):=tT 4 (aBj k c d e l n o p s i j g f r m a)<|gd 5 9 (f<r) (.i [rn 14,.ans (.ix)] [hA (0≤f),hA (f< (a.length:Int))]<|.y fun b:Con=>gj Con.av 0 a f.toNat b<|.y fun q:aC=>.i [rn 7,.reg (.d::.d::.pure (aB q)::rd 3 [])] [hA (Pure PP 159 [(.agg [(aB b.name),(nI b.args)])] (aB q)),hr (aB i),hr (aB i)]<|.b 3 16 (bB q.length (aA q) i.length (aA i)) (gd 20 34 (f<0) (ga 6 Con.av a [(Con.mk j g)]<|gw 5 48 (m+1)<|.W 3 11 [10] (uO k c d e l o p n (m+1) (a++ [(Con.mk j g)])))<|.i [rn 2,.reg (.d::.d::.ans (.ix)::.d::.ans (.idx (Con.av b))::rd 3 [.call (.tup []) (aE [oC 0 [(.ilst 5 (map LUnit.av k) false),(.map 1),(.map 2),(.gl 3 1 0 e.length false),(bV l)],(1,(.map (aF aB aQ 0 c) c.length),true),(2,(.map (aF aB aQ 0 d) d.length),true),oL 3 1 (map aB e),oL 4 2 (jC a),oC 5 [(.func 159 [] [])],oC 6 [(aB i)],oC 7 [(aB j),(nI g)],oC 8 [(aB b.name),(nI b.args)]] 9)])] [hA (0≤f),hA (f< (a.length:Int)),.a (((a)[f.toNat]?) =some b) (eZ (f:=Con.av)),hA (Spec PP (.enter 67 [(bV (b.args != g)),(nI 7)]) (aE [oC 0 [(.ilst 5 (map LUnit.av k) false),(.map 1),(.map 2),(.gl 3 1 0 e.length false),(bV l)],(1,(.map (aF aB aQ 0 c) c.length),true),(2,(.map (aF aB aQ 0 d) d.length),true),oL 3 1 (map aB e),oL 4 2 (jC a),oC 5 [(.func 159 [] [])],oC 6 [(aB i)],oC 7 [(aB j),(nI g)],oC 8 [(aB b.name),(nI b.args)]] 9) (.ret (.tup [])) (aE [oC 0 [(.ilst 5 (map LUnit.av k) false),(.map 1),(.map 2),(.gl 3 1 0 e.length false),(bV l)],(1,(.map (aF aB aQ 0 c) c.length),true),(2,(.map (aF aB aQ 0 d) d.length),true),oL 3 1 (map aB e),oL 4 2 (jC a),oC 5 [(.func 159 [] [])],oC 6 [(aB i)],oC 7 [(aB j),(nI g)],oC 8 [(aB b.name),(nI b.args)]] 9))]<|gw 3 48 (m+1)<|.W 3 9 [4] (uO k c d e l o p n (m+1) a))<|gw 5 18 (f+1)<|.W 3 9 [4,5,6,7] (aBj k c d e l n o p s i j g (f+1) r m a))<|ga 26 Con.av a [(Con.mk j g)]<|gw 5 48 (m+1)<|.W 3 10 [9] (uO k c d e l o p n (m+1) (a++ [(Con.mk j g)]))
def aXc:=fun d e f g i j k l m n o p q r s t u v w a b c x y z A B=>aMb d e f g i j k l m n o p q r s t|>.t w a b u c v x|>.t y|>.f z a b c A B ⟨aM (fun _=>rfl) (fun _=>rfl) _ _ _,⟨aM (fun _=>rfl) (fun _=>rfl) _ _ _,⟨kk,⟨kk,trivial⟩⟩⟩⟩
def aXd:=fun a b c d e f g i j k l m n o p q r s t u v w x y z=>aMb a b c d e f g i j k l m n o p q|>.t t u v r w s x|>.f y z ⟨aM (fun _=>rfl) (fun _=>rfl) _ _ _,⟨aM (fun _=>rfl) (fun _=>rfl) _ _ _,⟨kk,⟨kk,trivial⟩⟩⟩⟩
def aXe:=fun a b c d e f g i j k l m n o p q r s t=>aMb a b c d e f g i j k l m n o p q|>.f r s t ⟨aM (fun _=>rfl) (fun _=>rfl) _ _ _,⟨aM (fun _=>rfl) (fun _=>rfl) _ _ _,⟨kk,⟨kk,trivial⟩⟩⟩⟩
def aXf (a:List LUnit)(b c:List (aC×Int))(d:List aC)(e:Bool):=(tT 4 (aSX a b c d e)<|gl 15 LUnit.av a<|.W 4 4 [] (aHu a b c d e 0 0)) ⟨aM (fun _=>rfl) (fun _=>rfl) _ _ _,⟨aM (fun _=>rfl) (fun _=>rfl) _ _ _,⟨kk,trivial⟩⟩⟩
def aS1(a:List LUnit)(c d:List (aC×Int))(e:List aC)(g:Bool)(f b:Int):=tT 4 (aHu a c d e g f b)<|gd 5 12 (b< (a.length:Int)) (gX LUnit.av 6 a b<|fun i=>gl 8 Node.av i.nodes<|gw 1 19 (f+ (i.nodes.length:Int))<|gw 5 20 (b+1)<|.W 3 5 [] (aHu a c d e g (f+ (i.nodes.length:Int)) (b+1)))<|.E 8 4 [] (nI f) [oC 0 [(.ilst 5 (map LUnit.av a) false),(.map 1),(.map 2),(.gl 3 1 0 e.length false),(bV g)],(1,(.map (aF aB aQ 0 c) c.length),true),(2,(.map (aF aB aQ 0 d) d.length),true),oL 3 1 (map aB e)] 4
def aXg:=fun a b c d e f g i j k l m n=>aS1 a b c d e f g|>.t j i k l m n ⟨aM (fun _=>rfl) (fun _=>rfl) _ _ _,⟨aM (fun _=>rfl) (fun _=>rfl) _ _ _,⟨kk,trivial⟩⟩⟩
def aXh:=fun a b c d e f g i=>aS1 a b c d e f g|>.f i ⟨aM (fun _=>rfl) (fun _=>rfl) _ _ _,⟨aM (fun _=>rfl) (fun _=>rfl) _ _ _,⟨kk,trivial⟩⟩⟩
abbrev aO2 (l:List LUnit)(a b c:Nat)(od:List aC)(tw:Bool) :AObj:=.cells (putCells .leaf 0 [.ilst 5 (map LUnit.av l) false,.map a,.map b,.gl c 1 0 (length od) false,.bool tw]) 5 [] false
abbrev MTb (m:List (aC×Int)) :AObj:=.map (aF aB aQ 0 m) (length m)
abbrev aMc (l:List aC) :AObj:=.lst 1 (map aB l)
abbrev THp (l:List LUnit)(mf mh:List (aC×Int))(od:List aC)(tw:Bool) :List (Nat×AObj×Bool) :=[(0,aO2 l 1 2 3 od tw,false),(1,MTb mf,true),(2,MTb mh,true),(3,aMc od,true)]
theorem aBk (m:List (aC×Int)) : (MTb m).kl:=aM (fun _=>rfl) (fun _=>rfl) _ _ _
theorem aHv (l:List aC) : (aMc l).kl:=aD _ (fun _=>rfl) _
theorem aAu (a b:List aC)(s:aC) :bW (a++b) s= (bW a s||bW b s) :=by simp [bW]
theorem aBl (s:aC) :∀ (a b:List aC) (i:Nat),dH s (a++b) i=if bW a s=true then dH s a i else dH s b (i+a.length)
 | [],b,i=>by simp [bW]
 | x ::a,b,i=>by
  rw [List.cons_append,dH,dH,pD];by_cases e:x=s
  ·rw [if_pos e,if_pos e,decide_eq_true e,Bool.true_or,if_pos rfl]
  · rw [if_neg e,if_neg e,decide_eq_false e,Bool.false_or,aBl s a b (i+1)];rw [length_cons,show i+1+a.length=i+ (a.length+1)by omega]
theorem aFl (s:aC) :∀ (a:List aC) (i:Nat),dH s a i<0↔bW a s=false
 | [],i=>by simp [dH,bW]
 | x ::a,i=>by
  rw [dH,pD];by_cases e:x=s
  · rw [if_pos e,decide_eq_true e,Bool.true_or];constructor
    ·intro h;omega
    ·intro h;cases h
  ·rw [if_neg e,decide_eq_false e,Bool.false_or,aFl s a (i+1)]
theorem aAv (a:List aC)(s:aC) :cI (a++ [s]) = (cI a&& !bW a s) :=by
 rw [Bool.eq_iff_iff,rI,Bool.and_eq_true,rI,Bool.not_eq_true',Bool.eq_false_iff,Ne,hasS_mem,List.nodup_append];constructor
 · intro h;exact⟨h.1,fun hm=>h.2.2 s hm s (by simp) rfl⟩
 · intro h;refine⟨h.1,by simp,fun x hx y hy e=>?_⟩;rw [List.mem_singleton.1 hy]at e;exact h.2 (e ▸ hx)
structure TabI (od:List aC) (tw:Bool) (mf mh:List (aC×Int)) :Prop where
 tw:tw= !cI od
 f:∀s,dL s mf=if bW od s=true then some (dH s od 0)else none
 h:∀s,bW od s=false→dL s mh=none
theorem TabI.nil :TabI [] false [] [] := ⟨rfl,fun s=>by simp [dL,bW],fun s _=>rfl⟩
theorem TabI.old {od:List aC}{tw:Bool}{mf mh:List (aC×Int)}(t:TabI od tw mf mh){s:aC}(h:bW od s=true) :TabI (od++ [s]) true mf mh:=by
 refine⟨by rw [aAv,h];simp,fun k=>?_,fun k hk=>?_⟩
 · rw [t.f k,aAu,aBl];by_cases e:bW od k=true
   ·rw [if_pos e,if_pos e,e,Bool.true_or,if_pos rfl]
   · rw [if_neg e,if_neg];rw [Bool.not_eq_true]at e;rw [e,Bool.false_or,pD];intro hh;have:s=k:=by simpa [bW]using hh
     rw [this,e]at h;cases h
 · rw [aAu,Bool.or_eq_false_iff]at hk;exact t.h k hk.1
theorem TabI.new {od:List aC}{tw:Bool}{mf mh:List (aC×Int)}(t:TabI od tw mf mh){s:aC}(h:bW od s=false)(i:Int) :TabI (od++ [s]) tw (bP s ((od.length:Nat) :Int) mf) (bP s i mh) :=by
 refine⟨by rw [aAv,h,t.tw];simp,fun k=>?_,fun k hk=>?_⟩
 · rw [uE,aAu,aBl,t.f k];by_cases e:k=s
   · subst e;rw [if_pos rfl,h];simp [bW,dH]
   · rw [if_neg e];have:bW [s] k=false:=by simp [bW,Ne.symm e]
     rw [this,Bool.or_false];by_cases e2:bW od k=true
     ·rw [if_pos e2,if_pos e2,if_pos e2]
     ·rw [if_neg e2,if_neg e2]
 · rw [aAu,Bool.or_eq_false_iff]at hk;have:k≠s:=fun e=>by rw [e]at hk;simp [bW]at hk
   rw [uE,if_neg this];exact t.h k hk.1
section
variable (l :List LUnit)
theorem aS2 (u:LUnit)(hf:u.funs.length≤30)(i:Nat)(hi:i<1000) :∀ (t:List LFun) (k:Nat) (od:List aC) (tw:Bool) (m1 m2:List (aC×Int)),u.funs.drop k=t→od.length+t.length≤1000→TabI od tw m1 m2 →
  ∃tw' m1' m2',TabI (od++t.map LFun.name) tw' m1' m2'∧LeadsM PP 0 (aDT l u.funs ((u.funs.length:Nat) :Int) (k:Int) tw od m1 m2 (i:Int) (i:Int)).as (aBh l ((i:Int) +1) tw' m1' m2' (od++t.map LFun.name)).as
 | [],k,od,tw,m1,m2,h,ho,ht=>by
  have:=aT h;rw [map_nil,append_nil];exact⟨tw,m1,m2,ht,aWW l u.funs _ k tw od m1 m2 i i sd sd⟩
 | f::t,k,od,tw,m1,m2,h,ho,ht=>by
  obtain⟨q1,q2,q3⟩ :=aR h;simp only [length_cons]at ho;have g:=ht.f f.name;cases e:bW od f.name with
  | true=>
   rw [e,if_pos rfl]at g;obtain⟨tw',m1',m2',h1,h2⟩ :=aS2 u hf i hi t (k+1) (od++ [f.name]) true m1 m2 q2 (by simp;omega) (ht.old e);refine⟨tw',m1',m2',by simpa using h1,?_⟩;rw [append_assoc]at h2;exact(aWU l u.funs _ k tw od m1 m2 i i f _ sd sd sd g (by simp;omega) sd).trans h2
  | false=>
   rw [e,if_neg (by simp)]at g;obtain⟨tw',m1',m2',h1,h2⟩ :=aS2 u hf i hi t (k+1) (od++ [f.name]) tw (bP f.name ((od.length:Nat) :Int) m1) (bP f.name (i:Int) m2) q2 (by simp;omega) (ht.new e i);refine⟨tw',m1',m2',by simpa using h1,?_⟩;rw [append_assoc]at h2;exact(aWV l u.funs _ k tw od m1 m2 i i f sd sd sd g (ht.h _ e) (by simp;omega) sd).trans h2
abbrev aCg (e:Int) :Res:=.pan [((.iface 201 (.agg [(.int .i64 e)])),false)]
theorem aS3 (hl:l.length≤10)(hu:∀u∈l,FewU u∧NumU u) :∀ (t:List LUnit) (i:Nat) (od:List aC) (tw:Bool) (m1 m2:List (aC×Int)),l.drop i=t→od.length≤30*i→TabI od tw m1 m2 →
  (t.all hR=true→∃tw' mf mh,TabI (od++dU t) tw' mf mh∧Ends PP 0 (aBh l (i:Int) tw m1 m2 od).as (.ret (.ptr 0 0)) (aE (THp l mf mh (od++dU t) tw') 4)) ∧
  (t.all hR=false→Ends PP 0 (aBh l (i:Int) tw m1 m2 od).as (aCg 2) (aE [] 0))
 | [],i,od,tw,m1,m2,h,ho,ht=>by
  have:=aT h;refine⟨fun _=> ⟨tw,m1,m2,?_,?_⟩,fun h=>by simp at h⟩
  ·rw [show dU [] = []from rfl,append_nil];exact ht
  ·rw [show dU [] = []from rfl,append_nil];exact aWT l i tw m1 m2 od sd
 | u ::t,i,od,tw,m1,m2,h,ho,ht=>by
  obtain⟨q1,q2,q3⟩ :=aR h;have hh:=hu u (mem_of_getElem? q1);have hf:=hh.1.f;have hp:=aST u hh.1 hh.2;rw [List.all_cons];cases e:hR u with
  | false=>
   rw [e]at hp;refine⟨fun h=>by simp at h,fun _=>?_⟩;exact aWR l i tw m1 m2 od u false sd sd sd hp rfl
  | true=>
   rw [e]at hp;rw [Bool.true_and];obtain⟨tw',m1',m2',h1,h2⟩ :=aS2 l u hf i (by omega) u.funs 0 od tw m1 m2 rfl (by omega) ht;have h0:=aWS l i tw m1 m2 od u true sd sd sd hp rfl;have ih:=aS3 hl hu t (i+1) (od++aH u) tw' m1' m2' q2 (by simp [aH];omega) h1;refine⟨fun hg=>?_,fun hg=>?_⟩
   · obtain⟨tw2,mf,mh,g1,g2⟩ :=ih.1 hg;rw [append_assoc]at g1 g2;exact⟨tw2,mf,mh,g1,h0.ends (h2.ends g2)⟩
   ·exact h0.ends (h2.ends (ih.2 hg))
theorem aZs (hu:∀u∈l,FewU u∧NumU u)(h:jO l=false) :aFR PP 63 [.ilst 5 (map LUnit.av l) false] [((.iface 201 (.agg [(.int .i64 2)])),false)] :=by
 refine throws_at (by kernel_rfl) (by simp [keylessL,keyless]) (fun x hx=>by rw [List.mem_singleton.1 hx];rfl) ?_;by_cases hl:l.length≤10
 · rw [jO,decide_eq_true hl,Bool.true_and]at h;exact(aM5 l (by simp;omega)).ends ((aS3 l hl hu l 0 [] false [] [] rfl (by simp) TabI.nil).2 h)
 ·exact aWQ l (by simp;omega)
theorem aZt (hu:∀u∈l,FewU u∧NumU u)(h:jO l=true) :∃mf mh,TabI (dU l) (!cI (dU l)) mf mh ∧
  aCR PP (.enter 63 [.ilst 5 (map LUnit.av l) false]) (aE [] 0) (.ret (.ptr 0 0)) (aE (THp l mf mh (dU l) (!cI (dU l))) 4) :=by
 simp only [jO,Bool.and_eq_true,decide_eq_true_eq]at h;obtain⟨tw,mf,mh,h1,h2⟩ := (aS3 l h.1 hu l 0 [] false [] [] rfl (by simp) TabI.nil).1 h.2;rw [List.nil_append]at h1 h2;have e:=h1.tw;subst e;refine⟨mf,mh,h1,?_⟩
 suffices hh:Ends PP 0 (aSU l).as (.ret (.ptr 0 0)) (aE (THp l mf mh (dU l) (!cI (dU l))) 4)from⟨(aSU l).as.fr,by kernel_rfl,mp (by kernel_rfl) hh⟩
 exact(aM5 l (by simp;omega)).ends h2
end
section
variable (l :List LUnit) (mf mh:List (aC×Int)) (od:List aC) (tw:Bool)
theorem aYD (s:aC)(nd:List aC)(hn:nd.length≤1000)(k:Nat)(hk:k<1000)(i:Int)(acc:List aC)(ha:acc.length≤100000) :∀ (t:List aC) (j:Nat),acc.drop j=t →
  LeadsM PP 4 (aHt l mf mh od tw s nd ((nd.length:Nat) :Int) (k:Int) (j:Int) ((acc.length:Nat) :Int) i acc).as (uN l mf mh od tw nd ((nd.length:Nat) :Int) ((k:Int) +1) (if bW t s=true then acc else acc++ [s]) i).as
 | [],j,h=>by
  have:=aT h;exact aW5 l mf mh od tw s nd _ k j _ i acc sd (by simp;omega) sd
 | x ::t,j,h=>by
  obtain⟨q1,q2,q3⟩ :=aR h;rw [pD];by_cases e:x=s
  · rw [decide_eq_true e,Bool.true_or,if_pos rfl];exact aW3 l mf mh od tw s nd _ k j _ i acc x sd sd sd sd (by rw [bT];simp [e]) (by simp) sd
  · rw [decide_eq_false e,Bool.false_or];exact(aW4 l mf mh od tw s nd _ k j _ i acc x sd sd sd sd (by rw [bT];simp [Ne.symm e]) sd).trans (aYD s nd hn k hk i acc ha t (j+1) q2)
theorem aS4 (ht:TabI od tw mf mh)(nd:List aC)(hn:nd.length≤25)(i:Nat)(hi:i<1000) :∀ (t:List aC) (k:Nat) (acc:List aC),nd.drop k=t→acc.length≤25*i+k →
  LeadsM PP 4 (uN l mf mh od tw nd ((nd.length:Nat) :Int) (k:Int) acc (i:Int)).as (aDU l mf mh od tw ((i:Int) +1) (xA od acc t)).as
 | [],k,acc,h,ha=>by
  have:=aT h;exact aW2 l mf mh od tw nd _ k acc i sd sd
 | s::t,k,acc,h,ha=>by
  obtain⟨q1,q2,q3⟩ :=aR h;have g:=ht.f s;rw [xA];cases e:bW od s with
  | true=>
   rw [e,if_pos rfl]at g;rw [if_pos (.inl rfl)];exact(aW0 l mf mh od tw nd _ k acc i s _ sd sd sd g sd).trans (aS4 ht nd hn i hi t (k+1) acc q2 (by omega))
  | false=>
   rw [e,if_neg (by simp)]at g;have h1:=aW1 l mf mh od tw nd ((nd.length:Nat) :Int) k acc i s sd sd sd g;have h2:=aYD l mf mh od tw s nd (by omega) k (by omega) i acc (by omega) acc 0 rfl;have e2: (if false=true∨bW acc s=true then acc else acc++ [s]) = (if bW acc s=true then acc else acc++ [s]) :=by simp
   rw [e2];exact h1.trans (h2.trans (aS4 ht nd hn i hi t (k+1) _ q2 (by split<;>first|omega| (simp;omega))))
theorem aYE (ht:TabI od tw mf mh)(hl:l.length≤11)(hu:∀u∈l,FewU u) :∀ (t:List LUnit) (i:Nat) (acc:List aC),l.drop i=t→acc.length≤25*i →
  Ends PP 4 (aDU l mf mh od tw (i:Int) acc).as (.ret (.ilst 1 (map aB (aAm od acc t)) false)) (aE (THp l mf mh od tw) 4)
 | [],i,acc,h,ha=>by
  have:=aT h;exact aWZ l mf mh od tw i acc sd
 | u::t,i,acc,h,ha=>by
  obtain⟨q1,q2,q3⟩ :=aR h;have hn:= (hu u (mem_of_getElem? q1)).n;have hlen:=vH od u.needs acc;exact(aWY l mf mh od tw i acc u sd sd sd).ends ((aS4 l mf mh od tw ht u.needs hn i (by omega) u.needs 0 acc rfl (by omega)).ends (aYE ht hl hu t (i+1) _ q2 (by omega)))
theorem aS5 (ht:TabI od tw mf mh)(hl:l.length≤11)(hu:∀u∈l,FewU u) :Spec PP (.enter 64 [.ptr 0 0]) (aE (THp l mf mh od tw) 4) (.ret (.ilst 1 (map aB (aAm od [] l)) false)) (aE (THp l mf mh od tw) 4) :=by
 suffices hh:Ends PP 4 (aSV l mf mh od tw).as (.ret (.ilst 1 (map aB (aAm od [] l)) false)) (aE (THp l mf mh od tw) 4)from⟨(aSV l mf mh od tw).as.fr,by kernel_rfl,mp (by kernel_rfl) hh⟩
 exact(aWX l mf mh od tw).ends (aYE l mf mh od tw ht hl hu l 0 [] rfl (by simp))
theorem aYF (hl:l.length≤11)(hu:∀u∈l,u.nodes.length≤320) :∀ (t:List LUnit) (i n:Nat),l.drop i=t→n+fA t=fA l→n≤320*i →
  Ends PP 4 (aHu l mf mh od tw (n:Int) (i:Int)).as (.ret (.int .i64 (fA l:Int))) (aE (THp l mf mh od tw) 4)
 | [],i,n,h,hn,hb=>by
  have:=aT h;simp only [fA]at hn;obtain rfl:n=fA l:=by omega
  exact aXh l mf mh od tw _ i sd
 | u::t,i,n,h,hn,hb=>by
  obtain⟨q1,q2,q3⟩ :=aR h;simp only [fA]at hn;have hs:=hu u (mem_of_getElem? q1);have h1:=aXg l mf mh od tw n i u sd sd sd sd sd;have ih:=aYF hl hu t (i+1) (n+u.nodes.length) q2 (by omega) (by omega);rw [Int.natCast_add,Int.natCast_add]at ih;exact h1.ends ih
theorem aS6 (hl:l.length≤11)(hu:∀u∈l,u.nodes.length≤320) :Spec PP (.enter 78 [.ptr 0 0]) (aE (THp l mf mh od tw) 4) (.ret (.int .i64 (fA l:Int))) (aE (THp l mf mh od tw) 4) :=by
 suffices hh:Ends PP 4 (aSX l mf mh od tw).as (.ret (.int .i64 (fA l:Int))) (aE (THp l mf mh od tw) 4)from⟨(aSX l mf mh od tw).as.fr,by kernel_rfl,mp (by kernel_rfl) hh⟩
 exact(aXf l mf mh od tw).ends (aYF l mf mh od tw hl hu l 0 0 rfl (by omega) (by omega))
def aHw (out:List Con)(c:Con)(t:List Con) :Option (List Con) :=match t.find? (fun d=>decide (d.name=c.name))with
 |none=>some (out++ [c])
 |some d=>if d.args=c.args then some out else none
theorem aJY (out:List Con)(c:Con) :aFd out c=aHw out c out:=rfl
theorem aYG (i:Int)(cl:List Con)(hcl:cl.length≤1000)(c:Con)(k:Nat)(hk:k<1000)(acc:List Con)(ha:acc.length<100000) :∀ (t:List Con) (j:Nat),acc.drop j=t →
  (match aHw acc c t with
  |some o=>LeadsM PP 4 (aBj l mf mh od tw i cl ((cl.length:Nat) :Int) c.name c.name c.name c.args (j:Int) ((acc.length:Nat) :Int) (k:Int) acc).as (uO l mf mh od tw cl ((cl.length:Nat) :Int) i ((k:Int) +1) o).as
  |none=>Ends PP 4 (aBj l mf mh od tw i cl ((cl.length:Nat) :Int) c.name c.name c.name c.args (j:Int) ((acc.length:Nat) :Int) (k:Int) acc).as (aCg 7) (aE (THp l mf mh od tw) 4))
 | [],j,h=>by
  have:=aT h;exact aXe l mf mh od tw i cl _ c.name c.name c.name c.args j _ k acc sd (by simp;omega) sd
 | d ::t,j,h=>by
  obtain⟨q1,q2,q3⟩ :=aR h;unfold aHw;by_cases e:d.name=c.name
  · rw [List.find?_cons_of_pos (by simpa using e)];by_cases e2:d.args=c.args
    · dsimp only;rw [if_pos e2];exact aXc l mf mh od tw i cl _ c.name c.name c.name c.args j _ k acc d d.name sd sd sd sd (uM d) (by rw [bT];simp [e]) sd (by rw [show(d.args != c.args) =false by simp [e2]];exact aZq 7 _) sd
    · dsimp only;rw [if_neg e2];exact aWP l mf mh od tw i cl _ c.name c.name c.name c.args j _ k acc d d.name sd sd sd sd (uM d) (by rw [bT];simp [e]) sd (by rw [show(d.args != c.args) =true by simp [e2]];exact aZr 7 _)
  · rw [List.find?_cons_of_neg (by simpa using e)];have ih:=aYG i cl hcl c k hk acc ha t (j+1) q2;unfold aHw at ih;have h1:=aXd l mf mh od tw i cl ((cl.length:Nat) :Int) c.name c.name c.name c.args j ((acc.length:Nat) :Int) k acc d d.name sd sd sd sd (uM d) (by rw [bT];simp [e]) sd;split at ih
    ·rename_i o ho;first|exact h1.trans ih| (rw [ho];exact h1.trans ih)
    ·rename_i ho;first|exact h1.ends ih| (rw [ho];exact h1.ends ih)
theorem aYH (cl:List Con)(i:Nat)(hi2:i<1000)(hn:cl.length≤25) :∀ (t:List Con) (k:Nat) (acc:List Con),cl.drop k=t→acc.length≤25*i+k →
  (match aAn acc t with
  |some o=>LeadsM PP 4 (uO l mf mh od tw cl ((cl.length:Nat) :Int) (i:Int) (k:Int) acc).as (aBi l mf mh od tw ((i:Int) +1) o).as
  |none=>Ends PP 4 (uO l mf mh od tw cl ((cl.length:Nat) :Int) (i:Int) (k:Int) acc).as (aCg 7) (aE (THp l mf mh od tw) 4))
 | [],k,acc,h,ha=>by
  have:=aT h;exact aXb l mf mh od tw cl _ i k acc sd sd
 | c ::t,k,acc,h,ha=>by
  obtain⟨q1,q2,q3⟩ :=aR h;have h1:=aXa l mf mh od tw cl ((cl.length:Nat) :Int) i k acc c sd sd sd;have h2:=aYG l mf mh od tw i cl (by omega) c k (by omega) acc (by omega) acc 0 rfl;rw [aAn,aJY];split at h2
  · rename_i o ho
    try rw [ho]
    have hl:=aBa (out:=acc) (c:=c) (o:=o) (by rw [aJY];exact ho);have h3:=aYH cl i hi2 hn t (k+1) o q2 (by omega);dsimp only;split at h3
    ·rename_i o2 ho2;first|exact h1.trans (h2.trans h3) | (rw [ho2];exact h1.trans (h2.trans h3))
    ·rename_i ho2;first|exact h1.ends (h2.ends h3) | (rw [ho2];exact h1.ends (h2.ends h3))
  · rename_i ho
    try rw [ho]
    exact h1.ends h2
abbrev aDV (o:Option (List Con)) :Res:=match o with
 |some o=>.ret (.ilst 2 (map Con.av o) false)
 |none=>aCg 7
theorem aS7 (hl:l.length≤11)(hu:∀u∈l,u.cons.length≤25) :∀ (t:List LUnit) (i:Nat) (acc:List Con),l.drop i=t→acc.length≤25*i →
  Ends PP 4 (aBi l mf mh od tw (i:Int) acc).as (aDV (uJ acc t)) (aE (THp l mf mh od tw) 4)
 | [],i,acc,h,ha=>by
  have:=aT h;exact aW9 l mf mh od tw i acc sd
 | u ::t,i,acc,h,ha=>by
  obtain⟨q1,q2,q3⟩ :=aR h;have hn:=hu u (mem_of_getElem? q1);by_cases h0:u.cons= []
  · have e:uJ acc (u::t) =uJ acc t:=by rw [uJ,h0,aAn]
    rw [e];exact(aW7 l mf mh od tw i acc u sd sd sd (by rw [h0];rfl) sd).ends (aS7 hl hu t (i+1) acc q2 (by omega))
  · have hp:0<u.cons.length:=List.length_pos_iff.2 h0;have h1:=aW8 l mf mh od tw i acc u sd sd sd (beq_eq_false_iff_ne.2 (by omega));have h2:=aYH l mf mh od tw u.cons i (by omega) hn u.cons 0 acc rfl (by omega);rw [uJ];split at h2
    · rename_i o ho
      try rw [ho]
      have:=vI ho;exact h1.ends (h2.ends (aS7 hl hu t (i+1) o q2 (by omega)))
    · rename_i ho
      try rw [ho]
      exact h1.ends h2
theorem aS8 (hl:l.length≤11)(hu:∀u∈l,u.cons.length≤25) :Spec PP (.enter 77 [.ptr 0 0]) (aE (THp l mf mh od tw) 4) (aDV (aFe l)) (aE (THp l mf mh od tw) 4) :=by
 suffices hh:Ends PP 4 (aSW l mf mh od tw).as (aDV (aFe l)) (aE (THp l mf mh od tw) 4)from⟨(aSW l mf mh od tw).as.fr,by kernel_rfl,mp (by kernel_rfl) hh⟩
 exact(aW6 l mf mh od tw).ends (aS7 l mf mh od tw hl hu l 0 [] rfl (by simp))
end
def aS9(d:List LUnit)(a b:List (aC×Int))(c:List aC)(e:Bool)(f:List Con)(g:List aC):TS:=cK PP 79 [(.ptr 0 0),(iC f),(iS g)] [oC 0 [(.ilst 5 (map LUnit.av d) false),(.map 1),(.map 2),(.gl 3 1 0 c.length false),(bV e)],(1,(.map (aF aB aQ 0 a) a.length),true),(2,(.map (aF aB aQ 0 b) b.length),true),oL 3 1 (map aB c)] 4
def aDW(a:List LUnit)(b c:List (aC×Int))(d:List aC)(g:Bool)(i:List Con)(j:List aC)(k:Int)(l:List Node)(m n:List Int)(e:List LFun)(f:List ONode):TS:=⟨(tf 79 129 [kp 0 0,(1,(iC i)),(2,(iS j)),(6,.nils),(7,.nils),(8,(.gl 4 2 0 e.length false)),kp 9 5,(25,(.ilst 5 (map LUnit.av a) false)),(26,(nI (a.length:Int))),(27,(nI k))] [kc f79 244,kl f79 244,.inBlock 0,kc f79 31]),[],[oC 0 [(.ilst 5 (map LUnit.av a) false),(.map 1),(.map 2),(.gl 3 1 0 d.length false),(bV g)],(1,(.map (aF aB aQ 0 b) b.length),true),(2,(.map (aF aB aQ 0 c) c.length),true),oL 3 1 (map aB d),oL 4 2 (map LFun.av e),oC 5 [(iN l),(.gl 6 4 0 f.length false),(iI m),(iI n)],oL 6 4 (map ONode.av f)],7⟩
def aDX(a:List LUnit)(b c:List (aC×Int))(d:List aC)(i:Bool)(j:List Con)(k l:List aC)(m:Int)(n:List Node)(o:aC)(p:List Con)(q:List LFun)(r:List aC)(s:List Node)(t:Int)(e:List Int)(u:Int)(f:List LFun)(g:List ONode):TS:=⟨(tf 79 129 [kp 0 0,(1,(iC j)),(2,(iS k)),(6,.nils),(7,.nils),(8,(.gl 4 2 0 f.length false)),kp 9 5,kp 11 6,(25,(.ilst 5 (map LUnit.av a) false)),(26,(nI (a.length:Int))),(27,(nI u)),(47,(iS l)),(48,(nI m)),(49,(nI t))] [kc f79 250676,kl f79 250676,.inBlock 2,kc f79 31335,.inBlock 1,kc f79 1959,kl f79 244,.inBlock 0,kc f79 31]),[],[oC 0 [(.ilst 5 (map LUnit.av a) false),(.map 1),(.map 2),(.gl 3 1 0 d.length false),(bV i)],(1,(.map (aF aB aQ 0 b) b.length),true),(2,(.map (aF aB aQ 0 c) c.length),true),oL 3 1 (map aB d),oL 4 2 (map LFun.av f),oC 5 [(iN n),(.gl 7 4 0 g.length false),(.gl 8 1 0 e.length false),(.gl 9 1 0 ([] :List Int).length false)],oC 6 [(aB o),(iC p),(.ilst 2 (map LFun.av q) false),(iS r),(iN s)],oL 7 4 (map ONode.av g),oL 8 1 (jI e),oL 9 1 (jI ([] :List Int))],10⟩
def aDY(a:List LUnit)(b c:List (aC×Int))(d:List aC)(k:Bool)(l:List Con)(m:List aC)(e:List Con)(n:Int)(o:List Node)(p:aC)(q:List LFun)(r:List aC)(s:List Node)(f:List Int)(t:Int)(g:List Int)(u:Int)(i:List LFun)(j:List ONode):TS:=⟨(tf 79 129 [kp 0 0,(1,(iC l)),(2,(iS m)),(6,.nils),(7,.nils),(8,(.gl 4 2 0 i.length false)),kp 9 5,kp 11 6,(25,(.ilst 5 (map LUnit.av a) false)),(26,(nI (a.length:Int))),(27,(nI u)),(85,(iC e)),(86,(nI n)),(87,(nI t))] [kc f79 501364,kl f79 501364,.inBlock 4,kc f79 62671,.inBlock 1,kc f79 1959,kl f79 244,.inBlock 0,kc f79 31]),[],[oC 0 [(.ilst 5 (map LUnit.av a) false),(.map 1),(.map 2),(.gl 3 1 0 d.length false),(bV k)],(1,(.map (aF aB aQ 0 b) b.length),true),(2,(.map (aF aB aQ 0 c) c.length),true),oL 3 1 (map aB d),oL 4 2 (map LFun.av i),oC 5 [(iN o),(.gl 7 4 0 j.length false),(.gl 8 1 0 f.length false),(.gl 9 1 0 g.length false)],oC 6 [(aB p),(iC e),(.ilst 2 (map LFun.av q) false),(iS r),(iN s)],oL 7 4 (map ONode.av j),oL 8 1 (jI f),oL 9 1 (jI g)],10⟩
def aDZ(a:List LUnit)(b c:List (aC×Int))(d:List aC)(g:Bool)(i:List Con)(j:List aC)(k:List LFun)(l:Int)(m:List Node)(n o:List Int)(p:Int)(e:List LFun)(f:List ONode)(q:Int):TS:=⟨(tf 79 129 [kp 0 0,(1,(iC i)),(2,(iS j)),(6,.nils),(7,.nils),(8,(.gl 4 2 0 e.length false)),kp 9 5,(25,(.ilst 5 (map LUnit.av a) false)),(26,(nI (a.length:Int))),(27,(nI q)),(106,(.ilst 2 (map LFun.av k) false)),(107,(nI l)),(108,(nI p))] [kc f79 501372,kl f79 501372,.inBlock 6,.inBlock 1,kc f79 1959,kl f79 244,.inBlock 0,kc f79 31]),[],[oC 0 [(.ilst 5 (map LUnit.av a) false),(.map 1),(.map 2),(.gl 3 1 0 d.length false),(bV g)],(1,(.map (aF aB aQ 0 b) b.length),true),(2,(.map (aF aB aQ 0 c) c.length),true),oL 3 1 (map aB d),oL 4 2 (map LFun.av e),oC 5 [(iN m),(.gl 6 4 0 f.length false),(iI n),(iI o)],oL 6 4 (map ONode.av f)],7⟩
def aM6(a:aC)(b:List LUnit):TS:=cK PP 27 [(aB a),(.ilst 5 (map LUnit.av b) false)] [] 0
def aXi (a:List LUnit)(b c:List (aC×Int))(d:List aC)(e:Bool)(f:List Con)(g:List aC):=(tT 4 (aS9 a b c d e f g)<|.i [rn 17,.cnilI 4 0 4] []<|.i [.cweak 4 0] []<|.i [.cnilI 4 2 1] []<|.i [.cweak 4 2] []<|.i [.cnilI 4 3 1] []<|.i [.cweak 4 3] []<|gl 5 LUnit.av a<|.i [rn 4,.nilL 8 2] []<|gu 0 5 (map LFun.av ([] :List LFun))<|gs 0 8 (.gl 5 2 0 ([] :List LFun).length false)<|.i [.cnil 4 1 4] []<|gu 0 6 (map ONode.av ([] :List ONode))<|gv 0 4 1 (.gl 6 4 0 ([] :List ONode).length false)<|.W 0 7 [5,4,6] (aDW a b c d e f g 0 ([] :List Node) ([] :List Int) ([] :List Int) ([] :List LFun) ([] :List ONode))) ⟨aM (fun _=>rfl) (fun _=>rfl) _ _ _,⟨aM (fun _=>rfl) (fun _=>rfl) _ _ _,⟨kk,⟨kk,⟨(aD _ (fun _=>aN _) _),trivial⟩⟩⟩⟩⟩
def aTa(g:List LUnit)(d e:List (aC×Int))(f:List aC)(k:Bool)(m:List Con)(n:List aC)(l:Int)(o:List Node)(p q:List Int)(j:List LFun)(b:List ONode):=tT 4 (aDW g d e f k m n l o p q j b)<|gd 5 28 (l< (g.length:Int)) (gX LUnit.av 6 g l<|fun a=>.y fun c:List aC=>.i [rn 23,.reg (.d::.pure (iS c)::rd 3 [.call (iS (c++a.needs)) (aE [oC 0 [(.ilst 5 (map LUnit.av g) false),(.map 1),(.map 2),(.gl 3 1 0 f.length false),(bV k)],(1,(.map (aF aB aQ 0 d) d.length),true),(2,(.map (aF aB aQ 0 e) e.length),true),oL 3 1 (map aB f),oL 4 2 (map LFun.av j),oC 5 [(iN a.nodes),(.gl 6 4 0 b.length false),.nils,.nils],oL 6 4 (map ONode.av b),oC 7 [(aB a.name),(iC a.cons),(.ilst 2 (map LFun.av a.funs) false),(iS a.needs),(iN a.nodes)],oC 8 [(iS c),(iS a.needs)]] 9),.ans (.len ((c++a.needs).length:Int)),.d])] [hA (Pure PP 161 [(.agg [(aB a.name),(iC a.cons),(.ilst 2 (map LFun.av a.funs) false),(iS a.needs),(iN a.nodes)])] (iS c)),hA (Spec PP (.enter 160 [(.slice 8 0 2 2 1 true)]) (aE [oC 0 [(.ilst 5 (map LUnit.av g) false),(.map 1),(.map 2),(.gl 3 1 0 f.length false),(bV k)],(1,(.map (aF aB aQ 0 d) d.length),true),(2,(.map (aF aB aQ 0 e) e.length),true),oL 3 1 (map aB f),oL 4 2 (map LFun.av j),oC 5 [(iN a.nodes),(.gl 6 4 0 b.length false),.nils,.nils],oL 6 4 (map ONode.av b),oC 7 [(aB a.name),(iC a.cons),(.ilst 2 (map LFun.av a.funs) false),(iS a.needs),(iN a.nodes)],oC 8 [(iS c),(iS a.needs)]] 9) (.ret (iS (c++a.needs))) (aE [oC 0 [(.ilst 5 (map LUnit.av g) false),(.map 1),(.map 2),(.gl 3 1 0 f.length false),(bV k)],(1,(.map (aF aB aQ 0 d) d.length),true),(2,(.map (aF aB aQ 0 e) e.length),true),oL 3 1 (map aB f),oL 4 2 (map LFun.av j),oC 5 [(iN a.nodes),(.gl 6 4 0 b.length false),.nils,.nils],oL 6 4 (map ONode.av b),oC 7 [(aB a.name),(iC a.cons),(.ilst 2 (map LFun.av a.funs) false),(iS a.needs),(iN a.nodes)],oC 8 [(iS c),(iS a.needs)]] 9)),hl aB (c++a.needs),hr (ilst 1 (map aB a.needs) false),hr (ilst 1 (map aB a.needs) false)]<|.i [rn 2,.cnil 5 2 1] []<|gu 0 9 (jI ([] :List Int))<|gv 0 5 2 (.gl 9 1 0 ([] :List Int).length false)<|.i [.cnil 5 3 1] []<|gu 0 10 (jI ([] :List Int))<|gv 0 5 3 (.gl 10 1 0 ([] :List Int).length false)<|.W 0 11 [4,5,7,6,9,10] (aDX g d e f k m n (c++a.needs) ((c++a.needs).length:Int) a.nodes a.name a.cons a.funs a.needs a.nodes 0 ([] :List Int) l j b))<|.i [rn 3,.reg (rd 7 [])] []<|.y fun i:List Node=>.i [rn 1,.lset 6 (jN i)] [.a (b=map Node.o i) (p':=(map ONode.av b) = (jN i)) aDv]<|.i [.set 7 (.gl 6 4 0 i.length false)] [.a (i.length=b.length) (p':=(AV.gl 6 4 0 b.length false) = (.gl 6 4 0 i.length false)) (fun h=>(bQ h.symm))]<|gz 0 6 4 2 LFun.av j false<|gz 0 7 6 4 Node.av i false<|.E 0 7 [] (.tup [(.ilst 2 (map LFun.av j) false),(iN i)]) [oC 0 [(.ilst 5 (map LUnit.av g) false),(.map 1),(.map 2),(.gl 3 1 0 f.length false),(bV k)],(1,(.map (aF aB aQ 0 d) d.length),true),(2,(.map (aF aB aQ 0 e) e.length),true),oL 3 1 (map aB f)] 4
def aXj:=fun a b c d e f g i j k l m n o p q r s t u=>aTa a b c d e f g i j k l m n|>.t q o r s p t u ⟨aM (fun _=>rfl) (fun _=>rfl) _ _ _,⟨aM (fun _=>rfl) (fun _=>rfl) _ _ _,⟨kk,⟨kk,⟨(aD _ (fun _=>aN _) _),⟨kk,⟨kk,trivial⟩⟩⟩⟩⟩⟩⟩
def aXk:=fun a b c d e f g i j k l m n o p q r=>aTa a b c d e f g i j k l m n|>.f p o q r ⟨aM (fun _=>rfl) (fun _=>rfl) _ _ _,⟨aM (fun _=>rfl) (fun _=>rfl) _ _ _,⟨kk,trivial⟩⟩⟩
def aMd(j:List LUnit)(a k:List (aC×Int))(b:List aC)(l:Bool)(m:List Con)(i n:List aC)(o:Int)(p:List Node)(q:aC)(f:List Con)(r:List LFun)(s:List aC)(t:List Node)(d:Int)(g:List Int)(u:Int)(v:List LFun)(w:List ONode):=tT 4 (aDX j a k b l m i n o p q f r s t d g u v w)<|gd 5 50 (d<o) (gX aB 6 n d<|fun e=>.o (.y fun c:Int=>.i [rn 10,.ans (.look (some (yB e a,(aQ c))))] [.a (dL e a=some c) (p':=eT (aB e) (aF aB aQ 0 a) 0=some (some (yB e a,(aQ c)))) (uY gB)]<|ga 22 aQ g [c]<|gw 7 83 (d+1)<|.W 3 12 [4,5,6,7,11,9] (aDX j a k b l m i n o p q f r s t (d+1) (g++ [c]) u v w))<|.i [rn 10,.ans (.look none)] [.a (dL e a=none) (p':=eT (aB e) (aF aB aQ 0 a) 0=some none) (uX gB)]<|.y fun c:Int=>.i [rn 13,.reg (rd 7 [.pure (nI c),.d,.d])] [hA (Pure PP 151 [(iS i),(aB e)] (nI c)),hr (nI (b.length:Int)),hr (nI (b.length:Int)),hr (AV.gl 3 1 0 b.length false),hr (AV.gl 3 1 0 b.length false)]<|ga 8 aQ g [(IntKind.i64.wrap ((b.length:Int) +c))]<|gw 7 83 (d+1)<|.W 3 12 [4,5,6,7,11,9] (aDX j a k b l m i n o p q f r s t (d+1) (g++ [(IntKind.i64.wrap ((b.length:Int) +c))]) u v w))<|gl 7 Con.av f<|.W 4 10 [4,5,6,7,8,9] (aDY j a k b l m i f (f.length:Int) p q r s t g 0 ([] :List Int) u v w)
def aXl:=fun a b c d e f g i j k l m n o p q r s t u v w x y z A B C=>aMd a b c d e f g i j k l m n o p q r s t u|>.t x v y z|>.1 w A B C ⟨aM (fun _=>rfl) (fun _=>rfl) _ _ _,⟨aM (fun _=>rfl) (fun _=>rfl) _ _ _,⟨kk,⟨kk,⟨(aD _ (fun _=>aN _) _),⟨kk,⟨kk,trivial⟩⟩⟩⟩⟩⟩⟩
def aXm:=fun a b c d e f g i j k l m n o p q r s t u v w x y z A B C D=>aMd a b c d e f g i j k l m n o p q r s t u|>.t x v y z|>.2 A w B C D ⟨aM (fun _=>rfl) (fun _=>rfl) _ _ _,⟨aM (fun _=>rfl) (fun _=>rfl) _ _ _,⟨kk,⟨kk,⟨(aD _ (fun _=>aN _) _),⟨kk,⟨kk,trivial⟩⟩⟩⟩⟩⟩⟩
def aXn:=fun a b c d e f g i j k l m n o p q r s t u v=>aMd a b c d e f g i j k l m n o p q r s t u|>.f v ⟨aM (fun _=>rfl) (fun _=>rfl) _ _ _,⟨aM (fun _=>rfl) (fun _=>rfl) _ _ _,⟨kk,⟨kk,⟨(aD _ (fun _=>aN _) _),⟨kk,⟨kk,trivial⟩⟩⟩⟩⟩⟩⟩
def aTb(g:List LUnit)(i j:List (aC×Int))(k:List aC)(l:Bool)(e:List Con)(m:List aC)(n:List Con)(o:Int)(p:List Node)(t:aC)(c:List LFun)(u:List aC)(v:List Node)(f:List Int)(d:Int)(a:List Int)(q:Int)(r:List LFun)(s:List ONode):=tT 4 (aDY g i j k l e m n o p t c u v f d a q r s)<|gd 5 88 (d<o) (gX Con.av 6 n d<|fun w=>.y fun b:Int=>.i [rn 4,.reg (rd 8 (.pure (nI b)::.d::.app (jI (a++ [b])) (a++ [b]).length::rd 3 []))] [hA (Pure PP 158 [(iC e),(.func 159 [] []),(aB w.name)] (nI b)),hb aQ a,hA (length (a++ [b]) ≤1000000),hc aQ a [b],he aQ a [b],hr (AV.gl 9 1 0 a.length false),hr (AV.gl 9 1 0 a.length false)]<|gw 3 104 (d+1)<|.W 3 13 [4,5,6,7,8,12] (aDY g i j k l e m n o p t c u v f (d+1) (a++ [b]) q r s))<|gy 3 5 2 8 1 aQ f false<|gy 0 5 3 9 1 aQ a false<|gl 3 LFun.av c<|.W 4 10 [4,5,7] (aDZ g i j k l e m c (c.length:Int) p f a 0 r s q)
def aXo:=fun a b c d e f g i j k l m n o p q r s t u v w x y z A B C=>aTb a b c d e f g i j k l m n o p q r s t u|>.t x v y z w A B C ⟨aM (fun _=>rfl) (fun _=>rfl) _ _ _,⟨aM (fun _=>rfl) (fun _=>rfl) _ _ _,⟨kk,⟨kk,⟨(aD _ (fun _=>aN _) _),⟨kk,⟨kk,trivial⟩⟩⟩⟩⟩⟩⟩
def aXp:=fun a b c d e f g i j k l m n o p q r s t u v=>aTb a b c d e f g i j k l m n o p q r s t u|>.f v ⟨aM (fun _=>rfl) (fun _=>rfl) _ _ _,⟨aM (fun _=>rfl) (fun _=>rfl) _ _ _,⟨kk,⟨kk,⟨(aD _ (fun _=>aN _) _),trivial⟩⟩⟩⟩⟩
def aTc(g:List LUnit)(d e:List (aC×Int))(f:List aC)(i:Bool)(p:List Con)(q:List aC)(r:List LFun)(s:Int)(j:List Node)(k l:List Int)(m:Int)(c:List LFun)(a:List ONode)(o:Int):=tT 4 (aDZ g d e f i p q r s j k l m c a o)<|gd 5 109 (m<s) (gX LFun.av 6 r m<|fun b=>.y fun n:List Node=>.i [rn 4,.reg (rd 6 [.call (nI (a.length:Int)) (aE [oC 0 [(.ilst 5 (map LUnit.av g) false),(.map 1),(.map 2),(.gl 3 1 0 f.length false),(bV i)],(1,(.map (aF aB aQ 0 d) d.length),true),(2,(.map (aF aB aQ 0 e) e.length),true),oL 3 1 (map aB f),oL 4 2 (map LFun.av c),oC 5 [(iN j),(.gl 9 4 0 (a++map Node.o n).length false),(iI k),(iI l)],oC 7 [(aB b.name),(nI b.body)],oL 9 4 (map ONode.av (a++map Node.o n))] 10),.d,.d,.app (map LFun.av (c++ [(LFun.mk b.name (a.length:Int))])) (c++ [(LFun.mk b.name (a.length:Int))]).length,.d])] [hA (Spec PP (.enter 144 [(.ptr 5 0),(nI b.body)]) (aE [oC 0 [(.ilst 5 (map LUnit.av g) false),(.map 1),(.map 2),(.gl 3 1 0 f.length false),(bV i)],(1,(.map (aF aB aQ 0 d) d.length),true),(2,(.map (aF aB aQ 0 e) e.length),true),oL 3 1 (map aB f),oL 4 2 (map LFun.av c),oC 5 [(iN j),(.gl 6 4 0 a.length false),(iI k),(iI l)],oL 6 4 (map ONode.av a),oC 7 [(aB b.name),(nI b.body)]] 9) (.ret (nI (a.length:Int))) (aE [oC 0 [(.ilst 5 (map LUnit.av g) false),(.map 1),(.map 2),(.gl 3 1 0 f.length false),(bV i)],(1,(.map (aF aB aQ 0 d) d.length),true),(2,(.map (aF aB aQ 0 e) e.length),true),oL 3 1 (map aB f),oL 4 2 (map LFun.av c),oC 5 [(iN j),(.gl 9 4 0 (a++map Node.o n).length false),(iI k),(iI l)],oC 7 [(aB b.name),(nI b.body)],oL 9 4 (map ONode.av (a++map Node.o n))] 10)),hb LFun.av c,hA (length (c++ [(LFun.mk b.name (a.length:Int))]) ≤1000000),hc LFun.av c [(LFun.mk b.name (a.length:Int))],he LFun.av c [(LFun.mk b.name (a.length:Int))],hr (aB b.name),hr (aB b.name)]<|gw 3 122 (m+1)<|.W 3 11 [10,5,9] (aDZ g d e f i p q r s j k l (m+1) (c++ [(LFun.mk b.name (a.length:Int))]) (a++map Node.o n) o))<|gw 5 123 (o+1)<|.W 3 7 [4,5,6] (aDW g d e f i p q (o+1) j k l c a)
def aXq:=fun a b c d e f g i j k l m n o p q r s t u v w x y=>aTc a b c d e f g i j k l m n o p q|>.t t r u v s w x y ⟨aM (fun _=>rfl) (fun _=>rfl) _ _ _,⟨aM (fun _=>rfl) (fun _=>rfl) _ _ _,⟨kk,⟨kk,⟨(aD _ (fun _=>aN _) _),trivial⟩⟩⟩⟩⟩
def aXr:=fun a b c d e f g i j k l m n o p q r s=>aTc a b c d e f g i j k l m n o p q|>.f r s ⟨aM (fun _=>rfl) (fun _=>rfl) _ _ _,⟨aM (fun _=>rfl) (fun _=>rfl) _ _ _,⟨kk,⟨kk,⟨(aD _ (fun _=>aN _) _),trivial⟩⟩⟩⟩⟩
def uP(i:aC)(d:List LUnit):=tT 0 (aM6 i d)<|eU 13 85 [(aB i)]<|fun m=>.b 6 4 (!m) (.i [rn 51,.cnilI 0 1 2] []<|.i [.cnilI 0 2 2] []<|.i [.cnilI 0 3 1] []<|.i [.cnilI 0 4 4] []<|gE 0 3 (.tup [(.agg [(.str 0 0),(.ilst 2 (jC ([] :List Con)) true),(.ilst 2 (map LFun.av ([] :List LFun)) true),(.ilst 1 (map aB ([] :List aC)) true),(.ilst 4 (jN ([] :List Node)) true)]),(nI 2)]))<|.o (gK 8 (.enter 63 [(.ilst 5 (map LUnit.av d) false)]) [oC 0 [(.str 0 0),.nils,.nils,.nils,.nils],oC 1 [(nI 0)]] 2 [((.iface 201 (.agg [(nI 2)])),false)] [oC 0 [(.str 0 0),.nils,.nils,.nils,.nils],oC 1 [(nI 0)]] 2<|.i [rn 44,.cnilI 0 1 2] []<|.i [.cnilI 0 2 2] []<|.i [.cnilI 0 3 1] []<|.i [.cnilI 0 4 4] []<|gE 0 3 (.tup [(.agg [(.str 0 0),(.ilst 2 (jC ([] :List Con)) true),(.ilst 2 (map LFun.av ([] :List LFun)) true),(.ilst 1 (map aB ([] :List aC)) true),(.ilst 4 (jN ([] :List Node)) true)]),(nI 2)]))<|.y fun a:List (aC×Int)=>.y fun b:List (aC×Int)=>.y fun c:List aC=>.y fun e:Bool=>gk 8 (.enter 63 [(.ilst 5 (map LUnit.av d) false)]) [oC 0 [(.str 0 0),.nils,.nils,.nils,.nils],oC 1 [(nI 0)]] 2 (.ptr 2 0) [oC 0 [(.str 0 0),.nils,.nils,.nils,.nils],oC 1 [(nI 0)],oC 2 [(.ilst 5 (map LUnit.av d) false),(.map 3),(.map 4),(.gl 5 1 0 c.length false),(bV e)],(3,(.map (aF aB aQ 0 a) a.length),true),(4,(.map (aF aB aQ 0 b) b.length),true),oL 5 1 (map aB c)] 6<|.o (gK 5 (.enter 77 [(.ptr 2 0)]) [oC 0 [(.str 0 0),.nils,.nils,.nils,.nils],oC 1 [(nI 0)],oC 2 [(.ilst 5 (map LUnit.av d) false),(.map 3),(.map 4),(.gl 5 1 0 c.length false),(bV e)],(3,(.map (aF aB aQ 0 a) a.length),true),(4,(.map (aF aB aQ 0 b) b.length),true),oL 5 1 (map aB c)] 6 [((.iface 201 (.agg [(nI 7)])),false)] [oC 0 [(.str 0 0),.nils,.nils,.nils,.nils],oC 1 [(nI 0)],oC 2 [(.ilst 5 (map LUnit.av d) false),(.map 3),(.map 4),(.gl 5 1 0 c.length false),(bV e)],(3,(.map (aF aB aQ 0 a) a.length),true),(4,(.map (aF aB aQ 0 b) b.length),true),oL 5 1 (map aB c)] 6<|.i [rn 44,.cnilI 0 1 2] []<|.i [.cnilI 0 2 2] []<|.i [.cnilI 0 3 1] []<|.i [.cnilI 0 4 4] []<|gE 0 7 (.tup [(.agg [(.str 0 0),(.ilst 2 (jC ([] :List Con)) true),(.ilst 2 (map LFun.av ([] :List LFun)) true),(.ilst 1 (map aB ([] :List aC)) true),(.ilst 4 (jN ([] :List Node)) true)]),(nI 7)]))<|.y fun f:List Con=>gk 5 (.enter 77 [(.ptr 2 0)]) [oC 0 [(.str 0 0),.nils,.nils,.nils,.nils],oC 1 [(nI 0)],oC 2 [(.ilst 5 (map LUnit.av d) false),(.map 3),(.map 4),(.gl 5 1 0 c.length false),(bV e)],(3,(.map (aF aB aQ 0 a) a.length),true),(4,(.map (aF aB aQ 0 b) b.length),true),oL 5 1 (map aB c)] 6 (iC f) [oC 0 [(.str 0 0),.nils,.nils,.nils,.nils],oC 1 [(nI 0)],oC 2 [(.ilst 5 (map LUnit.av d) false),(.map 3),(.map 4),(.gl 5 1 0 c.length false),(bV e)],(3,(.map (aF aB aQ 0 a) a.length),true),(4,(.map (aF aB aQ 0 b) b.length),true),oL 5 1 (map aB c)] 6<|.y fun g:List aC=>gk 1 (.enter 64 [(.ptr 2 0)]) [oC 0 [(.str 0 0),.nils,.nils,.nils,.nils],oC 1 [(nI 0)],oC 2 [(.ilst 5 (map LUnit.av d) false),(.map 3),(.map 4),(.gl 5 1 0 c.length false),(bV e)],(3,(.map (aF aB aQ 0 a) a.length),true),(4,(.map (aF aB aQ 0 b) b.length),true),oL 5 1 (map aB c)] 6 (iS g) [oC 0 [(.str 0 0),.nils,.nils,.nils,.nils],oC 1 [(nI 0)],oC 2 [(.ilst 5 (map LUnit.av d) false),(.map 3),(.map 4),(.gl 5 1 0 c.length false),(bV e)],(3,(.map (aF aB aQ 0 a) a.length),true),(4,(.map (aF aB aQ 0 b) b.length),true),oL 5 1 (map aB c)] 6<|.b 14 4 e (.i [rn 51,.cnilI 0 1 2] []<|.i [.cnilI 0 2 2] []<|.i [.cnilI 0 3 1] []<|.i [.cnilI 0 4 4] []<|gE 0 7 (.tup [(.agg [(.str 0 0),(.ilst 2 (jC ([] :List Con)) true),(.ilst 2 (map LFun.av ([] :List LFun)) true),(.ilst 1 (map aB ([] :List aC)) true),(.ilst 4 (jN ([] :List Node)) true)]),(nI 7)]))<|.y fun j:Int=>gk 8 (.enter 78 [(.ptr 2 0)]) [oC 0 [(.str 0 0),.nils,.nils,.nils,.nils],oC 1 [(nI 0)],oC 2 [(.ilst 5 (map LUnit.av d) false),(.map 3),(.map 4),(.gl 5 1 0 c.length false),(bV e)],(3,(.map (aF aB aQ 0 a) a.length),true),(4,(.map (aF aB aQ 0 b) b.length),true),oL 5 1 (map aB c)] 6 (nI j) [oC 0 [(.str 0 0),.nils,.nils,.nils,.nils],oC 1 [(nI 0)],oC 2 [(.ilst 5 (map LUnit.av d) false),(.map 3),(.map 4),(.gl 5 1 0 c.length false),(bV e)],(3,(.map (aF aB aQ 0 a) a.length),true),(4,(.map (aF aB aQ 0 b) b.length),true),oL 5 1 (map aB c)] 6<|gd 2 30 (j>300) (.i [rn 65,.cnilI 0 1 2] []<|.i [.cnilI 0 2 2] []<|.i [.cnilI 0 3 1] []<|.i [.cnilI 0 4 4] []<|gE 0 7 (.tup [(.agg [(.str 0 0),(.ilst 2 (jC ([] :List Con)) true),(.ilst 2 (map LFun.av ([] :List LFun)) true),(.ilst 1 (map aB ([] :List aC)) true),(.ilst 4 (jN ([] :List Node)) true)]),(nI 3)]))<|gl 1 Con.av f<|gd 3 35 ((f.length:Int) >20) (.i [rn 60,.cnilI 0 1 2] []<|.i [.cnilI 0 2 2] []<|.i [.cnilI 0 3 1] []<|.i [.cnilI 0 4 4] []<|gE 0 7 (.tup [(.agg [(.str 0 0),(.ilst 2 (jC ([] :List Con)) true),(.ilst 2 (map LFun.av ([] :List LFun)) true),(.ilst 1 (map aB ([] :List aC)) true),(.ilst 4 (jN ([] :List Node)) true)]),(nI 3)]))<|gl 1 aB g<|gd 7 4 ((g.length:Int) >20) (.i [rn 51,.cnilI 0 1 2] []<|.i [.cnilI 0 2 2] []<|.i [.cnilI 0 3 1] []<|.i [.cnilI 0 4 4] []<|gE 0 7 (.tup [(.agg [(.str 0 0),(.ilst 2 (jC ([] :List Con)) true),(.ilst 2 (map LFun.av ([] :List LFun)) true),(.ilst 1 (map aB ([] :List aC)) true),(.ilst 4 (jN ([] :List Node)) true)]),(nI 3)]))<|.y fun k:List LFun=>.y fun l:List Node=>gk 10 (.enter 79 [(.ptr 2 0),(iC f),(iS g)]) [oC 0 [(.str 0 0),.nils,.nils,.nils,.nils],oC 1 [(nI 0)],oC 2 [(.ilst 5 (map LUnit.av d) false),(.map 3),(.map 4),(.gl 5 1 0 c.length false),(bV e)],(3,(.map (aF aB aQ 0 a) a.length),true),(4,(.map (aF aB aQ 0 b) b.length),true),oL 5 1 (map aB c)] 6 (.tup [(.ilst 2 (map LFun.av k) false),(iN l)]) [oC 0 [(.str 0 0),.nils,.nils,.nils,.nils],oC 1 [(nI 0)],oC 2 [(.ilst 5 (map LUnit.av d) false),(.map 3),(.map 4),(.gl 5 1 0 c.length false),(bV e)],(3,(.map (aF aB aQ 0 a) a.length),true),(4,(.map (aF aB aQ 0 b) b.length),true),oL 5 1 (map aB c)] 6<|gE 35 6 (.tup [(.agg [(aB i),(iC f),(.ilst 2 (map LFun.av k) false),(iS g),(iN l)]),(nI 0)])
def aXs:=fun a b c d e=>uP a b c d|>.t e tv
def aXt:=fun a b c d e f=>uP a b c d|>.f e|>.1 f tv
def aXu:=fun a b c d e f g i j k l=>uP a b c i|>.f j|>.2 d e f g k|>.1 l tv
def aXv:=fun a b c d e f g i j k l m n o p=>uP a b c k|>.f l|>.2 d e f g m|>.2 i n j o|>.t p tv
def aXw:=fun a b c d e f g i j k l m n o p q r s=>uP a b c l|>.f m|>.2 d e f g n|>.2 i o j p|>.f q k r|>.t s tv
def aXx:=fun a b c d e f g i j k l m n o p q r s t=>uP a b c l|>.f m|>.2 d e f g n|>.2 i o j p|>.f q k r|>.f s|>.t t tv
def aXy:=fun a b c d e f g i j k l m n o p q r s t u=>uP a b c l|>.f m|>.2 d e f g n|>.2 i o j p|>.f q k r|>.f s|>.f t|>.t u tv
def aXz:=fun a b c d e f g i j k l m n o p q r s t u v w x=>uP a b c n|>.f o|>.2 d e f g p|>.2 i q j r|>.f s k t|>.f u|>.f v|>.f w l m x tv
section
variable (l :List LUnit) (mf mh:List (aC×Int)) (od:List aC) (tw:Bool) (cs:List Con) (ls:List aC) (hT:od.length≤1000) (hls:ls.length≤1000) (hcs:cs.length≤1000) (ht:TabI od tw mf mh)
include hT hls ht in
theorem aTd (u:LUnit)(c50:List Node)(cl:List aC)(hcl:cl.length≤1000)(i:Int)(fs:List LFun)(L:List ONode) :∀ (t:List aC) (k:Nat) (acc:List Int),cl.drop k=t→acc.length=k →
  LeadsM PP 4 (aDX l mf mh od tw cs ls cl ((cl.length:Nat) :Int) c50 u.name u.cons u.funs u.needs u.nodes (k:Int) acc i fs L).as (aDY l mf mh od tw cs ls u.cons ((u.cons.length:Nat) :Int) c50 u.name u.funs u.needs u.nodes (acc++t.map (vN od ls)) 0 [] i fs L).as
 | [],k,acc,h,ha=>by
  have:=aT h;rw [map_nil,append_nil];exact aXn l mf mh od tw cs ls cl _ c50 u.name u.cons u.funs u.needs u.nodes k acc i fs L sd
 | s ::t,k,acc,h,ha=>by
  obtain⟨q1,q2,q3⟩ :=aR h;have ih:=aTd u c50 cl hcl i fs L t (k+1) (acc++ [vN od ls s]) q2 (by simp [ha]);rw [append_assoc]at ih;have r2:=iT s ls 0;have g:=ht.f s;have hng:=aFl s od 0;by_cases hn:bW od s=true
  · rw [if_pos hn]at g;have ef:vN od ls s=dH s od 0:=by unfold vN;rw [if_neg (fun h=>by rw [hng.1 h]at hn;cases hn)]
    have h1:=aXl l mf mh od tw cs ls cl ((cl.length:Nat) :Int) c50 u.name u.cons u.funs u.needs u.nodes k acc i fs L s _ sd sd sd g (by simp;omega) sd;rw [←ef]at h1;exact h1.trans ih
  · rw [if_neg hn]at g;rw [Bool.not_eq_true]at hn;have ef:vN od ls s= (od.length:Int) +dH s ls 0:=by unfold vN;rw [if_pos (hng.2 hn)]
    have hw:IntKind.i64.wrap (((length od:Nat) :Int) +dH s ls 0) = (od.length:Int) +dH s ls 0:=by apply wrap64<;>omega
    have h1:=aXm l mf mh od tw cs ls cl ((cl.length:Nat) :Int) c50 u.name u.cons u.funs u.needs u.nodes k acc i fs L s _ sd sd sd g (aSO ls s (by omega)) (by simp;omega) sd;rw [hw,←ef]at h1;exact h1.trans ih
include hcs in
theorem aTe (u:LUnit)(c50:List Node)(hu:u.cons.length≤1000)(F:List Int)(i:Int)(fs:List LFun)(L:List ONode) :∀ (t:List Con) (k:Nat) (acc:List Int),u.cons.drop k=t→acc.length=k →
  LeadsM PP 4 (aDY l mf mh od tw cs ls u.cons ((u.cons.length:Nat) :Int) c50 u.name u.funs u.needs u.nodes F (k:Int) acc i fs L).as (aDZ l mf mh od tw cs ls u.funs ((u.funs.length:Nat) :Int) c50 F (acc++t.map (fun c=>nO c.name cs 0)) 0 fs L i).as
 | [],k,acc,h,ha=>by
  have:=aT h;rw [map_nil,append_nil];exact aXp l mf mh od tw cs ls u.cons _ c50 u.name u.funs u.needs u.nodes F k acc i fs L sd
 | c::t,k,acc,h,ha=>by
  obtain⟨q1,q2,q3⟩ :=aR h;have ih:=aTe u c50 hu F i fs L t (k+1) (acc++ [nO c.name cs 0]) q2 (by simp [ha]);rw [append_assoc]at ih;exact(aXo l mf mh od tw cs ls u.cons _ c50 u.name u.funs u.needs u.nodes F k acc i fs L c _ sd sd sd (aSP cs c.name (by omega)) (by simp;omega) sd).trans ih
abbrev aYI (f:LFun) :AObj:=.cells (putCells .leaf 0 [aB f.name,.int .i64 f.body]) 2 [] false
abbrev LFs (fs:List LFun) :AObj:=.lst 2 (map LFun.av fs)
theorem aTf (u:LUnit)(hu:u.funs.length≤1000)(hx:∀x∈u.nodes,gR x.pats=true)(F C:List Int)(K:Nat)(i:Nat)(hi:i<1000) :∀ (t:List LFun) (k:Nat) (fs:List LFun) (L:List ONode) (ks:List Int) (r:List Node),u.funs.drop k=t→fs.length+t.length≤100000 →
  iR (eQ (eV u) F C K) L.length (t.map LFun.body) =some (ks,r) →
  LeadsM PP 4 (aDZ l mf mh od tw cs ls u.funs ((u.funs.length:Nat) :Int) u.nodes F C (k:Int) fs L (i:Int)).as (aDW l mf mh od tw cs ls ((i:Int) +1) u.nodes F C (fs++zipWith LFun.mk (t.map LFun.name) ks) (L++map Node.o r)).as
 | [],k,fs,L,ks,r,h,hf,hm=>by
  have:=aT h;cases hm;simp only [map_nil,List.zipWith_nil_left,append_nil];exact aXr l mf mh od tw cs ls u.funs _ u.nodes F C k fs L i sd sd
 | f :: t,k,fs,L,ks,r,h,hf,hm=>by
  obtain⟨q1,q2,q3⟩ :=aR h;simp only [length_cons]at hf;simp only [List.map_cons,iR]at hm;split at hm
  · rename_i ns hns;split at hm
    · rename_i ks1 r1 hm1;cases hm;have hs:=mNd_spec (eV u) F C hx K L f.body ns hns;unfold MNS at hs
      have hs':=lT (m:=1) (ks:=[5,6]) (n2:=9) (n3:=10) (v':=.int .i64 ((length L:Nat) :Int)) (args':=[.ptr 5 0,.int .i64 f.body])
       (lc:=[(0,aO2 l 1 2 3 od tw,false),(1,MTb mf,true),(2,MTb mh,true),(3,aMc od,true),(4,LFs fs,true),(5,MC u.nodes F C 6 (length L),false),(6,OL L,true),(7,aYI f,false)])
       (lc':=[(0,aO2 l 1 2 3 od tw,false),(1,MTb mf,true),(2,MTb mh,true),(3,aMc od,true),(4,LFs fs,true),(5,MC u.nodes F C 9 (length (L++map Node.o ns)),false),(7,aYI f,false),(9,OL (L++map Node.o ns),true)])
       hs (by rfl) (by rfl) (by kernel_rfl) (by rfl) (by rfl) (by kernel_rfl) (by kernel_rfl) ⟨nK _,trivial⟩ (by kernel_rfl) ⟨nK _,trivial⟩
      have h1:=aXq l mf mh od tw cs ls u.funs ((u.funs.length:Nat) :Int) u.nodes F C k fs L i f ns sd sd sd (mp (by kernel_rfl) hs') (by simp;omega) sd;have h3:=aTf u hu hx F C K i hi t (k+1) (fs++ [(⟨f.name,((L.length:Nat) :Int)⟩ :LFun)]) (L++map Node.o ns) ks1 r1 q2 (by simp;omega) (by rw [List.length_append,List.length_map];exact hm1);have e1:fs++zipWith LFun.mk (map LFun.name (f::t)) (((L.length:Nat) :Int) ::ks1) = (fs++ [(⟨f.name,((L.length:Nat) :Int)⟩ :LFun)]) ++zipWith LFun.mk (map LFun.name t) ks1:=by simp
      have e2:L++map Node.o (ns++r1) = (L++map Node.o ns) ++map Node.o r1:=by simp
      rw [e1,e2];exact h1.trans h3
    ·cases hm
  ·cases hm
include hT hls hcs ht in
theorem aTg (hl:l.length≤11)(hu:∀u∈l,FewU u∧∀x∈u.nodes,gR x.pats=true) :∀ (t:List LUnit) (i:Nat) (a0:List Node) (a1 a2:List Int) (fs:List LFun) (ns:List Node) (fs':List LFun) (ns':List Node),l.drop i=t→fs.length≤30*i→aDN od ls cs fs ns t=some (fs',ns') →
  Ends PP 4 (aDW l mf mh od tw cs ls (i:Int) a0 a1 a2 fs (map Node.o ns)).as (.ret (.tup [.ilst 2 (map LFun.av fs') false,.ilst 4 (map Node.av ns') false])) (aE (THp l mf mh od tw) 4)
 | [],i,a0,a1,a2,fs,ns,fs',ns',h,ha,hm=>by
  have:=aT h;cases hm;exact aXk l mf mh od tw cs ls i a0 a1 a2 fs (map Node.o ns) ns sd rfl (by simp)
 | u ::t,i,a0,a1,a2,fs,ns,fs',ns',h,ha,hm=>by
  obtain⟨q1,q2,q3⟩ :=aR h;have hf:= (hu u (mem_of_getElem? q1)).1;have hx:= (hu u (mem_of_getElem? q1)).2;have f1:=hf.f;have f2:=hf.n;have f3:u.cons.length≤25:=by have:=hf.p;simp only [aL,Bool.and_eq_true,decide_eq_true_eq]at this;exact this.1.1.2
  have hnm: (aH u).length=u.funs.length:=by simp [aH]
  rw [aDN]at hm;split at hm
  · rename_i ks r hk;have hkl:=vK hk;have hc:=aJX (aH u) u.needs (by omega) (by omega)
    have hc':=lT (m:=1) (ks:=[8]) (n2:=9) (n3:=9) (v':=.ilst 1 (map aB (aH u++u.needs)) false) (args':=[.slice 8 0 2 2 1 true])
     (lc:=[(0,aO2 l 1 2 3 od tw,false),(1,MTb mf,true),(2,MTb mh,true),(3,aMc od,true),(4,LFs fs,true),(5,.cells (putCells .leaf 0 [.ilst 4 (map Node.av u.nodes) false,.gl 6 4 0 (length (map Node.o ns)) false,.nils,.nils]) 4 [] false,false),(6,OL (map Node.o ns),true),(7,nP u,false),(8,aHs (aH u) u.needs,false)])
     (lc':=[(0,aO2 l 1 2 3 od tw,false),(1,MTb mf,true),(2,MTb mh,true),(3,aMc od,true),(4,LFs fs,true),(5,.cells (putCells .leaf 0 [.ilst 4 (map Node.av u.nodes) false,.gl 6 4 0 (length (map Node.o ns)) false,.nils,.nils]) 4 [] false,false),(6,OL (map Node.o ns),true),(7,nP u,false),(8,aHs (aH u) u.needs,false)])
     hc (by rfl) (by kernel_rfl) (by kernel_rfl) (by rfl) (by rfl) (by kernel_rfl) (by kernel_rfl) trivial (by kernel_rfl) trivial
    have h0:=aXj l mf mh od tw cs ls i a0 a1 a2 fs (map Node.o ns) u (aH u) sd sd sd (aJU u (by omega)) (mp (by kernel_rfl) hc');have h1:=aTd l mf mh od tw cs ls hT hls ht u u.nodes (aH u++u.needs) (by simp;omega) i fs (map Node.o ns) (aH u++u.needs) 0 [] rfl rfl;have h2:=aTe l mf mh od tw cs ls hcs u u.nodes (by omega) (aDL od ls u) i fs (map Node.o ns) u.cons 0 [] rfl rfl;have h3:=aTf l mf mh od tw cs ls u (by omega) hx (aDL od ls u) (aDM cs u) u.nodes.length i (by omega) u.funs 0 fs (map Node.o ns) ks r rfl (by omega) (by rw [List.length_map];exact hk);rw [←List.map_append]at h3;have hb: (dE u).length=u.funs.length:=by simp [dE]
    exact h0.ends (h1.ends (h2.ends (h3.ends (aTg hl hu t (i+1) _ _ _ _ (ns++r) fs' ns' q2 (by simp;omega) hm))))
  ·cases hm
include hT hls hcs ht in
theorem aTh (hl:l.length≤11)(hu:∀u∈l,FewU u∧∀x∈u.nodes,gR x.pats=true){fs:List LFun}{ns:List Node}(h:aDN od ls cs [] [] l=some (fs,ns)) :
  Spec PP (.enter 79 [.ptr 0 0,.ilst 2 (map Con.av cs) false,.ilst 1 (map aB ls) false]) (aE (THp l mf mh od tw) 4) (.ret (.tup [.ilst 2 (map LFun.av fs) false,.ilst 4 (map Node.av ns) false])) (aE (THp l mf mh od tw) 4) :=by
 suffices hh:Ends PP 4 (aS9 l mf mh od tw cs ls).as (.ret (.tup [.ilst 2 (map LFun.av fs) false,.ilst 4 (map Node.av ns) false])) (aE (THp l mf mh od tw) 4)from⟨(aS9 l mf mh od tw cs ls).as.fr,by kernel_rfl,mp (by kernel_rfl) hh⟩
 exact(aXi l mf mh od tw cs ls).ends (aTg l mf mh od tw cs ls hT hls hcs ht hl hu l 0 [] [] [] [] [] fs ns rfl (by simp) h)
end
abbrev aTi :AObj:=.cells (putCells .leaf 0 [.int .i64 0]) 1 [] false
abbrev aMe :AObj:=.cells (putCells .leaf 0 [.str 0 0,.nils,.nils,.nils,.nils]) 5 [] false
section
variable (l :List LUnit) (mf mh:List (aC×Int)) (od:List aC) (tw:Bool)
end
abbrev aFm (l:List LUnit)(mf mh:List (aC×Int))(od:List aC)(tw:Bool) :List (Nat×AObj×Bool) :=[(0,aMe,false),(1,aTi,false),(2,aO2 l 3 4 5 od tw,false),(3,MTb mf,true),(4,MTb mh,true),(5,aMc od,true)]
section
variable (l :List LUnit) (mf mh:List (aC×Int)) (od:List aC) (tw:Bool)
theorem aTj {f:Nat}{args args':List AV}{res:Res}(hs:Spec PP (.enter f args) (aE (THp l mf mh od tw) 4) res (aE (THp l mf mh od tw) 4))(hargs:AV.renL (dW 0 4 6 [2,3,4,5]) args=args')(hv:zU res) :
  Spec PP (.enter f args') (aE (aFm l mf mh od tw) 6) res (aE (aFm l mf mh od tw) 6) :=
 aCT (ks:=[2,3,4,5]) (n2:=6) (lc:=aFm l mf mh od tw) (lc':=aFm l mf mh od tw) hs hargs hv (by kernel_rfl) (by kernel_rfl) ⟨aBk _,aBk _,aHv _,trivial⟩ (by kernel_rfl) ⟨aBk _,aBk _,aHv _,trivial⟩
theorem bAa (hs:aCR PP (.enter 63 [.ilst 5 (map LUnit.av l) false]) (aE [] 0) (.ret (.ptr 0 0)) (aE (THp l mf mh od tw) 4)) :
  Spec PP (.enter 63 [.ilst 5 (map LUnit.av l) false]) (aE [(0,aMe,false),(1,aTi,false)] 2) (.ret (.ptr 2 0)) (aE (aFm l mf mh od tw) 6) :=
 lT (m:=0) (ks:=[]) (n2:=2) (n3:=6) (v':=.ptr 2 0) (args':=[.ilst 5 (map LUnit.av l) false]) (lc:=[(0,aMe,false),(1,aTi,false)]) (lc':=aFm l mf mh od tw)
  hs (by rfl) (by rfl) (by kernel_rfl) (by rfl) (by rfl) (by kernel_rfl) (by kernel_rfl) trivial (by kernel_rfl) ⟨aBk _,aBk _,aHv _,trivial⟩
end
theorem aMf (nm:aC)(l:List LUnit)(hl:l.length≤11)(hu:∀u∈l,FewU u∧NumU u) :Pure PP 27 [aB nm,.ilst 5 (map LUnit.av l) false] (.tup [LUnit.av (sB nm l).1,.int .i64 (sB nm l).2]) :=by
 have hf:=fun u h=> (hu u h).1;have hal:=uI l hf;have pn:=aDm nm;have err:∀e:Int,Ends PP 0 (aM6 nm l).as (.ret (.tup [(.agg [(.str 0 0),(.ilst 2 (map Con.av ([] :List Con)) true),(.ilst 2 (map LFun.av ([] :List LFun)) true),(.ilst 1 (map aB ([] :List aC)) true),(.ilst 4 (map Node.av ([] :List Node)) true)]),.int .i64 e])) (aE [] 0) →Pure PP 27 [aB nm,.ilst 5 (map LUnit.av l) false] (.tup [LUnit.av sA,.int .i64 e]) :=fun e h=>
  aA6 (dF (s:=aM6 nm l) (by kernel_rfl) (by kernel_rfl) (by simp [keylessL,keyless,aB]) (by simp [keylessL,keyless]) h) (fun E cv hv=>aM2 hv)
 unfold sB;cases hn:lG nm with
 | false=>
  rw [hn]at pn;rw [if_neg (fun h=>by cases h.1)];exact err 2 (aXs nm l false pn rfl)
 | true =>
  rw [hn]at pn;by_cases h0:jO l=true
  · rw [if_pos ⟨rfl,h0⟩];obtain⟨hl10,hg⟩ :=rG hf h0;obtain⟨mf,mh,ht,hs⟩ :=aZt l hu h0;have s0:=bAa l mf mh _ _ hs;have hc25:∀u∈l,u.cons.length≤25:=fun u h=> (hg u h).small.2;have s1:=aS8 l mf mh (dU l) (!cI (dU l)) hl hc25;have s2:=aS5 l mf mh (dU l) (!cI (dU l)) ht hl hf;have s3:=aS6 l mf mh (dU l) (!cI (dU l)) hl (fun u h=> (hg u h).small.1);have s2':=aTj l mf mh _ _ s2 (args':=[.ptr 2 0]) (by rfl) (by simp [zU,keyless]);have s3':=aTj l mf mh _ _ s3 (args':=[.ptr 2 0]) (by rfl) (by simp [zU,keyless]);cases hc:aFe l with
    | none=>
     rw [hc]at s1;exact err 7 (aXu nm l true mf mh (dU l) _ pn rfl s0 (aTj l mf mh _ _ s1 (args':=[.ptr 2 0]) (by rfl) (by simp [zU,keyless,keylessL])))
    | some c =>
     rw [hc]at s1;have s1':=aTj l mf mh _ _ s1 (args':=[.ptr 2 0]) (by rfl) (by simp [zU,keyless]);have hcl:=aBd hf hc;have hll:=aBe (own:=dU l) (out:=[]) hf;have hll: (dO l).length≤25*l.length:=by simpa [dO]using hll
     dsimp only;cases h3:cI (dU l)with
     | false=>
      rw [h3]at s0 s1' s2';rw [if_neg (fun h=>by cases h)];exact err 7 (aXv nm l true mf mh (dU l) true c (dO l) pn rfl s0 s1' s2' rfl)
     | true =>
      rw [if_pos rfl];have hp:=aSD (ls:=dO l) (cs:=c) hl10 hg (by omega);have s4:=aTh l mf mh (dU l) (!cI (dU l)) c (dO l) (by omega) (by omega) (by simp at hcl;omega) ht hl (fun u h=> ⟨hf u h,aM0 (hg u h)⟩) hp.eq;have s4':=aTj l mf mh _ _ s4 (args':=[.ptr 2 0,.ilst 2 (map Con.av c) false,.ilst 1 (map aB (dO l)) false]) (by kernel_rfl) (by simp [zU,keyless,keylessL]);rw [h3]at s0 s1' s2' s3' s4';by_cases h6:fA l≤300
      · by_cases h7:c.length≤20
        · by_cases h8: (dO l).length≤20
          · rw [if_pos ⟨h6,h7,h8⟩]
            exact dF (s:=aM6 nm l) (by kernel_rfl) (by kernel_rfl) (by simp [keylessL,keyless,aB]) (by simp [keylessL,keyless,jL])
             (aXz nm l true mf mh (dU l) false c (dO l) _ (aBS (dO l) c l).1 (aBS (dO l) c l).2 pn rfl s0 s1' s2' rfl s3' (by simp;omega) (by simp;omega) (by simp;omega) s4')
          · rw [if_neg (fun h=>h8 h.2.2)];exact err 3 (aXy nm l true mf mh (dU l) false c (dO l) _ pn rfl s0 s1' s2' rfl s3' (by simp;omega) (by simp;omega) (by simp;omega))
        · rw [if_neg (fun h=>h7 h.2.1)];exact err 3 (aXx nm l true mf mh (dU l) false c (dO l) _ pn rfl s0 s1' s2' rfl s3' (by simp;omega) (by simp;omega))
      · rw [if_neg (fun h=>h6 h.1)];exact err 3 (aXw nm l true mf mh (dU l) false c (dO l) _ pn rfl s0 s1' s2' rfl s3' (by simp;omega))
  · rw [if_neg (fun h=>h0 h.2)];rw [Bool.not_eq_true]at h0;exact err 2 (aXt nm l true pn rfl (aZs l hu h0 _))
section
variable {P :Program}
def aZu (P:Program)(is:List Ins)(s:TS) :Option (AV×Nat×List Prop) :=
 match wU P is s.as with
 | some (s1,ps) =>match s1.cs,s1.fr.kind,s1.fr.mode,s1.fr.roundOf,s1.fr.defers with
  | [],.normal,.ret,none,[] =>match P.funcs[s1.fr.fn]? with
   | some fd=>match iW P s1.h s1.fr.tm fd.results.toList with
    |some [v] =>some (v,s1.fr.fn,ps)
    |_=>none
   |none=>none
  |_,_,_,_,_=>none
 |none=>none
theorem aHx {f : Nat} {args : List AV} {is : List Ins}{b:Bool}{ps:List Prop}{cargs:List Value}(hb:lM P f=true)(hk:keylessL args=true)(h0:aZu P is (start P f args) =some (.bool b,f,ps))(hps:AllP ps)(w:World)(hv:VRs (embOf w) args cargs) :
  Calls P f ⟨cargs⟩ w fun e w'=>e= .returned (.bool b) ∧GrownO w w':=by
 intro base;unfold lM at hb;split at hb
 · rename_i fn hf;split at hb
   · rename_i c hc;have hg:cU P f args .normal=some ⟨f,dT .leaf 0 args,max fn.ntmps args.length,[.code c],[],.run,.normal,none⟩ :=by simp [cU,hf,hc]
     have fr':FR (embOf w) _ (Frame.enter P f ⟨cargs⟩ .normal) :=fZ hg hv;have f1:FR (embOf w) (start P f args).as.fr (Frame.enter P f ⟨cargs⟩ .normal) :=by
      have e1: (start P f args).as.fr= ⟨f,mkT ((List.range args.length).zip args),max fn.ntmps args.length,[.code c],[],.run,.normal,none⟩ :=by simp [start,hf,hc,TS.as,TF.fr]
      rw [e1];refine⟨fr'.fn,⟨fr'.tm.1,fun t a e=>?_⟩,fr'.todo,fr'.defers,fr'.mode,fr'.kind,fr'.round⟩;have h1:=aCP (xU e);have hlt:= (List.getElem?_eq_some_iff.1 h1).1;have h2: (dT .leaf 0 args).at t=some a:=by
       unfold dT;rw [cA,if_pos hlt];exact h1
      exact fr'.tm.2 t a h2
     have e2 : (start P f args).as.cs = [] := by unfold start;split; · split<;>rfl
                                                 ·rfl
     have e3 : (start P f args).as.h = ⟨.leaf, 0⟩ := by unfold start;split; · split<;>rfl
                                                        ·rfl
     unfold aZu at h0;split at h0
     · rename_i s1 qs h1;split at h0
       · rename_i hcs hkd hmo hro hde;split at h0
         · rename_i fd hfd;split at h0
           · rename_i v hrs;simp only [Option.some.injEq,Prod.mk.injEq]at h0;obtain⟨rfl,hfn,rfl⟩ :=h0;have hl:LeadsM P 0 (start P f args).as s1:=iO h1 (fun p hpp=>hps.mem p hpp);obtain⟨E',g,ccs,w',s2,f2,fs2,r2,x⟩ :=hl (by rw [e3];exact Nat.le_refl _) (embOf w) _ [] w base f1 (by rw [e2];rfl) (by rw [e3];exact aNm w);rw [hcs]at fs2;have:=fs2.nil_inv;subst this;obtain⟨cv,g1,g2⟩ :=tL r2 f2.tm hrs;simp only [aAD,VR]at g2;subst g2;have fm:=f2.mode;rw [hmo]at fm;simp only [MR]at fm;have fdd:=f2.defers;rw [hde]at fdd;rw [e3]at x;have hno:∀ {b o},¬ (⟨.leaf,0⟩ :Hp).look b=some o:=fun {b o} e=>by simp [Hp.look,T.at_leaf]at e
             refine⟨.returned (.bool b),w',g,⟨rfl,⟨x.os,x.output,fun i hi=>?_⟩,x.froz,x.size⟩,s2,by rw [f2.fn,hfn],fm,fdd.nil_inv,by rw [f2.kind,hkd],fd,by rw [f2.fn];exact hfd,g1⟩;have:=x.keep i hi (fun b o L e=>absurd e hno);rw [this];cases w.heap[i]? with
             |none=>rfl
             |some ob=>cases ob<;>simp
           ·cases h0
         ·cases h0
       ·cases h0
     ·cases h0
   ·cases hb
 ·cases hb
theorem cW {f:Nat}{args:List AV}{b:Bool}{cargs:List Value}(L:List Pf)(is:List Ins)(w:World)(hv:VRs (embOf w) args cargs)(hb:lM P f=true:=by kernel_rfl)(hk:keylessL args=true:=by kernel_rfl)(h0:aZu P is (start P f args) =some (.bool b,f,L.map Pf.p) :=by kernel_rfl) :
    Calls P f ⟨cargs⟩ w fun e w'=>e= .returned (.bool b) ∧GrownO w w':=aHx hb hk h0 (aXY L) w hv
end
theorem aXA (name:aC)(l:List LUnit)(y0 y1:Bool)(h0:Pure PP 13 [(.ilst 5 (map LUnit.av l) false)] (bV y0))(h1: (!y0) =true)(h2:Pure PP 14 [] (bV y1)) :
  ∀ (w:World) (cargs:List Value),VRs (embOf w) [aB name,.ilst 5 (map LUnit.av l) false] cargs→Calls PP 5 ⟨cargs⟩ w fun e w'=>e= .returned (.bool y1) ∧GrownO w w':=
 fun w cargs hv=>cW [qp h0,qp h1,qp h2] [rn 8,pB y0,rn 2,bt 12,rn 8,pB y1,rn 3] w hv
theorem aXB (name:aC)(l:List LUnit)(y0 y1:Bool)(h0:Pure PP 13 [(.ilst 5 (map LUnit.av l) false)] (bV y0))(h1: (!y0) =false)(h2:decide ((name.length:Int) > (30:Int)) =true)(h3:Pure PP 14 [] (bV y1)) :
  ∀ (w:World) (cargs:List Value),VRs (embOf w) [aB name,.ilst 5 (map LUnit.av l) false] cargs→Calls PP 5 ⟨cargs⟩ w fun e w'=>e= .returned (.bool y1) ∧GrownO w w':=
 fun w cargs hv=>cW [qp h0,qp h1,qp h2,qp h3] [rn 8,pB y0,rn 2,bf 12,rn 5,bt 16,rn 3,pB y1,rn 3] w hv
theorem aXC (name:aC)(l:List LUnit)(y0:Bool)(y1:LUnit)(y2:Int)(y3:LUnit)(y4:Int)(y5 y6:Bool)(h0:Pure PP 13 [(.ilst 5 (map LUnit.av l) false)] (bV y0))(h1: (!y0) =false)(h2:decide ((name.length:Int) > (30:Int)) =false)(h3:Pure PP 27 [(aB name),(.ilst 5 (map LUnit.av l) false)] (.tup [(.agg [(aB y1.name),(iC y1.cons),(.ilst 2 (map LFun.av y1.funs) false),(iS y1.needs),(iN y1.nodes)]),(nI y2)]))(h4:Pure PP 28 [(aB name),(.ilst 5 (map LUnit.av l) false)] (.tup [(.agg [(aB y3.name),(iC y3.cons),(.ilst 2 (map LFun.av y3.funs) false),(iS y3.needs),(iN y3.nodes)]),(nI y4)]))(h5: (y2==y4) =true)(h6:Pure PP 29 [(.agg [(aB y1.name),(iC y1.cons),(.ilst 2 (map LFun.av y1.funs) false),(iS y1.needs),(iN y1.nodes)]),(.agg [(aB y3.name),(iC y3.cons),(.ilst 2 (map LFun.av y3.funs) false),(iS y3.needs),(iN y3.nodes)])] (bV y5))(h7:y5=true)(h8:Pure PP 14 [] (bV y6)) :
  ∀ (w:World) (cargs:List Value),VRs (embOf w) [aB name,.ilst 5 (map LUnit.av l) false] cargs→Calls PP 5 ⟨cargs⟩ w fun e w'=>e= .returned (.bool y6) ∧GrownO w w':=
 fun w cargs hv=>cW [qp h0,qp h1,qp h2,qp h3,qp h4,qp h5,qp h6,qp h7,qp h8] [rn 8,pB y0,rn 2,bf 12,rn 5,bf 16,rn 6,.pure (.tup [(.agg [(aB y1.name),(iC y1.cons),(.ilst 2 (map LFun.av y1.funs) false),(iS y1.needs),(iN y1.nodes)]),(nI y2)]),rn 11,.pure (.tup [(.agg [(aB y3.name),(iC y3.cons),(.ilst 2 (map LFun.av y3.funs) false),(iS y3.needs),(iN y3.nodes)]),(nI y4)]),rn 13,bt 33,rn 2,pB y5,rn 2,bt 38,pB y6,rn 4] w hv
theorem aO4 {x:Node}(h:aJP x) :aUx x:= ⟨by have:=h.1;omega,by have:=h.2;omega⟩
theorem vL :FitU sA:= ⟨⟨by simp [eV,sA],by simp [eV],by simp [eV,sA],fun x hx=>by cases hx⟩,by simp [sA],by simp [sA]⟩
theorem aO5 {nm:aC}{l:List LUnit}(hu:∀u∈l,FewU u) :FitU (sB nm l).1:=by
 unfold sB;split
 · rename_i h0;obtain⟨hl10,hg⟩ :=rG hu h0.2;split
   ·exact vL
   · rename_i c hc;split
     · split
       · rename_i h6;have hp:=aSD (ls:=dO l) (cs:=c) hl10 hg (by omega);have h1:=hp.len;have h2:=hp.funs;exact⟨⟨by simp [eV];omega,by simp [eV],by simp [eV];omega,fun x hx=>aO4 (hp.fit x hx)⟩,by dsimp only;omega,by dsimp only;omega⟩
       ·exact vL
     ·exact vL
 ·exact vL
theorem lPartly_calls (name:aC)(l:List LUnit)(hn:∀u∈l,NumU u)(hk:Pure PP 14 [] (.bool true)) :
  ∀ (w:World) (cargs:List Value),VRs (embOf w) [aB name,.ilst 5 (map LUnit.av l) false] cargs→Calls PP 5 ⟨cargs⟩ w fun e w'=>e= .returned (.bool true) ∧GrownO w w':=by
 have h0:=aOQ l;cases e:jM l with
 |false=>rw [e]at h0;exact aXA name l false true h0 rfl hk
 | true=>
  rw [e]at h0;obtain⟨h11,hs⟩ :=aJC e;have hf:∀u∈l,FewU u:=fun u h=>aLR (hs u h);by_cases hl:name.length≤30
  ·exact aXC name l true (sB name l).1 (sB name l).2 (sB name l).1 (sB name l).2 true true h0 rfl (by simp;omega) (aMf name l h11 (fun u h=> ⟨hf u h,hn u h⟩)) (aL0 name l h11 hf) (by simp) (aJS _ (aO5 hf)) rfl hk
  ·exact aXB name l true true h0 rfl (by simp;omega) hk
section
variable {H :Type} {enc:TypeId×Value→H} {w:World} {spare:Nat→Bool} {held:Bool}
theorem bAb {α:Type}{cs:List α}(h:cs.length=5) :∃a b c d e,cs= [a,b,c,d,e] :=by
 match cs,h with
 | [a,b,c,d,e],_=>exact⟨a,b,c,d,e,rfl⟩
section
theorem cells49 :Tryz.prog.cellsOf 49=5:=by kernel_rfl
theorem cells47 :Tryz.prog.cellsOf 47=1:=by kernel_rfl
theorem aM7 :Tryz.prog.cellsOf 71=2:=by kernel_rfl
theorem cells25 :Tryz.prog.cellsOf 25=1:=by kernel_rfl
abbrev aTk :={x:Node // -9223372036854775808≤x.n∧x.n≤9223372036854775807}
abbrev aYJ :={u:LUnit // NumU u}
theorem aMg (fuel:Nat)(cs:List Value)(x:DataW H×List MemPlace)(h:DataW.trod enc Tryz.prog w 0 spare held fuel 98 cs=some x) :∃p:aTk,Elt w 4 (Node.av p.1) cs:=by
 obtain⟨xs,m,rfl,rfl,hl,hlen,hf⟩ :=DataW.trod_struct Tryz.underlying98 h;rw [aMC]at hl;obtain⟨c0,c1,c2,c3,rfl⟩ :=four hl;have h0:DataW.trod enc Tryz.prog w 0 spare held m 95 (([c0,c1,c2,c3].drop 0).take (Tryz.prog.cellsOf 95)) =xs[0]?:=hf 0 _ rfl;have h1:DataW.trod enc Tryz.prog w 0 spare held m 3 (([c0,c1,c2,c3].drop 1).take (Tryz.prog.cellsOf 3)) =xs[1]?:=hf 1 _ rfl;have h2:DataW.trod enc Tryz.prog w 0 spare held m 29 (([c0,c1,c2,c3].drop 2).take (Tryz.prog.cellsOf 29)) =xs[2]?:=hf 2 _ rfl;have h3:DataW.trod enc Tryz.prog w 0 spare held m 96 (([c0,c1,c2,c3].drop 3).take (Tryz.prog.cellsOf 96)) =xs[3]?:=hf 3 _ rfl;simp only [aTO,cells3,cells29,aMB,drop,take]at h0 h1 h2 h3;obtain⟨x0,h0⟩ :=got h0 hlen (by decide);obtain⟨x1,h1⟩ :=got h1 hlen (by decide);obtain⟨x2,h2⟩ :=got h2 hlen (by decide);obtain⟨x3,h3⟩ :=got h3 hlen (by decide);obtain⟨f,e0⟩ :=oS Tryz.underlying95 h0;obtain⟨n,e1,hw⟩ :=DataW.trod_int Tryz.underlying3 h1;obtain⟨ks,c,e2,v2⟩ :=aNo h2;obtain⟨ps,c',e3,v3⟩ :=fV Pat.av Tryz.underlying96 aDc (by omega) h3 (fun fu _ cs x hx=>aPY fu cs x hx);cases e0;cases e1;cases e2;cases e3;have hr: -9223372036854775808≤n∧n≤9223372036854775807:=by
  have e1:IntKind.i64.min= -9223372036854775808:=by decide
  have e2:IntKind.i64.max=9223372036854775807:=by decide
  have hw:=hw.2;simp only [Lit.wf,Bool.and_eq_true,decide_eq_true_eq]at hw;omega
 refine⟨⟨⟨f,n,ks,ps⟩,hr⟩,?_⟩;simp only [Node.av,aI];refine aAb (VRs.cons (by simp only [VR]) (VRs.cons (by simp only [VR]) (VRs.cons v2 (VRs.cons v3 (VRs.nil _))))) ?_;rfl
theorem aO6 (fuel:Nat)(cs:List Value)(x:DataW H×List MemPlace)(h:DataW.trod enc Tryz.prog w 0 spare held fuel 71 cs=some x) :∃p:LFun,Elt w 2 (LFun.av p) cs:=by
 obtain⟨xs,m,rfl,rfl,hl,hlen,hf⟩ :=DataW.trod_struct Tryz.underlying71 h;rw [aM7]at hl;obtain⟨c0,c1,rfl⟩ :=two hl;have h0:DataW.trod enc Tryz.prog w 0 spare held m 9 (([c0,c1].drop 0).take (Tryz.prog.cellsOf 9)) =xs[0]?:=hf 0 _ rfl;have h1:DataW.trod enc Tryz.prog w 0 spare held m 3 (([c0,c1].drop 1).take (Tryz.prog.cellsOf 3)) =xs[1]?:=hf 1 _ rfl;simp only [cells9,cells3,drop,take]at h0 h1;obtain⟨x0,h0⟩ :=got h0 hlen (by decide);obtain⟨x1,h1⟩ :=got h1 hlen (by decide);obtain⟨s,c,e0,v0⟩ :=tX Tryz.underlying9 h0;obtain⟨n,e1⟩ :=oS Tryz.underlying3 h1;cases e0;cases e1;refine⟨⟨s,n⟩,?_⟩;simp only [LFun.av];refine aAb (VRs.cons v0 (VRs.cons (by simp only [VR]) (VRs.nil _))) ?_;rfl
theorem aO7 {fuel:Nat}{cs:List Value}{x:DataW H×List MemPlace}(h:DataW.trod enc Tryz.prog w 0 spare held fuel 25 cs=some x) :∃ (l:List aC) (c:Value),cs= [c] ∧VR (embOf w) (.ilst 1 (l.map aB) false) c:=
 fV aB Tryz.underlying25 cells9 (by omega) h (fun fu _ cs x hx=>by
  obtain⟨s,c,rfl,v⟩ :=tX Tryz.underlying9 hx;exact⟨s,aMA v rfl (aPW v rfl)⟩)
theorem aMh (fuel:Nat)(cs:List Value)(x:DataW H×List MemPlace)(h:DataW.trod enc Tryz.prog w 0 spare held fuel 49 cs=some x) :∃p:aYJ,Elt w 5 (LUnit.av p.1) cs:=by
 obtain⟨xs,m,rfl,rfl,hl,hlen,hf⟩ :=DataW.trod_struct Tryz.underlying49 h;rw [cells49]at hl;obtain⟨c0,c1,c2,c3,c4,rfl⟩ :=bAb hl;have h0:DataW.trod enc Tryz.prog w 0 spare held m 9 (([c0,c1,c2,c3,c4].drop 0).take (Tryz.prog.cellsOf 9)) =xs[0]?:=hf 0 _ rfl;have h1:DataW.trod enc Tryz.prog w 0 spare held m 41 (([c0,c1,c2,c3,c4].drop 1).take (Tryz.prog.cellsOf 41)) =xs[1]?:=hf 1 _ rfl;have h2:DataW.trod enc Tryz.prog w 0 spare held m 47 (([c0,c1,c2,c3,c4].drop 2).take (Tryz.prog.cellsOf 47)) =xs[2]?:=hf 2 _ rfl;have h3:DataW.trod enc Tryz.prog w 0 spare held m 25 (([c0,c1,c2,c3,c4].drop 3).take (Tryz.prog.cellsOf 25)) =xs[3]?:=hf 3 _ rfl;have h4:DataW.trod enc Tryz.prog w 0 spare held m 40 (([c0,c1,c2,c3,c4].drop 4).take (Tryz.prog.cellsOf 40)) =xs[4]?:=hf 4 _ rfl;simp only [cells9,cells41,cells47,cells25,cells40,drop,take]at h0 h1 h2 h3 h4;obtain⟨x0,h0⟩ :=got h0 hlen (by decide);obtain⟨x1,h1⟩ :=got h1 hlen (by decide);obtain⟨x2,h2⟩ :=got h2 hlen (by decide);obtain⟨x3,h3⟩ :=got h3 hlen (by decide);obtain⟨x4,h4⟩ :=got h4 hlen (by decide);obtain⟨s,c,e0,v0⟩ :=tX Tryz.underlying9 h0;obtain⟨ks,ck,e1,v1⟩ :=fV Con.av Tryz.underlying41 aIe (by omega) h1 (fun fu _ cs x hx=>aPZ fu cs x hx);obtain⟨fs,cf,e2,v2⟩ :=fV LFun.av Tryz.underlying47 aM7 (by omega) h2 (fun fu _ cs x hx=>aO6 fu cs x hx);obtain⟨nd,cn,e3,v3⟩ :=aO7 h3;obtain⟨ns,cx,e4,v4⟩ :=fV (fun p:aTk=>Node.av p.1) Tryz.underlying40 aMC (by omega) h4 (fun fu _ cs x hx=>aMg fu cs x hx);cases e0;cases e1;cases e2;cases e3;cases e4;refine⟨⟨⟨s,ks,fs,nd,ns.map Subtype.val⟩,fun x hx=>?_⟩,?_⟩
 · obtain⟨p,_,rfl⟩ :=List.mem_map.1 hx;exact p.2
 · simp only [LUnit.av];rw [show ns.map (fun p:aTk=>Node.av p.1) =map Node.av (ns.map Subtype.val)by rw [map_map];rfl]at v4;refine aAb (VRs.cons v0 (VRs.cons v1 (VRs.cons v2 (VRs.cons v3 (VRs.cons v4 (VRs.nil _)))))) ?_;rfl
theorem lift_units (fuel:Nat)(cs:List Value)(x:DataW H×List MemPlace)(h:DataW.trod enc Tryz.prog w 0 spare held fuel 22 cs=some x) :∃ (l:List LUnit) (c:Value),(∀u∈l,NumU u) ∧cs= [c] ∧VR (embOf w) (.ilst 5 (map LUnit.av l) false) c:=by
 obtain⟨ys,c,e,v⟩ :=fV (fun p:aYJ=>LUnit.av p.1) Tryz.underlying22 cells49 (by omega) h (fun fu _ cs x hx=>aMh fu cs x hx);refine⟨ys.map Subtype.val,c,fun u hu=>?_,e,?_⟩
 · obtain⟨p,_,rfl⟩ :=List.mem_map.1 hu;exact p.2
 ·rw [map_map];exact v
end
end
theorem vr_bytes {E:Emb}(s:ByteArray) :VR E (aB s.data.toList) (.string s) :=by
 have:=dN s.data.toList;simp only [aB,VR,fC,this]
end
end Go.Hb
