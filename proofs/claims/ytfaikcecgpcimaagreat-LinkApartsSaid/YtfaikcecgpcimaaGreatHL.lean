/- A machine on abstract values, its soundness, ways, plain laws. -/
import Derived.Test.YtfaikcecgpcimaaGreatHF
import Derived.Test.YtfaikcecgpcimaaGreatHG
import Derived.Test.YtfaikcecgpcimaaGreatHH
import Derived.Test.YtfaikcecgpcimaaGreatHI
import Derived.Test.YtfaikcecgpcimaaGreatHJ
import Derived.Test.YtfaikcecgpcimaaGreatHK
set_option linter.defProp false
set_option linter.unusedVariables false
set_option linter.unusedSimpArgs false
set_option linter.unusedSectionVars false
set_option maxRecDepth 100000
set_option maxHeartbeats 4000000
namespace Go.Hb
open Bool (and_eq_true)
open Int (le_refl toNat)
open List (append_nil count_append flatten_cons getElem?_cons_succ getElem?_cons_zero getElem?_eq_getElem getElem?_eq_none getElem?_map length length_cons length_map length_set map map_cons map_map mem_cons_of_mem mem_cons_self mem_of_getElem? range replicate set)
open Go.Proofs Tryz
noncomputable section
theorem aBb {s x:Str}{l:List Str}:bO (x::l) s= (decide (x=s) ||bO l s) :=rfl
def aRe (out:List Con)(c:Con) :Option (List Con) :=match out.find? (fun d=>decide (d.name=c.name))with
 |none=>some (out++ [c])
 |some d=>if d.args=c.args then some out else none
def aMz :List Con→List Con→Option (List Con)
 |out,[] =>some out
 | out,c::t=>match aRe out c with
  |some o=>aMz o t
  |none=>none
def aMA :List Con→List LUnit→Option (List Con)
 |out,[] =>some out
 | out,u::t=>match aMz out u.cons with
  |some o=>aMA o t
  |none=>none
def aV5 (l:List LUnit) :Option (List Con) :=aMA [] l
def aV6(a b:Int)(c:Str)(d:List Pat)(e:List Int):TS:=dO PP 208 [(.agg [(nI a),(nI b),(avS c),(iP d)]),(iI e)] [] 0
def aDA(a c:Int)(d:Str)(e:List Pat)(f:List Int)(g i:Int)(b:List Pat):TS:=⟨(tf 208 41 [(1,(iI f)),kp 2 0,kp 4 1,kp 5 2,(6,(nI i))] [kc f208 244,kl f208 244,.inBlock 0,kc f208 31]),[],[oC 0 [(nI a),(nI c),(avS d),(iP e)],oC 1 [(nI 0),(nI 0),(.str 0 0),.nils],oC 2 [(nI a),(nI g),(.str 0 0),(.gl 3 4 0 b.length false)],oL 3 4 (Pats.av b)],4⟩
def aRf(a c:Int)(d:Str)(e:List Pat)(f:List Int)(g i:Int)(b:List Pat):TS:=⟨(tf 208 41 [(1,(iI f)),kp 2 0,kp 4 1,kp 5 2,(6,(nI i))] [kc f208 1956,.inBlock 1,kc f208 979,kl f208 244,.inBlock 0,kc f208 31]),[],[oC 0 [(nI a),(nI c),(avS d),(iP e)],oC 1 [(nI 0),(nI 0),(.str 0 0),.nils],oC 2 [(nI a),(nI g),(.str 0 0),(.gl 3 4 0 b.length false)],oL 3 4 (Pats.av b)],4⟩
def aE7(b:List ONode)(a:LUnit)(c:Int)(d e:List Int):TS:=dO PP 147 [(.gl 0 4 0 b.length false),(.agg [(avS a.name),(iC a.cons),(.ilst 2 (map LFun.av a.funs) false),(iS a.needs),(iN a.nodes)]),(nI c),(iI d),(iI e)] [oL 0 4 (map ONode.av b)] 1
def rT(b:List ONode)(a:LUnit)(n:Int)(d e:List Int)(f g:Int)(i:List Int)(j:List Pat)(k l m:Int)(c:List Pat):TS:=⟨(tf 147 107 [(0,(.gl 0 4 0 b.length false)),(3,(iI d)),(4,(iI e)),kp 6 1,(10,.nils),kp 11 2,kp 12 3,(13,(nI m))] [kc f147 1012,kl f147 1012,.inBlock 0,kc f147 127]),[],[oL 0 4 (map ONode.av b),oC 1 [(avS a.name),(iC a.cons),(.ilst 2 (map LFun.av a.funs) false),(iS a.needs),(iN a.nodes)],oC 2 [(nI f),(nI g),(iI i),(iP j)],oC 3 [(nI k),(nI l),.nils,(.gl 4 4 0 c.length false)],oL 4 4 (Pats.av c)],5⟩
def aGX(c:List ONode)(a:LUnit)(k:Int)(d e:List Int)(b:List ONode)(f g:Int)(i:List Int)(j:List Pat):TS:=⟨(tf 147 107 [(0,(.gl 0 4 0 b.length false)),(3,(iI d)),(4,(iI e)),kp 6 1,(10,.nils),kp 11 2,(14,(nI (c.length:Int))),(15,(nI 0))] [kc f147 8180,kl f147 8180,.inBlock 2,kc f147 1023]),[],[oL 0 4 (map ONode.av b),oC 1 [(avS a.name),(iC a.cons),(.ilst 2 (map LFun.av a.funs) false),(iS a.needs),(iN a.nodes)],oC 2 [(nI f),(nI g),(iI i),(iP j)]],3⟩
def uS(b:List ONode)(a:LUnit)(m:Int)(e f:List Int)(c:List ONode)(g i:Int)(j:List Int)(k:List Pat)(d:List Int)(l:Int):TS:=⟨(tf 147 107 [(0,(.gl 0 4 0 c.length false)),(3,(iI e)),(4,(iI f)),kp 6 1,(10,.nils),kp 11 2,(14,(nI (b.length:Int))),(15,(nI l)),(93,(.gl 3 1 0 d.length false)),(95,(.ep 0 4 (0+ (b.length:Int).toNat) 2))] [ko f147 130888 13,kc f147 130889,.inBlock 3,kc f147 32723,kl f147 8180,.inBlock 2,kc f147 1023]),[],[oL 0 4 (map ONode.av c),oC 1 [(avS a.name),(iC a.cons),(.ilst 2 (map LFun.av a.funs) false),(iS a.needs),(iN a.nodes)],oC 2 [(nI g),(nI i),(iI j),(iP k)],oL 3 1 (jI d)],4⟩
def aGY(b:List ONode)(a:LUnit)(p:Int)(g i:List Int)(c:List ONode)(j k:Int)(l:List Int)(m:List Pat)(n:List Int)(o:Int)(d:Option Addr)(e f:Nat):TS:=⟨(tf 147 107 [(0,(.gl 0 4 0 c.length false)),(3,(iI g)),(4,(iI i)),kp 6 1,(10,.nils),kp 11 2,(14,(nI (b.length:Int))),(15,(nI o)),(93,(.val (Value.slice d e f))),(95,(.ep 0 4 (0+ (b.length:Int).toNat) 2))] [ko f147 130888 13,kc f147 130889,.inBlock 3,kc f147 32723,kl f147 8180,.inBlock 2,kc f147 1023]),[],[oL 0 4 (map ONode.av c),oC 1 [(avS a.name),(iC a.cons),(.ilst 2 (map LFun.av a.funs) false),(iS a.needs),(iN a.nodes)],oC 2 [(nI j),(nI k),(iI l),(iP m)],(3,(.lstv (Value.slice d e f) 1 (jI n)),true)],4⟩
def aGZ(c:List ONode)(a:LUnit)(n:Int)(d e:List Int)(b:List ONode)(f g:Int)(i:List Int)(j:List Pat)(k:List Int)(l:Value)(m:Int):TS:=⟨(tf 147 107 [(0,(.gl 0 4 0 b.length false)),(3,(iI d)),(4,(iI e)),kp 6 1,(10,.nils),kp 11 2,(14,(nI (c.length:Int))),(15,(nI m))] [kc f147 8180,kl f147 8180,.inBlock 2,kc f147 1023]),[],[oL 0 4 (map ONode.av b),oC 1 [(avS a.name),(iC a.cons),(.ilst 2 (map LFun.av a.funs) false),(iS a.needs),(iN a.nodes)],oC 2 [(nI f),(nI g),(iI i),(iP j)],(3,(.lstv l 1 (jI k)),true)],4⟩
def aRg(b a:Int)(d:Str)(e:List Pat)(c:List Int):=tT 0 (aV6 b a d e c)<|.b 22 14 (b==6) (gX bC 5 c a<|fun f=>.i [rn 11,.cnil 2 3 4] []<|gu 0 3 (Pats.av ([] :List Pat))<|gv 0 2 3 (.gl 3 4 0 ([] :List Pat).length false)<|.W 0 4 [0,1,2,3] (aDA b a d e c f 0 ([] :List Pat)))<|.i [rn 9,.cnil 2 3 4] []<|gu 0 3 (Pats.av ([] :List Pat))<|gv 0 2 3 (.gl 3 4 0 ([] :List Pat).length false)<|.W 0 4 [0,1,2,3] (aDA b a d e c a 0 ([] :List Pat))
def aT0:=fun a b c d e f g i j=>aRg a b c d e|>.t g f i j ⟨dJ,trivial⟩
def aT1:=fun a b c d e f=>aRg a b c d e|>.f f ⟨dJ,trivial⟩
def aRh(c f:Int)(g:Str)(a:List Pat)(i:List Int)(d e:Int)(b:List Pat):=tT 0 (aDA c f g a i d e b)<|gm 6 aD a<|gd 2 25 (e< (a.length:Int)) (.W 4 4 [0,1,2,3] (aRf c f g a i d e b))<|gY 8 1 3 3 4 aD dJ b false<|gE 0 4 (.agg [(nI c),(nI d),(.str 0 0),(iP b)])
def aT2:=fun a b c d e f g i j=>aRh a b c d e f g i|>.t j ⟨dJ,trivial⟩
def aT3:=fun a b c d e f g i j=>aRh a b c d e f g i|>.f j tv
def aT4 (n o:Int)(p:Str)(l:List Pat)(m:List Int)(q f:Int)(a:List Pat):=fun g i j k b c d e r s t u v=>(tT 0 (aRf n o p l m q f a)<|.y fun g:Int=>.y fun i:Int=>.y fun j:Str=>.y fun k:List Pat=>.y fun b:Int=>.y fun c:Int=>.y fun d:Str=>.y fun e:List Pat=>.i [.reg (rd 5 [.ans (.idx (Pat.av (Pat.mk g i j k))),.d,.d,.pure (.agg [(nI b),(nI c),(avS d),(iP e)]),.d,.app (Pats.av (a++ [(Pat.mk b c d e)])) (a++ [(Pat.mk b c d e)]).length,.d,.d])] [hA (0≤f),.a (((l)[f.toNat]?) =some (Pat.mk g i j k)) (gZ aD),hA (Pure PP 208 [(.agg [(nI g),(nI i),(avS j),(iP k)]),(iI m)] (.agg [(nI b),(nI c),(avS d),(iP e)])),hB aD a,hA (length (a++ [(Pat.mk b c d e)]) ≤1000000),hC aD a [(Pat.mk b c d e)],hE aD a [(Pat.mk b c d e)],hr (AV.gl 3 4 0 a.length false),hr (AV.gl 3 4 0 a.length false)]<|gw 4 27 (f+1)<|.W 3 6 [0,1,2,5] (aDA n o p l m q (f+1) (a++ [(Pat.mk b c d e)]))) g i j k b c d e r s t u v ⟨dJ,trivial⟩
def aG0(f:List ONode)(c:LUnit)(d:Int)(e b:List Int):=tT 0 (aE7 f c d e b)<|gX Node.av 10 c.nodes d<|fun a=>.b 21 29 (a.op==4) (gd 5 33 (a.n<0) (gw 6 37 ((-1:Int) -a.n)<|gX bC 0 e ((-1:Int) -a.n)<|fun g=>gw 2 40 ((-1:Int) -g)<|.b 10 44 (a.op==14) (gX bC 5 b a.n<|fun i=>.i [rn 11,.cnil 3 3 4] []<|gu 0 4 (Pats.av ([] :List Pat))<|gv 0 3 3 (.gl 4 4 0 ([] :List Pat).length false)<|.W 0 5 [0,1,2,3,4] (rT f c d e b a.op a.n a.kids a.pats a.op i 0 ([] :List Pat)))<|.i [rn 9,.cnil 3 3 4] []<|gu 0 4 (Pats.av ([] :List Pat))<|gv 0 3 3 (.gl 4 4 0 ([] :List Pat).length false)<|.W 0 5 [0,1,2,3,4] (rT f c d e b a.op a.n a.kids a.pats a.op ((-1:Int) -g) 0 ([] :List Pat)))<|.b 9 44 (a.op==14) (gX bC 5 b a.n<|fun g=>.i [rn 11,.cnil 3 3 4] []<|gu 0 4 (Pats.av ([] :List Pat))<|gv 0 3 3 (.gl 4 4 0 ([] :List Pat).length false)<|.W 0 5 [0,1,2,3,4] (rT f c d e b a.op a.n a.kids a.pats a.op g 0 ([] :List Pat)))<|.i [rn 9,.cnil 3 3 4] []<|gu 0 4 (Pats.av ([] :List Pat))<|gv 0 3 3 (.gl 4 4 0 ([] :List Pat).length false)<|.W 0 5 [0,1,2,3,4] (rT f c d e b a.op a.n a.kids a.pats a.op a.n 0 ([] :List Pat)))<|.b 14 44 (a.op==14) (gX bC 5 b a.n<|fun g=>.i [rn 11,.cnil 3 3 4] []<|gu 0 4 (Pats.av ([] :List Pat))<|gv 0 3 3 (.gl 4 4 0 ([] :List Pat).length false)<|.W 0 5 [0,1,2,3,4] (rT f c d e b a.op a.n a.kids a.pats a.op g 0 ([] :List Pat)))<|.i [rn 9,.cnil 3 3 4] []<|gu 0 4 (Pats.av ([] :List Pat))<|gv 0 3 3 (.gl 4 4 0 ([] :List Pat).length false)<|.W 0 5 [0,1,2,3,4] (rT f c d e b a.op a.n a.kids a.pats a.op a.n 0 ([] :List Pat))
def aT5:=fun a b c d e f g i j k l m n o p q=>aG0 a b c d e f i j|>.t k|>.t l m g n o p|>.f q ⟨(aC _ (fun _=>aM _) _),⟨dJ,trivial⟩⟩
def aT6:=fun a b c d e f g i j k l=>aG0 a b c d e f g i|>.t j|>.f k|>.f l ⟨(aC _ (fun _=>aM _) _),⟨dJ,trivial⟩⟩
def aT7:=fun a b c d e f g i j k l m n=>aG0 a b c d e f i j|>.f k|>.t l g m n ⟨(aC _ (fun _=>aM _) _),⟨dJ,trivial⟩⟩
def aT8:=fun a b c d e f g i j k=>aG0 a b c d e f g i|>.f j|>.f k ⟨(aC _ (fun _=>aM _) _),⟨dJ,trivial⟩⟩
def aRi(i:List ONode)(m:LUnit)(n:Int)(o j:List Int)(p q:Int)(r:List Int)(f:List Pat)(k l g:Int)(a:List Pat):=tT 0 (rT i m n o j p q r f k l g a)<|gm 6 aD f<|gd 2 55 (g< (f.length:Int)) (.y fun s:Int=>.y fun t:Int=>.y fun u:Str=>.y fun v:List Pat=>.y fun b:Int=>.y fun c:Int=>.y fun d:Str=>.y fun e:List Pat=>.i [rn 4,.reg (rd 5 [.ans (.idx (Pat.av (Pat.mk s t u v))),.d,.d,.pure (.agg [(nI b),(nI c),(avS d),(iP e)]),.d,.app (Pats.av (a++ [(Pat.mk b c d e)])) (a++ [(Pat.mk b c d e)]).length,.d,.d])] [hA (0≤g),.a (((f)[g.toNat]?) =some (Pat.mk s t u v)) (gZ aD),hA (Pure PP 208 [(.agg [(nI s),(nI t),(avS u),(iP v)]),(iI j)] (.agg [(nI b),(nI c),(avS d),(iP e)])),hB aD a,hA (length (a++ [(Pat.mk b c d e)]) ≤1000000),hC aD a [(Pat.mk b c d e)],hE aD a [(Pat.mk b c d e)],hr (AV.gl 4 4 0 a.length false),hr (AV.gl 4 4 0 a.length false)]<|gw 4 57 (g+1)<|.W 3 7 [0,1,2,3,6] (rT i m n o j p q r f k l (g+1) (a++ [(Pat.mk b c d e)])))<|gY 9 3 3 4 4 aD dJ a false<|ga 4 ONode.av i [(ONode.mk k l KV.nil a)]<|.W 9 7 [6,1,2] (aGX i m n o j (i++ [(ONode.mk k l KV.nil a)]) p q r f)
def aT9:=fun a b c d e f g i j k l m n o p q r s t u v w x y z A B=>aRi a b c d e f g i j k l m n|>.t w o p q r s t u v x y z A B ⟨(aC _ (fun _=>aM _) _),⟨dJ,trivial⟩⟩
def aUa:=fun a b c d e f g i j k l m n o p=>aRi a b c d e f g i j k l m n|>.f o p ⟨(aC _ (fun _=>aM _) _),trivial⟩
def aRj(c:List ONode)(e:LUnit)(f:Int)(g i:List Int)(b:List ONode)(j k:Int)(d:List Int)(l:List Pat):=tT 0 (aGX c e f g i b j k d l)<|gl 6 bC d<|gd 2 80 (0< (d.length:Int)) (.i [rn 10,.ans (.ix)] [hA (0≤ (c.length:Int)),hA ((c.length:Int) < (b.length:Int))]<|.y fun a:ONode=>gj ONode.av 1 b ((c.length:Int).toNat) a<|.i [.set 89 .nils] [.a (a.kv=KV.nil) (congrArg KV.av)]<|.i [rn 3,.nilL 89 1] []<|gu 0 4 (jI ([] :List Int))<|gs 0 89 (.gl 4 1 0 ([] :List Int).length false)<|ga 0 bC ([] :List Int) [(b.length:Int)]<|.i [.ans (.ix)] [hA (0≤ (c.length:Int)),hA ((c.length:Int) < (b.length:Int))]<|.W 1 6 [0,1,2,5] (uS c e f g i b j k d l (([] :List Int) ++ [(b.length:Int)]) 0))<|.y fun a:ONode=>.i [rn 8,.lw 0 (map ONode.av (set b c.length (ONode.mk a.op a.n (KV.row []) a.pats)))] [.a (b[c.length]?=some a) (p':=(map ONode.av b) ≠ []) aGh,.a (b[c.length]?=some a∧a.kv=KV.nil) (p':=VW (map ONode.av b) (map ONode.av (set b c.length (ONode.mk a.op a.n (KV.row []) a.pats)))) fun⟨ha,hb⟩=>(aPM ha hb)]<|.i [.set 0 (.gl 0 4 0 (set b c.length (ONode.mk a.op a.n (KV.row []) a.pats)).length false)] [.q (p:=(AV.gl 0 4 0 b.length false) = (.gl 0 4 0 (set b c.length (ONode.mk a.op a.n (KV.row []) a.pats)).length false)) (bT (length_set ..).symm)]<|.i [.set 10 (.gl 0 4 0 (set b c.length (ONode.mk a.op a.n (KV.row []) a.pats)).length false)] [.q (p:=(AV.gl 0 4 0 b.length false) = (.gl 0 4 0 (set b c.length (ONode.mk a.op a.n (KV.row []) a.pats)).length false)) (bT (length_set ..).symm)]<|.i [.set 106 (.gl 0 4 0 (set b c.length (ONode.mk a.op a.n (KV.row []) a.pats)).length false)] [.q (p:=(AV.gl 0 4 0 b.length false) = (.gl 0 4 0 (set b c.length (ONode.mk a.op a.n (KV.row []) a.pats)).length false)) (bT (length_set ..).symm)]<|.E 0 3 [0] (.gl 0 4 0 (set b c.length (ONode.mk a.op a.n (KV.row []) a.pats)).length false) [oL 0 4 (map ONode.av (set b c.length (ONode.mk a.op a.n (KV.row []) a.pats)))] 1
def aUb:=fun c d e f g i j k l m n o a b p q r=>aRj c d e f g i j k l m|>.t o a b n p q r a b ⟨(aC _ (fun _=>aM _) _),⟨kk,trivial⟩⟩
def aUc:=fun b c d e f g i j k l m n a o=>aRj b c d e f g i j k l|>.f n m a ⟨a,o⟩ ⟨(aC _ (fun _=>aM _) _),trivial⟩
def aUd (f:List ONode)(b:LUnit)(s:Int)(q r:List Int)(g:List ONode)(k l:Int)(j:List Int)(m:List Pat)(n:List Int)(o:Int)(c:Option Addr)(d e:Nat):=fun a p i t u v w x=>(tT 0 (aGY f b s q r g k l j m n o c d e)<|.y fun a:ONode=>.i [.st (ONode.av a) (ONode.av (ONode.mk a.op a.n (KV.val (Value.slice c d e)) a.pats))] [.a (((g)[(f.length:Int).toNat]?) =some a) (fS (f:=ONode.av)),hr (some (ONode.av (ONode.mk a.op a.n (KV.val (Value.slice c d e)) a.pats)))]<|.i [.lset 0 (map ONode.av (set g ((f.length:Int).toNat) (ONode.mk a.op a.n (KV.val (Value.slice c d e)) a.pats)))] [.q (p:=(map ONode.av g).set (0+ (f.length:Int).toNat) (ONode.av (ONode.mk a.op a.n (KV.val (Value.slice c d e)) a.pats)) = (map ONode.av (set g ((f.length:Int).toNat) (ONode.mk a.op a.n (KV.val (Value.slice c d e)) a.pats)))) (kY _ _ _ _)]<|.i [.set 0 (.gl 0 4 0 (set g ((f.length:Int).toNat) (ONode.mk a.op a.n (KV.val (Value.slice c d e)) a.pats)).length false)] [.q (p:=(AV.gl 0 4 0 g.length false) = (.gl 0 4 0 (set g ((f.length:Int).toNat) (ONode.mk a.op a.n (KV.val (Value.slice c d e)) a.pats)).length false)) (bT (length_set ..).symm)]<|.y fun p:Int=>.y fun i:List Node=>.i [rn 1,.reg (rd 5 (.ans (.idx (bC p))::rd 3 [.call (.gl 4 4 0 ((set g ((f.length:Int).toNat) (ONode.mk a.op a.n (KV.val (Value.slice c d e)) a.pats)) ++map Node.o i).length false) (aE [oC 1 [(avS b.name),(iC b.cons),(.ilst 2 (map LFun.av b.funs) false),(iS b.needs),(iN b.nodes)],oC 2 [(nI k),(nI l),(iI j),(iP m)],(3,(.lstv (Value.slice c d e) 1 (jI n)),true),oL 4 4 (map ONode.av ((set g ((f.length:Int).toNat) (ONode.mk a.op a.n (KV.val (Value.slice c d e)) a.pats)) ++map Node.o i))] 5),.d]))] [hA (0≤o),.a (((j)[o.toNat]?) =some p) (aK (f:=bC)),hA (Spec PP (.enter 147 [(.gl 0 4 0 (set g ((f.length:Int).toNat) (ONode.mk a.op a.n (KV.val (Value.slice c d e)) a.pats)).length false),(.agg [(avS b.name),(iC b.cons),(.ilst 2 (map LFun.av b.funs) false),(iS b.needs),(iN b.nodes)]),(nI p),(iI q),(iI r)]) (aE [oL 0 4 (map ONode.av (set g ((f.length:Int).toNat) (ONode.mk a.op a.n (KV.val (Value.slice c d e)) a.pats))),oC 1 [(avS b.name),(iC b.cons),(.ilst 2 (map LFun.av b.funs) false),(iS b.needs),(iN b.nodes)],oC 2 [(nI k),(nI l),(iI j),(iP m)],(3,(.lstv (Value.slice c d e) 1 (jI n)),true)] 4) (.ret (.gl 4 4 0 ((set g ((f.length:Int).toNat) (ONode.mk a.op a.n (KV.val (Value.slice c d e)) a.pats)) ++map Node.o i).length false)) (aE [oC 1 [(avS b.name),(iC b.cons),(.ilst 2 (map LFun.av b.funs) false),(iS b.needs),(iN b.nodes)],oC 2 [(nI k),(nI l),(iI j),(iP m)],(3,(.lstv (Value.slice c d e) 1 (jI n)),true),oL 4 4 (map ONode.av ((set g ((f.length:Int).toNat) (ONode.mk a.op a.n (KV.val (Value.slice c d e)) a.pats)) ++map Node.o i))] 5))]<|gw 4 82 (o+1)<|.W 3 5 [4,1,2,3] (aGZ f b s q r ((set g ((f.length:Int).toNat) (ONode.mk a.op a.n (KV.val (Value.slice c d e)) a.pats)) ++map Node.o i) k l j m n (Value.slice c d e) (o+1))) a t p i u v w x ⟨(aC _ (fun _=>aM _) _),⟨kk,trivial⟩⟩
def aRk(c:List ONode)(i:LUnit)(j:Int)(k l:List Int)(b:List ONode)(m n:Int)(f:List Int)(o:List Pat)(d:List Int)(e:Value)(g:Int):=tT 0 (aGZ c i j k l b m n f o d e g)<|gl 6 bC f<|gd 2 80 (g< (f.length:Int)) (.i [rn 10,.ans (.ix)] [hA (0≤ (c.length:Int)),hA ((c.length:Int) < (b.length:Int))]<|.y fun a:ONode=>gj ONode.av 1 b ((c.length:Int).toNat) a<|.i [.set 89 (.val e)] [.a (a.kv=KV.val e) (congrArg KV.av)]<|.i [.unname 89 3] [hr e]<|.i [.set 89 (.gl 3 1 0 d.length false)] [.q (p:=(AV.gl 3 1 0 (jI d).length false) = (.gl 3 1 0 d.length false)) (bT (length_map ..))]<|ga 3 bC d [(b.length:Int)]<|.i [.ans (.ix)] [hA (0≤ (c.length:Int)),hA ((c.length:Int) < (b.length:Int))]<|.W 1 6 [0,1,2,5] (uS c i j k l b m n f o (d++ [(b.length:Int)]) g))<|.y fun a:ONode=>.i [rn 8,.vfrz 3 0 (map ONode.av (set b c.length (ONode.mk a.op a.n (KV.row d) a.pats)))] [.a (b[c.length]?=some a) (p':=(map ONode.av b) ≠ []) aGh,hk bC d,.a (b[c.length]?=some a∧a.kv=KV.val e) (p':=VQ e 1 (jI d) (map ONode.av b) (map ONode.av (set b c.length (ONode.mk a.op a.n (KV.row d) a.pats)))) fun⟨ha,hb⟩=>(aPN ha hb)]<|.i [.set 0 (.gl 0 4 0 (set b c.length (ONode.mk a.op a.n (KV.row d) a.pats)).length false)] [.q (p:=(AV.gl 0 4 0 b.length false) = (.gl 0 4 0 (set b c.length (ONode.mk a.op a.n (KV.row d) a.pats)).length false)) (bT (length_set ..).symm)]<|.i [.set 10 (.gl 0 4 0 (set b c.length (ONode.mk a.op a.n (KV.row d) a.pats)).length false)] [.q (p:=(AV.gl 0 4 0 b.length false) = (.gl 0 4 0 (set b c.length (ONode.mk a.op a.n (KV.row d) a.pats)).length false)) (bT (length_set ..).symm)]<|.i [.set 106 (.gl 0 4 0 (set b c.length (ONode.mk a.op a.n (KV.row d) a.pats)).length false)] [.q (p:=(AV.gl 0 4 0 b.length false) = (.gl 0 4 0 (set b c.length (ONode.mk a.op a.n (KV.row d) a.pats)).length false)) (bT (length_set ..).symm)]<|.E 0 4 [0] (.gl 0 4 0 (set b c.length (ONode.mk a.op a.n (KV.row d) a.pats)).length false) [oL 0 4 (map ONode.av (set b c.length (ONode.mk a.op a.n (KV.row d) a.pats)))] 1
def aUe:=fun c d e f g i j k l m n o p q r a b s t u=>aRk c d e f g i j k l m n o p|>.t r a b q s t u a b ⟨(aC _ (fun _=>aM _) _),⟨kk,trivial⟩⟩
def aUf:=fun b c d e f g i j k l m n o p q a r=>aRk b c d e f g i j k l m n o|>.f q p a ⟨a,r⟩ ⟨(aC _ (fun _=>aM _) _),trivial⟩
mutual
def aLK :Pat→Bool
 | .mk _ _ s ps=>decide (s= []) &&lO ps
def lO :List Pat→Bool
 | [] =>true
 |p::ps=>aLK p&&lO ps
end
mutual
theorem aUg {cons:List Con}:∀ (p:Pat),cN cons p=true→aLK p=true
 | .mk f n s ps,h=>by
  rw [cN,and_eq_true]at h;have h1:=h.1;rw [cQ,and_eq_true]at h1;rw [aLK,h1.2,aAm ps h.2];rfl
theorem aAm {cons:List Con}:∀ (ps:List Pat),bH cons ps=true→lO ps=true
 | [],_=>rfl
 | p::ps,h=>by
  rw [bH,and_eq_true]at h;rw [lO,aUg p h.1,aAm ps h.2];rfl
end
abbrev RMp (to:List Int)(p:Pat) :Prop:=∀p',aLK p=true→aGG to p=some p'→Pure PP 208 [Pat.av p,.ilst 1 (map bC to) false] (Pat.av p')
theorem aJn (f n:Int)(s:Str)(ps:List Pat)(to:List Int)(n':Int)(hl:ps.length<1000000)(ih:∀p∈ps,RMp to p) :
  ∀ (t:List Pat) (i:Nat) (acc t':List Pat),ps.drop i=t→acc.length=i→lO t=true→jU to t=some t'→Ends PP 0 (aDA f n s ps to n' (i:Int) acc).as (.ret (Pat.av (.mk f n' [] (acc++t')))) (aE [] 0)
 | [],i,acc,t',h,ha,hn,ht=>by
  have:=bK h;cases ht;rw [append_nil];exact aT3 f n s ps to n' i acc sd
 | .mk f1 n1 s1 ps1::t,i,acc,t',h,ha,hn,ht=>by
  obtain⟨g1,g2,g3⟩ :=bJ h;have hi:= (List.getElem?_eq_some_iff.1 g1).1;rw [lO,and_eq_true]at hn;simp only [jU]at ht;split at ht
  · rename_i p' hp';split at ht
    · rename_i t1 ht1;cases ht;obtain⟨f2,n2,s2,ps2⟩ :=p';refine((aT2 f n s ps to n' i acc sd).trans (aT4 f n s ps to n' i acc f1 n1 s1 ps1 f2 n2 s2 ps2 sd sd (ih (.mk f1 n1 s1 ps1) (mem_of_getElem? g1) _ hn.1 hp') (by simp;omega) sd)).ends ?_;have:=aJn f n s ps to n' hl ih t (i+1) (acc++ [.mk f2 n2 s2 ps2]) t1 g2 (by simp [ha]) hn.2 ht1;rw [List.append_assoc]at this;exact this
    ·cases ht
  ·cases ht
mutual
theorem aRl (to:List Int) :∀ (p:Pat),cF p<1000000→RMp to p
 | .mk f n s ps,h,p',hn,hp'=>by
  simp only [cF]at h;have:=eP ps;refine fW (s:=aV6 f n s ps to) (by kernel_rfl) (by kernel_rfl) (by simp [AV.keylessL,mV,AV.keyless]) (mV _) ?_;rw [aLK,and_eq_true,decide_eq_true_eq]at hn;simp only [aGG]at hp';split at hp'
  · rename_i n' hn';split at hp'
    · rename_i ps' hps';cases hp';have hloop:=aJn f n s ps to n' (by omega) (aG1 to ps (by omega)) ps 0 [] ps' rfl rfl hn.2 hps';rw [List.nil_append]at hloop;rw [hn.1]at hloop ⊢;unfold aDp at hn';split at hn'
      · rename_i hf;split at hn'
        · rename_i h0;exact(aT0 f n [] ps to n' (by simp [hf]) h0 hn').ends hloop
        ·cases hn'
      · rename_i hf;cases hn';exact(aT1 f n [] ps to (by simp [hf])).ends hloop
    ·cases hp'
  ·cases hp'
theorem aG1 (to:List Int) :∀ (ps:List Pat),aV ps<1000000→∀p∈ps,RMp to p
 | [],_,p,hp=>by cases hp
 | q::ps,h,p,hp=>by
  simp only [aV]at h;rcases List.mem_cons.1 hp with e|hp
  ·rw [e];exact aRl to q (by omega)
  ·exact aG1 to ps (by omega) p hp
end
abbrev UAV (u:LUnit) :AV:=.agg [avS u.name,.ilst 2 (map Con.av u.cons) false,.ilst 2 (map LFun.av u.funs) false,.ilst 1 (map avS u.needs) false,.ilst 4 (map Node.av u.nodes) false]
abbrev aMB (u:LUnit) :AObj:=.cells (putCells .leaf 0 [avS u.name,.ilst 2 (map Con.av u.cons) false,.ilst 2 (map LFun.av u.funs) false,.ilst 1 (map avS u.needs) false,.ilst 4 (map Node.av u.nodes) false]) 5 [] false
abbrev xE (x:Node) :AObj:=.cells (putCells .leaf 0 [.int .i64 x.op,.int .i64 x.n,.ilst 1 (map bC x.kids) false,.ilst 4 (Pats.av x.pats) false]) 4 [] false
def aBc (u:LUnit)(funs cons:List Int)(c:Int)(L:List ONode)(ns:List Node) :Prop:=
 aCW PP (.enter 147 [.gl 0 4 0 (length L) false,UAV u,.int .i64 c,.ilst 1 (map bC funs) false,.ilst 1 (map bC cons) false]) (aE [(0,OL L,true)] 1)
  (.ret (.gl 0 4 0 (length (L++map Node.o ns)) false)) (aE [(0,OL (L++map Node.o ns),true)] 1)
theorem aRm {u:LUnit}{funs cons:List Int}{c:Int}{L:List ONode}{ns:List Node}(h:aBc u funs cons c L ns)(x:Node)(w:Value)(l2:List Int) :
  Spec PP (.enter 147 [.gl 0 4 0 (length L) false,UAV u,.int .i64 c,.ilst 1 (map bC funs) false,.ilst 1 (map bC cons) false])
   (aE [(0,OL L,true),(1,aMB u,false),(2,xE x,false),(3,.lstv w 1 (map bC l2),true)] 4)
   (.ret (.gl 4 4 0 (length (L++map Node.o ns)) false))
   (aE [(1,aMB u,false),(2,xE x,false),(3,.lstv w 1 (map bC l2),true),(4,OL (L++map Node.o ns),true)] 5) :=
 Eq.mp (by kernel_rfl) (pK (ks:=[0]) (n2:=4) (lc:=[(0,OL L,true),(1,aMB u,false),(2,xE x,false),(3,.lstv w 1 (map bC l2),true)])
  (x:=[(1,aMB u,false),(2,xE x,false),(3,.lstv w 1 (map bC l2),true)])
  (args':=[.gl 0 4 0 (length L) false,UAV u,.int .i64 c,.ilst 1 (map bC funs) false,.ilst 1 (map bC cons) false])
  h (by kernel_rfl) (by kernel_rfl) (by kernel_rfl) ⟨oI L,trivial⟩ (by kernel_rfl) (by kernel_rfl) (by kernel_rfl) (by kernel_rfl) ⟨oI _,trivial⟩ (by kernel_rfl))
section
variable (l :List ONode) (u:LUnit) (at0:Int) (funs cons:List Int)
theorem aOt (vl0:List ONode)(x:Node)(l2:List Int)(i:Int)(ua:Option Addr)(un uc:Nat) :
  (⟨{(uS l u at0 funs cons vl0 x.op x.n x.kids x.pats l2 i).as.fr with tm:= (uS l u at0 funs cons vl0 x.op x.n x.kids x.pats l2 i).as.fr.tm.put 93 (.val (.slice ua un uc))},(uS l u at0 funs cons vl0 x.op x.n x.kids x.pats l2 i).as.cs,(uS l u at0 funs cons vl0 x.op x.n x.kids x.pats l2 i).as.h.set 3 (.lstv (.slice ua un uc) 1 (map bC l2))⟩ :AS) = (aGY l u at0 funs cons vl0 x.op x.n x.kids x.pats l2 i ua un uc).as:=by kernel_rfl
theorem aRn {vl0:List ONode}{x:Node}{l2:List Int}{i:Int}{L:List ONode}(h0:0<l2.length)
  (hk:∀ua un uc,EndsL (aGY l u at0 funs cons vl0 x.op x.n x.kids x.pats l2 i ua un uc) L) :EndsL (uS l u at0 funs cons vl0 x.op x.n x.kids x.pats l2 i) L:=by
 refine aM2 (j:=93) (b:=3) (e:=1) (n:=length l2) (ex:=false) (xs:=map bC l2) (by kernel_rfl) (by kernel_rfl) (length_map ..) h0 (fun ua un uc=>?_);have:=hk ua un uc;unfold EndsL at this;rw [←aOt]at this;exact this
variable (k :Nat) (ih:∀ (L:List ONode) (c:Int) (ns:List Node),dR (uQ u) funs cons k L.length c=some ns→aBc u funs cons c L ns) (x:Node) (n':Int) (ps':List Pat) (hkids:x.kids.length<1000000)
include ih hkids
theorem aMC (c:Int)(i:Nat)(kv:KV)(r0:List Node)(l2:List Int)(ns:List Node)(L:List ONode)(hc:x.kids[i]?=some c)(h0:0<l2.length)(hns:dR (uQ u) funs cons k (l++ ⟨x.op,n',kv,ps'⟩ ::map Node.o r0).length c=some ns)
  (hk:∀w,EndsL (aGZ l u at0 funs cons (l++ ⟨x.op,n',.val w,ps'⟩ ::map Node.o (r0++ns)) x.op x.n x.kids x.pats l2 w ((i+1:Nat) :Int)) L) :
  EndsL (uS l u at0 funs cons (l++ ⟨x.op,n',kv,ps'⟩ ::map Node.o r0) x.op x.n x.kids x.pats l2 (i:Int)) L:=by
 have hi:= (List.getElem?_eq_some_iff.1 hc).1;refine aRn l u at0 funs cons h0 (fun ua un uc=>?_);have hs:=ih (l++ ⟨x.op,n',.val (.slice ua un uc),ps'⟩ ::map Node.o r0) c ns (by rw [←hns];simp);have hcall:=aRm hs x (.slice ua un uc) l2;have h1:=aUd l u at0 funs cons (l++ ⟨x.op,n',kv,ps'⟩ ::map Node.o r0) x.op x.n x.kids x.pats l2 i ua un uc ⟨x.op,n',kv,ps'⟩ c ns (aGH ..) sd (by simpa using hc) (by rw [aMq];exact hcall) sd;rw [aMq]at h1;refine h1.ends ?_;have:=hk (.slice ua un uc);rw [List.map_append]at this;rw [show(l++ ⟨x.op,n',.val (.slice ua un uc),ps'⟩ ::map Node.o r0) ++map Node.o ns=l++ ⟨x.op,n',.val (.slice ua un uc),ps'⟩ :: (map Node.o r0++map Node.o ns)by simp];exact this
theorem aJo :∀ (cs:List Int) (i:Nat) (w:Value) (r0:List Node) (ks0 ks:List Int) (r:List Node),x.kids.drop i=cs→ks0.length=i→0<i →
  nA (dR (uQ u) funs cons k) (l.length+1+r0.length) cs=some (ks,r) →
  EndsL (aGZ l u at0 funs cons (l++ ⟨x.op,n',.val w,ps'⟩ ::map Node.o r0) x.op x.n x.kids x.pats ks0 w (i:Int)) (l++map Node.o (⟨x.op,n',ks0++ks,ps'⟩ :: (r0++r)))
 | [],i,w,r0,ks0,ks,r,h,hl,hi,hm=>by
  have:=bK h;cases hm;have h1:=aUf l u at0 funs cons (l++ ⟨x.op,n',.val w,ps'⟩ ::map Node.o r0) x.op x.n x.kids x.pats ks0 w i ⟨x.op,n',.val w,ps'⟩ sd (pN ..) rfl;rw [pO]at h1;rw [append_nil,append_nil];exact h1
 | c ::cs,i,w,r0,ks0,ks,r,h,hl,hi,hm=>by
  obtain⟨g1,g2,g3⟩ :=bJ h;simp only [nA]at hm;split at hm
  · rename_i ns hns;split at hm
    · rename_i ks1 r1 hm1;cases hm;have hlen: (l++ (⟨x.op,n',.val w,ps'⟩ :ONode) ::map Node.o r0).length=l.length+1+r0.length:=by simp;omega
      refine(aUe l u at0 funs cons (l++ ⟨x.op,n',.val w,ps'⟩ ::map Node.o r0) x.op x.n x.kids x.pats ks0 w i ⟨x.op,n',.val w,ps'⟩ sd (by omega) (by rw [hlen];omega) (aGH ..) rfl (by simp;omega)).ends ?_;refine aMC l u at0 funs cons k ih x n' ps' hkids c i (.val w) r0 _ ns _ g1 (by simp) (by rw [hlen];exact hns) (fun w'=>?_);have:=aJo cs (i+1) w' (r0++ns) (ks0++ [((l.length+1+r0.length:Nat) :Int)]) ks1 r1 g2 (by simp [hl]) (by omega) (by rw [List.length_append,←Nat.add_assoc];exact hm1);rw [hlen];exact this.of (by simp)
    ·cases hm
  ·cases hm
theorem aRo (ks:List Int)(r:List Node)(hm:nA (dR (uQ u) funs cons k) (l.length+1) x.kids=some (ks,r)) :
  EndsL (aGX l u at0 funs cons (l++ [⟨x.op,n',.nil,ps'⟩]) x.op x.n x.kids x.pats) (l++map Node.o (⟨x.op,n',ks,ps'⟩ ::r)) :=by
 cases hx:x.kids with
 | nil=>
  rw [hx]at hm;cases hm;have h1:=aUc l u at0 funs cons (l++ [⟨x.op,n',.nil,ps'⟩]) x.op x.n [] x.pats ⟨x.op,n',.nil,ps'⟩ sd (pN ..) rfl;rw [pO]at h1;exact h1
 | cons c cs=>
  rw [hx]at hm;simp only [nA]at hm;split at hm
  · rename_i ns hns;split at hm
    · rename_i ks1 r1 hm1;cases hm;have hlen: (l++ [(⟨x.op,n',.nil,ps'⟩ :ONode)]).length=l.length+1:=by simp
      have h0:=aUb l u at0 funs cons (l++ [⟨x.op,n',.nil,ps'⟩]) x.op x.n x.kids x.pats ⟨x.op,n',.nil,ps'⟩ (by rw [hx];simp<;>omega) (by omega) (by rw [hlen];omega) (aGH ..) rfl (by simp);rw [hx]at h0;refine h0.ends ?_
      have h2:=aMC l u at0 funs cons k ih x n' ps' hkids c 0 .nil [] ([] ++ [(((length (l++ [(⟨x.op,n',.nil,ps'⟩ :ONode)])) :Nat) :Int)]) ns (l++map Node.o (⟨x.op,n',((l.length+1:Nat) :Int) ::ks1,ps'⟩ :: (ns++r1))) (by rw [hx];rfl) (by simp) (by simpa using hns) (fun w'=>by
       have:=aJo l u at0 funs cons k ih x n' ps' hkids cs 1 w' ns [((l.length+1:Nat) :Int)] ks1 r1 (by rw [hx];rfl) rfl (by omega) hm1;rw [hlen];exact this.of (by simp))
      rw [hx]at h2;exact h2
    ·cases hm
  ·cases hm
end
theorem aJp (l:List ONode)(u:LUnit)(at0:Int)(funs cons:List Int)(x:Node)(n':Int)(hps:aV x.pats<1000000)(hl:l.length<1000000)(L:List ONode) :∀ (t:List Pat) (i:Nat) (acc t':List Pat),x.pats.drop i=t→acc.length=i→lO t=true→jU cons t=some t' →
  EndsL (aGX l u at0 funs cons (l++ [⟨x.op,n',.nil,acc++t'⟩]) x.op x.n x.kids x.pats) L→EndsL (rT l u at0 funs cons x.op x.n x.kids x.pats x.op n' (i:Int) acc) L
 | [],i,acc,t',h,ha,hn,ht,hk=>by
  have:=bK h;cases ht;rw [append_nil]at hk;exact(aUa l u at0 funs cons x.op x.n x.kids x.pats x.op n' i acc sd (by simp;omega)).ends hk
 | .mk f1 n1 s1 ps1::t,i,acc,t',h,ha,hn,ht,hk=>by
  obtain⟨g1,g2,g3⟩ :=bJ h;have:=eP x.pats;rw [lO,and_eq_true]at hn;simp only [jU]at ht;split at ht
  · rename_i p' hp';split at ht
    · rename_i t1 ht1;cases ht;obtain⟨f2,n2,s2,ps2⟩ :=p';rw [show acc++ .mk f2 n2 s2 ps2::t1= (acc++ [.mk f2 n2 s2 ps2]) ++t1 by simp]at hk;have h2:=aJp l u at0 funs cons x n' hps hl L t (i+1) (acc++ [.mk f2 n2 s2 ps2]) t1 g2 (by simp [ha]) hn.2 ht1 hk;have h1:=aT9 l u at0 funs cons x.op x.n x.kids x.pats x.op n' i acc f1 n1 s1 ps1 f2 n2 s2 ps2 sd sd sd (aG1 cons x.pats hps (.mk f1 n1 s1 ps1) (mem_of_getElem? g1) _ hn.1 hp') (by simp;omega) sd;exact h1.ends h2
    ·cases ht
  ·cases ht
theorem aOu (u:LUnit)(l:List ONode)(at0:Int)(funs cons:List Int){L:List ONode}{ns:List Node}(e:L=l++map Node.o ns)(h:EndsL (aE7 l u at0 funs cons) L) :aBc u funs cons at0 l ns:=by
 subst e;exact⟨(aE7 l u at0 funs cons).as.fr,by kernel_rfl,Eq.mp (by kernel_rfl) h⟩
theorem rMv_spec (u :LUnit)(funs cons:List Int)(hT:∀x∈u.nodes,lO x.pats=true) :∀ (k:Nat) (l:List ONode) (at0:Int) (ns:List Node),dR (uQ u) funs cons k l.length at0=some ns→aBc u funs cons at0 l ns
 |0,l,at0,ns,h=>by cases h
 | k+1, l, at0, ns, h=>by
  simp only [dR]at h;split at h
  · rename_i hh;obtain⟨hat,hlen⟩ :=hh;split at h
    · rename_i y hy;split at h
      · rename_i hb;split at h
        · rename_i n' hn';split at h
          · rename_i ps' hps';split at h
            · rename_i ks r hks;cases h;have hy:u.nodes[at0.toNat]?=some y:=hy;have hC:=aJp l u at0 funs cons y n' hb.2 hlen _ y.pats 0 [] ps' rfl rfl (hT y (mem_of_getElem? hy)) hps' (aRo l u at0 funs cons k (rMv_spec u funs cons hT k) y n' ps' hb.1 ks r hks);refine aOu u l at0 funs cons rfl ?_;unfold mN at hn';split at hn'
              · rename_i h4;have ho: (y.op== (14:Int)) =false:=by rw [h4.1];rfl
                split at hn'
                · rename_i g hg;split at hn'
                  · rename_i hr;cases hn';exact(aT5 l u at0 funs cons y g hat hy (by simp [h4.1]) (by simp [h4.2]) (aGI (by omega) (by omega)) (by omega) hg (aGI (by omega) (by omega)) ho).ends hC
                  ·cases hn'
                ·cases hn'
              · rename_i h4;split at hn'
                · rename_i h14;split at hn'
                  · rename_i h0;exact(aT7 l u at0 funs cons y n' hat hy (by simp [h14]) (by simp [h14]) h0 hn').ends hC
                  ·cases hn'
                · rename_i h14;cases hn';by_cases ho:y.op=4
                  ·exact(aT6 l u at0 funs cons y hat hy (by simp [ho]) (by simp;omega) (by simp [ho])).ends hC
                  ·exact(aT8 l u at0 funs cons y hat hy (by simp [ho]) (by simp [h14])).ends hC
            ·cases h
          ·cases h
        ·cases h
      ·cases h
    ·cases h
  ·cases h
structure WS where
 l:List Con
 mc:List (Str×Int)
 ar:List Int
structure TB (p:Prog) (fl pl:List Str) (A:Nat) :Prop where
 fl:fl.length≤1000000000
 pl:pl.length≤1000000000
 ks:∀x∈p.nodes,x.kids.length<1000000∧x.pats.length<1000000∧∀q∈x.pats,cF q<1000000
 ad:∀x∈p.nodes,∀i:Nat,i<x.kids.length→Pure PP A [Node.av x,.int .i64 (i:Int)] (.int .i64 (aJc x i))
 kl:AV.keyless (PA p) =true
structure Spk where
 prog:Prog
 funs:List Str
 places:List Str
def Spk.av (x:Spk) :AV:=.agg [.ilst 4 (map Node.av x.prog.nodes) false,.ilst 1 (map bC x.prog.funs) false,.int .i64 x.prog.main,.ilst 2 (map Con.av x.prog.cons) false,.ilst 1 (map avS x.funs) false,.ilst 1 (map avS x.places) false]
section
variable (p q:Prog) (mn:Int) (zn:List Node) (zu:List Int)
end
theorem hasS_mem {l:List Str}{s:Str}:bO l s=true↔s∈l:=by
 simp [bO]
theorem rU :∀ (l pre:List Str),cB pre l=true→l.Nodup∧∀x∈l,x∉pre
 | [],pre,_=> ⟨List.nodup_nil,fun x hx=>by cases hx⟩
 | x::t,pre,h=>by
  simp only [cB,and_eq_true,Bool.not_eq_true']at h;obtain⟨h1,h2⟩ :=rU t (pre++ [x]) h.2
  have hx:x∉pre:=fun hm=>by
   have:=hasS_mem.2 hm;rw [h.1]at this;cases this
  refine⟨List.nodup_cons.2 ⟨fun hm=>h2 x hm (by simp),h1⟩,fun y hy=>?_⟩;rcases List.mem_cons.1 hy with rfl|hy
  ·exact hx
  ·exact fun hm=>h2 y hy (List.mem_append_left _ hm)
theorem aCk (k v j:Int)(m:List (Int×Int)) :mF (dQ k v m) j=if j=k then v else mF m j:=by
 unfold mF;rw [pP];split<;>rfl
structure Fm (p:Prog) :Prop where
 fine:FineP p
 cons:p.cons.length≤25
 dup: ((p.funs.map (pre p p.nodes.length)).flatten).Nodup
 len: ((p.funs.map (pre p p.nodes.length)).flatten).length=p.nodes.length
 into:∀x∈ (p.funs.map (pre p p.nodes.length)).flatten,0≤x∧x<p.nodes.length
 node:∀ (i:Nat) (x:Node),p.nodes[i]?=some x→aZ p x=true∧x.pats.length≤10
 names: (p.cons.map Con.name).Nodup
theorem aLL {p:Prog}(hs:aH p=true)(hf:aW p=true) :Fm p:=by
 have hss:=hs;simp only [aH,and_eq_true,decide_eq_true_eq]at hss;obtain⟨⟨⟨⟨s1,s2⟩,s3⟩,_⟩,s5⟩ :=hss;obtain⟨a,b,c,d⟩ :=yM hs hf;refine⟨uO hs hf,s3,a,b,c,fun i x hx=> ⟨d i x hx,?_⟩,?_⟩
 · have h10:=List.all_eq_true.1 s5 x (mem_of_getElem? hx);simp only [aQ,and_eq_true,decide_eq_true_eq]at h10;omega
 · simp only [aW,and_eq_true,uL]at hf;exact(rU _ _ hf.1.2.2).1
theorem Fm.fit {p:Prog}(h:Fm p)(i:Nat)(x:Node)(hx:p.nodes[i]?=some x) :aTR x:=by
 obtain⟨h1,h2⟩ :=h.node i x hx;have:= (h.fine.node i x hx).2.1;exact⟨by omega,(aOm h.fine.fsmall h1 h2).1.1⟩
def nodeAt (p:Prog)(k:Int) :Node:= (p.nodes[k.toNat]?).getD ⟨0,0,[],[]⟩
theorem pQ {p:Prog}{k:Int}{x:Node}(h:p.nodes[k.toNat]?=some x) :nodeAt p k=x:=by unfold nodeAt;rw [h];rfl
def dP (p:Prog) :List Int:= (p.funs.map (pre p p.nodes.length)).flatten
theorem aDB {p:Prog}(hp:FineP p) :∀ (f g:Nat) (k:Int),0≤k→k<p.nodes.length→p.nodes.length-k.toNat≤f→p.nodes.length-k.toNat≤g→pre p f k=pre p g k
 |0,_,k,h0,h1,h2,_=>by omega
 |_+1,0,k,h0,h1,_,h3=>by omega
 | f+1,g+1,k,h0,h1,h2,h3=>by
  obtain⟨x,hx⟩ :∃x,p.nodes[k.toNat]?=some x:= ⟨_,getElem?_eq_getElem (by omega)⟩;rw [pre,pre,hx];simp only;congr 2
  exact List.map_congr_left (fun c hc=>by
   have:= (hp.node _ _ hx).2.2 c hc;exact aDB hp f g c (by omega) (by omega) (by omega) (by omega))
def KidsAfter (p:Prog)(l:List Int) :Prop:=∀ (i:Nat) (k c:Int),l[i]?=some k→c∈dD p k→∃j,i<j∧l[j]?=some c
theorem KidsAfter.append {p:Prog}{l m:List Int}(h1:KidsAfter p l)(h2:KidsAfter p m) :KidsAfter p (l++m) :=fun i k c hi hc=>by
 by_cases h:i<l.length
 · rw [List.getElem?_append_left h]at hi;obtain⟨j,hj,e⟩ :=h1 i k c hi hc;exact⟨j,hj,by rw [List.getElem?_append_left (List.getElem?_eq_some_iff.1 e).1];exact e⟩
 · rw [List.getElem?_append_right (by omega)]at hi;obtain⟨j,hj,e⟩ :=h2 _ k c hi hc;exact⟨l.length+j,by omega,by rw [List.getElem?_append_right (by omega),show l.length+j-l.length=j by omega];exact e⟩
theorem KidsAfter.flatten {p:Prog}:∀ {L:List (List Int)},(∀l∈L,KidsAfter p l) →KidsAfter p L.flatten
 | [],_=>fun i k c hi _=>by simp at hi
 | l::L,h=>by
  rw [flatten_cons];exact(h l (mem_cons_self ..)).append (KidsAfter.flatten fun m hm=>h m (mem_cons_of_mem _ hm))
theorem aE8 {p:Prog}(hp:FineP p) :∀ (f:Nat) (k:Int),0≤k→k<p.nodes.length→p.nodes.length-k.toNat≤f→KidsAfter p (pre p f k)
 |0,k,h0,h1,h2=>by omega
 | f +1,k,h0,h1,h2=>by
  obtain⟨x,hx⟩ :∃x,p.nodes[k.toNat]?=some x:= ⟨_,getElem?_eq_getElem (by omega)⟩;have e:pre p (f+1) k=k:: (x.kids.map (pre p f)).flatten:=by rw [pre,hx]
  have hks:= (hp.node _ _ hx).2.2
  have hrest:KidsAfter p (x.kids.map (pre p f)).flatten:=KidsAfter.flatten fun l hl=>by
   obtain⟨c,hc,rfl⟩ :=List.mem_map.1 hl;have:=hks c hc;exact aE8 hp f c (by omega) (by omega) (by omega)
  rw [e];intro i k' c hi hc;cases i with
  | zero=>
   simp only [getElem?_cons_zero,Option.some.injEq]at hi;subst hi;have ek:dD p k=x.kids:=by unfold dD;rw [hx]
   rw [ek]at hc
   have hm:c∈ (x.kids.map (pre p f)).flatten:=List.mem_flatten.2 ⟨pre p f c,List.mem_map.2 ⟨c,hc,rfl⟩,by
    have:=hks c hc;obtain⟨y,g,_,_,h3⟩ :=aQ3 hp (f:=f) (a:=c) (by omega) (by omega) (by omega);rw [h3];exact mem_cons_self ..⟩
   obtain⟨j,hj⟩ :=List.mem_iff_getElem?.1 hm;exact⟨j+1,by omega,by simpa using hj⟩
  | succ i=>
   simp only [getElem?_cons_succ]at hi;obtain⟨j,hj,e2⟩ :=hrest i k' c hi hc;exact⟨j+1,by omega,by simpa using e2⟩
theorem aJq {p:Prog}(h:Fm p){k:Int}(h0:0≤k)(h1:k<p.nodes.length) :∃i:Nat,(dP p)[i]?=some k:=by
 refine List.mem_iff_getElem?.1 ?_;have hd: ((dP p).map toNat).Nodup:=by
  have hd:=h.dup;rw [List.nodup_iff_pairwise_ne]at hd ⊢;refine List.pairwise_map.2 (hd.imp_of_mem (fun {a b} ha hb hne e=>?_));have:=h.into a ha;have:=h.into b hb;exact hne (by omega)
 by_cases hm:k∈dP p
 ·exact hm
 · have h2:=mG (p.nodes.length) (k.toNat:: (dP p).map toNat) (List.nodup_cons.2 ⟨fun hm2=>by
    obtain⟨y,hy,e⟩ :=List.mem_map.1 hm2;have:=h.into y hy;exact hm ((show y=k by omega) ▸ hy),hd⟩) (fun x hx=>by
    rcases List.mem_cons.1 hx with rfl|hx
    ·omega
    · obtain⟨y,hy,rfl⟩ :=List.mem_map.1 hx;have:=h.into y hy;omega)
   rw [length_cons,length_map]at h2;have:=h.len;unfold dP at h2;omega
structure Laid (a:Prog) (off:Nat) (p:Prog) (mf mc:List (Int×Int)) (to:List Int) :Prop where
 node:∀ (i:Nat) (k:Int),(dP p)[i]?=some k→a.nodes[off+i]?=some (kZ mf mc to (nodeAt p k))
 to:∀ (i:Nat) (k:Int),(dP p)[i]?=some k→kF to k= ((off+i:Nat) :Int)
section
variable {a p:Prog} {off:Nat} {mf mc:List (Int×Int)} {to:List Int}
theorem Laid.at (h:Laid a off p mf mc to)(hp:Fm p){k:Int}(h0:0≤k)(h1:k<p.nodes.length) :0≤kF to k∧a.nodes[(kF to k).toNat]?=some (kZ mf mc to (nodeAt p k)) :=by
 obtain⟨i,hi⟩ :=aJq hp h0 h1;have e:=h.to i k hi;rw [e,Int.toNat_natCast];exact⟨by omega,h.node i k hi⟩
theorem Laid.pre (h:Laid a off p mf mc to)(hp:Fm p) :∀ (f:Nat) (k:Int),0≤k→k<p.nodes.length→p.nodes.length-k.toNat≤f→pre a f (kF to k) = (pre p f k).map (kF to)
 |0,k,h0,h1,h2=>by omega
 | f+1,k,h0,h1,h2=>by
  obtain⟨x,hx⟩ :∃x,p.nodes[k.toNat]?=some x:= ⟨_,getElem?_eq_getElem (by omega)⟩;obtain⟨g0,g1⟩ :=h.at hp h0 h1;rw [pQ hx]at g1;rw [Go.Hb.pre,Go.Hb.pre,hx,g1];simp only [map_cons,List.map_flatten,map_map,kZ];congr 2
  exact List.map_congr_left (fun c hc=>by
   have:= (hp.fine.node _ _ hx).2.2 c hc;exact h.pre hp f c (by omega) (by omega) (by omega))
theorem Laid.walk (h:Laid a off p mf mc to)(hp:Fm p){F:Nat}(hF:p.nodes.length≤F) : ((p.funs.map (kF to)).map (Go.Hb.pre a F)).flatten= (range (dP p).length).map fun i=> ((off+i:Nat) :Int) :=by
 have e1: (p.funs.map (kF to)).map (Go.Hb.pre a F) = (p.funs.map (Go.Hb.pre p p.nodes.length)).map (map (kF to)) :=by
  rw [map_map,map_map];refine List.map_congr_left (fun k hk=>?_);have:=hp.fine.funs k hk;show Go.Hb.pre a F (kF to k) = (Go.Hb.pre p p.nodes.length k).map (kF to);rw [h.pre hp F k this.1 this.2 (by omega),aDB hp.fine F p.nodes.length k this.1 this.2 (by omega) (by omega)]
 rw [e1,←List.map_flatten];refine List.ext_getElem? (fun i=>?_);rw [getElem?_map,getElem?_map];by_cases hi:i< (dP p).length
 · rw [List.getElem?_range hi];have e: (dP p)[i]?=some (dP p)[i] :=getElem?_eq_getElem hi;have: ((p.funs.map (Go.Hb.pre p p.nodes.length)).flatten)[i]?=some (dP p)[i] :=e;rw [this];simp only [Option.map_some];rw [h.to i _ e]
 · have e: (dP p)[i]?=none:=getElem?_eq_none (by omega);have: ((p.funs.map (Go.Hb.pre p p.nodes.length)).flatten)[i]?=none:=e;rw [this,getElem?_eq_none (by simp;omega)];rfl
end
mutual
theorem aDC (mc:List (Int×Int)) :∀q:Pat,lG (vS mc q) =lG q
 | .mk f n s ps=>by rw [vS,lG,lG,aBN mc ps]
theorem aBN (mc:List (Int×Int)) :∀ps:List Pat,lV (fK mc ps) =lV ps
 | [] =>rfl
 |q::ps=>by rw [fK,lV,lV,aDC mc q,aBN mc ps]
end
structure MapsOk (p a:Prog) (mf mc:List (Int×Int)) :Prop where
 funs:∀i:Int,0≤i→i<p.funs.length→0≤mF mf i∧mF mf i<a.funs.length
 cons:∀ (i:Nat) (d:Con),p.cons[i]?=some d→0≤mF mc (i:Int) ∧a.cons[(mF mc (i:Int)).toNat]?=some d
section
variable {p a:Prog} {mf mc:List (Int×Int)}
theorem MapsOk.at (h:MapsOk p a mf mc){n:Int}(h0:0≤n)(h1:n<p.cons.length) :0≤mF mc n∧mF mc n<a.cons.length∧dY a.cons (mF mc n) =dY p.cons n∧a.cons[(mF mc n).toNat]?=p.cons[n.toNat]?:=by
 have e:p.cons[n.toNat]?=some p.cons[n.toNat] :=getElem?_eq_getElem (by omega);obtain⟨g0,g1⟩ :=h.cons n.toNat _ e;rw [show((n.toNat:Nat) :Int) =n by omega]at g0 g1;have:= (List.getElem?_eq_some_iff.1 g1).1;refine⟨g0,by omega,?_,by rw [g1,e]⟩;unfold dY;rw [g1,e]
theorem vO (mc:List (Int×Int)) :∀ps:List Pat,(fK mc ps).length=ps.length
 | [] =>rfl
 |p::ps=>by rw [fK,length_cons,length_cons,vO mc ps]
mutual
theorem aMD (h:MapsOk p a mf mc) :∀q:Pat,cN p.cons q=true→cN a.cons (vS mc q) =true
 | .mk f n s ps,g=>by
  rw [cN,and_eq_true]at g;rw [vS,cN,aJr h ps g.2,Bool.and_true,vO];have g1:=g.1;by_cases hf:f=6
  · subst hf;unfold cQ at g1 ⊢;simp [cR]at g1 ⊢;obtain⟨⟨⟨a0,a1⟩,a2⟩,a3⟩ :=g1;obtain⟨b0,b1,b2,b3⟩ :=h.at a0 (by omega);exact⟨⟨⟨b0,by omega⟩,by rw [b2];exact a2⟩,a3⟩
  · rw [if_neg hf];unfold cQ at g1 ⊢;rw [if_neg hf]at g1 ⊢;exact g1
theorem aJr (h:MapsOk p a mf mc) :∀ps:List Pat,bH p.cons ps=true→bH a.cons (fK mc ps) =true
 | [],_=>rfl
 | q::ps,g=>by
  rw [bH,and_eq_true]at g;rw [fK,bH,aMD h q g.1,aJr h ps g.2];rfl
end
theorem aBd (mc:List (Int×Int)) :∀ {ps:List Pat} {q':Pat},q'∈fK mc ps→∃q∈ps,q'=vS mc q
 | [],_,h=>by simp [fK]at h
 | q ::ps,q',h=>by
  rw [fK]at h;rcases List.mem_cons.1 h with rfl|h
  ·exact⟨q,mem_cons_self ..,rfl⟩
  · obtain⟨x,hx,e⟩ :=aBd mc h;exact⟨x,mem_cons_of_mem _ hx,e⟩
theorem aRp (h:MapsOk p a mf mc)(to:List Int){x:Node}(hx:aZ p x=true) :aZ a (kZ mf mc to x) =true:=by
 simp only [aZ,fJ,and_eq_true,decide_eq_true_eq]at hx ⊢;obtain⟨⟨⟨h1,h2⟩,h3⟩,h4⟩ :=hx;have hl: (kZ mf mc to x).pats.length=x.pats.length:=vO mc _;have hk: (kZ mf mc to x).kids.length=x.kids.length:=length_map ..;have ho: (kZ mf mc to x).op=x.op:=rfl;have hn: (kZ mf mc to x).n=bN mf mc x.op x.n:=rfl;refine⟨⟨⟨?_,by rw [hl];exact h2⟩,?_⟩,?_⟩
 · rw [ho,hn];unfold bN;by_cases e4:x.op=4
   · rw [if_pos e4];rw [e4]at h1 ⊢;simp [bL,cR]at h1 ⊢;by_cases hn:0≤x.n
     ·rw [if_pos hn];omega
     · rw [if_neg hn];have:=h.funs (-1-x.n) (by omega) (by omega);omega
   · rw [if_neg e4];by_cases e14:x.op=14
     · rw [if_pos e14];rw [e14]at h1 ⊢;simp [bL,cR]at h1 ⊢;obtain⟨b0,b1,_⟩ :=h.at (n:=x.n) h1.1 (by omega);omega
     · rw [if_neg e14];unfold bL at h1 ⊢;rw [if_neg e4,if_neg e14]at *;exact h1
 · refine List.all_eq_true.2 (fun q' hq=>?_);obtain⟨q,hq2,rfl⟩ :=aBd mc hq;have:=List.all_eq_true.1 h3 q hq2;simp only [fF,and_eq_true,decide_eq_true_eq]at this ⊢;exact⟨by rw [aA9];exact this.1,aMD h q this.2⟩
 · rw [hl,hk,ho,h4];congr 1;unfold eM;rw [ho,hn];by_cases e14:x.op=14
   · have h1':=h1;rw [e14]at h1';simp [bL,cR]at h1';obtain⟨b0,b1,b2,_⟩ :=h.at (n:=x.n) h1'.1 (by omega);unfold bN;rw [if_neg (show ¬x.op=4 by omega),if_pos e14,if_pos ⟨e14,by simp [cR];omega⟩,if_pos ⟨e14,by simp [cR];omega⟩,b2]
   ·rw [if_neg (fun g=>e14 g.1),if_neg (fun g=>e14 g.1)]
theorem aJs (to:List Int){x:Node}(hx:aQ x=true) :aQ (kZ mf mc to x) =true:=by
 simp only [aQ,and_eq_true,decide_eq_true_eq]at hx ⊢;obtain⟨⟨h1,h2⟩,h3⟩ :=hx;refine⟨⟨by show(x.kids.map _).length≤10;rw [length_map];exact h1,by show(fK mc x.pats).length≤10;rw [vO];exact h2⟩,?_⟩;refine List.all_eq_true.2 (fun q' hq=>?_);obtain⟨q,hq2,rfl⟩ :=aBd mc hq;have:=List.all_eq_true.1 h3 q hq2;simp only [uK,and_eq_true,decide_eq_true_eq]at this ⊢;exact⟨by rw [aA9];exact this.1,by rw [aDC];exact this.2⟩
end
theorem yN {lo n:Int}(hlo:0≤lo) :∀ (ks:List Int) (u:List Bool),(u.length:Int) =n→ (∀k∈ks,lo≤k∧k<n) → (∀m:Int,0≤m→m<n→ks.count m+iV u m≤1) →∃v,marks lo n ks u=some v
 | [],u,_,_,_=> ⟨u,rfl⟩
 | k ::ks,u,hl,hr,hc=>by
  have hk:=hr k (mem_cons_self ..);have h1:=hc k (by omega) hk.2;rw [show k::ks= [k] ++ks from rfl,count_append,List.count_singleton_self]at h1;have hu:u[k.toNat]?=some false:=by
   have hlt:k.toNat<u.length:=by omega
   cases hb:u[k.toNat]with
   |false=>rw [getElem?_eq_getElem hlt,hb]
   | true=>
    have:iV u k=1:=by unfold iV;rw [getElem?_eq_getElem hlt,hb];rfl
    omega
  obtain⟨v,hv⟩ :=yN hlo ks (u.set k.toNat true) (by rw [length_set];exact hl) (fun x hx=>hr x (mem_cons_of_mem _ hx)) (fun m m0 m1=>by
   have h2:=hc m m0 m1;rw [show k::ks= [k] ++ks from rfl,count_append]at h2;by_cases e:m=k
   · subst e;have:iV (u.set m.toNat true) m≤1:=by unfold iV;split<;>omega
     rw [List.count_singleton_self]at h2;omega
   · have:iV (u.set k.toNat true) m=iV u m:=by unfold iV;rw [List.getElem?_set_ne (by omega)]
     omega)
  exact⟨v,by rw [marks,if_pos ⟨by simp [cR];omega,hu⟩];exact hv⟩
theorem xF {a:Prog}:∀ (t:List Node) (i:Nat) (u:List Bool),u.length=a.nodes.length→ (∀x∈t,aZ a x=true) → (∀ (j:Nat) (x:Node),t[j]?=some x→∀k∈x.kids,((i+j:Nat) :Int) <k∧k<a.nodes.length) →
  (∀m:Int,0≤m→m<a.nodes.length→ ((t.map Node.kids).flatten).count m+iV u m≤1) →∃v,cG a i t u=some v
 | [],i,u,_,_,_,_=> ⟨u,rfl⟩
 | x::t,i,u,hl,hok,hk,hc=>by
  obtain⟨w,hw⟩ :=yN (lo:= (i:Int) +1) (n:= (a.nodes.length:Int)) (by omega) x.kids u (by omega) (fun k hkm=>by
   have:=hk 0 x rfl k hkm;omega) (fun m m0 m1=>by
   have:=hc m m0 m1;rw [map_cons,flatten_cons,count_append]at this;omega)
  obtain⟨v,hv⟩ :=xF t (i+1) w (by rw [kD hw,hl]) (fun y hy=>hok y (mem_cons_of_mem _ hy)) (fun j y hy k hkm=>by
   have:=hk (j+1) y (by simpa using hy) k hkm;omega) (fun m m0 m1=>by
   have h1:=hc m m0 m1;have h2:=fX (m:=m) (by omega) m0 hw;rw [map_cons,flatten_cons,count_append]at h1;omega)
  exact⟨v,by rw [cG,if_pos (hok x (mem_cons_self ..)),hw];exact hv⟩
def aLM (al:List Con) :List Con→Int→List (Int×Int) →List (Int×Int)
 | [],_,m=>m
 |c::t,i,m=>aLM al t (i+1) (dQ i (gR c.name al 0) m)
theorem conIx_mem {s:Str}{l:List Con}:0≤gR s l 0↔s∈l.map Con.name:=by
 constructor
 · intro h;rcases oK s l 0 (le_refl _)with g| ⟨_,_,d,h3,h4⟩
   ·omega
   ·exact List.mem_map.2 ⟨d,mem_of_getElem? h3,h4⟩
 · intro h;rcases oK s l 0 (le_refl _)with g| ⟨h1,_⟩
   · have :gR s l 0≠ -1:=by
      clear g;have :∀ (l:List Con) (i:Int),0≤i→s∈l.map Con.name→gR s l i≠ -1:=by
       intro l
       induction l with
       |nil=>intro i _ h;simp at h
       | cons c l ih=>
        intro i hi h;rw [gR];split
        ·omega
        · rename_i e;rcases List.mem_cons.1 (by simpa using h:s∈c.name::l.map Con.name)with g|g
          ·exact absurd g.symm e
          ·exact ih (i+1) (by omega) g
      exact this l 0 (le_refl _) h
     exact absurd g this
   ·exact h1
theorem aRq {l:List Con}(hd: (l.map Con.name).Nodup){j:Nat}{d:Con}(h:l[j]?=some d) :gR d.name l 0=j:=by
 rcases oK d.name l 0 (le_refl _)with g| ⟨h1,h2,e,h3,h4⟩
 · have:0≤gR d.name l 0:=conIx_mem.2 (List.mem_map.2 ⟨d,mem_of_getElem? h,rfl⟩);omega
 · have hj:= (List.getElem?_eq_some_iff.1 h).1;have h3:l[(gR d.name l 0).toNat]?=some e:=by simpa using h3
   have hk:= (List.getElem?_eq_some_iff.1 h3).1;have a1: (l.map Con.name)[(gR d.name l 0).toNat]?=some d.name:=by rw [getElem?_map,h3];simp [h4]
   have a2: (l.map Con.name)[j]?=some d.name:=by rw [getElem?_map,h];rfl
   have hne:∀ (l:List Str) (i j:Nat) (x:Str),l.Nodup→l[i]?=some x→l[j]?=some x→i=j:=by
    intro l
    induction l with
    |nil=>intro i j x _ h;simp at h
    | cons y l ih=>
     intro i j x hd hi hj;have hd:=List.nodup_cons.1 hd;cases i with
     | zero=>
      cases j with
      |zero=>rfl
      | succ j=>
       simp only [getElem?_cons_zero,Option.some.injEq,getElem?_cons_succ]at hi hj;exact absurd (mem_of_getElem? hj) (hi ▸ hd.1)
     | succ i=>
      cases j with
      | zero=>
       simp only [getElem?_cons_zero,Option.some.injEq,getElem?_cons_succ]at hi hj;exact absurd (mem_of_getElem? hi) (hj ▸ hd.1)
      | succ j=>
       simp only [getElem?_cons_succ]at hi hj;rw [ih i j x hd.2 hi hj]
   have:=hne _ _ _ _ hd a1 a2;omega
theorem aJt (al:List Con) :∀ (t:List Con) (i:Int) (m:List (Int×Int)) (j:Int),j<i→mF (aLM al t i m) j=mF m j
 | [],i,m,j,h=>rfl
 |c::t,i,m,j,h=>by rw [aLM,aJt al t (i+1) _ j (by omega),aCk,if_neg (by omega)]
theorem aME (al:List Con) :∀ (t:List Con) (i:Int) (m:List (Int×Int)) (j:Nat) (d:Con),t[j]?=some d→mF (aLM al t i m) (i+j) =gR d.name al 0
 | [],i,m,j,d,h=>by simp at h
 | c::t,i,m,0,d,h=>by
  simp only [getElem?_cons_zero,Option.some.injEq]at h;subst h;rw [aLM,aJt al t (i+1) _ _ (by omega),aCk,if_pos (by omega)]
 | c::t,i,m,j+1,d,h=>by
  simp only [getElem?_cons_succ]at h;have:=aME al t (i+1) (dQ i (gR c.name al 0) m) j d h;rw [aLM,show i+ ((j+1:Nat) :Int) =i+1+ (j:Int)by omega];exact this
def toL (p:Prog)(off:Nat) :List Int:=yL (replicate p.nodes.length 0) off (dP p)
section
variable {p :Prog}
end
theorem rV :∀ (l pre:List Str),l.Nodup→ (∀x∈l,x∉pre) →cB pre l=true
 | [],_,_,_=>rfl
 | x ::t,pre,hd,h=>by
  have hd:=List.nodup_cons.1 hd;simp only [cB,and_eq_true,Bool.not_eq_true'];refine⟨?_,rV t (pre++ [x]) hd.2 (fun y hy=>?_)⟩
  · cases e:bO pre x with
    |false=>rfl
    |true=>exact absurd (hasS_mem.1 e) (h x (mem_cons_self ..))
  · rw [List.mem_append,not_or,List.mem_singleton];exact⟨h y (mem_cons_of_mem _ hy),fun e=>hd.1 (e ▸ hy)⟩
structure Fs (p:Prog) :Prop extends Fm p where
 sm:aH p=true
 fo:aW p=true
theorem Fs.of {p:Prog}(hs:aH p=true)(hf:aW p=true) :Fs p:={aLL hs hf with sm:=hs,fo:=hf}
theorem Fs.head {p:Prog}(h:Fs p) :p.nodes.length≤300∧1≤p.funs.length∧p.funs.length≤p.nodes.length∧0≤p.main∧p.main<p.funs.length∧p.cons.length≤20∧ (∀c∈p.cons,eK c=true) :=by
 have:=h.fo;simp only [aW,and_eq_true,dK,uL,decide_eq_true_eq]at this;obtain⟨⟨⟨⟨a1,a2⟩,a3⟩,⟨a4,a5⟩,_⟩,_⟩ :=this;simp [cR]at a2 a3;exact⟨a1,by omega,by omega,by omega,by omega,a5,fun c hc=>List.all_eq_true.1 a4 c hc⟩
section
variable {a :Prog} {N:Nat}
theorem aG2 (hN:a.nodes.length=N)(h300:N≤300)(hf1:1≤a.funs.length)(hf2:a.funs.length≤N)(hm0:0≤a.main)(hm1:a.main<a.funs.length)(hc20:a.cons.length≤20)(hc:∀c∈a.cons,eK c=true∧c.name.length≤40)(hcd: (a.cons.map Con.name).Nodup)
  (hnode:∀ (i:Nat) (x:Node),a.nodes[i]?=some x→aZ a x=true∧aQ x=true∧∀k∈x.kids,(i:Int) <k∧k<N) (hfun:∀f∈a.funs,0≤f∧f<N) (hw:dP a= (range N).map fun(i:Nat) => (i:Int)) :Fs a:=by
 have hsm:aH a=true:=by
  simp only [aH,and_eq_true,decide_eq_true_eq,eW];refine⟨⟨⟨⟨by omega,by omega⟩,by omega⟩,List.all_eq_true.2 fun c h=>by simpa using(hc c h).2⟩,List.all_eq_true.2 fun x hx=>?_⟩;obtain⟨i,hi⟩ :=List.mem_iff_getElem?.1 hx;exact(hnode i x hi).2.1
 have hfine:FineP a:= ⟨by omega,by omega,fun i x hx=>by
  obtain⟨h1,h2,h3⟩ :=hnode i x hx;simp only [aQ,and_eq_true,decide_eq_true_eq]at h2;exact⟨vM h1,h2.1.1,fun k hk=>by have:=h3 k hk;omega⟩,fun f hf=>by have:=hfun f hf;omega⟩
 refine Fs.of hsm ?_;have hnd: (dP a).Nodup:=by
  rw [hw,List.nodup_iff_pairwise_ne];refine List.pairwise_map.2 ((List.nodup_iff_pairwise_ne.1 List.nodup_range).imp fun h e=>h (by omega))
 have hcnt:∀m:Int,0≤m→m<a.nodes.length→a.funs.count m+ ((a.nodes.map Node.kids).flatten).count m=1:=fun m h0 h1=>by
  have e1:=rS (p:=a) (q:=pre a a.nodes.length) m a.funs (fun k hk=>by
   have:=hfine.funs k hk;exact aA7 hfine m _ k this.1 this.2 (by omega))
  have e2: (dP a).map (dD a) =a.nodes.map Node.kids:=by
   refine List.ext_getElem? (fun i=>?_);rw [hw,getElem?_map,getElem?_map,getElem?_map];by_cases hi:i<N
   · rw [List.getElem?_range hi];have:a.nodes[i]?=some a.nodes[i] :=getElem?_eq_getElem (by omega);simp only [Option.map_some,this];unfold dD;rw [Int.toNat_natCast,this]
   ·rw [getElem?_eq_none (by simp;omega),getElem?_eq_none (by omega)];rfl
  have e3: (dP a).count m=1:=by
   have a1:=List.nodup_iff_count.1 hnd m;have a2:m∈dP a:=by rw [hw];exact List.mem_map.2 ⟨m.toNat,List.mem_range.2 (by omega),by omega⟩
   have:=List.count_pos_iff.2 a2;omega
  change (dP a).count m=a.funs.count m+ (((dP a).map (dD a)).flatten).count m at e1
  rw [e2,e3]at e1;omega
 have hrep:∀m:Int,iV (replicate a.nodes.length false) m=0:=fun m=>by
  unfold iV;rw [List.getElem?_replicate];by_cases g:m.toNat<a.nodes.length
  ·rw [if_pos g];rfl
  ·rw [if_neg g];rfl
 obtain⟨u,hu⟩ :=yN (lo:=0) (n:= (a.nodes.length:Int)) (le_refl _) a.funs (replicate a.nodes.length false) (by rw [List.length_replicate]) (fun k hk=>by have:=hfun k hk;omega) (fun m h0 h1=>by
  have:=hcnt m h0 h1;rw [hrep];omega)
 have hul:=kD hu;rw [List.length_replicate]at hul
 obtain⟨v,hv⟩ :=xF (a:=a) a.nodes 0 u hul (fun x hx=>by
  obtain⟨i,hi⟩ :=List.mem_iff_getElem?.1 hx;exact(hnode i x hi).1) (fun j x hx k hk=>by have:= (hnode j x hx).2.2 k hk;omega) (fun m h0 h1=>by
  have h2:=fX (m:=m) (by omega) h0 hu;have:=hcnt m h0 h1;rw [hrep]at h2;omega)
 simp only [aW,and_eq_true];refine⟨⟨?_,?_⟩,?_⟩
 ·simp [dK,cR];omega
 · simp only [uL,and_eq_true,decide_eq_true_eq];exact⟨⟨List.all_eq_true.2 fun c h=> (hc c h).1,hc20⟩,rV _ [] hcd (fun x _=>by simp)⟩
 · rw [hu];simp only;rw [hv];unfold allT;refine List.all_eq_true.2 (fun b hb=>?_);obtain⟨i,hi⟩ :=List.mem_iff_getElem?.1 hb;have hvl:=rQ hv;have hlt:= (List.getElem?_eq_some_iff.1 hi).1;have h2:=fX (m:= (i:Int)) (by omega) (by omega) hu;have h3:=jL (m:= (i:Int)) (by omega) hv;have:=hcnt (i:Int) (by omega) (by omega);rw [hrep]at h2;have h4:iV v (i:Int) =1:=by omega
   unfold iV at h4;rw [Int.toNat_natCast,hi]at h4;cases b with
   |true=>rfl
   |false=>simp at h4
end
section
variable {p a:Prog} {off:Nat} {mf mc:List (Int×Int)} {to:List Int}
end
section
variable {p q:Prog}
end
end
end Go.Hb
