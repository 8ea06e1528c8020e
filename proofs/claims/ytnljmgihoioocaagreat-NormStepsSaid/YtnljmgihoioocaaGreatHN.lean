/- A machine on abstract values, its soundness, ways, plain laws. -/
import Derived.Test.YtnljmgihoioocaaGreatHF
import Derived.Test.YtnljmgihoioocaaGreatHG
import Derived.Test.YtnljmgihoioocaaGreatHI
import Derived.Test.YtnljmgihoioocaaGreatHM
set_option linter.defProp false
set_option linter.unusedVariables false
set_option linter.unusedSimpArgs false
set_option linter.unusedSectionVars false
set_option maxRecDepth 100000
set_option maxHeartbeats 1000000
namespace Go.Hb
open AV (frzOk frzOkL keyless keylessL)
open Bool (and_eq_true)
open List (append_assoc append_nil drop getElem?_append_left getElem?_append_right getElem?_cons_succ getElem?_cons_zero getElem?_eq_getElem getElem?_set length length_append length_cons length_map length_set map mem_cons mem_of_getElem? replicate set singleton_append take take_of_length_le)
open Pats (av)
open Go.Proofs Tryz
noncomputable section
abbrev aXe (a:List ONode)(b:List Int)(c:Int)(d:List Con)(e:List Node):=aA [oC 0 [.nils,.nils,(nI 0),.nils],oC 1 [(.gl 2 4 0 a.length false),(.gl 6 1 0 (b++ [(a.length:Int)]).length false),(nI c),(.gl 4 2 0 d.length false)],oL 4 2 (jC d),oC 5 [(nI (a.length:Int))],oL 6 1 (jI (b++ [(a.length:Int)])),oL 7 4 (map ONode.av (a++map Node.o e))] 8
abbrev aXf:AV:=.tup [(.agg [(.ilst 4 (jN ([] :List Node)) true),(.ilst 1 (jI ([] :List Int)) true),(nI 0),(.ilst 2 (jC ([] :List Con)) true)]),(nI 3)]
abbrev cG (a b:Int)(c:List Pat)(d:List RT):AV:=.agg [(nI a),(nI b),(iP c),(.ilst 4 (RTs.av d) false)]
abbrev aPs (a:Nat)(b:Prog):=oC a [(iN b.nodes),(iI b.funs),(nI b.main),(iC b.cons)]
abbrev wM (a:Nat)(b c:Int)(d:List Pat)(e:List RT):=oC a [(nI b),(nI c),(iP d),(.ilst 4 (RTs.av e) false)]
abbrev aJv:AV:=.gl 2 4 0 ([] :List RT).length false
abbrev aPt (a:Nat):=oC a [(nI 0),(nI 0),.nils,.nils]
abbrev aPu (a:Nat):=oC a [.nils,.nils,(nI 0),.nils]
abbrev aCo (a:Nat)(b:List ONode):=oL a 4 (map ONode.av b)
abbrev uD (a:List RT):AV:=.ilst 4 (RTs.av a) false
def bD6(a:Prog)(b:Int):TS:=bC PP 77 [(Prog.av a),(nI b)] [] 0
def aDK(a:Prog)(l c d:Int)(e:List Int)(f:List Pat)(g i:Int)(j:List Pat)(k:Int)(b:List RT):TS:=⟨(tf 77 40 [kp 2 0,kp 4 1,kp 5 2,kp 6 3,(7,(nI k))] [kc f77 244,kl f77 244,.inBlock 0,kc f77 31]),[],[aPs 0 a,aPt 1,oC 2 [(nI c),(nI d),(iI e),(iP f)],oC 3 [(nI g),(nI i),(iP j),(.gl 4 4 0 b.length false)],oL 4 4 (RTs.av b)],5⟩
def aXg(a:Prog):TS:=bC PP 40 [(Prog.av a)] [] 0
def aDL(a:Prog)(c:Int)(b:List RT):TS:=⟨(tf 40 23 [kp 1 0,(2,.nils),(3,(.gl 1 4 0 b.length false)),(4,(nI c))] [kc f40 116,kl f40 116,.inBlock 0,kc f40 15]),[],[aPs 0 a,oL 1 4 (RTs.av b)],2⟩
def aXh(a:List ONode)(b c:Int)(d:List Pat)(e:List RT):TS:=bC PP 87 [(.gl 0 4 0 a.length false),(cG b c d e)] [aCo 0 a] 1
def aJw(a:List ONode)(b c:Int)(d:List Pat)(e:List RT):TS:=⟨(tf 87 47 [(0,(.gl 0 4 0 (a++ [(ONode.mk b c KV.nil d)]).length false)),kp 3 1,(4,.nils),(5,(nI (a.length:Int))),(6,(nI 0))] [kc f87 244,kl f87 244,.inBlock 0,kc f87 31]),[],[oL 0 4 (map ONode.av (a++ [(ONode.mk b c KV.nil d)])),wM 1 b c d e],2⟩
def qH(a:List ONode)(d e:Int)(f:List Pat)(g:List RT)(i:Int)(b:List ONode)(c:List Int):TS:=⟨(tf 87 47 [(0,(.gl 0 4 0 b.length false)),kp 3 1,(4,.nils),(5,(nI (a.length:Int))),(6,(nI i)),(36,(.gl 2 1 0 c.length false)),(38,(.ep 0 4 (0+ (a.length:Int).toNat) 2))] [ko f87 3912 13,kc f87 3913,.inBlock 1,kc f87 979,kl f87 244,.inBlock 0,kc f87 31]),[],[aCo 0 b,wM 1 d e f g,oL 2 1 (jI c)],3⟩
def aFD(a:List ONode)(f g:Int)(i:List Pat)(j:List RT)(k:Int)(b:List ONode)(l:List Int)(c:Option Addr)(d e:Nat):TS:=⟨(tf 87 47 [(0,(.gl 0 4 0 b.length false)),kp 3 1,(4,.nils),(5,(nI (a.length:Int))),(6,(nI k)),(36,(.val (Value.slice c d e))),(38,(.ep 0 4 (0+ (a.length:Int).toNat) 2))] [ko f87 3912 13,kc f87 3913,.inBlock 1,kc f87 979,kl f87 244,.inBlock 0,kc f87 31]),[],[aCo 0 b,wM 1 f g i j,(2,(.lstv (Value.slice c d e) 1 (jI l)),true)],3⟩
def aDM(b:List ONode)(c d:Int)(e:List Pat)(f:List RT)(a:List ONode)(g:List Int)(i:Value)(j:Int):TS:=⟨(tf 87 47 [(0,(.gl 0 4 0 a.length false)),kp 3 1,(4,.nils),(5,(nI (b.length:Int))),(6,(nI j))] [kc f87 244,kl f87 244,.inBlock 0,kc f87 31]),[],[aCo 0 a,wM 1 c d e f,(2,(.lstv i 1 (jI g)),true)],3⟩
def bD7(a:List RT)(b:Int)(c:List Con):TS:=bC PP 44 [(uD a),(nI b),(iC c)] [] 0
def aDN(d:List RT)(e:Int)(a:List Con)(f:Int)(b:List ONode)(c:List Int):TS:=⟨(tf 44 36 [(0,(uD d)),kp 6 0,kp 7 1,(8,(nI f))] [kc f44 116,kl f44 116,.inBlock 0,kc f44 15]),[],[aPu 0,oC 1 [(.gl 2 4 0 b.length false),(.gl 3 1 0 c.length false),(nI e),(.gl 4 2 0 a.length false)],aCo 2 b,oL 3 1 (jI c),oL 4 2 (jC a)],5⟩
def bD8(a b:Int)(c:List Pat)(d:List RT)(e f:Int):TS:=bC PP 180 [(cG a b c d),(nI e),(nI f)] [] 0
def yH(b j:Int)(c:List Pat)(d:List RT)(e f g i:Int)(a:List RT):TS:=⟨(tf 180 44 [(1,(nI e)),(2,(nI f)),kp 3 0,kp 6 1,(7,(.gl 2 4 0 a.length false)),(8,(nI i))] [kc f180 244,kl f180 244,.inBlock 0,kc f180 31]),[],[wM 0 b g c d,aPt 1,oL 2 4 (RTs.av a)],3⟩
def bD9(a b:Int)(c:List Pat)(d:List RT)(e:Int):TS:=bC PP 141 [(cG a b c d),(nI e)] [] 0
def aBD(b c:Int)(d:List Pat)(e:List RT)(f g i:Int)(a:List RT):TS:=⟨(tf 141 69 [(1,(nI f)),kp 2 0,kp 4 1,(6,(nI g)),(7,(.gl 2 4 0 a.length false)),(8,(nI i))] [kc f141 500,kl f141 500,.inBlock 0,kc f141 63]),[],[wM 0 b c d e,aPt 1,oL 2 4 (RTs.av a)],3⟩
def aXi(a:Prog):TS:=bC PP 43 [(Prog.av a)] [] 0
def aDO(a:Prog)(b:List Int)(c:Int):TS:=⟨(tf 43 26 [kp 1 0,kp 2 1,(3,(nI 0)),(4,(iI b)),(5,(nI c))] [kc f43 244,kl f43 244,.inBlock 0,kc f43 31]),[],[aPs 0 a,aPu 1],2⟩
def aXj(a:Prog):TS:=bC PP 39 [(Prog.av a)] [] 0
def aXk (b:Prog)(c:Int):=fun a d e=>(tT 0 (bD6 b c)<|gX Node.av 10 b.nodes c<|fun a=>.i [rn 23,.cnil 3 3 4] []<|gu 0 4 (RTs.av ([] :List RT))<|gv 0 3 3 (.gl 4 4 0 ([] :List RT).length false)<|.W 0 5 [0,1,2,3,4] (aDK b c a.op a.n a.kids a.pats a.op a.n a.pats 0 ([] :List RT))) a d e ⟨dO,trivial⟩
def aXl(i:Prog)(n o p:Int)(g:List Int)(q:List Pat)(j k:Int)(l:List Pat)(f:Int)(a:List RT):=tT 0 (aDK i n o p g q j k l f a)<|gl 6 bU g<|gd 2 24 (f< (g.length:Int)) (.y fun m:Int=>.y fun b:Int=>.y fun c:Int=>.y fun d:List Pat=>.y fun e:List RT=>.i [rn 4,.reg (rd 6 [.ans (.idx (bU m)),.d,.pure (cG b c d e),.d,.app (RTs.av (a++ [(RT.mk b c d e)])) (a++ [(RT.mk b c d e)]).length,.d,.d])] [hA (0≤f),.a (((g)[f.toNat]?) =some m) (aZ (f:=bU)),hA (aJ PP 77 [(Prog.av i),(nI m)] (cG b c d e)),.q (p:=0+a.length≤length (RTs.av a)) (sY aQ _),hA (length (a++ [(RT.mk b c d e)]) ≤1000000),.q (p:=take a.length (drop 0 (RTs.av a)) ++ (RTs.av [(RT.mk b c d e)]) = (RTs.av (a++ [(RT.mk b c d e)]))) (sZ aQ _ _),.q (p:=a.length+length (RTs.av [(RT.mk b c d e)]) =length (a++ [(RT.mk b c d e)])) (tA aQ _ _),hr (AV.gl 4 4 0 a.length false),hr (AV.gl 4 4 0 a.length false)]<|gw 4 26 (f+1)<|.W 3 7 [0,1,2,3,6] (aDK i n o p g q j k l (f+1) (a++ [(RT.mk b c d e)])))<|.i [rn 3,.cfrz 3 3 4 (RTs.av a)] [.q (p:=keylessL (RTs.av a) =true) dO,.q (p:=frzOk 4 4 (RTs.av a) (RTs.av a) (.gl 4 4 0 a.length false)) (oR aQ _)]<|gE 5 5 (cG j k l a)
def aXm:=fun a b c d e f g i j k l m n o p q r s t u v w=>aXl a b c d e f g i j k l|>.t r m n o p q s t u v w ⟨dO,trivial⟩
def aXn:=fun a b c d e f g i j k l m=>aXl a b c d e f g i j k l|>.f m tv
def aXo (a:Prog):=(tT 0 (aXg a)<|.i [rn 16,.nilL 3 4] []<|gu 0 1 (RTs.av ([] :List RT))<|gs 0 3 (.gl 1 4 0 ([] :List RT).length false)<|.W 0 2 [0,1] (aDL a 0 ([] :List RT))) ⟨dO,trivial⟩
def aXp(f:Prog)(g:Int)(a:List RT):=tT 0 (aDL f g a)<|gl 6 bU f.funs<|gd 2 9 (g< (f.funs.length:Int)) (.y fun i:Int=>.y fun b:Int=>.y fun c:Int=>.y fun d:List Pat=>.y fun e:List RT=>.i [rn 4,.reg (rd 5 [.ans (.idx (bU i)),.d,.pure (cG b c d e),.d,.app (RTs.av (a++ [(RT.mk b c d e)])) (a++ [(RT.mk b c d e)]).length,.d])] [hA (0≤g),.a (((f.funs)[g.toNat]?) =some i) (aZ (f:=bU)),hA (aJ PP 77 [(Prog.av f),(nI i)] (cG b c d e)),.q (p:=0+a.length≤length (RTs.av a)) (sY aQ _),hA (length (a++ [(RT.mk b c d e)]) ≤1000000),.q (p:=take a.length (drop 0 (RTs.av a)) ++ (RTs.av [(RT.mk b c d e)]) = (RTs.av (a++ [(RT.mk b c d e)]))) (sZ aQ _ _),.q (p:=a.length+length (RTs.av [(RT.mk b c d e)]) =length (a++ [(RT.mk b c d e)])) (tA aQ _ _)]<|gw 4 11 (g+1)<|.W 3 4 [0,3] (aDL f (g+1) (a++ [(RT.mk b c d e)])))<|.E 8 2 [1] (.gl 0 4 0 a.length false) [oL 0 4 (RTs.av a)] 1
def aXq:=fun a b c d e f g i j k l m n o=>aXp a b c|>.t j d e f g i k l m n o ⟨dO,trivial⟩
def aXr:=fun a b c d=>aXp a b c|>.f d ⟨dO,trivial⟩
def aXs (a:List ONode)(b c:Int)(d:List Pat)(e:List RT):=fun f=>(tT 0 (aXh a b c d e)<|ga 22 ONode.av a [(ONode.mk b c KV.nil d)]<|.W 9 4 [3,1] (aJw a b c d e)) f ⟨(aG _ (fun _=>dK _) _),trivial⟩
def aXt(a:List ONode)(c d:Int)(e:List Pat)(f:List RT):=tT 0 (aJw a c d e f)<|.i [rn 6,aL f] [.q (p:=((RTs.av f).length:Int) = (f.length:Int)) (fD aQ _)]<|gd 2 23 (0< (f.length:Int)) (.i [rn 10,.ans (.ix)] [hA (0≤ (a.length:Int)),hA ((a.length:Int) < (((a++ [(ONode.mk c d KV.nil e)]).length:Nat) :Int))]<|.y fun b:ONode=>gj ONode.av 1 (a++ [(ONode.mk c d KV.nil e)]) ((a.length:Int).toNat) b<|.i [.set 32 .nils] [.a (b.kv=KV.nil) (congrArg KV.av)]<|.i [rn 3,.nilL 32 1] []<|gu 0 3 (jI ([] :List Int))<|gs 0 32 (.gl 3 1 0 ([] :List Int).length false)<|ga 0 bU ([] :List Int) [(((a++ [(ONode.mk c d KV.nil e)]).length:Nat) :Int)]<|.i [.ans (.ix)] [hA (0≤ (a.length:Int)),hA ((a.length:Int) < (((a++ [(ONode.mk c d KV.nil e)]).length:Nat) :Int))]<|.W 1 5 [0,1,4] (qH a c d e f 0 (a++ [(ONode.mk c d KV.nil e)]) (([] :List Int) ++ [(((a++ [(ONode.mk c d KV.nil e)]).length:Nat) :Int)])))<|.y fun b:ONode=>.i [rn 8,.lw 0 (map ONode.av (set (a++ [(ONode.mk c d KV.nil e)]) a.length (ONode.mk b.op b.n (KV.row []) b.pats)))] [.a ((a++ [(ONode.mk c d KV.nil e)])[a.length]?=some b) (p':=(map ONode.av (a++ [(ONode.mk c d KV.nil e)])) ≠ []) aIF,.a ((a++ [(ONode.mk c d KV.nil e)])[a.length]?=some b∧b.kv=KV.nil) (p':=VW (map ONode.av (a++ [(ONode.mk c d KV.nil e)])) (map ONode.av (set (a++ [(ONode.mk c d KV.nil e)]) a.length (ONode.mk b.op b.n (KV.row []) b.pats)))) fun⟨ha,hb⟩=>(aU3 ha hb)]<|.i [.set 0 (.gl 0 4 0 (set (a++ [(ONode.mk c d KV.nil e)]) a.length (ONode.mk b.op b.n (KV.row []) b.pats)).length false)] [.q (p:=(AV.gl 0 4 0 (a++ [(ONode.mk c d KV.nil e)]).length false) = (.gl 0 4 0 (set (a++ [(ONode.mk c d KV.nil e)]) a.length (ONode.mk b.op b.n (KV.row []) b.pats)).length false)) (bG (length_set ..).symm)]<|.i [.set 4 (.gl 0 4 0 (set (a++ [(ONode.mk c d KV.nil e)]) a.length (ONode.mk b.op b.n (KV.row []) b.pats)).length false)] [.q (p:=(AV.gl 0 4 0 (a++ [(ONode.mk c d KV.nil e)]).length false) = (.gl 0 4 0 (set (a++ [(ONode.mk c d KV.nil e)]) a.length (ONode.mk b.op b.n (KV.row []) b.pats)).length false)) (bG (length_set ..).symm)]<|.i [.set 46 (.gl 0 4 0 (set (a++ [(ONode.mk c d KV.nil e)]) a.length (ONode.mk b.op b.n (KV.row []) b.pats)).length false)] [.q (p:=(AV.gl 0 4 0 (a++ [(ONode.mk c d KV.nil e)]).length false) = (.gl 0 4 0 (set (a++ [(ONode.mk c d KV.nil e)]) a.length (ONode.mk b.op b.n (KV.row []) b.pats)).length false)) (bG (length_set ..).symm)]<|.E 0 2 [0] (.gl 0 4 0 (set (a++ [(ONode.mk c d KV.nil e)]) a.length (ONode.mk b.op b.n (KV.row []) b.pats)).length false) [oL 0 4 (map ONode.av (set (a++ [(ONode.mk c d KV.nil e)]) a.length (ONode.mk b.op b.n (KV.row []) b.pats)))] 1
def aXu:=fun c d e f g i j a b k l m=>aXt c d e f g|>.t j a b i k l m a b ⟨(aG _ (fun _=>dK _) _),⟨kk,trivial⟩⟩
def aXv:=fun b c d e f g i a j=>aXt b c d e f|>.f i g a ⟨a,j⟩ ⟨(aG _ (fun _=>dK _) _),trivial⟩
def aXw (e:List ONode)(j k:Int)(l:List Pat)(g:List RT)(m:Int)(f:List ONode)(n:List Int)(b:Option Addr)(c d:Nat):=fun a o p q r i s t u v w=>(tT 0 (aFD e j k l g m f n b c d)<|.y fun a:ONode=>.i [.st (ONode.av a) (ONode.av (ONode.mk a.op a.n (KV.val (Value.slice b c d)) a.pats))] [.a (((f)[(e.length:Int).toNat]?) =some a) (cB (f:=ONode.av)),hr (some (ONode.av (ONode.mk a.op a.n (KV.val (Value.slice b c d)) a.pats)))]<|.i [.lset 0 (map ONode.av (set f ((e.length:Int).toNat) (ONode.mk a.op a.n (KV.val (Value.slice b c d)) a.pats)))] [.q (p:=(map ONode.av f).set (0+ (e.length:Int).toNat) (ONode.av (ONode.mk a.op a.n (KV.val (Value.slice b c d)) a.pats)) = (map ONode.av (set f ((e.length:Int).toNat) (ONode.mk a.op a.n (KV.val (Value.slice b c d)) a.pats)))) (mX _ _ _ _)]<|.i [.set 0 (.gl 0 4 0 (set f ((e.length:Int).toNat) (ONode.mk a.op a.n (KV.val (Value.slice b c d)) a.pats)).length false)] [.q (p:=(AV.gl 0 4 0 f.length false) = (.gl 0 4 0 (set f ((e.length:Int).toNat) (ONode.mk a.op a.n (KV.val (Value.slice b c d)) a.pats)).length false)) (bG (length_set ..).symm)]<|.y fun o:Int=>.y fun p:Int=>.y fun q:List Pat=>.y fun r:List RT=>giF aQ 6 g m (RT.mk o p q r)<|.y fun i:List Node=>gk 1 (.enter 87 [(.gl 0 4 0 (set f ((e.length:Int).toNat) (ONode.mk a.op a.n (KV.val (Value.slice b c d)) a.pats)).length false),(cG o p q r)]) [oL 0 4 (map ONode.av (set f ((e.length:Int).toNat) (ONode.mk a.op a.n (KV.val (Value.slice b c d)) a.pats))),wM 1 j k l g,(2,(.lstv (Value.slice b c d) 1 (jI n)),true)] 3 (.gl 3 4 0 ((set f ((e.length:Int).toNat) (ONode.mk a.op a.n (KV.val (Value.slice b c d)) a.pats)) ++map Node.o i).length false) [wM 1 j k l g,(2,(.lstv (Value.slice b c d) 1 (jI n)),true),oL 3 4 (map ONode.av ((set f ((e.length:Int).toNat) (ONode.mk a.op a.n (KV.val (Value.slice b c d)) a.pats)) ++map Node.o i))] 4<|gw 6 25 (m+1)<|.W 3 4 [3,1,2] (aDM e j k l g ((set f ((e.length:Int).toNat) (ONode.mk a.op a.n (KV.val (Value.slice b c d)) a.pats)) ++map Node.o i) n (Value.slice b c d) (m+1))) a s o p q r t u i v w ⟨(aG _ (fun _=>dK _) _),⟨kk,trivial⟩⟩
def aXx(c:List ONode)(i j:Int)(k:List Pat)(e:List RT)(b:List ONode)(d:List Int)(f:Value)(g:Int):=tT 0 (aDM c i j k e b d f g)<|.i [rn 6,aL e] [.q (p:=((RTs.av e).length:Int) = (e.length:Int)) (fD aQ _)]<|gd 2 23 (g< (e.length:Int)) (.i [rn 10,.ans (.ix)] [hA (0≤ (c.length:Int)),hA ((c.length:Int) < (b.length:Int))]<|.y fun a:ONode=>gj ONode.av 1 b ((c.length:Int).toNat) a<|.i [.set 32 (.val f)] [.a (a.kv=KV.val f) (congrArg KV.av)]<|.i [.unname 32 2] [hr f]<|.i [.set 32 (.gl 2 1 0 d.length false)] [.q (p:=(AV.gl 2 1 0 (jI d).length false) = (.gl 2 1 0 d.length false)) (bG (length_map ..))]<|ga 3 bU d [(b.length:Int)]<|.i [.ans (.ix)] [hA (0≤ (c.length:Int)),hA ((c.length:Int) < (b.length:Int))]<|.W 1 5 [0,1,4] (qH c i j k e g b (d++ [(b.length:Int)])))<|.y fun a:ONode=>.i [rn 8,.vfrz 2 0 (map ONode.av (set b c.length (ONode.mk a.op a.n (KV.row d) a.pats)))] [.a (b[c.length]?=some a) (p':=(map ONode.av b) ≠ []) aIF,hk bU d,.a (b[c.length]?=some a∧a.kv=KV.val f) (p':=VQ f 1 (jI d) (map ONode.av b) (map ONode.av (set b c.length (ONode.mk a.op a.n (KV.row d) a.pats)))) fun⟨ha,hb⟩=>(aU4 ha hb)]<|.i [.set 0 (.gl 0 4 0 (set b c.length (ONode.mk a.op a.n (KV.row d) a.pats)).length false)] [.q (p:=(AV.gl 0 4 0 b.length false) = (.gl 0 4 0 (set b c.length (ONode.mk a.op a.n (KV.row d) a.pats)).length false)) (bG (length_set ..).symm)]<|.i [.set 4 (.gl 0 4 0 (set b c.length (ONode.mk a.op a.n (KV.row d) a.pats)).length false)] [.q (p:=(AV.gl 0 4 0 b.length false) = (.gl 0 4 0 (set b c.length (ONode.mk a.op a.n (KV.row d) a.pats)).length false)) (bG (length_set ..).symm)]<|.i [.set 46 (.gl 0 4 0 (set b c.length (ONode.mk a.op a.n (KV.row d) a.pats)).length false)] [.q (p:=(AV.gl 0 4 0 b.length false) = (.gl 0 4 0 (set b c.length (ONode.mk a.op a.n (KV.row d) a.pats)).length false)) (bG (length_set ..).symm)]<|.E 0 3 [0] (.gl 0 4 0 (set b c.length (ONode.mk a.op a.n (KV.row d) a.pats)).length false) [oL 0 4 (map ONode.av (set b c.length (ONode.mk a.op a.n (KV.row d) a.pats)))] 1
def aXy:=fun c d e f g i j k l m n a b o p q=>aXx c d e f g i j k l|>.t n a b m o p q a b ⟨(aG _ (fun _=>dK _) _),⟨kk,trivial⟩⟩
def aXz:=fun b c d e f g i j k l m a n=>aXx b c d e f g i j k|>.f m l a ⟨a,n⟩ ⟨(aG _ (fun _=>dK _) _),trivial⟩
def aXA (b:List RT)(c:Int)(a:List Con):=fun d=>(tT 0 (bD7 b c a)<|.i [rn 8,.appN (jC a) a.length] [hA (a.length≤1000000),hr (jC a),.q (p:=length (jC a) =a.length) (length_map ..)]<|.i [rn 11,.cnil 2 0 4] []<|gu 0 3 (map ONode.av ([] :List ONode))<|gv 0 2 0 (.gl 3 4 0 ([] :List ONode).length false)<|.i [.cnil 2 1 1] []<|gu 0 4 (jI ([] :List Int))<|gv 0 2 1 (.gl 4 1 0 ([] :List Int).length false)<|.W 0 5 [0,2,3,4,1] (aDN b c a 0 ([] :List ONode) ([] :List Int))) d ⟨(aG _ (fun _=>dK _) _),⟨kk,⟨kk,trivial⟩⟩⟩
def aXB(e:List RT)(f:Int)(c:List Con)(g:Int)(a:List ONode)(b:List Int):=tT 0 (aDN e f c g a b)<|.i [rn 5,aL e] [.q (p:=((RTs.av e).length:Int) = (e.length:Int)) (fD aQ _)]<|gd 2 16 (g< (e.length:Int)) (ga 12 bU b [(a.length:Int)]<|.y fun j:Int=>.y fun k:Int=>.y fun l:List Pat=>.y fun m:List RT=>.y fun i:List Node=>.i [rn 3,.reg (rd 4 [.ans (.idx (RT.av (RT.mk j k l m))),.d,.call (.gl 7 4 0 (a++map Node.o i).length false) (aXe a b f c i),.d,.d])] [hA (0≤g),.a (((e)[g.toNat]?) =some (RT.mk j k l m)) (eM aQ),hA (Spec PP (.enter 87 [(.gl 2 4 0 a.length false),(cG j k l m)]) (aA [aPu 0,oC 1 [(.gl 2 4 0 a.length false),(.gl 6 1 0 (b++ [(a.length:Int)]).length false),(nI f),(.gl 4 2 0 c.length false)],aCo 2 a,oL 4 2 (jC c),oC 5 [(nI (a.length:Int))],oL 6 1 (jI (b++ [(a.length:Int)]))] 7) (.ret (.gl 7 4 0 (a++map Node.o i).length false)) (aXe a b f c i))]<|gw 4 18 (g+1)<|.W 3 8 [0,1,7,6,4] (aDN e f c (g+1) (a++map Node.o i) (b++ [(a.length:Int)])))<|.y fun d:List Node=>.i [rn 3,.lset 2 (jN d)] [.a (a=map Node.o d) (p':=(map ONode.av a) = (jN d)) aFt]<|.i [.cset 1 0 (.gl 2 4 0 d.length false)] [.a (d.length=a.length) (p':=(AV.gl 2 4 0 a.length false) = (.gl 2 4 0 d.length false)) (fun h=>(bG h.symm))]<|gy 0 1 0 2 4 Node.av d false<|gy 0 1 1 3 1 bU b false<|.E 5 5 [4] (.agg [(iN d),(iI b),(nI f),(.gl 0 2 0 c.length false)]) [oL 0 2 (jC c)] 1
def aXC:=fun a b c d e f g i j k l m n o p q r=>aXB a b c d e f|>.t m n g i j k l o p q r ⟨(aG _ (fun _=>dK _) _),⟨kk,⟨kk,trivial⟩⟩⟩
def aXD:=fun a b c d e f g i j k=>aXB a b c d e f|>.f i g j k ⟨kk,trivial⟩
def aPv(c a:Int)(e:List Pat)(f:List RT)(d b:Int):=tT 0 (bD8 c a e f d b)<|.b 12 12 (c==4) (gd 6 17 (a≥d) (gw 6 21 (a+b)<|.i [rn 14,.nilL 7 4] []<|gu 0 2 (RTs.av ([] :List RT))<|gs 0 7 aJv<|.W 0 3 [0,1,2] (yH c a e f d b (a+b) 0 ([] :List RT)))<|.i [rn 13,.nilL 7 4] []<|gu 0 2 (RTs.av ([] :List RT))<|gs 0 7 aJv<|.W 0 3 [0,1,2] (yH c a e f d b a 0 ([] :List RT)))<|.i [rn 19,.nilL 7 4] []<|gu 0 2 (RTs.av ([] :List RT))<|gs 0 7 aJv<|.W 0 3 [0,1,2] (yH c a e f d b a 0 ([] :List RT))
def aXE:=fun a b c d e f g i j=>aPv a b c d e f|>.t g|>.t i j ⟨dO,trivial⟩
def aXF:=fun a b c d e f g i=>aPv a b c d e f|>.t g|>.f i ⟨dO,trivial⟩
def aXG:=fun a b c d e f g=>aPv a b c d e f|>.f g ⟨dO,trivial⟩
def aXH(i n:Int)(j:List Pat)(f:List RT)(k l m g:Int)(a:List RT):=tT 0 (yH i n j f k l m g a)<|.i [rn 6,aL f] [.q (p:=((RTs.av f).length:Int) = (f.length:Int)) (fD aQ _)]<|gd 2 27 (g< (f.length:Int)) (.y fun o:Int=>.y fun p:Int=>.y fun q:List Pat=>.y fun r:List RT=>giF aQ 9 f g (RT.mk o p q r)<|.y fun b:Int=>.y fun c:Int=>.y fun d:List Pat=>.y fun e:List RT=>gp 3 180 [(cG o p q r),(nI k),(nI l)] (cG b c d e)<|.i [rn 1,.app (RTs.av (a++ [(RT.mk b c d e)])) (a++ [(RT.mk b c d e)]).length] [.q (p:=0+a.length≤length (RTs.av a)) (sY aQ _),hA (length (a++ [(RT.mk b c d e)]) ≤1000000),.q (p:=take a.length (drop 0 (RTs.av a)) ++ (RTs.av [(RT.mk b c d e)]) = (RTs.av (a++ [(RT.mk b c d e)]))) (sZ aQ _ _),.q (p:=a.length+length (RTs.av [(RT.mk b c d e)]) =length (a++ [(RT.mk b c d e)])) (tA aQ _ _)]<|gw 6 29 (g+1)<|.W 3 5 [0,1,4] (yH i n j f k l m (g+1) (a++ [(RT.mk b c d e)])))<|.i [rn 14,.cfrz 1 3 2 (RTs.av a)] [.q (p:=keylessL (RTs.av a) =true) dO,.q (p:=frzOk 2 4 (RTs.av a) (RTs.av a) (.gl 2 4 0 a.length false)) (oR aQ _)]<|gE 0 3 (cG i m j a)
def aXI:=fun a b c d e f g i j k l m n o p q r s t u v w x=>aXH a b c d e f g i j|>.t s k l m n t u o p q r v w x ⟨dO,trivial⟩
def aXJ:=fun a b c d e f g i j k=>aXH a b c d e f g i j|>.f k tv
def aXK(l m:Int)(n:List Pat)(b:List RT)(o:Int):=tT 0 (bD9 l m n b o)<|jR 9 140 [(cG l m n b)]<|fun G=>.b 1 11 G (.y fun H:Int=>.y fun I:Int=>.y fun J:List Pat=>.y fun a:List RT=>giF aQ 5 b (0:Int) (RT.mk H I J a)<|.y fun c:Int=>.y fun d:Int=>.y fun e:List Pat=>.y fun f:List RT=>.y fun g:Int=>.y fun i:Int=>.y fun j:List Pat=>.y fun k:List RT=>.y fun p:Int=>.y fun q:Int=>.y fun r:List Pat=>.y fun s:List RT=>.y fun t:Int=>.y fun u:Int=>.y fun v:List Pat=>.y fun w:List RT=>.y fun x:Int=>.y fun y:Int=>.y fun z:List Pat=>.y fun A:List RT=>.y fun B:Int=>.y fun C:Int=>.y fun D:List Pat=>.y fun F:List RT=>.i [rn 5,.reg (.d::.d::.ans (.idx (RT.av (RT.mk c d e f)))::rd 3 (.ans (.idx (RT.av (RT.mk g i j k)))::rd 3 [.ans (.idx (RT.av (RT.mk p q r s))),.d,.d,.pure (cG t u v w),.pure (cG x y z A),.pure (cG B C D F),.d]))] [hA (0≤ (0:Int)),.a (((a)[(0:Int).toNat]?) =some (RT.mk c d e f)) (eM aQ),hA (0≤ (1:Int)),.a (((a)[(1:Int).toNat]?) =some (RT.mk g i j k)) (eM aQ),hA (0≤ (1:Int)),.a (((b)[(1:Int).toNat]?) =some (RT.mk p q r s)) (eM aQ),hA (aJ PP 180 [(cG p q r s),(nI o),(nI 1)] (cG t u v w)),hA (aJ PP 85 [(cG g i j k),(cG t u v w)] (cG x y z A)),hA (aJ PP 85 [(cG c d e f),(cG x y z A)] (cG B C D F)),hr (AV.agg [(nI g),(nI i),(iP j),(uD k)]),hr (AV.agg [(nI g),(nI i),(iP j),(uD k)]),hr (AV.ilst 4 (RTs.av a) false),hr (AV.ilst 4 (RTs.av a) false),hr (AV.agg [(nI c),(nI d),(iP e),(uD f)]),hr (AV.agg [(nI c),(nI d),(iP e),(uD f)]),hr (AV.agg [(nI c),(nI d),(iP e),(uD f)]),hr (AV.ilst 4 (RTs.av a) false),hr (AV.ilst 4 (RTs.av a) false),hr (AV.ilst 4 (RTs.av a) false)]<|gE 1 3 (cG B C D F))<|gpI 5 179 [(cG l m n b)]<|fun K=>.i [rn 13,.nilL 7 4] []<|gu 0 2 (RTs.av ([] :List RT))<|gs 0 7 aJv<|.W 0 3 [0,1,2] (aBD l m n b o K 0 ([] :List RT))
def aXL:=fun c d e f g i j k l m n o p q r s t u v w x y z A B C D F G H I J K L M N a O Q b R S T U V=>aXK c d e f g i M|>.t N j k l m a O n o p q r s t u v w x y z A B C D F G H I J K L a Q b R b S T U V tv
def aXM:=fun a b c d e f g i j k=>aXK a b c d e f i|>.f j g k ⟨dO,trivial⟩
def aPw(m n:Int)(o:List Pat)(k:List RT)(p q l:Int)(a:List RT):=tT 0 (aBD m n o k p q l a)<|.i [rn 6,aL k] [.q (p:=((RTs.av k).length:Int) = (k.length:Int)) (fD aQ _)]<|gd 2 38 (l< (k.length:Int)) (.b 10 43 (l==q) (.y fun b:Int=>.y fun c:Int=>.y fun d:List Pat=>.y fun e:List RT=>gp 4 83 [(nI p)] (cG b c d e)<|.i [rn 1,.app (RTs.av (a++ [(RT.mk b c d e)])) (a++ [(RT.mk b c d e)]).length] [.q (p:=0+a.length≤length (RTs.av a)) (sY aQ _),hA (length (a++ [(RT.mk b c d e)]) ≤1000000),.q (p:=take a.length (drop 0 (RTs.av a)) ++ (RTs.av [(RT.mk b c d e)]) = (RTs.av (a++ [(RT.mk b c d e)]))) (sZ aQ _ _),.q (p:=a.length+length (RTs.av [(RT.mk b c d e)]) =length (a++ [(RT.mk b c d e)])) (tA aQ _ _)]<|gw 6 40 (l+1)<|.W 3 5 [0,1,4] (aBD m n o k p q (l+1) (a++ [(RT.mk b c d e)])))<|.y fun b:Int=>.y fun c:Int=>.y fun d:List Pat=>.y fun e:List RT=>giF aQ 6 k l (RT.mk b c d e)<|.y fun f:Int=>.y fun g:Int=>.y fun i:List Pat=>.y fun j:List RT=>gp 2 180 [(cG b c d e),(nI p),(nI 1)] (cG f g i j)<|.i [rn 1,.app (RTs.av (a++ [(RT.mk f g i j)])) (a++ [(RT.mk f g i j)]).length] [.q (p:=0+a.length≤length (RTs.av a)) (sY aQ _),hA (length (a++ [(RT.mk f g i j)]) ≤1000000),.q (p:=take a.length (drop 0 (RTs.av a)) ++ (RTs.av [(RT.mk f g i j)]) = (RTs.av (a++ [(RT.mk f g i j)]))) (sZ aQ _ _),.q (p:=a.length+length (RTs.av [(RT.mk f g i j)]) =length (a++ [(RT.mk f g i j)])) (tA aQ _ _)]<|gw 6 40 (l+1)<|.W 3 5 [0,1,4] (aBD m n o k p q (l+1) (a++ [(RT.mk f g i j)])))<|.y fun b:Int=>.y fun c:Int=>.y fun d:List Pat=>.y fun e:List RT=>giF aQ 7 k q (RT.mk b c d e)<|.i [rn 14,.frz 67 2 (RTs.av a)] [.q (p:=keylessL (RTs.av a) =true) dO,.q (p:=frzOk 2 4 (RTs.av a) (RTs.av a) (.agg [(nI m),(nI n),(iP o),(.gl 2 4 0 a.length false)])) (by simp [frzOk,frzOkL,dD,aQ,take_of_length_le])]<|.y fun f:Int=>.y fun g:Int=>.y fun i:List Pat=>.y fun j:List RT=>gp 0 85 [(cG b c d e),(cG m n o a)] (cG f g i j)<|gE 3 4 (cG f g i j)
def aXN:=fun a b c d e f g i j k l m n o p q r=>aPw a b c d e f g i|>.t n|>.t o j k l m p q r ⟨dO,trivial⟩
def aXO:=fun a b c d e f g i j k l m n o p q r s t u v w x=>aPw a b c d e f g i|>.t r|>.f s j k l m t u n o p q v w x ⟨dO,trivial⟩
def aXP:=fun a b c d e f g i j k l m n o p q r s t u=>aPw a b c d e f g i|>.f r j k l m s t n o p q u tv
def aXQ(a:Prog):=tT 0 (aXi a)<|gl 11 Node.av a.nodes<|gd 2 9 ((a.nodes.length:Int) >300) (.i [rn 8,.cnilI 1 0 4] []<|.i [.cnilI 1 1 1] []<|.i [.cnilI 1 3 2] []<|gE 0 2 aXf)<|.y fun b:List Int=>gp 5 86 [(Prog.av a)] (iI b)<|.W 9 2 [0,1] (aDO a b 0)
def aXR:=fun a b=>aXQ a|>.t b tv
def aXS:=fun a b c d=>aXQ a|>.f c b d tv
def aJx(c:Prog)(a:List Int)(b:Int):=tT 0 (aDO c a b)<|gl 5 bU a<|gd 2 16 (b< (a.length:Int)) (gX bU 8 a b<|fun d=>gd 3 23 (d>30) (.i [rn 8,.cnilI 1 0 4] []<|.i [.cnilI 1 1 1] []<|.i [.cnilI 1 3 2] []<|gE 0 2 aXf)<|gw 6 18 (b+1)<|.W 3 2 [0,1] (aDO c a (b+1)))<|gE 9 2 (.tup [(Prog.av c),(nI 0)])
def aXT:=fun a b c d e f g i=>aJx a b c|>.t e d f g|>.t i tv
def aXU:=fun a b c d e f g i j=>aJx a b c|>.t e d f g|>.f i j tv
def aXV:=fun a b c d=>aJx a b c|>.f d tv
def aJy(a:Prog):=tT 0 (aXj a)<|jR 9 27 [(Prog.av a)]<|fun b=>.b 2 5 (!b) (gE 6 1 (nI 2))<|jR 6 58 [(Prog.av a)]<|fun c=>.b 2 8 (!c) (gE 6 1 (nI 7))<|gE 7 1 (nI 0)
def aXW:=fun a b c d=>aJy a b c|>.t d tv
def aXX:=fun a b c d e f g=>aJy a b d|>.f e c f|>.t g tv
def aXY:=fun a b c d e f g=>aJy a b d|>.f e c f|>.f g tv
mutual
theorem aMa {p:Prog}(hf:aFb p) :∀ (t:XT) (a:Int),IsTree p t a→aJ PP 77 [Prog.av p,.int .i64 a] (RT.av t)
 | .mk o n ks ps,a,h=>by
  simp only [IsTree]at h;obtain⟨h0,nd,h1,rfl,rfl,rfl,h5⟩ :=h;obtain⟨f1,_⟩ :=hf nd (mem_of_getElem? h1);refine aF (by kernel_rfl) rfl (oV _) ((aXk p a nd h0 h1).ends ?_);exact aMb hf a nd.op nd.n nd.kids nd.pats f1 ks [] 0 (by simpa using h5) rfl
theorem aMb {p:Prog}(hf:aFb p)(a o n:Int)(kids:List Int)(ps:List Pat)(hk:kids.length<1000000) :∀ (ts dn:List XT) (i:Nat),aR p ts (kids.drop i) →dn.length=i →
  Ends PP 0 (aDK p a o n kids ps o n ps (i:Int) dn).as (.ret (RT.av (.mk o n (dn++ts) ps))) (aA [] 0)
 | [],dn,i,h,h1=>by
  simp only [aR]at h;have hi:=bE h;rw [append_nil];exact aXn p a o n kids ps o n ps (i:Int) dn sd
 | .mk a1 a2 a3 a4::ts,dn,i,h,h1=>by
  simp only [aR]at h;obtain⟨k,l',h3,h4,h5⟩ :=h;obtain⟨g1,g2,g3⟩ :=bB h3;refine(aXm p a o n kids ps o n ps (i:Int) dn k a1 a2 a4 a3 sd sd sd (aMa hf (.mk a1 a2 a3 a4) k h4) (by simp;omega) sd).ends ?_;have:=aMb hf a o n kids ps hk ts (dn++ [.mk a1 a2 a3 a4]) (i+1) (by rw [g2];exact h5) (by simp [h1]);rw [append_assoc]at this;exact this
end
theorem aMc {p:Prog}(hf:aFb p)(hl:p.funs.length≤1000) :∀ (ts dn:List XT) (i:Nat),aR p ts (p.funs.drop i) →dn.length=i →
  Ends PP 0 (aDL p (i:Int) dn).as (.ret (.gl 0 4 0 (length (dn++ts)) false)) (aA [(0,(.lst 4 (RTs.av (dn++ts))),true)] 1)
 | [],dn,i,h,h1=>by
  simp only [aR]at h;have hi:=bE h;rw [append_nil];exact aXr p (i:Int) dn sd
 | .mk a1 a2 a3 a4::ts,dn,i,h,h1=>by
  simp only [aR]at h;obtain⟨k,l',h3,h4,h5⟩ :=h;obtain⟨g1,g2,g3⟩ :=bB h3;refine(aXq p (i:Int) dn k a1 a2 a4 a3 sd sd sd (aMa hf (.mk a1 a2 a3 a4) k h4) (by simp;omega) sd).ends ?_;have:=aMc hf hl ts (dn++ [.mk a1 a2 a3 a4]) (i+1) (by rw [g2];exact h5) (by simp [h1]);rw [append_assoc]at this;exact this
theorem aMd {p:Prog}(hf:aFb p)(hl:p.funs.length≤1000){ts:List XT}(h:aR p ts p.funs) :eK PP 0 (.enter 40 [Prog.av p]) (aA [] 0) (.ret (.gl 0 4 0 (length ts) false)) (aA [(0,(.lst 4 (RTs.av ts)),true)] 1) :=
 ⟨(aXg p).as.fr,by kernel_rfl,(aXo p).ends (by simpa using aMc hf hl ts [] 0 (by simpa using h) rfl)⟩
theorem bEa {fr o n:Int}(h:0≤fr) :mvN fr 1 o n=if o=4 then(if n≥fr then n+1 else n)else n:=by
 unfold mvN;by_cases a:o=4
 · by_cases b:n≥fr
   ·rw [if_pos ⟨a,by omega,b⟩,if_pos a,if_pos b]
   ·rw [if_neg (fun g=>b g.2.2),if_pos a,if_neg b]
 ·rw [if_neg (fun g=>a g.1),if_neg a]
mutual
theorem aFE {fr:Int}(h0:0≤fr) :∀ (t:XT),OkT t→aJ PP 180 [RT.av t,.int .i64 fr,.int .i64 1] (RT.av (pJ fr 1 t))
 | .mk o n ks ps,h=>by
  simp only [OkT]at h;obtain⟨h1,h2,h3⟩ :=h;refine aF (by kernel_rfl) (by simp [keylessL,keyless,oV]) (oV _) ?_;have lp:=aMe h0 o n ks ps h2 (mvN fr 1 o n) ks [] 0 rfl rfl h3;simp only [pJ];rw [bEa h0]at lp ⊢;by_cases a:o=4
  · rw [if_pos a]at lp ⊢;by_cases b:n≥fr
    · rw [if_pos b]at lp ⊢;have:=h1 a;exact(aXE o n ps ks fr 1 (by simpa using a) sd sd).ends lp
    · rw [if_neg b]at lp ⊢;exact(aXF o n ps ks fr 1 (by simpa using a) sd).ends lp
  · rw [if_neg a]at lp ⊢;exact(aXG o n ps ks fr 1 (by simpa using a)).ends lp
theorem aMe {fr:Int}(h0:0≤fr)(o n:Int)(ks:List XT)(ps:List Pat)(hk:ks.length<1000000)(n':Int) :∀ (tl dn:List XT) (i:Nat),ks.drop i=tl→dn.length=i→aC7 tl →
  Ends PP 0 (yH o n ps ks fr 1 n' (i:Int) dn).as (.ret (RT.av (.mk o n' (dn++rP fr 1 tl) ps))) (aA [] 0)
 | [],dn,i,h,h1,_=>by
  have hi:=bE h;simp only [rP,append_nil];exact aXJ o n ps ks fr 1 n' (i:Int) dn sd
 | .mk a1 a2 a3 a4::tl,dn,i,h,h1,h3=>by
  simp only [aC7]at h3;obtain⟨g1,g2,g3⟩ :=bB h;have ih:=aFE h0 (.mk a1 a2 a3 a4) h3.1;simp only [pJ]at ih;refine(aXI o n ps ks fr 1 n' (i:Int) dn a1 a2 a4 a3 a1 (mvN fr 1 a1 a2) a4 (rP fr 1 a3) sd sd sd ih (by simp;omega) sd).ends ?_;have:=aMe h0 o n ks ps hk n' tl (dn++ [.mk a1 (mvN fr 1 a1 a2) (rP fr 1 a3) a4]) (i+1) g2 (by simp [h1]) h3.2;rw [append_assoc]at this;simp only [rP,pJ];exact this
end
theorem aXZ (t:XT) :aJ PP 78 [RT.av t] (.bool (aG0 t)) :=by
 obtain⟨o,n,ks,ps⟩ :=t;refine aF (by kernel_rfl) (by simp [keylessL,oV]) rfl ?_;show Ends PP 0 _ (.ret (.bool (decide (o=1) ||decide (o=2) ||decide (o=3) ||decide (o=4)))) _;by_cases a:o=1
 · rw [show(decide (o=1) ||decide (o=2) ||decide (o=3) ||decide (o=4)) =true by simp [a]];exact aWM o n ps ks (by simpa using a)
 by_cases b:o=2
 · rw [show(decide (o=1) ||decide (o=2) ||decide (o=3) ||decide (o=4)) =true by simp [b]];exact aWN o n ps ks (by simpa using a) (by simpa using b)
 by_cases c:o=3
 · rw [show(decide (o=1) ||decide (o=2) ||decide (o=3) ||decide (o=4)) =true by simp [c]];exact aWO o n ps ks (by simpa using a) (by simpa using b) (by simpa using c)
 have e:=aWP o n ps ks (by simpa using a) (by simpa using b) (by simpa using c);rw [show(decide (o=1) ||decide (o=2) ||decide (o=3) ||decide (o=4)) = (o== (4:Int))by simp [a,b,c,Bool.beq_eq_decide_eq]];exact e
def cR (o:Int)(l:Nat) :Nat:=if o=6∨o=9∨o=10∨o=11∨o=12∨o=13∨o=18∨o=22 then 2 else if o=14 then l else if o=7∨o=8∨o=15∨o=16∨o=17∨o=19∨o=20∨o=23∨o=24∨o=26 then 1 else 0
theorem aS2 (x:Node) :aJ PP 106 [Node.av x] (.int .i64 ((cR x.op x.kids.length:Nat) :Int)) :=by
 refine aF (by kernel_rfl) rfl rfl ?_;by_cases n0:x.op=6
 · have e:cR x.op x.kids.length=2:=by unfold cR;simp [n0]
   rw [e];exact aWR x (by simpa using n0)
 by_cases n1:x.op=9
 · have e:cR x.op x.kids.length=2:=by unfold cR;simp [n1]
   rw [e];exact aWS x (by simpa using n0) (by simpa using n1)
 by_cases n2:x.op=10
 · have e:cR x.op x.kids.length=2:=by unfold cR;simp [n2]
   rw [e];exact aWT x (by simpa using n0) (by simpa using n1) (by simpa using n2)
 by_cases n3:x.op=11
 · have e:cR x.op x.kids.length=2:=by unfold cR;simp [n3]
   rw [e];exact aWU x (by simpa using n0) (by simpa using n1) (by simpa using n2) (by simpa using n3)
 by_cases n4:x.op=12
 · have e:cR x.op x.kids.length=2:=by unfold cR;simp [n4]
   rw [e];exact aWV x (by simpa using n0) (by simpa using n1) (by simpa using n2) (by simpa using n3) (by simpa using n4)
 by_cases n5:x.op=13
 · have e:cR x.op x.kids.length=2:=by unfold cR;simp [n5]
   rw [e];exact aWW x (by simpa using n0) (by simpa using n1) (by simpa using n2) (by simpa using n3) (by simpa using n4) (by simpa using n5)
 by_cases n6:x.op=18
 · have e:cR x.op x.kids.length=2:=by unfold cR;simp [n6]
   rw [e];exact aWX x (by simpa using n0) (by simpa using n1) (by simpa using n2) (by simpa using n3) (by simpa using n4) (by simpa using n5) (by simpa using n6)
 by_cases n7:x.op=22
 · have e:cR x.op x.kids.length=2:=by unfold cR;simp [n7]
   rw [e];exact aWY x (by simpa using n0) (by simpa using n1) (by simpa using n2) (by simpa using n3) (by simpa using n4) (by simpa using n5) (by simpa using n6) (by simpa using n7)
 by_cases n8:x.op=14
 · have e:cR x.op x.kids.length=x.kids.length:=by unfold cR;simp [n8]
   rw [e];exact aWZ x (by simpa using n0) (by simpa using n1) (by simpa using n2) (by simpa using n3) (by simpa using n4) (by simpa using n5) (by simpa using n6) (by simpa using n7) (by simpa using n8)
 by_cases n9:x.op=7
 · have e:cR x.op x.kids.length=1:=by unfold cR;simp [n9]
   rw [e];exact aW0 x (by simpa using n0) (by simpa using n1) (by simpa using n2) (by simpa using n3) (by simpa using n4) (by simpa using n5) (by simpa using n6) (by simpa using n7) (by simpa using n8) (by simpa using n9)
 by_cases n10:x.op=8
 · have e:cR x.op x.kids.length=1:=by unfold cR;simp [n10]
   rw [e];exact aSS x (by simpa using n0) (by simpa using n1) (by simpa using n2) (by simpa using n3) (by simpa using n4) (by simpa using n5) (by simpa using n6) (by simpa using n7) (by simpa using n8) (by simpa using n9) (by simpa using n10)
 by_cases n11:x.op=15
 · have e:cR x.op x.kids.length=1:=by unfold cR;simp [n11]
   rw [e];exact aST x (by simpa using n0) (by simpa using n1) (by simpa using n2) (by simpa using n3) (by simpa using n4) (by simpa using n5) (by simpa using n6) (by simpa using n7) (by simpa using n8) (by simpa using n9) (by simpa using n10) (by simpa using n11)
 by_cases n12:x.op=16
 · have e:cR x.op x.kids.length=1:=by unfold cR;simp [n12]
   rw [e];exact aSU x (by simpa using n0) (by simpa using n1) (by simpa using n2) (by simpa using n3) (by simpa using n4) (by simpa using n5) (by simpa using n6) (by simpa using n7) (by simpa using n8) (by simpa using n9) (by simpa using n10) (by simpa using n11) (by simpa using n12)
 by_cases n13:x.op=17
 · have e:cR x.op x.kids.length=1:=by unfold cR;simp [n13]
   rw [e];exact aSV x (by simpa using n0) (by simpa using n1) (by simpa using n2) (by simpa using n3) (by simpa using n4) (by simpa using n5) (by simpa using n6) (by simpa using n7) (by simpa using n8) (by simpa using n9) (by simpa using n10) (by simpa using n11) (by simpa using n12) (by simpa using n13)
 by_cases n14:x.op=19
 · have e:cR x.op x.kids.length=1:=by unfold cR;simp [n14]
   rw [e];exact aSW x (by simpa using n0) (by simpa using n1) (by simpa using n2) (by simpa using n3) (by simpa using n4) (by simpa using n5) (by simpa using n6) (by simpa using n7) (by simpa using n8) (by simpa using n9) (by simpa using n10) (by simpa using n11) (by simpa using n12) (by simpa using n13) (by simpa using n14)
 by_cases n15:x.op=20
 · have e:cR x.op x.kids.length=1:=by unfold cR;simp [n15]
   rw [e];exact aSX x (by simpa using n0) (by simpa using n1) (by simpa using n2) (by simpa using n3) (by simpa using n4) (by simpa using n5) (by simpa using n6) (by simpa using n7) (by simpa using n8) (by simpa using n9) (by simpa using n10) (by simpa using n11) (by simpa using n12) (by simpa using n13) (by simpa using n14) (by simpa using n15)
 by_cases n16:x.op=23
 · have e:cR x.op x.kids.length=1:=by unfold cR;simp [n16]
   rw [e];exact aSY x (by simpa using n0) (by simpa using n1) (by simpa using n2) (by simpa using n3) (by simpa using n4) (by simpa using n5) (by simpa using n6) (by simpa using n7) (by simpa using n8) (by simpa using n9) (by simpa using n10) (by simpa using n11) (by simpa using n12) (by simpa using n13) (by simpa using n14) (by simpa using n15) (by simpa using n16)
 by_cases n17:x.op=24
 · have e:cR x.op x.kids.length=1:=by unfold cR;simp [n17]
   rw [e];exact aSZ x (by simpa using n0) (by simpa using n1) (by simpa using n2) (by simpa using n3) (by simpa using n4) (by simpa using n5) (by simpa using n6) (by simpa using n7) (by simpa using n8) (by simpa using n9) (by simpa using n10) (by simpa using n11) (by simpa using n12) (by simpa using n13) (by simpa using n14) (by simpa using n15) (by simpa using n16) (by simpa using n17)
 by_cases n18:x.op=26
 · have e:cR x.op x.kids.length=1:=by unfold cR;simp [n18]
   rw [e];exact aS0 x (by simpa using n0) (by simpa using n1) (by simpa using n2) (by simpa using n3) (by simpa using n4) (by simpa using n5) (by simpa using n6) (by simpa using n7) (by simpa using n8) (by simpa using n9) (by simpa using n10) (by simpa using n11) (by simpa using n12) (by simpa using n13) (by simpa using n14) (by simpa using n15) (by simpa using n16) (by simpa using n17) (by simpa using n18)
 have e:cR x.op x.kids.length=0:=by unfold cR;simp [n0,n1,n2,n3,n4,n5,n6,n7,n8,n9,n10,n11,n12,n13,n14,n15,n16,n17,n18]
 rw [e];exact aS1 x (by simpa using n0) (by simpa using n1) (by simpa using n2) (by simpa using n3) (by simpa using n4) (by simpa using n5) (by simpa using n6) (by simpa using n7) (by simpa using n8) (by simpa using n9) (by simpa using n10) (by simpa using n11) (by simpa using n12) (by simpa using n13) (by simpa using n14) (by simpa using n15) (by simpa using n16) (by simpa using n17) (by simpa using n18)
theorem aX0 (o n:Int)(ks:List XT)(ps:List Pat)(hl:ks.length≤1000) :aJ PP 82 [RT.av (.mk o n ks ps)] (.int .i64 ((cR o ks.length:Nat) :Int)) :=by
 refine aF (by kernel_rfl) (by simp [keylessL,oV]) rfl ?_;have h:=aS2 ⟨o,0,replicate ks.length 0,ps⟩;simp only [List.length_replicate]at h;refine aWQ o n ps ks _ (by omega) (by simp) (aG6 h rfl (fun E i a a' c h1 h2 hv=>?_))
 match i,h1,h2 with
 | 0,h1,h2=>
  simp only [getElem?_cons_zero,Option.some.injEq]at h1 h2;subst h1 h2;simp only [VR]at hv;obtain⟨us,rfl,h2⟩ :=hv;obtain⟨u1,r1,rfl,a1,h2⟩ :=h2.cons_inv;obtain⟨u2,r2,rfl,a2,h2⟩ :=h2.cons_inv;obtain⟨u3,r3,rfl,a3,h2⟩ :=h2.cons_inv;show VR E (.agg [.int .i64 o,.int .i64 0,.ilst 1 (map bU (replicate ks.length 0)) false,.ilst 4 (av ps) false]) _;simp only [VR];exact⟨_,rfl,VRs.cons (by simpa only [VR]using a1) (VRs.cons (by simpa only [VR]using a2) (VRs.cons (fX a3) h2))⟩
 |i+1,h1,h2=>simp at h1
theorem aS3 {E:Emb}{v:Value}(h:VR E .nils v) :VR E (.ilst 1 (map bU []) false) v:=by
 simp only [VR]at h ⊢;subst h;exact⟨[],by simp [VRs],fun _ hu=>by(cases hu),.inl ⟨rfl,none,0,rfl,fun _=>rfl,fun h=>by(cases h)⟩⟩
theorem aX1 (o n:Int)(ks:List XT)(ps:List Pat)(f3:∀q∈ps,bW q≤1000)(f6:∀q∈ps,bnm q=rnm q)(k:Int)(hk:0≤k∧k≤1000)(h7:o=7→k≤1)(hp:o=15→0<k→∃q,ps[(k-1).toNat]?=some q) :aJ PP 84 [RT.av (.mk o n ks ps),.int .i64 k] (.int .i64 (cI o ps k)) :=by
 have h5 :aJ PP 121 [Node.av ⟨o,0,[],ps⟩,.int .i64 k] (.int .i64 (cI o ps k)) :=by
  refine aF (by kernel_rfl) rfl rfl ?_;refine aAn o ps k (fun z=>Ends PP 0 _ (.ret (.int .i64 z)) _) (fun h=>?_) (fun h h15 hk0 q hq'=>?_) hp (fun h hn=>?_)
  · by_cases a:o=5
    ·exact aGP ⟨o,0,[],ps⟩ k (by simpa using a)
    · by_cases b:o=27
      ·exact aGQ ⟨o,0,[],ps⟩ k (by simpa using a) (by simpa using b)
      · have c:o=7∧k=1:=by omega
        have e:=aB8 ⟨o,0,[],ps⟩ k (by simpa using a) (by simpa using b) (by simpa using c.1);rw [c.2]at e;rw [c.2];exact e
  · obtain⟨a,b,c,d⟩ :=q;have:=f3 _ (mem_of_getElem? hq');rw [f6 _ (mem_of_getElem? hq')];exact aGR ⟨o,0,[],ps⟩ k a b c d _ (by simp;omega) (by simp;omega) (by simp;omega) (by simpa using h15) sd sd (by omega) hq' (wF (.mk a b c d) (by omega))
  · have a:¬o=5:=fun e=>h (.inl e);have b:¬o=27:=fun e=>h (.inr (.inl e));by_cases c:o=7
    · have d:¬k=1:=fun e=>h (.inr (.inr ⟨c,e⟩));have e0:k=0:=by have:=h7 c;omega
      have e:=aB8 ⟨o,0,[],ps⟩ k (by simpa using a) (by simpa using b) (by simpa using c);rw [e0]at e;rw [e0];exact e
    · by_cases e:o=15
      ·exact aGS ⟨o,0,[],ps⟩ k (by simpa using a) (by simpa using b) (by simpa using c) (by simpa using e) (by simp;omega)
      ·exact aGT ⟨o,0,[],ps⟩ k (by simpa using a) (by simpa using b) (by simpa using c) (by simpa using e)
 refine aF (by kernel_rfl) (by simp [keylessL,keyless,oV]) rfl ?_;refine aW3 o n ps ks k _ (aG6 h5 rfl (fun E i a a' c h1 h2 hv=>?_))
 match i,h1,h2 with
 | 0,h1,h2=>
  simp only [getElem?_cons_zero,Option.some.injEq]at h1 h2;subst h1 h2;simp only [VR]at hv;obtain⟨us,rfl,h2⟩ :=hv;obtain⟨u1,r1,rfl,a1,h2⟩ :=h2.cons_inv;obtain⟨u2,r2,rfl,a2,h2⟩ :=h2.cons_inv;obtain⟨u3,r3,rfl,a3,h2⟩ :=h2.cons_inv;show VR E (.agg [.int .i64 o,.int .i64 0,.ilst 1 (map bU []) false,.ilst 4 (av ps) false]) _;simp only [VR];exact⟨_,rfl,VRs.cons (by simpa only [VR]using a1) (VRs.cons (by simpa only [VR]using a2) (VRs.cons (aS3 a3) h2))⟩
 |1,h1,h2=>simp at h1 h2;subst h1 h2;exact hv
 |i+2,h1,h2=>simp at h1
def aJz :Option Nat→Int
 |some k=> (k:Int)
 |none=> -1
theorem aX2 {o:Int}{l:Nat}(h:fY o=true→o≠14→l=2)(h7:o≠7)(h26:o≠26) :cR o l=dL o l:=by
 unfold cR dL;by_cases a:o=6∨o=9∨o=10∨o=11∨o=12∨o=13∨o=18∨o=22
 · have h1:fY o=true:=by unfold fY;rcases a with a|a|a|a|a|a|a|a<;>subst a<;>rfl
   have h2:dY o=false:=by rcases a with a|a|a|a|a|a|a|a<;>subst a<;>rfl
   have h3:o≠14:=by omega
   rw [if_pos a,h2,h1,h h1 h3];rfl
 · rw [if_neg a];by_cases b:o=14
   ·subst b;rfl
   · rw [if_neg b];have h1:fY o=false:=by unfold fY;simp;omega
     by_cases c:o=7∨o=8∨o=15∨o=16∨o=17∨o=19∨o=20∨o=23∨o=24∨o=26
     · have h2:dY o=true:=by unfold dY;simp;omega
       rw [if_pos c,h2];rfl
     · have h2:dY o=false:=by unfold dY;simp;omega
       rw [if_neg c,h2,h1];rfl
theorem aMf (o n:Int)(ks:List XT)(ps:List Pat)(hl:ks.length≤1000)(m:Nat)(hm:m≤ks.length)(ha:aJ PP 82 [RT.av (.mk o n ks ps)] (.int .i64 (m:Int))) :∀ (tl:List XT) (i r:Nat),ks.drop i=tl→i+r=m →
  Ends PP 0 (aDJ o n ps ks (i:Int)).as (.ret (.int .i64 (aJz (dI tl i r)))) (aA [] 0)
 | tl,i,0,h,hr=>by
  have e:dI tl i 0=none:=by cases tl<;>rfl
  rw [e];exact aW9 o n ps ks (i:Int) _ ha sd
 | [],i,r+1,h,hr=>by have:=bE h;omega
 | .mk a b c d::tl,i,r+1,h,hr=>by
  obtain⟨g1,g2,g3⟩ :=bB h;have hat:=aXZ (.mk a b c d);cases hx:aG0 (.mk a b c d)
  case false=>
   rw [hx]at hat;have e:dI (.mk a b c d::tl) i (r+1) =some i:=by simp [dI,hx]
   rw [e];exact aW7 o n ps ks (i:Int) _ a b d c false ha sd sd sd hat rfl
  rw [hx]at hat;have e:dI (.mk a b c d::tl) i (r+1) =dI tl (i+1) r:=by simp [dI,hx]
  rw [e];refine(aW8 o n ps ks (i:Int) _ a b d c true ha sd sd sd hat rfl sd).ends ?_;exact aMf o n ks ps hl m hm ha tl (i+1) r g2 (by omega)
def aJA :XT→Option Nat
 | .mk o _ ks _=>if o=7 then none else dI ks 0 (dL o ks.length)
theorem aMg {B:Int}:∀ {t:XT},FineX B t→aJ PP 179 [RT.av t] (.int .i64 (aJz (aJA t)))
 | .mk o n ks ps,hf=>by
  simp only [FineX]at hf;obtain⟨_,f2,f3,f4,f5,f6,f7⟩ :=hf;refine aF (by kernel_rfl) (by simp [keylessL,oV]) rfl ?_;simp only [aJA];by_cases a:o=7
  ·rw [if_pos a];exact aW4 o n ps ks (by simpa using a)
  · rw [if_neg a];by_cases b:o=26
    · have e:dI ks 0 (dL o ks.length) =none:=by subst b;cases ks<;>rfl
      rw [e];exact aW5 o n ps ks (by simpa using a) (by simpa using b)
    · have ea:=aX2 (l:=ks.length) f6.2.2.1 a b;have ha:=aX0 o n ks ps f2;rw [ea]at ha;exact(aW6 o n ps ks (by simpa using a) (by simpa using b)).ends (aMf o n ks ps f2 _ f6.1 ha ks 0 _ rfl (by omega))
theorem yI {P:Program}{m:Nat}{s:AS}{v v':AV}{h h':Hp}(e:Ends P m s (.ret v) h)(z:kY m h h' v v') :Ends P m s (.ret v') h':=fun hm0 E fr ccs w f fs r cl base=>by
 obtain⟨cl',w',E2,s1,⟨cv,rfl,g2⟩,r2,x2⟩ :=e hm0 E fr ccs w f fs r cl base;obtain⟨E3,h1,h2,h3,h4⟩ :=z E2 w' r2;exact⟨_,w',E3,s1,⟨cv,rfl,h4 cv g2⟩,h2,x2.trans h3⟩
theorem aPx {m:Nat}{h h':Hp}{a b c v v':AV}(z:kY m h h' v v') :kY m h h' (.agg [a,b,c,v]) (.agg [a,b,c,v']) :=fun E w r=>by
 obtain⟨E3,h1,h2,h3,h4⟩ :=z E w r;refine⟨E3,h1,h2,h3,fun cv hv=>?_⟩;simp only [VR]at hv ⊢;obtain⟨us,rfl,hv⟩ :=hv;obtain⟨u1,r1,rfl,a1,hv⟩ :=hv.cons_inv;obtain⟨u2,r2,rfl,a2,hv⟩ :=hv.cons_inv;obtain⟨u3,r3,rfl,a3,hv⟩ :=hv.cons_inv;obtain⟨u4,r4,rfl,a4,hv⟩ :=hv.cons_inv;rw [hv.nil_inv];exact⟨_,rfl,VRs.cons (a1.mono h1) (VRs.cons (a2.mono h1) (VRs.cons (a3.mono h1) (VRs.cons (h4 _ a4) (VRs.nil _))))⟩
theorem aG8 {E:Emb}{o n:Int}{xs ys:List AV}{v:Value}(h:VR E (.agg [.int .i64 o,.int .i64 n,.ilst 4 xs true,.ilst 4 ys true]) v) :VR E (.agg [.int .i64 o,.int .i64 n,.ilst 4 xs false,.ilst 4 ys false]) v:=by
 simp only [VR]at h;obtain⟨us,rfl,hv⟩ :=h;obtain⟨u1,r1,rfl,a1,hv⟩ :=hv.cons_inv;obtain⟨u2,r2,rfl,a2,hv⟩ :=hv.cons_inv;obtain⟨u3,r3,rfl,a3,hv⟩ :=hv.cons_inv;obtain⟨u4,r4,rfl,a4,hv⟩ :=hv.cons_inv;rw [hv.nil_inv];show VR E (.agg [.int .i64 o,.int .i64 n,.ilst 4 xs false,.ilst 4 ys false]) _;simp only [VR];exact⟨_,rfl,VRs.cons (by simpa only [VR]using a1) (VRs.cons (by simpa only [VR]using a2) (VRs.cons (fX a3) (VRs.cons (fX a4) (VRs.nil _))))⟩
theorem aS4 (n:Int) :aJ PP 83 [.int .i64 n] (RT.av (.mk 4 n [] [])) :=by
 refine aF (by kernel_rfl) rfl (oV _) ?_;exact Ends.val (aW1 n) (fun E cv h=>aG8 h)
theorem aCp (a b:XT) :aJ PP 85 [RT.av a,RT.av b] (RT.av (.mk 7 0 [a,b] [])) :=by
 refine aF (by kernel_rfl) (by simp [keylessL,oV]) (oV _) ?_;obtain⟨a1,a2,a3,a4⟩ :=a;obtain⟨b1,b2,b3,b4⟩ :=b;have e:=aW2 a1 a2 a4 a3 b1 b2 b4 b3
 have z1:=aPx (a:=.int .i64 7) (b:=.int .i64 0) (c:=.ilst 4 (av []) true) (wY (m:=0) (h:=aA [(0,(.cells (putCells .leaf 0 [(.int .i64 a1),(.int .i64 a2),(.ilst 4 (av a4) false),(.ilst 4 (RTs.av a3) false),(.int .i64 b1),(.int .i64 b2),(.ilst 4 (av b4) false),(.ilst 4 (RTs.av b3) false)]) 8 [] false),false)] 1)
  (b:=0) (n:=2) (c:=2) (e:=4) (k:=8) (x:=true) (g:=true) (t:=putCells .leaf 0 [(.int .i64 a1),(.int .i64 a2),(.ilst 4 (av a4) false),(.ilst 4 (RTs.av a3) false),(.int .i64 b1),(.int .i64 b2),(.ilst 4 (av b4) false),(.ilst 4 (RTs.av b3) false)]) (cs:=[(.int .i64 a1),(.int .i64 a2),(.ilst 4 (av a4) false),(.ilst 4 (RTs.av a3) false),(.int .i64 b1),(.int .i64 b2),(.ilst 4 (av b4) false),(.ilst 4 (RTs.av b3) false)]) (by kernel_rfl) (by kernel_rfl) rfl (fun h=>by cases h) (Nat.zero_le _))
 have e2:=yI e z1
 have z2:=kL (m:=0) (h:= (aA [(0,(.cells (putCells .leaf 0 [(.int .i64 a1),(.int .i64 a2),(.ilst 4 (av a4) false),(.ilst 4 (RTs.av a3) false),(.int .i64 b1),(.int .i64 b2),(.ilst 4 (av b4) false),(.ilst 4 (RTs.av b3) false)]) 8 [] false),false)] 1).set 0 (.lst 4 (RTs.av [.mk a1 a2 a3 a4,.mk b1 b2 b3 b4])))
  (b:=0) (e:=4) (xs:=RTs.av [.mk a1 a2 a3 a4,.mk b1 b2 b3 b4]) (ys:=RTs.av [.mk a1 a2 a3 a4,.mk b1 b2 b3 b4]) (v:=.agg [.int .i64 7,.int .i64 0,.ilst 4 (av []) true,.gl 0 4 0 2 true]) (by kernel_rfl) (xK _) (by simp [frzOk,frzOkL,RTs.av]) (Nat.zero_le _)
 have e3:=yI e2 z2;have e3':Ends PP 0 (aPp a1 a2 a4 a3 b1 b2 b4 b3).as (.ret (.agg [.int .i64 7,.int .i64 0,.ilst 4 (av []) true,.ilst 4 (RTs.av [.mk a1 a2 a3 a4,.mk b1 b2 b3 b4]) true])) (aA [] 1) :=Eq.mp (by kernel_rfl) e3;have e4:Ends PP 0 (aPp a1 a2 a4 a3 b1 b2 b4 b3).as (.ret (.agg [.int .i64 7,.int .i64 0,.ilst 4 (av []) true,.ilst 4 (RTs.av [.mk a1 a2 a3 a4,.mk b1 b2 b3 b4]) true])) (aA [] 0) :=cN (ks:=[]) (l:=[]) (nb:=0) e3' (by kernel_rfl) (by kernel_rfl) (by kernel_rfl) trivial;exact Ends.val e4 (fun E cv h=>aG8 h)
theorem aS5 {B:Int}{t:XT}(hf:FineX B t) :aJ PP 139 [RT.av t] (.bool (aJA t).isSome) :=by
 have h:=aMg hf;obtain⟨o,n,ks,ps⟩ :=t;refine aF (by kernel_rfl) (by simp [keylessL,oV]) rfl ?_;have e:=aXa o n ps ks _ h;cases hx:aJA (.mk o n ks ps)with
 |none=>rw [hx]at e;exact e
 | some k=>
  rw [hx]at e;have:decide (aJz (some k) ≥ (0:Int)) =true:=by simp [aJz]
  rw [this]at e;exact e
def aFF :XT→Bool
 | .mk o _ ks _=>decide (o=7) && (match ks[0]? with|some t=>decide (t.op=7) |none=>false)
theorem aG9 {B:Int}{t:XT}(hf:FineX B t) :aJ PP 140 [RT.av t] (.bool (aFF t)) :=by
 obtain⟨o,n,ks,ps⟩ :=t;simp only [FineX]at hf;refine aF (by kernel_rfl) (by simp [keylessL,oV]) rfl ?_;by_cases a:o=7
 · have hl:=hf.2.2.2.2.1 a;obtain⟨⟨b1,b2,b3,b4⟩,hk⟩ :∃t0,ks[0]?=some t0:= ⟨_,getElem?_eq_getElem (by omega)⟩;have e:=aXc o n ps ks b1 b2 b4 b3 (by simpa using a) (by omega) hk;have ex:aFF (.mk o n ks ps) = (b1== (7:Int)) :=by simp only [aFF,hk,XT.op,a,decide_true,Bool.true_and];rfl
   rw [ex];exact e
 · have ex:aFF (.mk o n ks ps) =false:=by simp [aFF,a]
   rw [ex];exact aXd o n ps ks (by simpa using a)
theorem aMh (t:XT) :dM t=if aFF t then some none else(aJA t).map some:=by
 obtain⟨o,n,ks,ps⟩ :=t;simp only [dM,aFF,aJA];by_cases a:o=7
 · rw [if_pos a,if_pos a];have hc:ks[0]?=none∨∃t,ks[0]?=some t:=by cases ks[0]?<;>simp
   rcases hc with h| ⟨t,h⟩
   ·simp [a,h]
   · by_cases g:t.op=7
     ·simp [a,h,g]
     ·simp [a,h,g]
 ·rw [if_neg a,if_neg a];simp [a]
theorem aMi (o n:Int)(ks:List XT)(ps:List Pat)(k:Nat)(sz:Int)(h0:0≤sz)(x:XT)(hx:ks[k]?=some x)(hl:ks.length≤1000)(hok:aC7 ks) :∀ (tl:List XT) (i:Nat),ks.drop i=tl→i≤ks.length →
  Ends PP 0 (aBD o n ps ks sz (k:Int) (i:Int) (((ks.map (pJ sz 1)).set k (.mk 4 sz [] [])).take i)).as (.ret (RT.av (dnT sz k o n ks ps x))) (aA [] 0)
 | [],i,h,hi=>by
  have:=bE h;obtain⟨x1,x2,x3,x4⟩ :=x;have hk:k<ks.length:= (List.getElem?_eq_some_iff.1 hx).1;have hlen: ((ks.map (pJ sz 1)).set k (.mk 4 sz [] [])).length=ks.length:=by simp
  rw [take_of_length_le (by omega)];exact aXP o n ps ks sz (k:Int) (i:Int) _ x1 x2 x4 x3 7 0 [] [XT.mk x1 x2 x3 x4,XT.mk o n ((ks.map (pJ sz 1)).set k (XT.mk 4 sz [] [])) ps] sd sd sd (aCp (.mk x1 x2 x3 x4) (.mk o n ((ks.map (pJ sz 1)).set k (.mk 4 sz [] [])) ps))
 | .mk a1 a2 a3 a4::tl,i,h,hi=>by
  obtain⟨g1,g2,g3⟩ :=bB h;have ih:=aMi o n ks ps k sz h0 x hx hl hok tl (i+1) g2 (by omega);have hlen: ((ks.map (pJ sz 1)).set k (.mk 4 sz [] [])).length=ks.length:=by simp
  by_cases e:i=k
  · have hg: ((ks.map (pJ sz 1)).set k (.mk 4 sz [] []))[i]?=some (.mk 4 sz [] []) :=by rw [getElem?_set,if_pos e.symm,if_pos (by simp;omega)]
    rw [←take_succ' hg]at ih;refine(aXN o n ps ks sz (k:Int) (i:Int) _ 4 sz [] [] sd (by simp [e]) (aS4 sz) (by simp;omega) sd).ends ?_;exact ih
  · have hm:OkT (.mk a1 a2 a3 a4) :=okTs_iff.1 hok _ (mem_of_getElem? g1);have hg: ((ks.map (pJ sz 1)).set k (.mk 4 sz [] []))[i]?=some (pJ sz 1 (.mk a1 a2 a3 a4)) :=by rw [getElem?_set,if_neg (fun h=>e h.symm),List.getElem?_map,g1];rfl
    have pm:=aFE h0 (.mk a1 a2 a3 a4) hm;simp only [pJ]at hg pm;rw [←take_succ' hg]at ih;refine(aXO o n ps ks sz (k:Int) (i:Int) _ a1 a2 a4 a3 a1 (mvN sz 1 a1 a2) a4 (rP sz 1 a3) sd (by simp;omega) sd sd pm (by simp;omega) sd).ends ?_;exact ih
theorem aX3 {B:Int}(hB:B≤1000000){t:XT}(hf:FineX B t){s:Option Nat}(hs:dM t=some s)(sz:Int)(h0:0≤sz) :aJ PP 141 [RT.av t,.int .i64 sz] (RT.av (kN sz s t)) :=by
 have hfl:=aG9 hf;have hfi:=aMg hf;have hq:=aMh t;obtain⟨o,n,ks,ps⟩ :=t;have hf':=hf;simp only [FineX]at hf;refine aF (by kernel_rfl) (by simp [keylessL,keyless,oV]) (oV _) ?_;rw [hs]at hq;cases hc:aFF (.mk o n ks ps)
 case true=>
  rw [hc,if_pos rfl]at hq;cases hq;rw [hc]at hfl;have h7:o=7:=by
   simp only [aFF,and_eq_true,decide_eq_true_eq]at hc;exact hc.1
  have hl:=hf.2.2.2.2.1 h7;obtain⟨⟨o2,n2,k2,p2⟩,hk0⟩ :∃t0,ks[0]?=some t0:= ⟨_,getElem?_eq_getElem (by omega)⟩;obtain⟨⟨c1,c2,c3,c4⟩,hk1⟩ :∃t1,ks[1]?=some t1:= ⟨_,getElem?_eq_getElem (by omega)⟩;have ho2:o2=7:=by
   simp only [aFF,hk0,XT.op,and_eq_true,decide_eq_true_eq]at hc;exact of_decide_eq_true hc.2
  have hf0:=fineXs_iff.1 hf.2.2.2.2.2.2 _ (mem_of_getElem? hk0);have hf1:=fineXs_iff.1 hf.2.2.2.2.2.2 _ (mem_of_getElem? hk1);simp only [FineX]at hf0;have hl2:=hf0.2.2.2.2.1 ho2;obtain⟨⟨a1,a2,a3,a4⟩,ha⟩ :∃t1,k2[0]?=some t1:= ⟨_,getElem?_eq_getElem (by omega)⟩;obtain⟨⟨b1,b2,b3,b4⟩,hb⟩ :∃t1,k2[1]?=some t1:= ⟨_,getElem?_eq_getElem (by omega)⟩;have ed:kN sz none (.mk o n ks ps) =neT sz (.mk a1 a2 a3 a4) (.mk b1 b2 b3 b4) (.mk c1 c2 c3 c4) :=by
   simp only [kN,lG hk0,lG hk1,XT.kids,lG ha,lG hb]
  rw [ed];have pm:=aFE h0 (.mk c1 c2 c3 c4) (hf1.ok hB);have p2':=aCp (.mk b1 b2 b3 b4) (pJ sz 1 (.mk c1 c2 c3 c4));have p3:=aCp (.mk a1 a2 a3 a4) (.mk 7 0 [.mk b1 b2 b3 b4,pJ sz 1 (.mk c1 c2 c3 c4)] []);exact aXL o n ps ks sz true o2 n2 p2 k2 a1 a2 a4 a3 b1 b2 b4 b3 c1 c2 c4 c3 c1 (mvN sz 1 c1 c2) c4 (rP sz 1 c3) 7 0 [] _ 7 0 [] _ hfl rfl (by omega) hk0 ha (by omega) hb hk1 pm p2' p3
 rw [hc]at hq hfl;simp only [Bool.false_eq_true,if_false]at hq;cases hx:aJA (.mk o n ks ps)with
 |none=>rw [hx]at hq;cases hq
 | some k=>
  rw [hx]at hq hfi;cases hq;have hfx:dI ks 0 (dL o ks.length) =some k:=by
   simp only [aJA]at hx;split at hx
   ·cases hx
   ·exact hx
  obtain⟨x,hx1,_⟩ :=tW hfx (rfl:ks.drop 0=ks);have ed:kN sz (some k) (.mk o n ks ps) =dnT sz k o n ks ps x:=by simp only [kN,lG hx1]
  rw [ed];refine(aXM o n ps ks sz false _ hfl rfl hfi).ends ?_;have:=aMi o n ks ps k sz h0 x hx1 hf.2.1 (hf.2.2.2.2.2.2.ok hB) ks 0 rfl (Nat.zero_le _);exact this
abbrev aJB (a:Nat):=oC a [(nI 0),(nI 0),.nils,.nils]
abbrev aJC:AV:=.ilst 1 (jI ([] :List Int)) true
abbrev aX4 (a b:Int)(c d:List Int)(e:Bool)(f g:Int)(h:List Pat)(i j:List RT):=aA [oC 0 [(nI a),(nI b),(.gl 6 1 0 (c++d).length false),(bV e)],oC 1 [(nI f),(nI g),(iP h),(.ilst 4 (RTs.av i) false)],aJB 2,oL 3 4 (RTs.av j),oL 6 1 (jI (c++d))] 7
abbrev aPy:AV:=.tup [(.agg [(.ilst 4 (jN ([] :List Node)) true),aJC,(nI 0),(.ilst 2 (jC ([] :List Con)) true)]),(nI 2)]
abbrev aX5:AV:=.agg [(.ilst 4 (jN ([] :List Node)) true),aJC,(nI 0),(.ilst 2 (jC ([] :List Con)) true)]
abbrev jG (a:List RT)(b c d:Int)(e:List Pat)(f:List RT):AV:=.gl 3 4 0 (set a b.toNat (RT.mk c d e f)).length false
abbrev lJ (a b:Int)(c:List Pat)(d:List RT):AV:=.agg [(nI a),(nI b),(iP c),(.ilst 4 (RTs.av d) false)]
abbrev lK (a:Nat)(b:Prog):=oC a [(iN b.nodes),(iI b.funs),(nI b.main),(iC b.cons)]
abbrev kE (a:Nat):=oC a [.nils,.nils,(nI 0),.nils]
abbrev aCq (a:List RT):AV:=.ilst 4 (RTs.av a) false
abbrev aFG (a:List RT):AV:=.gl 3 4 0 a.length false
def aX6(b c:Int)(a:List Int)(d:Bool)(e f:Int)(g:List Pat)(i:List RT)(j:Int):TS:=bC PP 97 [(.ptr 0 0),(lJ e f g i),(nI j)] [oC 0 [(nI b),(nI c),(.gl 1 1 0 a.length false),(bV d)],oL 1 1 (jI a)] 2
def nS(c d:Int)(o:List Int)(p:Bool)(e f:Int)(g:List Pat)(i:List RT)(j:Int)(k:Bool)(a:List Int)(l m:Int)(n:Bool)(b:List RT):TS:=⟨(tf 97 78 [kp 0 0,(2,(nI j)),kp 4 1,kp 6 2,(7,(nI c)),(8,(bV k)),(9,(aFG b)),(10,(nI l))] [kc f97 2036,kl f97 2036,.inBlock 0,kc f97 255]),[],[oC 0 [(nI m),(nI d),(.gl 4 1 0 a.length false),(bV n)],oC 1 [(nI e),(nI f),(iP g),(aCq i)],aJB 2,oL 3 4 (RTs.av b),oL 4 1 (jI a)],5⟩
def aX7(a:Prog):TS:=bC PP 49 [(Prog.av a)] [] 0
def aBE(a:Prog)(b:List RT)(d e:Int)(f:Bool)(c:List Int):TS:=⟨(tf 54 38 [kp 2 0,kp 4 1,(5,.nilp),kp 6 2,(7,(aFG b)),(8,(nI d))] [kc f54 244,kl f54 244,.inBlock 0,kc f54 31]),[(tf 49 14 [(2,.nils),(6,(Prog.av a))] [ko f49 6 1,kc f49 7])],[lK 0 a,kE 1,oC 2 [(nI e),(nI (-1)),(.gl 4 1 0 c.length false),(bV f)],oL 3 4 (RTs.av b),oL 4 1 (jI c)],5⟩
def aX8(a:Prog):TS:=bC PP 18 [(Prog.av a)] [] 0
def aX9(a:Prog)(b:Int):TS:=bC PP 20 [(Prog.av a),(nI b)] [] 0
def uE(a:Prog)(b:Int)(c:List RT)(e f:Int)(g:Bool)(d:List Int):TS:=⟨(tf 54 38 [kp 2 0,kp 4 1,(5,.nilp),kp 6 2,(7,(aFG c)),(8,(nI e))] [kc f54 244,kl f54 244,.inBlock 0,kc f54 31]),[(tf 20 45 [kp 4 4,(5,(nI 0)),(30,(Prog.av a)),(31,(nI b))] [ko f20 62 2,kc f20 63])],[lK 0 a,kE 1,oC 2 [(nI f),(nI b),(.gl 5 1 0 d.length false),(bV g)],oL 3 4 (RTs.av c),kE 4,oL 5 1 (jI d)],6⟩
def aPz(a i:Int)(b:List Int)(c:Bool)(d e:Int)(f:List Pat)(g:List RT)(j:Int):=tT 1 (aX6 a i b c d e f g j)<|gw 20 19 (a+1)<|jR 7 139 [(lJ d e f g)]<|fun l=>.b 1 24 l (ga 19 bU b [a]<|.i [rn 15,.nilL 9 4] []<|gu 0 6 (RTs.av ([] :List RT))<|gs 0 9 (.gl 6 4 0 ([] :List RT).length false)<|.W 0 7 [2,3,6,5] (nS a i b c d e f g j true (b++ [a]) 0 (a+1) c ([] :List RT)))<|jR 1 140 [(lJ d e f g)]<|fun k=>.b 8 28 k (ga 9 bU b [a]<|.i [rn 15,.nilL 9 4] []<|gu 0 6 (RTs.av ([] :List RT))<|gs 0 9 (.gl 6 4 0 ([] :List RT).length false)<|.W 0 7 [2,3,6,5] (nS a i b c d e f g j k (b++ [a]) 0 (a+1) c ([] :List RT)))<|.i [rn 13,.nilL 9 4] []<|gu 0 4 (RTs.av ([] :List RT))<|gs 0 9 (.gl 4 4 0 ([] :List RT).length false)<|.W 0 5 [2,3,4,1] (nS a i b c d e f g j k b 0 (a+1) c ([] :List RT))
def aYa:=fun a b c d e f g i j k l m n o=>aPz a b c d e f g i j l k m|>.t n o ⟨dO,⟨kk,trivial⟩⟩
def aYb:=fun a b c d e f g i j k l m n o p q r=>aPz a b c d e f g i j m k n|>.f o l p|>.t q r ⟨dO,⟨kk,trivial⟩⟩
def aYc:=fun a b c d e f g i j k l m n o p q=>aPz a b c d e f g i j m k n|>.f o l p|>.f q ⟨dO,⟨kk,trivial⟩⟩
def aJD(v i:Int)(A:List Int)(B:Bool)(j k:Int)(l:List Pat)(b:List RT)(u:Int)(r:Bool)(c:List Int)(q s:Int)(w:Bool)(a:List RT):=tT 1 (nS v i A B j k l b u r c q s w a)<|.i [rn 6,aL b] [.q (p:=((RTs.av b).length:Int) = (b.length:Int)) (fD aQ _)]<|gd 2 43 (q< (b.length:Int)) (.y fun m:Int=>.y fun n:Int=>.y fun o:List Pat=>.y fun p:List RT=>.y fun x:Int=>.y fun t:List Int=>.y fun y:Int=>.y fun z:Bool=>.y fun d:Int=>.y fun e:Int=>.y fun f:List Pat=>.y fun g:List RT=>.i [rn 4,.reg (rd 5 (.ans (.idx (RT.av (RT.mk m n o p)))::rd 4 [.pure (nI x),.d,.call (lJ d e f g) (aX4 y i c t z j k l b a),.d,.app (RTs.av (a++ [(RT.mk d e f g)])) (a++ [(RT.mk d e f g)]).length,.d]))] [hA (0≤q),.a (((b)[q.toNat]?) =some (RT.mk m n o p)) (eM aQ),hA (aJ PP 84 [(lJ j k l b),(nI q)] (nI x)),hA (Spec PP (.enter 97 [(.ptr 0 0),(lJ m n o p),(nI (IntKind.i64.wrap (u+x)))]) (aA [oC 0 [(nI s),(nI i),(.gl 4 1 0 c.length false),(bV w)],oC 1 [(nI j),(nI k),(iP l),(aCq b)],aJB 2,oL 3 4 (RTs.av a),oL 4 1 (jI c)] 6) (.ret (lJ d e f g)) (aX4 y i c t z j k l b a)),.q (p:=0+a.length≤length (RTs.av a)) (sY aQ _),hA (length (a++ [(RT.mk d e f g)]) ≤1000000),.q (p:=take a.length (drop 0 (RTs.av a)) ++ (RTs.av [(RT.mk d e f g)]) = (RTs.av (a++ [(RT.mk d e f g)]))) (sZ aQ _ _),.q (p:=a.length+length (RTs.av [(RT.mk d e f g)]) =length (a++ [(RT.mk d e f g)])) (tA aQ _ _),hr (AV.agg [(nI m),(nI n),(iP o),(aCq p)]),hr (AV.agg [(nI m),(nI n),(iP o),(aCq p)]),hr (AV.ilst 4 (RTs.av b) false),hr (AV.ilst 4 (RTs.av b) false)]<|gw 4 45 (q+1)<|.W 3 8 [1,2,7,6] (nS v i A B j k l b u r (c++t) (q+1) y z (a++ [(RT.mk d e f g)])))<|.b 12 66 (v==i) (.b 13 71 r (.y fun m:Int=>.y fun n:Int=>.y fun o:List Pat=>.y fun p:List RT=>gp 5 141 [(lJ j k l b),(nI u)] (lJ m n o p)<|.E 3 5 [4] (lJ m n o p) [oC 0 [(nI s),(nI i),(.gl 1 1 0 c.length false),(bV r)],oL 1 1 (jI c)] 2)<|.E 14 5 [3,4] (.agg [(nI j),(nI k),(iP l),(.gl 1 4 0 a.length false)]) [oC 0 [(nI s),(nI i),(.gl 2 1 0 c.length false),(bV r)],oL 1 4 (RTs.av a),oL 2 1 (jI c)] 3)<|.E 14 5 [3,4] (.agg [(nI j),(nI k),(iP l),(.gl 1 4 0 a.length false)]) [oC 0 [(nI s),(nI i),(.gl 2 1 0 c.length false),(bV w)],oL 1 4 (RTs.av a),oL 2 1 (jI c)] 3
def aYd:=fun a b c d e f g i j k l m n o p q r s t u v w x y z A B C D F G H I J=>aJD a b c d e f g i j k l m n o p|>.t C q r s t u v w x y z A B D F G H I J ⟨dO,⟨kk,trivial⟩⟩
def aYe:=fun a b c d e f g i j k l m n o p q r s t u v w x=>aJD a b c d e f g i j k l m n o p|>.f u|>.t v|>.t w q r s t x ⟨kk,trivial⟩
def aYf:=fun a b c d e f g i j k l m n o p q r s=>aJD a b c d e f g i j k l m n o p|>.f q|>.t r|>.f s ⟨dO,⟨kk,trivial⟩⟩
def aYg:=fun a b c d e f g i j k l m n o p q r=>aJD a b c d e f g i j k l m n o p|>.f q|>.f r ⟨dO,⟨kk,trivial⟩⟩
def aYh (a:Prog):=fun b c=>(tT 0 (aX7 a)<|.y fun b:List RT=>gk 25 (.enter 40 [(Prog.av a)]) [lK 0 a,lK 1 a,kE 2,oC 3 [(nI 0),(nI (-1)),.nils,(bV false)]] 4 (.gl 4 4 0 b.length false) [lK 0 a,lK 1 a,kE 2,oC 3 [(nI 0),(nI (-1)),.nils,(bV false)],oL 4 4 (RTs.av b)] 5<|.i [rn 9,.cnil 3 2 1] []<|gu 0 5 (jI ([] :List Int))<|gv 0 3 2 (.gl 5 1 0 ([] :List Int).length false)<|.W 0 6 [1,2,3,4,5] (aBE a b 0 0 false ([] :List Int))) b c ⟨dO,⟨kk,trivial⟩⟩
def aYi(g:Prog)(a:List RT)(b o:Int)(p:Bool)(i:List Int):=tT 0 (aBE g a b o p i)<|gd 8 18 (b< (a.length:Int)) (.i [rn 9,.ans (.ix)] [hA (0≤b),hA (b< (a.length:Int))]<|.y fun j:Int=>.y fun k:Int=>.y fun l:List Pat=>.y fun m:List RT=>gjF aQ 0 a b.toNat (RT.mk j k l m)<|.y fun n:List Int=>.y fun q:Int=>.y fun r:Bool=>.y fun c:Int=>.y fun d:Int=>.y fun e:List Pat=>.y fun f:List RT=>gk 0 (.enter 97 [(.ptr 2 0),(lJ j k l m),(nI 1)]) [lK 0 g,kE 1,oC 2 [(nI o),(nI (-1)),(.gl 4 1 0 i.length false),(bV p)],oL 3 4 (RTs.av a),oL 4 1 (jI i)] 5 (lJ c d e f) [lK 0 g,kE 1,oC 2 [(nI q),(nI (-1)),(.gl 5 1 0 (i++n).length false),(bV r)],oL 3 4 (RTs.av a),oL 5 1 (jI (i++n))] 6<|.i [rn 7,.ans (.ix)] [hA (0≤b),hA (b< (a.length:Int))]<|.i [.st (RT.av (RT.mk j k l m)) (RT.av (RT.mk c d e f))] [.a (((a)[b.toNat]?) =some (RT.mk j k l m)) (aBZ aQ),hr (some (RT.av (RT.mk c d e f)))]<|.i [.lset 3 (RTs.av (set a b.toNat (RT.mk c d e f)))] [.q (p:=(RTs.av a).set (0+b.toNat) (RT.av (RT.mk c d e f)) = (RTs.av (set a b.toNat (RT.mk c d e f)))) (aGv aQ _ _ _)]<|.i [.set 7 (jG a b c d e f)] [.q (p:=(AV.gl 3 4 0 a.length false) = (jG a b c d e f)) (bG (length_set ..).symm)]<|.i [.set 16 (jG a b c d e f)] [.q (p:=(AV.gl 3 4 0 a.length false) = (jG a b c d e f)) (bG (length_set ..).symm)]<|.i [.set 22 (jG a b c d e f)] [.q (p:=(AV.gl 3 4 0 a.length false) = (jG a b c d e f)) (bG (length_set ..).symm)]<|.i [.set 27 (jG a b c d e f)] [.q (p:=(AV.gl 3 4 0 a.length false) = (jG a b c d e f)) (bG (length_set ..).symm)]<|gw 5 20 (b+1)<|.W 3 7 [0,1,2,3,5] (aBE g (set a b.toNat (RT.mk c d e f)) (b+1) q r (i++n)))<|.i [rn 3,.frz 7 3 (RTs.av a)] [.q (p:=keylessL (RTs.av a) =true) dO,.q (p:=frzOk 3 4 (RTs.av a) (RTs.av a) (aFG a)) (oR aQ _)]<|.y fun s:Prog=>gp 6 44 [(aCq a),(nI g.main),(iC g.cons)] (Prog.av s)<|gz 22 2 4 1 bU i false<|gE 0 6 (iI i)
def aYj:=fun d e f g i j k l m n o p q r s t u v a b c w x=>aYi d e f g i j|>.t v a b k l m n c o p q r s t u w a b c x ⟨dO,⟨kk,trivial⟩⟩
def aYk:=fun a b c d e f g i j=>aYi a b c d e f|>.f i g j tv
def aYl(a:Prog):=tT 0 (aX8 a)<|gpI 9 39 [(Prog.av a)]<|fun b=>.b 8 8 (b != 0) (.i [rn 8,.nilI 2 1] []<|gE 0 1 (.tup [aJC,(nI b)]))<|.y fun c:List Int=>gp 5 49 [(Prog.av a)] (iI c)<|gE 4 1 (.tup [(iI c),(nI 0)])
def aMj:=fun a b c d=>aYl a b c|>.t d tv
def aYm:=fun a b c d e f=>aYl a b d|>.f e c f tv
def aFH(a:Prog)(b:Int):=tT 0 (aX9 a b)<|gpI 9 39 [(Prog.av a)]<|fun c=>.b 8 13 (c==2) (.i [rn 19,.cnilI 1 0 4] []<|.i [.cnilI 1 1 1] []<|.i [.cnilI 1 3 2] []<|gE 0 2 aPy)<|gd 4 17 (b<0) (.i [rn 15,.cnilI 1 0 4] []<|.i [.cnilI 1 1 1] []<|.i [.cnilI 1 3 2] []<|gE 0 2 aPy)<|gl 3 Node.av a.nodes<|gd 3 23 (b≥ (a.nodes.length:Int)) (.i [rn 8,.cnilI 1 0 4] []<|.i [.cnilI 1 1 1] []<|.i [.cnilI 1 3 2] []<|gE 0 2 aPy)<|.b 8 26 (c != 0) (.i [rn 9,.cnilI 1 0 4] []<|.i [.cnilI 1 1 1] []<|.i [.cnilI 1 3 2] []<|gE 0 2 (.tup [aX5,(nI c)]))<|.y fun d:List RT=>gk 23 (.enter 40 [(Prog.av a)]) [lK 0 a,kE 1,lK 2 a,kE 3,oC 4 [(nI 0),(nI b),.nils,(bV false)]] 5 (.gl 5 4 0 d.length false) [lK 0 a,kE 1,lK 2 a,kE 3,oC 4 [(nI 0),(nI b),.nils,(bV false)],oL 5 4 (RTs.av d)] 6<|.i [rn 9,.cnil 4 2 1] []<|gu 0 6 (jI ([] :List Int))<|gv 0 4 2 (.gl 6 1 0 ([] :List Int).length false)<|.W 0 7 [2,3,4,5,1,6] (uE a b d 0 0 false ([] :List Int))
def aYn:=fun a b c d e=>aFH a b c d|>.t e tv
def aMk:=fun a b c d e f=>aFH a b c d|>.f e|>.t f tv
def aMl:=fun a b c d e f g=>aFH a b c d|>.f e|>.f f|>.t g tv
def aYo:=fun a b c d e f g i=>aFH a b c d|>.f e|>.f f|>.f g|>.t i tv
def aYp:=fun a b c d e f g i j k=>aFH a b c e|>.f f|>.f g|>.f i|>.f j d k ⟨dO,⟨kk,trivial⟩⟩
def aPA(g:Prog)(j:Int)(a:List RT)(b q:Int)(o:Bool)(i:List Int):=tT 0 (uE g j a b q o i)<|gd 8 18 (b< (a.length:Int)) (.i [rn 9,.ans (.ix)] [hA (0≤b),hA (b< (a.length:Int))]<|.y fun k:Int=>.y fun l:Int=>.y fun m:List Pat=>.y fun n:List RT=>gjF aQ 0 a b.toNat (RT.mk k l m n)<|.y fun p:List Int=>.y fun r:Int=>.y fun s:Bool=>.y fun c:Int=>.y fun d:Int=>.y fun e:List Pat=>.y fun f:List RT=>gk 0 (.enter 97 [(.ptr 2 0),(lJ k l m n),(nI 1)]) [lK 0 g,kE 1,oC 2 [(nI q),(nI j),(.gl 5 1 0 i.length false),(bV o)],oL 3 4 (RTs.av a),kE 4,oL 5 1 (jI i)] 6 (lJ c d e f) [lK 0 g,kE 1,oC 2 [(nI r),(nI j),(.gl 6 1 0 (i++p).length false),(bV s)],oL 3 4 (RTs.av a),kE 4,oL 6 1 (jI (i++p))] 7<|.i [rn 7,.ans (.ix)] [hA (0≤b),hA (b< (a.length:Int))]<|.i [.st (RT.av (RT.mk k l m n)) (RT.av (RT.mk c d e f))] [.a (((a)[b.toNat]?) =some (RT.mk k l m n)) (aBZ aQ),hr (some (RT.av (RT.mk c d e f)))]<|.i [.lset 3 (RTs.av (set a b.toNat (RT.mk c d e f)))] [.q (p:=(RTs.av a).set (0+b.toNat) (RT.av (RT.mk c d e f)) = (RTs.av (set a b.toNat (RT.mk c d e f)))) (aGv aQ _ _ _)]<|.i [.set 7 (jG a b c d e f)] [.q (p:=(AV.gl 3 4 0 a.length false) = (jG a b c d e f)) (bG (length_set ..).symm)]<|.i [.set 16 (jG a b c d e f)] [.q (p:=(AV.gl 3 4 0 a.length false) = (jG a b c d e f)) (bG (length_set ..).symm)]<|.i [.set 22 (jG a b c d e f)] [.q (p:=(AV.gl 3 4 0 a.length false) = (jG a b c d e f)) (bG (length_set ..).symm)]<|.i [.set 27 (jG a b c d e f)] [.q (p:=(AV.gl 3 4 0 a.length false) = (jG a b c d e f)) (bG (length_set ..).symm)]<|gw 5 20 (b+1)<|.W 3 8 [0,1,2,3,4,6] (uE g j (set a b.toNat (RT.mk c d e f)) (b+1) r s (i++p)))<|.i [rn 3,.frz 7 3 (RTs.av a)] [.q (p:=keylessL (RTs.av a) =true) dO,.q (p:=frzOk 3 4 (RTs.av a) (RTs.av a) (aFG a)) (oR aQ _)]<|.y fun t:Prog=>gp 6 44 [(aCq a),(nI g.main),(iC g.cons)] (Prog.av t)<|.b 22 39 (!o) (.i [rn 8,.cnilI 4 0 4] []<|.i [.cnilI 4 1 1] []<|.i [.cnilI 4 3 2] []<|gE 0 7 (.tup [aX5,(nI 7)]))<|.y fun u:Prog=>.y fun v:Int=>gp 5 43 [(Prog.av t)] (.tup [(Prog.av u),(nI v)])<|gE 6 7 (.tup [(Prog.av u),(nI v)])
def aYq:=fun d e f g i j k l m n o p q r s t u v w a b c x y=>aPA d e f g i j k|>.t w a b l m n o c p q r s t u v x a b c y ⟨dO,⟨kk,trivial⟩⟩
def aYr:=fun a b c d e f g i j k l=>aPA a b c d e f g|>.f j i k|>.t l tv
def aYs:=fun a b c d e f g i j k l m n o=>aPA a b c d e f g|>.f l i m|>.f n j k o tv
mutual
def thT (tg:Int) :XT→Int→Int→Bool→XT×Bool
 | .mk o n ks ps,a,z,d=>
  if a=tg then(match dM (.mk o n ks ps)with
   |some s=> (kN z s (.mk o n ks ps),true)
   |none=> (.mk o n (uF tg o ps ks 0 (a+1) z d).1 ps,false))
  else(.mk o n (uF tg o ps ks 0 (a+1) z d).1 ps,(uF tg o ps ks 0 (a+1) z d).2)
def uF (tg:Int)(o:Int)(ps:List Pat) :List XT→Nat→Int→Int→Bool→List XT×Bool
 | [],_,_,_,d=> ([],d)
 |t::ts,i,a,z,d=> ((thT tg t a (z+cI o ps (i:Int)) d).1:: (uF tg o ps ts (i+1) (a+ (eA t:Nat)) z (thT tg t a (z+cI o ps (i:Int)) d).2).1,(uF tg o ps ts (i+1) (a+ (eA t:Nat)) z (thT tg t a (z+cI o ps (i:Int)) d).2).2)
end
abbrev THl (nx tg:Int)(al:List Int)(dn:Bool) :HL:=[(0,(.cells (putCells .leaf 0 [(.int .i64 nx),(.int .i64 tg),(.gl 1 1 0 (length al) false),(.bool dn)]) 4 [] false),false),(1,(.lst 1 (map bU al)),true)]
theorem aAu (nx tg:Int)(al:List Int)(dn:Bool) :eF (THl nx tg al dn) := ⟨aG _ (fun _=>rfl) _,trivial⟩
theorem aYt {s:AS}{o n:Int}{ps:List Pat}{l3:List XT}{nx tg:Int}{al:List Int}{dn:Bool}(e:Ends PP 1 s (.ret (.agg [(.int .i64 o),(.int .i64 n),(.ilst 4 (av ps) false),(.gl 1 4 0 (length l3) false)])) (aA [(0,(.cells (putCells .leaf 0 [(.int .i64 nx),(.int .i64 tg),(.gl 2 1 0 (length al) false),(.bool dn)]) 4 [] false),false),(1,(.lst 4 (RTs.av l3)),true),(2,(.lst 1 (map bU al)),true)] 3)) :
  Ends PP 1 s (.ret (RT.av (.mk o n l3 ps))) (aA (THl nx tg al dn) 2) :=by
 have z:=kL (m:=1) (h:=aA [(0,(.cells (putCells .leaf 0 [(.int .i64 nx),(.int .i64 tg),(.gl 2 1 0 (length al) false),(.bool dn)]) 4 [] false),false),(1,(.lst 4 (RTs.av l3)),true),(2,(.lst 1 (map bU al)),true)] 3)
  (b:=1) (e:=4) (xs:=RTs.av l3) (ys:=RTs.av l3) (v:=.agg [(.int .i64 o),(.int .i64 n),(.ilst 4 (av ps) false),(.gl 1 4 0 (length l3) false)]) (by kernel_rfl) (xK _)
  (by
   have hl: (RTs.av l3).length=l3.length:=by rw [aQ];simp
   simp only [frzOk,frzOkL,true_and,and_true];intro _;exact⟨by omega,by rw [List.drop_zero,take_of_length_le (by omega)]⟩) (show 1≤3 by decide)
 have e2:=yI e z;have e3:Ends PP 1 s (.ret (RT.av (.mk o n l3 ps))) (aA [(0,(.cells (putCells .leaf 0 [(.int .i64 nx),(.int .i64 tg),(.gl 2 1 0 (length al) false),(.bool dn)]) 4 [] false),false),(2,(.lst 1 (map bU al)),true)] 3) :=Eq.mp (by kernel_rfl) e2;exact cN (ks:=[2]) e3 (by kernel_rfl) (by kernel_rfl) (by kernel_rfl) (aAu ..)
section
variable (B :Int) (hB:B≤1000000) (tg:Int)
mutual
theorem aJE (hB:B≤1000000) :∀ (t:XT),FineX B t→∀ (nx z:Int) (al:List Int) (dn:Bool),0≤nx→nx+ (eA t:Nat) ≤1000000→al.length+eA t≤100000→0≤z→z+1000* (eA t:Nat) ≤1000000000 →
  eK PP 1 (.enter 97 [.ptr 0 0,RT.av t,.int .i64 z]) (aA (THl nx tg al dn) 2) (.ret (RT.av (thT tg t nx z dn).1)) (aA (THl (nx+ (eA t:Nat)) tg (al++stT t nx) (thT tg t nx z dn).2) 2)
 | .mk o n ks ps,hf,nx,z,al,dn,h0,h1,h2,h3,h4=>by
  have nd:=aS5 hf;have fl:=aG9 hf;have hq:=aMh (.mk o n ks ps);have hst:=fun s (hs:dM (.mk o n ks ps) =some s) =>aX3 hB hf hs z h3;have hf':=hf;simp only [FineX]at hf;obtain⟨_,f2,f3,f4,f5,f6,f7⟩ :=hf;simp only [eA]at h1 h2 h4;refine⟨(aX6 nx tg al dn o n ps ks z).as.fr,by kernel_rfl,?_⟩
  have fin:∀ (b:Bool) (l4:List Int),b= (dM (.mk o n ks ps)).isSome→l4=al++ (if(dM (.mk o n ks ps)).isSome then [nx]else []) →
    Ends PP 1 (nS nx tg al dn o n ps ks z b l4 0 (nx+1) dn []).as (.ret (RT.av (thT tg (.mk o n ks ps) nx z dn).1)) (aA (THl (nx+ ((aK ks+1:Nat) :Int)) tg (al++stT (.mk o n ks ps) nx) (thT tg (.mk o n ks ps) nx z dn).2) 2) :=fun b l4 hb hl4=>by
   have hl5:l4.length+aK ks≤100000:=by
    rw [hl4,length_append];split<;>simp<;>omega
   refine aQD hB nx al dn o n ks ps z b f2 f3 f4 f5 f6.2.2.2 h3 ks [] 0 (nx+1) l4 dn rfl (Nat.zero_le _) rfl f7 (by omega) (by omega) hl5 (by omega) ?_;intro r l' d' hr hl' hd';simp only [List.nil_append]at hr;have e1:al++stT (.mk o n ks ps) nx=l':=by
    rw [hl',hl4,stT,append_assoc]
   have e2:nx+1+ ((aK ks:Nat) :Int) =nx+ ((aK ks+1:Nat) :Int) :=by omega
   rw [e1,←e2];simp only [thT];by_cases g:nx=tg
   · rw [if_pos g];cases hs:dM (.mk o n ks ps)
     case some s=>
      have hbt:b=true:=by rw [hb,hs];rfl
      subst hbt;have e:=hst s hs;dsimp only;generalize kN z s (.mk o n ks ps) =t' at e ⊢;obtain⟨q1,q2,q3,q4⟩ :=t';exact aYe nx tg al dn o n ps ks z true l' ((ks.length:Nat) :Int) (nx+1+ ((aK ks:Nat) :Int)) d' r q1 q2 q4 q3 sd (by simpa using g) rfl e
     have hbt:b=false:=by rw [hb,hs];rfl
     subst hbt;have e3:=aYf nx tg al dn o n ps ks z false l' ((ks.length:Nat) :Int) (nx+1+ ((aK ks:Nat) :Int)) d' r sd (by simpa using g) rfl;have e4:=aYt e3;dsimp only;rw [hr];exact e4
   · rw [if_neg g];have e3:=aYg nx tg al dn o n ps ks z b l' ((ks.length:Nat) :Int) (nx+1+ ((aK ks:Nat) :Int)) d' r sd (by simpa using g);have e4:=aYt e3;rw [hr,hd'];exact e4
  simp only [eA];cases hn: (aJA (.mk o n ks ps)).isSome
  case true=>
   rw [hn]at nd;have hsome: (dM (.mk o n ks ps)).isSome=true:=by
    rw [hq];split
    ·rfl
    ·rw [Option.isSome_map];exact hn
   exact(aYa nx tg al dn o n ps ks z true sd nd rfl (by simp;omega)).ends (fin true _ hsome.symm (by rw [hsome];rfl))
  rw [hn]at nd;cases hc:aFF (.mk o n ks ps)
  case true=>
   rw [hc]at fl hq;have hsome: (dM (.mk o n ks ps)).isSome=true:=by rw [hq];rfl
   exact(aYb nx tg al dn o n ps ks z false true sd nd rfl fl rfl (by simp;omega)).ends (fin true _ hsome.symm (by rw [hsome];rfl))
  rw [hc]at fl hq;have hnone: (dM (.mk o n ks ps)).isSome=false:=by
   rw [hq];simp only [Bool.false_eq_true,if_false,Option.isSome_map];exact hn
  exact(aYc nx tg al dn o n ps ks z false false sd nd rfl fl rfl).ends (fin false al hnone.symm (by rw [hnone];simp))
theorem aQD (hB:B≤1000000)(nx:Int)(al:List Int)(dn:Bool)(o n:Int)(ks:List XT)(ps:List Pat)(z:Int)(b:Bool)(f2:ks.length≤1000)(f3:∀q∈ps,bW q≤1000)(f4:o=15→ks.length=1+ps.length)(f5:o=7→ks.length=2)(f6:∀q∈ps,bnm q=rnm q)(h3:0≤z){v:AV}{hp:Hp} :
  ∀ (tl dl:List XT) (i:Nat) (a:Int) (l:List Int) (d:Bool),ks.drop i=tl→i≤ks.length→dl.length=i→FineXs B tl→0≤a→a+ (aK tl:Nat) ≤1000000→l.length+aK tl≤100000→z+1000+1000* (aK tl:Nat) ≤1000000000 →
  (∀ (r:List XT) (l':List Int) (d':Bool),dl++ (uF tg o ps tl i a z d).1=r→l'=l++pH tl a→ (uF tg o ps tl i a z d).2=d'→Ends PP 1 (nS nx tg al dn o n ps ks z b l' ((ks.length:Nat) :Int) (a+ (aK tl:Nat)) d' r).as (.ret v) hp) →
  Ends PP 1 (nS nx tg al dn o n ps ks z b l (i:Int) a d dl).as (.ret v) hp
 | [],dl,i,a,l,d,h,hi,h1,_,h0,_,_,_,k=>by
  have:=bE h;have e:i=ks.length:=by omega
  have:=k dl l d (by simp [uF]) (by simp [pH]) rfl;simp only [aK]at this;rw [show a+ ((0:Nat) :Int) =a by omega,←e]at this;exact this
 | .mk c1 c2 c3 c4::tl,dl,i,a,l,d,h,hi,h1,hf,h0,h2,hl,hz,k=>by
  obtain⟨g1,g2,g3⟩ :=bB h;simp only [FineXs]at hf;simp only [aK]at h2 hl hz k;have ha:=wH (o:=o) f3 (i:Int);have hw:IntKind.i64.wrap (z+cI o ps (i:Int)) =z+cI o ps (i:Int) :=wrap64 (by omega) (by omega)
  have hq:o=15→0< (i:Int) →∃q,ps[((i:Int) -1).toNat]?=some q:=fun e15 hi=>by
   have:=f4 e15;exact⟨_,getElem?_eq_getElem (by omega)⟩
  have ad:=aX1 o n ks ps f3 f6 (i:Int) ⟨by omega,by omega⟩ (fun e7=>by have:=f5 e7;omega) hq;have sp:=aJE hB (.mk c1 c2 c3 c4) hf.1 a (z+cI o ps (i:Int)) l d h0 (by omega) (by omega) (by omega) (by omega);have hln:=yG (.mk c1 c2 c3 c4) a;simp only [uF,pH]at k;generalize eA (.mk c1 c2 c3 c4) =sx at sp h2 hl hz k hln;generalize stT (.mk c1 c2 c3 c4) a=m at sp k hln;generalize thT tg (.mk c1 c2 c3 c4) a (z+cI o ps (i:Int)) d=r0 at sp k;obtain⟨⟨q1,q2,q3,q4⟩,d0⟩ :=r0;dsimp only at sp k;have hsp:Spec PP (.enter 97 [.ptr 0 0,RT.av (.mk c1 c2 c3 c4),.int .i64 (IntKind.i64.wrap (z+cI o ps (i:Int)))]) (aA [(0,(.cells (putCells .leaf 0 [(.int .i64 a),(.int .i64 tg),(.gl 4 1 0 (length l) false),(.bool d)]) 4 [] false),false),(1,(.cells (putCells .leaf 0 [(.int .i64 o),(.int .i64 n),(.ilst 4 (av ps) false),(.ilst 4 (RTs.av ks) false)]) 4 [] false),false),(2,(.cells (putCells .leaf 0 [(.int .i64 0),(.int .i64 0),.nils,.nils]) 4 [] false),false),(3,(.lst 4 (RTs.av dl)),true),(4,(.lst 1 (map bU l)),true)] 6) (.ret (RT.av (.mk q1 q2 q3 q4))) (aA [(0,(.cells (putCells .leaf 0 [(.int .i64 (a+ (sx:Nat))),(.int .i64 tg),(.gl 6 1 0 (length (l++m)) false),(.bool d0)]) 4 [] false),false),(1,(.cells (putCells .leaf 0 [(.int .i64 o),(.int .i64 n),(.ilst 4 (av ps) false),(.ilst 4 (RTs.av ks) false)]) 4 [] false),false),(2,(.cells (putCells .leaf 0 [(.int .i64 0),(.int .i64 0),.nils,.nils]) 4 [] false),false),(3,(.lst 4 (RTs.av dl)),true),(6,(.lst 1 (map bU (l++m))),true)] 7) :=by
   rw [hw];exact nH (m:=1) (ks:=[0,4]) sp (by kernel_rfl) (by kernel_rfl) (aAu ..) (aAu ..)
  have st:=aYd nx tg al dn o n ps ks z b l (i:Int) a d dl c1 c2 c4 c3 (cI o ps (i:Int)) m (a+ (sx:Nat)) d0 q1 q2 q4 q3 sd sd sd ad hsp (by simp;omega) sd;have hlen: (dl++ [XT.mk q1 q2 q3 q4]).length=i+1:=by rw [length_append,h1];rfl
  have hal: (l++m).length+aK tl≤100000:=by rw [length_append];omega
  have ei: ((i:Nat) :Int) +1= ((i+1:Nat) :Int) :=by omega
  have ea:a+ ((sx+aK tl:Nat) :Int) =a+ (sx:Nat) + ((aK tl:Nat) :Int) :=by omega
  rw [ea]at k;have hk:∀ (r:List XT) (l':List Int) (d':Bool),(dl++ [XT.mk q1 q2 q3 q4]) ++ (uF tg o ps tl (i+1) (a+ (sx:Nat)) z d0).1=r→l'= (l++m) ++pH tl (a+ (sx:Nat)) → (uF tg o ps tl (i+1) (a+ (sx:Nat)) z d0).2=d'→Ends PP 1 (nS nx tg al dn o n ps ks z b l' ((ks.length:Nat) :Int) (a+ (sx:Nat) + (aK tl:Nat)) d' r).as (.ret v) hp:=fun r l' d' hr hl' hd'=>
   k r l' d' (by rw [←hr,append_assoc,singleton_append]) (by rw [hl',append_assoc]) hd'
  have ih:=aQD hB nx al dn o n ks ps z b f2 f3 f4 f5 f6 h3 (v:=v) (hp:=hp) tl (dl++ [XT.mk q1 q2 q3 q4]) (i+1) (a+ (sx:Nat)) (l++m) d0 g2 g3 hlen hf.2 (by omega) (by omega) hal (by omega) hk;rw [←ei]at ih;exact st.ends ih
end
end
abbrev LaS (t:XT)(L:List ONode)(ns:List Node) :Prop:=eK PP 0 (.enter 87 [.gl 0 4 0 (length L) false,RT.av t]) (aA [(0,OL L,true)] 1) (.ret (.gl 0 4 0 (length (L++map Node.o ns)) false)) (aA [(0,OL (L++map Node.o ns),true)] 1)
theorem aJF (L:List ONode) :eF [(0,OL L,true)] := ⟨bCv L,trivial⟩
theorem aYu (l:List ONode)(o n:Int)(ps:List Pat)(ks:List XT)(i:Int)(l0:List ONode)(l2:List Int)(ua:Option Addr)(un uc:Nat) :
  (⟨{(qH l o n ps ks i l0 l2).as.fr with tm:= (qH l o n ps ks i l0 l2).as.fr.tm.put 36 (.val (.slice ua un uc))},(qH l o n ps ks i l0 l2).as.cs,(qH l o n ps ks i l0 l2).as.h.set 2 (.lstv (.slice ua un uc) 1 (map bU l2))⟩ :AS) = (aFD l o n ps ks i l0 l2 ua un uc).as:=by kernel_rfl
theorem bB2 {l:List ONode}{o n:Int}{ps:List Pat}{ks:List XT}{i:Int}{l0:List ONode}{l2:List Int}{L:List ONode}(h0:0<l2.length)
  (hk:∀ua un uc,EndsL (aFD l o n ps ks i l0 l2 ua un uc) L) :EndsL (qH l o n ps ks i l0 l2) L:=by
 refine aQV (j:=36) (b:=2) (e:=1) (n:=length l2) (ex:=false) (xs:=map bU l2) (by kernel_rfl) (by kernel_rfl) (length_map ..) h0 (fun ua un uc=>?_);have:=hk ua un uc;unfold EndsL at this;rw [←aYu]at this;exact this
section
variable (l :List ONode) (o n:Int) (ks:List XT) (ps:List Pat) (hkl:ks.length≤1000) (ih:∀t∈ks,∀ (M:List ONode),M.length+eA t≤1000000→LaS t M (dS t M.length))
include hkl ih
theorem aYv (t:XT)(i:Nat)(kv:KV)(r0:List Node)(l2:List Int)(L:List ONode)(hc:ks[i]?=some t)(h0:0<l2.length)(hb:l.length+1+r0.length+eA t≤1000000)
  (hk:∀u,EndsL (aDM l o n ps ks (l++ ⟨o,n,.val u,ps⟩ ::map Node.o (r0++dS t (l.length+1+r0.length))) l2 u ((i+1:Nat) :Int)) L) :
  EndsL (qH l o n ps ks (i:Int) (l++ ⟨o,n,kv,ps⟩ ::map Node.o r0) l2) L:=by
 have hi:= (List.getElem?_eq_some_iff.1 hc).1;refine bB2 h0 (fun ua un uc=>?_);have hlen: (l++ (⟨o,n,.val (.slice ua un uc),ps⟩ :ONode) ::map Node.o r0).length=l.length+1+r0.length:=by simp;omega
 have hs:=ih t (mem_of_getElem? hc) (l++ ⟨o,n,.val (.slice ua un uc),ps⟩ ::map Node.o r0) (by rw [hlen];omega);rw [hlen]at hs;have hk2:=hk (.slice ua un uc);generalize dS t (l.length+1+r0.length) =ns at hs hk2;obtain⟨q1,q2,q3,q4⟩ :=t
 have hcall:Spec PP (.enter 87 [(.gl 0 4 0 (length (l++ (⟨o,n,.val (.slice ua un uc),ps⟩ :ONode) ::map Node.o r0)) false),RT.av (.mk q1 q2 q3 q4)]) (aA [(0,OL (l++ (⟨o,n,.val (.slice ua un uc),ps⟩ :ONode) ::map Node.o r0),true),(1,(.cells (putCells .leaf 0 [(.int .i64 o),(.int .i64 n),(.ilst 4 (av ps) false),(.ilst 4 (RTs.av ks) false)]) 4 [] false),false),(2,(.lstv (Value.slice ua un uc) 1 (map bU l2)),true)] 3)
   (.ret (.gl 3 4 0 (length ((l++ (⟨o,n,.val (.slice ua un uc),ps⟩ :ONode) ::map Node.o r0) ++map Node.o ns)) false)) (aA [(1,(.cells (putCells .leaf 0 [(.int .i64 o),(.int .i64 n),(.ilst 4 (av ps) false),(.ilst 4 (RTs.av ks) false)]) 4 [] false),false),(2,(.lstv (Value.slice ua un uc) 1 (map bU l2)),true),(3,OL ((l++ (⟨o,n,.val (.slice ua un uc),ps⟩ :ONode) ::map Node.o r0) ++map Node.o ns),true)] 4) :=
  nH (m:=0) (ks:=[0]) hs (by kernel_rfl) (by kernel_rfl) (aJF _) (aJF _)
 have h1:=aXw l o n ps ks (i:Int) (l++ ⟨o,n,kv,ps⟩ ::map Node.o r0) l2 ua un uc ⟨o,n,kv,ps⟩ q1 q2 q4 q3 ns (aJb ..) sd (by simpa using hc) (by rw [aQk];exact hcall) sd;rw [aQk]at h1;refine h1.ends ?_;have e2: (l++ (⟨o,n,.val (.slice ua un uc),ps⟩ :ONode) ::map Node.o r0) ++map Node.o ns=l++ ⟨o,n,.val (.slice ua un uc),ps⟩ ::map Node.o (r0++ns) :=by simp
 rw [e2];exact hk2
theorem aQE :∀ (ts:List XT) (i:Nat) (u:Value) (r0:List Node) (k3:List Int),ks.drop i=ts→k3.length=i→0<i→l.length+1+r0.length+aK ts≤1000000 →
  EndsL (aDM l o n ps ks (l++ ⟨o,n,.val u,ps⟩ ::map Node.o r0) k3 u (i:Int)) (l++map Node.o (⟨o,n,k3++ (bL ts (l.length+1+r0.length)).1,ps⟩ :: (r0++ (bL ts (l.length+1+r0.length)).2)))
 | [],i,u,r0,k3,h,hk,hi,_=>by
  have:=bE h;have h1:=aXz l o n ps ks (l++ ⟨o,n,.val u,ps⟩ ::map Node.o r0) k3 u (i:Int) ⟨o,n,.val u,ps⟩ sd (rT ..) rfl;rw [rU]at h1;rw [bL];simp only [append_nil];exact h1
 | t::ts,i,u,r0,k3,h,hk,hi,hb=>by
  obtain⟨g1,g2,g3⟩ :=bB h;simp only [aK]at hb;have hlen: (l++ (⟨o,n,.val u,ps⟩ :ONode) ::map Node.o r0).length=l.length+1+r0.length:=by simp;omega
  refine(aXy l o n ps ks (l++ ⟨o,n,.val u,ps⟩ ::map Node.o r0) k3 u (i:Int) ⟨o,n,.val u,ps⟩ sd (by omega) (by rw [hlen];omega) (aJb ..) rfl (by simp;omega)).ends ?_;refine aYv l o n ks ps hkl ih t i (.val u) r0 _ _ g1 (by simp) (by omega) (fun u'=>?_);have hns:=fB t (l.length+1+r0.length);have:=aQE ts (i+1) u' (r0++dS t (l.length+1+r0.length)) (k3++ [((l.length+1+r0.length:Nat) :Int)]) g2 (by simp [hk]) (by omega) (by rw [length_append];omega);rw [hlen];rw [bL];rw [length_append,←Nat.add_assoc]at this;simp only [append_assoc,singleton_append]at this ⊢;exact this
theorem bB3 (hb:l.length+1+aK ks≤1000000) :
  EndsL (aJw l o n ps ks) (l++map Node.o (⟨o,n,(bL ks (l.length+1)).1,ps⟩ :: (bL ks (l.length+1)).2)) :=by
 cases hks:ks with
 | nil=>
  subst hks;have h1:=aXv l o n ps [] ⟨o,n,.nil,ps⟩ (by simp) (rT ..) rfl;rw [rU]at h1;rw [bL];exact h1
 | cons t ts=>
  have g1:ks[0]?=some t:=by rw [hks];rfl
  rw [←hks];have hlen: (l++ [(⟨o,n,.nil,ps⟩ :ONode)]).length=l.length+1:=by simp
  have hb0:eA t+aK ts=aK ks:=by rw [hks,aK]
  have ep:bL ks (l.length+1) =bL (t::ts) (l.length+1) :=by rw [hks]
  have hns:=fB t (l.length+1);refine(aXu l o n ps ks ⟨o,n,.nil,ps⟩ (by rw [hks];simp) (by omega) (by rw [hlen];omega) (aJb ..) rfl (by simp)).ends ?_;refine aYv l o n ks ps hkl ih t 0 .nil [] _ _ g1 (by simp) (by simp;omega) (fun u'=>?_);have:=aQE l o n ks ps hkl ih ts 1 u' (dS t (l.length+1)) [((l.length+1:Nat) :Int)] (by rw [hks];rfl) rfl (by omega) (by omega);rw [hlen,ep,bL];exact this
end
mutual
theorem aQF {B:Int}:∀ (t:XT),FineX B t→ (∀L:List ONode,L.length+eA t≤1000000→LaS t L (dS t L.length))
 | .mk o n ks ps,hf=>fun L hb=>by
  simp only [FineX]at hf;obtain⟨_,f2,f3,_,_,f6,f7⟩ :=hf;simp only [eA]at hb;rw [dS];refine⟨(aXh L o n ps ks).as.fr,by kernel_rfl,?_⟩;exact(aXs L o n ps ks (by simp;omega)).ends (bB3 L o n ks ps f2 (aYw ks f7) (by omega))
theorem aYw {B:Int}:∀ (ks:List XT),FineXs B ks→∀t∈ks,∀ (M:List ONode),M.length+eA t≤1000000→LaS t M (dS t M.length)
 | [],_,t,ht=>by cases ht
 | k::ks,hf,t,ht=>by
  simp only [FineXs]at hf;rcases List.mem_cons.1 ht with e|ht
  ·rw [e];exact aQF k hf.1
  ·exact aYw ks hf.2 t ht
end
theorem bEb {s:AS}{ns:List Node}{fs:List Int}{mn:Int}{cs:List Con}(e:Ends PP 0 s (.ret (.agg [(.ilst 4 (map Node.av ns) false),(.ilst 1 (map bU fs) false),(.int .i64 mn),(.gl 0 2 0 (length cs) false)])) (aA [(0,(.lst 2 (map Con.av cs)),true)] 1)) :
  Ends PP 0 s (.ret (Prog.av ⟨ns,fs,mn,cs⟩)) (aA [] 0) :=by
 have z:=kL (m:=0) (h:=aA [(0,(.lst 2 (map Con.av cs)),true)] 1)
  (b:=0) (e:=2) (xs:=map Con.av cs) (ys:=map Con.av cs) (v:=.agg [(.ilst 4 (map Node.av ns) false),(.ilst 1 (map bU fs) false),(.int .i64 mn),(.gl 0 2 0 (length cs) false)]) (by kernel_rfl) (aG _ (fun _=>rfl) _)
  (by
   simp only [frzOk,frzOkL,true_and,and_true];intro _;exact⟨by simp,by rw [List.drop_zero,take_of_length_le (by simp)]⟩) (Nat.zero_le _)
 have e2:=yI e z;have e3:Ends PP 0 s (.ret (Prog.av ⟨ns,fs,mn,cs⟩)) (aA [] 1) :=Eq.mp (by kernel_rfl) e2;exact cN (ks:=[]) (l:=[]) (nb:=0) e3 (by kernel_rfl) (by kernel_rfl) (by kernel_rfl) trivial
theorem aMm (ts:List XT)(mn:Int)(cs:List Con){B:Int}(hl:ts.length≤1000) :∀ (tl:List XT) (i:Nat) (l3:List Node) (l4:List Int),ts.drop i=tl→FineXs B tl→l3.length+aK tl≤100000→l4.length=i →
  Ends PP 0 (aDN ts mn cs (i:Int) (map Node.o l3) l4).as (.ret (Prog.av ⟨l3++ (bL tl l3.length).2,l4++ (bL tl l3.length).1,mn,cs⟩)) (aA [] 0)
 | [],i,l3,l4,h,_,_,_=>by
  have:=bE h;have e:=aXD ts mn cs (i:Int) (map Node.o l3) l4 l3 sd rfl (by simp);simp only [bL,append_nil];exact bEb e
 | .mk o' n' k' p'::tl,i,l3,l4,h,hf,hb,hi=>by
  obtain⟨g1,g2,g3⟩ :=bB h;simp only [FineXs]at hf;simp only [aK]at hb;have hlen: (map Node.o l3).length=l3.length:=by simp
  have hs:=aQF _ hf.1 (map Node.o l3) (by rw [hlen];omega);rw [hlen]at hs;rw [bL];have hns:=fB (.mk o' n' k' p') l3.length;generalize dS (.mk o' n' k' p') l3.length=ns at hs hns ⊢;have st:=aXC ts mn cs (i:Int) (map Node.o l3) l4 o' n' p' k' ns sd (by simp;omega) sd sd (nH (m:=0) (ks:=[2]) hs (by kernel_rfl) (by kernel_rfl) (aJF _) (aJF _)) sd;refine st.ends ?_;rw [hlen,←List.map_append];have e:=aMm ts mn cs hl tl (i+1) (l3++ns) (l4++ [((l3.length:Nat) :Int)]) g2 hf.2 (by rw [length_append];omega) (by simp [hi]);rw [length_append]at e;simp only [append_assoc,singleton_append]at e ⊢;exact e
theorem aFI (ts:List XT)(mn:Int)(cs:List Con){B:Int}(hl:ts.length≤1000)(hc:cs.length≤1000000)(hf:FineXs B ts)(hs:aK ts≤100000) :aJ PP 44 [.ilst 4 (RTs.av ts) false,.int .i64 mn,.ilst 2 (map Con.av cs) false] (Prog.av (fP ts mn cs)) :=by
 refine aF (by kernel_rfl) (by simp [keylessL,keyless]) rfl ((aXA ts mn cs hc).ends ?_);have e:=aMm ts mn cs hl ts 0 [] [] rfl hf (by simpa using hs) rfl;exact e
def thF (tg:Int) :List XT→Int→Bool→List XT×Bool
 | [],_,d=> ([],d)
 |t::ts,a,d=> ((thT tg t a 1 d).1:: (thF tg ts (a+ (eA t:Nat)) (thT tg t a 1 d).2).1,(thF tg ts (a+ (eA t:Nat)) (thT tg t a 1 d).2).2)
theorem aMn {α:Type}(dl:List α)(t x:α)(tl:List α) :set (dl++t::tl) (((dl.length:Nat) :Int).toNat) x= (dl++ [x]) ++tl:=by simp
theorem aMo {α:Type}(dl:List α)(t:α)(tl:List α) : (dl++t::tl)[((dl.length:Nat) :Int).toNat]?=some t:=by simp
section
variable {B :Int} (hB:B≤1000000) (p:Prog)
theorem aMp (hB:B≤1000000){v:AV}{hp:Hp}:∀ (tl dl:List XT) (a:Int) (l:List Int) (d:Bool),FineXs B tl→0≤a→a+ (aK tl:Nat) ≤100000→l.length+aK tl≤100000→ (dl++tl).length≤1000 →
  (∀ (r:List XT) (b:Int) (l':List Int) (d':Bool),r=dl++ (thF (-1) tl a d).1→l'=l++pH tl a→d'= (thF (-1) tl a d).2→Ends PP 0 (aBE p r ((r.length:Nat) :Int) b d' l').as (.ret v) hp) →
  Ends PP 0 (aBE p (dl++tl) ((dl.length:Nat) :Int) a d l).as (.ret v) hp
 | [],dl,a,l,d,_,_,_,_,_,k=>by
  have:=k dl a l d (by simp [thF]) (by simp [pH]) rfl;rw [append_nil];exact this
 | .mk c1 c2 c3 c4::tl,dl,a,l,d,hf,h0,h1,h2,h3,k=>by
  simp only [FineXs]at hf;simp only [aK]at h1 h2;have sp:=aJE B (-1) hB (.mk c1 c2 c3 c4) hf.1 a 1 l d h0 (by omega) (by omega) (by omega) (by omega);have hln:=yG (.mk c1 c2 c3 c4) a;simp only [thF,pH]at k;generalize eA (.mk c1 c2 c3 c4) =sx at sp h1 h2 k hln;generalize stT (.mk c1 c2 c3 c4) a=m at sp k hln;generalize thT (-1) (.mk c1 c2 c3 c4) a 1 d=r0 at sp k;obtain⟨⟨q1,q2,q3,q4⟩,d0⟩ :=r0;dsimp only at sp k;have hlt: ((dl.length:Nat) :Int) < (((length (dl++XT.mk c1 c2 c3 c4::tl)) :Nat) :Int) :=by simp;omega
  have hw:IntKind.i64.wrap (((dl.length:Nat) :Int) +1) = ((dl.length:Nat) :Int) +1:=by
   simp only [length_append,length_cons]at h3;exact wrap64 (by omega) (by omega)
  have st:=aYj p (dl++XT.mk c1 c2 c3 c4::tl) ((dl.length:Nat) :Int) a d l c1 c2 c4 c3 m (a+ (sx:Nat)) d0 q1 q2 q4 q3 (by simpa using hlt) (by omega) hlt (aMo ..) (nH (m:=1) (ks:=[2,4]) sp (by kernel_rfl) (by kernel_rfl) (aAu ..) (aAu ..)) hw;rw [aMn]at st;have hal: (l++m).length+aK tl≤100000:=by rw [length_append];omega
  have ih:=aMp hB (v:=v) (hp:=hp) tl (dl++ [XT.mk q1 q2 q3 q4]) (a+ (sx:Nat)) (l++m) d0 hf.2 (by omega) (by omega) hal (by simp at h3 ⊢;omega) (fun r b l' d' e1 e2 e3=>k r b l' d' (by rw [e1,append_assoc,singleton_append]) (by rw [e2,append_assoc]) e3);have ei: ((dl.length:Nat) :Int) +1= (((dl++ [XT.mk q1 q2 q3 q4]).length:Nat) :Int) :=by simp
  rw [ei]at st;exact st.ends ih
theorem aMq (node:Int)(hB:B≤1000000){v:AV}{hp:Hp}:∀ (tl dl:List XT) (a:Int) (l:List Int) (d:Bool),FineXs B tl→0≤a→a+ (aK tl:Nat) ≤100000→l.length+aK tl≤100000→ (dl++tl).length≤1000 →
  (∀ (r:List XT) (b:Int) (l':List Int) (d':Bool),r=dl++ (thF node tl a d).1→d'= (thF node tl a d).2→Ends PP 0 (uE p node r ((r.length:Nat) :Int) b d' l').as (.ret v) hp) →
  Ends PP 0 (uE p node (dl++tl) ((dl.length:Nat) :Int) a d l).as (.ret v) hp
 | [],dl,a,l,d,_,_,_,_,_,k=>by
  have:=k dl a l d (by simp [thF]) rfl;rw [append_nil];exact this
 | .mk c1 c2 c3 c4::tl,dl,a,l,d,hf,h0,h1,h2,h3,k=>by
  simp only [FineXs]at hf;simp only [aK]at h1 h2;have sp:=aJE B node hB (.mk c1 c2 c3 c4) hf.1 a 1 l d h0 (by omega) (by omega) (by omega) (by omega);have hln:=yG (.mk c1 c2 c3 c4) a;simp only [thF]at k;generalize eA (.mk c1 c2 c3 c4) =sx at sp h1 h2 k hln;generalize stT (.mk c1 c2 c3 c4) a=m at sp hln;generalize thT node (.mk c1 c2 c3 c4) a 1 d=r0 at sp k;obtain⟨⟨q1,q2,q3,q4⟩,d0⟩ :=r0;dsimp only at sp k;have hlt: ((dl.length:Nat) :Int) < (((length (dl++XT.mk c1 c2 c3 c4::tl)) :Nat) :Int) :=by simp;omega
  have hw:IntKind.i64.wrap (((dl.length:Nat) :Int) +1) = ((dl.length:Nat) :Int) +1:=by
   simp only [length_append,length_cons]at h3;exact wrap64 (by omega) (by omega)
  have st:=aYq p node (dl++XT.mk c1 c2 c3 c4::tl) ((dl.length:Nat) :Int) a d l c1 c2 c4 c3 m (a+ (sx:Nat)) d0 q1 q2 q4 q3 (by simpa using hlt) (by omega) hlt (aMo ..) (nH (m:=1) (ks:=[2,5]) sp (by kernel_rfl) (by kernel_rfl) (aAu ..) (aAu ..)) hw;rw [aMn]at st;have hal: (l++m).length+aK tl≤100000:=by rw [length_append];omega
  have ih:=aMq node hB (v:=v) (hp:=hp) tl (dl++ [XT.mk q1 q2 q3 q4]) (a+ (sx:Nat)) (l++m) d0 hf.2 (by omega) (by omega) hal (by simp at h3 ⊢;omega) (fun r b l' d' e1 e3=>k r b l' d' (by rw [e1,append_assoc,singleton_append]) e3);have ei: ((dl.length:Nat) :Int) +1= (((dl++ [XT.mk q1 q2 q3 q4]).length:Nat) :Int) :=by simp
  rw [ei]at st;exact st.ends ih
end
mutual
theorem aMr (tg:Int) :∀ (t:XT) (a z:Int) (d:Bool),tg<a→thT tg t a z d= (t,d)
 | .mk o n ks ps,a,z,d,h=>by
  simp only [thT];rw [if_neg (by omega),nY tg o ps ks 0 (a+1) z d (by omega)]
theorem nY (tg:Int)(o:Int)(ps:List Pat) :∀ (ts:List XT) (i:Nat) (a z:Int) (d:Bool),tg<a→uF tg o ps ts i a z d= (ts,d)
 | [],i,a,z,d,_=>by simp only [uF]
 | t::ts,i,a,z,d,h=>by
  simp only [uF];rw [aMr tg t a _ d h,nY tg o ps ts (i+1) _ z d (by omega)]
end
theorem aBF (tg:Int) :∀ (ts:List XT) (a:Int) (d:Bool),tg<a→thF tg ts a d= (ts,d)
 | [],a,d,_=>by simp only [thF]
 | t::ts,a,d,h=>by
  simp only [thF];rw [aMr tg t a _ d h,aBF tg ts _ d (by omega)]
def aS6 {α:Type}(node:Int)(x:α)(e:Int)(r:α×Bool) :AtR α→Prop
 | .did x'=>r= (x',true) ∧node<e
 | .go _=>r= (x,false)
 | .past=>r= (x,false) ∧node<e
mutual
theorem aYx (node:Int) :∀ (t:XT) (a z:Int),aS6 node t (a+ (eA t:Nat)) (thT node t a z false) (atT node t a z)
 | .mk o n ks ps,a,z=>by
  have ih:=aQG node o ps ks 0 (a+1) z;have e1:a+1+ ((aK ks:Nat) :Int) =a+ ((aK ks+1:Nat) :Int) :=by omega
  rw [e1]at ih;simp only [atT,thT,eA];by_cases g:a=node
  · rw [if_pos g];have hl:=nY node o ps ks 0 (a+1) z false (by omega);cases hs:dM (.mk o n ks ps)
    case some s=>
     dsimp only;rw [if_pos g];exact⟨rfl,by omega⟩
    dsimp only;rw [hl]at ih ⊢;cases hr:jE node o ps ks 0 (a+1) z with
    |go m=>exact rfl
    |past=>exact⟨rfl,by omega⟩
    |did x=>rw [hr]at ih;have:=congrArg Prod.snd ih.1;cases this
  · rw [if_neg g]
    have hk:aS6 node (XT.mk o n ks ps) (a+ ((aK ks+1:Nat) :Int)) (XT.mk o n (uF node o ps ks 0 (a+1) z false).1 ps,(uF node o ps ks 0 (a+1) z false).2) (match jE node o ps ks 0 (a+1) z with
      | .go m=>.go m
      | .past=>.past
      | .did ks'=>.did (.mk o n ks' ps)) :=by
     cases hr:jE node o ps ks 0 (a+1) z with
     |go m=>rw [hr]at ih;have ih:_=_:=ih;rw [ih];exact rfl
     |past=>rw [hr]at ih;obtain⟨i1,i2⟩ :=ih;rw [i1];exact⟨rfl,i2⟩
     |did x=>rw [hr]at ih;obtain⟨i1,i2⟩ :=ih;rw [i1];exact⟨rfl,i2⟩
    cases hs:dM (.mk o n ks ps)
    case some s=>
     dsimp only;rw [if_neg g];by_cases g2:a>node
     · rw [if_pos g2,nY node o ps ks 0 (a+1) z false (by omega)];exact⟨rfl,by omega⟩
     ·rw [if_neg g2];exact hk
    exact hk
theorem aQG (node o:Int)(ps:List Pat) :∀ (ts:List XT) (i:Nat) (a z:Int),aS6 node ts (a+ (aK ts:Nat)) (uF node o ps ts i a z false) (jE node o ps ts i a z)
 | [],i,a,z=>by simp only [jE,uF,aS6]
 | t::ts,i,a,z=>by
  have h1:=aYx node t a (z+cI o ps (i:Int));have hgo:=aFj node t a (z+cI o ps (i:Int));simp only [jE,uF,aK];cases hr:atT node t a (z+cI o ps (i:Int))with
  | go m=>
   rw [hr]at h1;have h1:_=_:=h1;have hm:=hgo m hr;have h2:=aQG node o ps ts (i+1) (a+ (eA t:Nat)) z;rw [h1];dsimp only;rw [hm];rw [show a+ ((eA t+aK ts:Nat) :Int) =a+ (eA t:Nat) + ((aK ts:Nat) :Int)by omega];cases hr2:jE node o ps ts (i+1) (a+ (eA t:Nat)) z with
   |go m=>rw [hr2]at h2;have h2:_=_:=h2;rw [h2];exact rfl
   |past=>rw [hr2]at h2;obtain⟨i1,i2⟩ :=h2;rw [i1];exact⟨rfl,i2⟩
   |did x=>rw [hr2]at h2;obtain⟨i1,i2⟩ :=h2;rw [i1];exact⟨rfl,i2⟩
  | past=>
   rw [hr]at h1;obtain⟨i1,i2⟩ :=h1;rw [i1];dsimp only;rw [nY node o ps ts (i+1) _ z false i2];exact⟨rfl,by omega⟩
  | did x=>
   rw [hr]at h1;obtain⟨i1,i2⟩ :=h1;rw [i1];dsimp only;rw [nY node o ps ts (i+1) _ z true i2];exact⟨rfl,by omega⟩
end
theorem aYy (node:Int) :∀ (ts:List XT) (a:Int),aS6 node ts (a+ (aK ts:Nat)) (thF node ts a false) (atF node ts a)
 | [],a=>by simp only [atF,thF,aS6]
 | t::ts,a=>by
  have h1:=aYx node t a 1;have hgo:=aFj node t a 1;simp only [atF,thF,aK];cases hr:atT node t a 1 with
  | go m=>
   rw [hr]at h1;have h1:_=_:=h1;have hm:=hgo m hr;have h2:=aYy node ts (a+ (eA t:Nat));rw [h1];dsimp only;rw [hm];rw [show a+ ((eA t+aK ts:Nat) :Int) =a+ (eA t:Nat) + ((aK ts:Nat) :Int)by omega];cases hr2:atF node ts (a+ (eA t:Nat))with
   |go m=>rw [hr2]at h2;have h2:_=_:=h2;rw [h2];exact rfl
   |past=>rw [hr2]at h2;obtain⟨i1,i2⟩ :=h2;rw [i1];exact⟨rfl,i2⟩
   |did x=>rw [hr2]at h2;obtain⟨i1,i2⟩ :=h2;rw [i1];exact⟨rfl,i2⟩
  | past=>
   rw [hr]at h1;obtain⟨i1,i2⟩ :=h1;rw [i1];dsimp only;rw [aBF node ts _ false i2];exact⟨rfl,by omega⟩
  | did x=>
   rw [hr]at h1;obtain⟨i1,i2⟩ :=h1;rw [i1];dsimp only;rw [aBF node ts _ true i2];exact⟨rfl,by omega⟩
mutual
def Few (C:Pat→Prop) :XT→Prop
 | .mk _ _ ks ps=>ks.length≤10∧ (∀q∈ps,C q) ∧mG C ks
def mG (C:Pat→Prop) :List XT→Prop
 | [] =>True
 |t::ts=>Few C t∧mG C ts
end
theorem fewS_iff {C:Pat→Prop}:∀ {ts:List XT},mG C ts↔∀t∈ts,Few C t
 | [] =>by simp [mG]
 |t::ts=>by simp only [mG,fewS_iff (ts:=ts),mem_cons];exact⟨fun h x hx=>by rcases hx with rfl|hx;exact h.1;exact h.2 x hx,fun h=> ⟨h t (.inl rfl),fun x hx=>h x (.inr hx)⟩⟩
section
variable {C :Pat→Prop}
mutual
theorem aYz {fr:Int}:∀ {t:XT},Few C t→Few C (pJ fr 1 t)
 | .mk o n ks ps,h=>by
  simp only [pJ,Few]at h ⊢;exact⟨by rw [aL4];exact h.1,h.2.1,aJG h.2.2⟩
theorem aJG {fr:Int}:∀ {ts:List XT},mG C ts→mG C (rP fr 1 ts)
 | [],_=>trivial
 |t::ts,h=>by simp only [rP,mG]at h ⊢;exact⟨aYz h.1,aJG h.2⟩
end
theorem aYA {ts:List XT}{i:Nat}{t:XT}(h:mG C ts)(ht:Few C t) :mG C (ts.set i t) :=fewS_iff.2 fun x hx=>by
 rcases List.mem_or_eq_of_mem_set hx with hx|rfl
 ·exact fewS_iff.1 h x hx
 ·exact ht
theorem aJH {a b:XT}(ha:Few C a)(hb:Few C b) :Few C (.mk 7 0 [a,b] []) :=by
 simp only [Few,mG];exact⟨by simp,fun q hq=> (by cases hq),ha,hb,trivial⟩
theorem bB4 :Few C dXT:=by simp only [dXT,Few,mG];exact⟨by simp,fun q hq=> (by cases hq),trivial⟩
theorem wN {ts:List XT}(h:mG C ts)(i:Nat) :Few C (ts.getD i dXT) :=by
 rw [List.getD_eq_getElem?_getD];cases hx:ts[i]? with
 |none=>exact bB4
 |some x=>exact fewS_iff.1 h x (mem_of_getElem? hx)
theorem aYB :∀ {t:XT},Few C t→mG C t.kids
 | .mk o n ks ps,h=>by simp only [Few]at h;exact h.2.2
theorem aYC {sz:Int}:∀ {t:XT} {s:Option Nat},Few C t→Few C (kN sz s t)
 | .mk o n ks ps,some k,h=>by
  have h':=h;simp only [Few]at h;simp only [kN,dnT];refine aJH (wN h.2.2 k) ?_;simp only [Few];refine⟨by simpa using h.1,h.2.1,aYA (by rw [←rQ];exact aJG h.2.2) ?_⟩;simp only [Few,mG];exact⟨by simp,fun q hq=> (by cases hq),trivial⟩
 | .mk o n ks ps,none,h=>by
  simp only [Few]at h;simp only [kN,neT];have h0:=aYB (wN h.2.2 0);exact aJH (wN h0 0) (aJH (wN h0 1) (aYz (wN h.2.2 1)))
mutual
theorem aQH {node:Int}:∀ {t:XT} {n0 z0:Int} {t':XT},Few C t→atT node t n0 z0= .did t'→Few C t'
 | .mk o n ks ps,n0,z0,t',hf,h=>by
  have hf':=hf;simp only [Few]at hf
  have hkid:∀ks',jE node o ps ks 0 (n0+1) z0= .did ks'→Few C (.mk o n ks' ps) :=fun ks' e=>by
   obtain⟨a1,a2⟩ :=aMs hf.2.2 e;simp only [Few];exact⟨by rw [a2];exact hf.1,hf.2.1,a1⟩
  simp only [atT]at h;split at h
  · split at h
    ·cases h;exact aYC hf'
    · split at h
      ·cases h
      · split at h
        ·cases h
        ·cases h
        ·rename_i e;cases h;exact hkid _ e
  · split at h
    ·cases h
    ·cases h
    ·rename_i e;cases h;exact hkid _ e
theorem aMs {node o:Int}{ps:List Pat}:∀ {ts:List XT} {i:Nat} {n z:Int} {ts':List XT},mG C ts→jE node o ps ts i n z= .did ts'→mG C ts'∧ts'.length=ts.length
 | [],i,n,z,ts',_,h=>by simp only [jE]at h;cases h
 | t ::ts,i,n,z,ts',hf,h=>by
  simp only [mG]at hf;simp only [jE]at h;split at h
  · split at h
    ·cases h
    ·cases h
    · rename_i e2;cases h;obtain⟨a1,a2⟩ :=aMs hf.2 e2;exact⟨⟨hf.1,a1⟩,by simp [a2]⟩
  ·cases h
  · rename_i e;cases h;exact⟨⟨aQH hf.1 e,hf.2⟩,rfl⟩
end
theorem aJI {node:Int}:∀ {ts:List XT} {n:Int} {ts':List XT},mG C ts→atF node ts n= .did ts'→mG C ts'∧ts'.length=ts.length
 | [],n,ts',_,h=>by simp only [atF]at h;cases h
 | t ::ts,n,ts',hf,h=>by
  simp only [mG]at hf;simp only [atF]at h;split at h
  · split at h
    ·cases h
    ·cases h
    · rename_i e2;cases h;obtain⟨a1,a2⟩ :=aJI hf.2 e2;exact⟨⟨hf.1,a1⟩,by simp [a2]⟩
  ·cases h
  · rename_i e;cases h;exact⟨⟨aQH hf.1 e,hf.2⟩,rfl⟩
end
abbrev uG (cons:List Con)(q:Pat) :Prop:=bW q≤12∧eG cons q=true
mutual
theorem aYD {p:Prog}(hp:FineP p) :∀ (t:XT) (a:Int),IsTree p t a→Few (uG p.cons) t
 | .mk o n ks ps,a,h=>by
  simp only [IsTree]at h;obtain⟨h0,nd,h1,rfl,rfl,rfl,h5⟩ :=h;obtain⟨f1,f2,_⟩ :=hp.node _ nd h1;simp only [Few];exact⟨by rw [gC h5];exact f2,fun q hq=>f1.pats q hq,yJ hp ks nd.kids h5⟩
theorem yJ {p:Prog}(hp:FineP p) :∀ (ts:List XT) (l:List Int),aR p ts l→mG (uG p.cons) ts
 | [],_,_=>trivial
 | t::ts,l,h=>by
  simp only [aR]at h;obtain⟨k,l',rfl,h1,h2⟩ :=h;exact⟨aYD hp t k h1,yJ hp ts l' h2⟩
end
theorem uH :∀ (ts:List XT) (a:Nat),(bL ts a).1.length=ts.length∧∀k∈ (bL ts a).1,(a:Int) ≤k∧k< ((a+aK ts:Nat) :Int)
 | [],a=>by simp [bL]
 | t::ts,a=>by
  have h:=uH ts (a+ (dS t a).length);have hl:=fB t a;have hx:0<eA t:=by cases t;simp [eA]
  simp only [bL,length_cons,mem_cons,aK];refine⟨by rw [h.1],fun k hk=>?_⟩;rcases hk with rfl|hk
  ·omega
  ·have:=h.2 k hk;omega
mutual
theorem aYE {B:Int}{cons:List Con}:∀ (t:XT) (a:Nat),FineX B t→Few (uG cons) t→∀ (j:Nat) (x:Node),(dS t a)[j]?=some x→FineN cons x∧x.kids.length≤10∧∀k∈x.kids,((a+j:Nat) :Int) <k∧k< ((a+eA t:Nat) :Int)
 | .mk o n ks ps,a,hf,hw,j,x,h=>by
  simp only [FineX]at hf;simp only [Few]at hw;have hk:=uH ks (a+1);simp only [dS]at h;simp only [eA];cases j with
  | zero=>
   simp only [getElem?_cons_zero,Option.some.injEq]at h;subst h;exact⟨⟨hw.2.1,fun e=>by dsimp only;rw [hk.1];exact hf.2.2.2.1 e,fun e=>by dsimp only;rw [hk.1];exact hf.2.2.2.2.1 e⟩,by dsimp only;rw [hk.1];exact hw.1,fun k hkm=>by have:=hk.2 k hkm;omega⟩
  | succ j=>
   simp only [getElem?_cons_succ]at h;obtain⟨a1,a2,a3⟩ :=yK ks (a+1) hf.2.2.2.2.2.2 hw.2.2 j x h;exact⟨a1,a2,fun k hkm=>by have:=a3 k hkm;omega⟩
theorem yK {B:Int}{cons:List Con}:∀ (ts:List XT) (a:Nat),FineXs B ts→mG (uG cons) ts→∀ (j:Nat) (x:Node),(bL ts a).2[j]?=some x→FineN cons x∧x.kids.length≤10∧∀k∈x.kids,((a+j:Nat) :Int) <k∧k< ((a+aK ts:Nat) :Int)
 | [],a,_,_,j,x,h=>by simp [bL]at h
 | t ::ts,a,hf,hw,j,x,h=>by
  simp only [FineXs]at hf;simp only [mG]at hw;have hl:=fB t a;simp only [bL]at h;simp only [aK];by_cases hj:j< (dS t a).length
  · rw [getElem?_append_left hj]at h;obtain⟨a1,a2,a3⟩ :=aYE t a hf.1 hw.1 j x h;exact⟨a1,a2,fun k hkm=>by have:=a3 k hkm;omega⟩
  · rw [getElem?_append_right (by omega)]at h;obtain⟨a1,a2,a3⟩ :=yK ts (a+ (dS t a).length) hf.2 hw.2 _ x h;exact⟨a1,a2,fun k hkm=>by have:=a3 k hkm;omega⟩
end
theorem aPB {B:Int}{ts:List XT}{mn:Int}{cons:List Con}(hf:FineXs B ts)(hw:mG (uG cons) ts)(hs:aK ts≤320)(hl:ts.length≤320) :FineP (fP ts mn cons) :=by
 have hk:=uH ts 0;have hn:=mD ts 0;refine⟨by simp only [fP,aFu];omega,by simp only [fP,aFu];omega,fun i x h=>?_,fun f hfm=>?_⟩
 · obtain⟨a1,a2,a3⟩ :=yK ts 0 hf hw i x h;exact⟨a1,a2,fun k hkm=>by have:=a3 k hkm;simp only [fP,aFu];omega⟩
 · have:=hk.2 f hfm;simp only [fP,aFu];omega
mutual
def zT :XT→Int→List Int
 | .mk o _ ks ps,z=>z::zTs o ps ks 0 z
def zTs (o:Int)(ps:List Pat) :List XT→Nat→Int→List Int
 | [],_,_=>[]
 |t::ts,i,z=>zT t (z+cI o ps (i:Int)) ++zTs o ps ts (i+1) z
end
def zF :List XT→List Int
 | [] =>[]
 |t::ts=>zT t 1++zF ts
mutual
theorem aCr :∀ (t:XT) (z:Int),(zT t z).length=eA t
 | .mk o n ks ps,z=>by rw [zT,eA,length_cons,aQI]
theorem aQI (o:Int)(ps:List Pat) :∀ (ts:List XT) (i:Nat) (z:Int),(zTs o ps ts i z).length=aK ts
 | [],i,z=>by rw [zTs,aK];rfl
 |t::ts,i,z=>by rw [zTs,aK,length_append,aCr,aQI]
end
theorem aPC :∀ (ts:List XT),(zF ts).length=aK ts
 | [] =>rfl
 |t::ts=>by rw [zF,aK,length_append,aCr,aPC]
theorem aQJ :∀ (t:XT) (z:Int),(zT t z)[0]?=some z
 | .mk o n ks ps,z=>by rw [zT];rfl
mutual
theorem bCM {mo:Int}:∀ (t:XT) (z:Int),(∀y∈zT t z,y≤mo) ↔zOk mo t z=true
 | .mk o n ks ps,z=>by
  have ih:=aYF (mo:=mo) o ps ks 0 z;simp only [zT,zOk,mem_cons,and_eq_true,decide_eq_true_eq,←ih];exact⟨fun h=> ⟨h z (.inl rfl),fun y hy=>h y (.inr hy)⟩,fun h y hy=>by rcases hy with rfl|hy;exact h.1;exact h.2 y hy⟩
theorem aYF {mo:Int}(o:Int)(ps:List Pat) :∀ (ts:List XT) (i:Nat) (z:Int),(∀y∈zTs o ps ts i z,y≤mo) ↔aJg mo o ps ts i z=true
 | [],i,z=>by simp [zTs,aJg]
 | t::ts,i,z=>by
  have h1:=bCM (mo:=mo) t (z+cI o ps (i:Int));have h2:=aYF (mo:=mo) o ps ts (i+1) z;simp only [zTs,aJg,List.mem_append,and_eq_true,←h1,←h2];exact⟨fun h=> ⟨fun y hy=>h y (.inl hy),fun y hy=>h y (.inr hy)⟩,fun h y hy=>by rcases hy with hy|hy;exact h.1 y hy;exact h.2 y hy⟩
end
theorem bCN {mo:Int}:∀ (ts:List XT),(∀y∈zF ts,y≤mo) ↔ (ts.all fun t=>zOk mo t 1) =true
 | [] =>by simp [zF]
 | t::ts=>by
  have h1:=bCM (mo:=mo) t 1;have h2:=bCN (mo:=mo) ts;simp only [zF,List.all_cons,List.mem_append,and_eq_true,←h1,←h2];exact⟨fun h=> ⟨fun y hy=>h y (.inl hy),fun y hy=>h y (.inr hy)⟩,fun h y hy=>by rcases hy with hy|hy;exact h.1 y hy;exact h.2 y hy⟩
theorem aMt (o:Int)(ps:List Pat) :∀ (ts:List XT) (a i:Nat) (z:Int) (d:Nat) (k:Int),(bL ts a).1[d]?=some k→∃m:Nat,k= ((a+m:Nat) :Int) ∧ (zTs o ps ts i z)[m]?=some (z+cI o ps ((i+d:Nat) :Int))
 | [],a,i,z,d,k,h=>by simp [bL]at h
 | t::ts,a,i,z,d,k,h=>by
  have hl:=fB t a;have hz:=aCr t (z+cI o ps (i:Int));have hx:0<eA t:=by cases t;simp [eA]
  simp only [bL]at h;simp only [zTs];cases d with
  | zero=>
   simp only [getElem?_cons_zero,Option.some.injEq]at h;refine⟨0,by rw [←h];rfl,?_⟩;rw [getElem?_append_left (by omega),aQJ];rfl
  | succ d=>
   simp only [getElem?_cons_succ]at h;obtain⟨m,h1,h2⟩ :=aMt o ps ts _ (i+1) z d k h;refine⟨(dS t a).length+m,by rw [h1];omega,?_⟩;rw [getElem?_append_right (by omega),show(dS t a).length+m- (zT t (z+cI o ps (i:Int))).length=m by omega,h2,show i+1+d=i+ (d+1)by omega]
mutual
theorem bCO :∀ (t:XT) (a:Nat) (z:Int) (j:Nat) (x:Node) (d:Nat) (k:Int),(dS t a)[j]?=some x→x.kids[d]?=some k→∃s,(zT t z)[j]?=some s∧∃m:Nat,k= ((a+m:Nat) :Int) ∧ (zT t z)[m]?=some (s+cZ x (d:Int))
 | .mk o n ks ps,a,z,j,x,d,k,h,hk=>by
  simp only [dS]at h;simp only [zT];cases j with
  | zero=>
   simp only [getElem?_cons_zero,Option.some.injEq]at h;subst h;obtain⟨m,h1,h2⟩ :=aMt o ps ks (a+1) 0 z d k hk;refine⟨z,rfl,m+1,by rw [h1];omega,?_⟩;rw [getElem?_cons_succ,h2,Nat.zero_add];rfl
  | succ j=>
   simp only [getElem?_cons_succ]at h;obtain⟨s,h1,m,h2,h3⟩ :=aYG o ps ks (a+1) 0 z j x d k h hk;exact⟨s,h1,m+1,by rw [h2];omega,h3⟩
theorem aYG (o:Int)(ps:List Pat) :∀ (ts:List XT) (a i:Nat) (z:Int) (j:Nat) (x:Node) (d:Nat) (k:Int),(bL ts a).2[j]?=some x→x.kids[d]?=some k→∃s,(zTs o ps ts i z)[j]?=some s∧∃m:Nat,k= ((a+m:Nat) :Int) ∧ (zTs o ps ts i z)[m]?=some (s+cZ x (d:Int))
 | [],a,i,z,j,x,d,k,h,hk=>by simp [bL]at h
 | t ::ts,a,i,z,j,x,d,k,h,hk=>by
  have hl:=fB t a;have hz:=aCr t (z+cI o ps (i:Int));simp only [bL]at h;simp only [zTs];by_cases hj:j< (dS t a).length
  · rw [getElem?_append_left hj]at h;obtain⟨s,h1,m,h2,h3⟩ :=bCO t a (z+cI o ps (i:Int)) j x d k h hk;have hm:= (List.getElem?_eq_some_iff.1 h3).1;exact⟨s,by rw [getElem?_append_left (by omega)];exact h1,m,h2,by rw [getElem?_append_left hm];exact h3⟩
  · rw [getElem?_append_right (by omega)]at h;obtain⟨s,h1,m,h2,h3⟩ :=aYG o ps ts _ (i+1) z _ x d k h hk;refine⟨s,by rw [getElem?_append_right (by omega),hz,←hl];exact h1,(dS t a).length+m,by rw [h2];omega,?_⟩;rw [getElem?_append_right (by omega),hz,←hl,show(dS t a).length+m- (dS t a).length=m by omega];exact h3
end
theorem aHb :∀ (ts:List XT) (a:Nat) (f:Int),f∈ (bL ts a).1→∃m:Nat,f= ((a+m:Nat) :Int) ∧ (zF ts)[m]?=some 1
 | [],a,f,h=>by simp [bL]at h
 | t ::ts,a,f,h=>by
  have hl:=fB t a;have hz:=aCr t 1;have hx:0<eA t:=by cases t;simp [eA]
  simp only [bL,mem_cons]at h;simp only [zF];rcases h with rfl|h
  ·exact⟨0,rfl,by rw [getElem?_append_left (by omega),aQJ]⟩
  · obtain⟨m,h1,h2⟩ :=aHb ts _ f h;exact⟨(dS t a).length+m,by rw [h1];omega,by rw [getElem?_append_right (by omega),hz,←hl,show(dS t a).length+m- (dS t a).length=m by omega];exact h2⟩
theorem aYH :∀ (ts:List XT) (a:Nat) (j:Nat) (x:Node) (d:Nat) (k:Int),(bL ts a).2[j]?=some x→x.kids[d]?=some k→∃s,(zF ts)[j]?=some s∧∃m:Nat,k= ((a+m:Nat) :Int) ∧ (zF ts)[m]?=some (s+cZ x (d:Int))
 | [],a,j,x,d,k,h,hk=>by simp [bL]at h
 | t ::ts,a,j,x,d,k,h,hk=>by
  have hl:=fB t a;have hz:=aCr t 1;simp only [bL]at h;simp only [zF];by_cases hj:j< (dS t a).length
  · rw [getElem?_append_left hj]at h;obtain⟨s,h1,m,h2,h3⟩ :=bCO t a 1 j x d k h hk;have hm:= (List.getElem?_eq_some_iff.1 h3).1;exact⟨s,by rw [getElem?_append_left (by omega)];exact h1,m,h2,by rw [getElem?_append_left hm];exact h3⟩
  · rw [getElem?_append_right (by omega)]at h;obtain⟨s,h1,m,h2,h3⟩ :=aYH ts _ _ x d k h hk;refine⟨s,by rw [getElem?_append_right (by omega),hz,←hl];exact h1,(dS t a).length+m,by rw [h2];omega,?_⟩;rw [getElem?_append_right (by omega),hz,←hl,show(dS t a).length+m- (dS t a).length=m by omega];exact h3
mutual
theorem bB5 :∀ (t:XT) (a m:Nat),m<eA t→m=0∨∃ (j:Nat) (x:Node),(dS t a)[j]?=some x∧ ((a+m:Nat) :Int) ∈x.kids∧j<m
 | .mk o n ks ps,a,m,h=>by
  simp only [eA]at h;simp only [dS];cases m with
  |zero=>exact .inl rfl
  | succ m=>
   right;rcases aFJ ks (a+1) m (by omega)with h1| ⟨j,x,h1,h2,h3⟩
   ·exact⟨0,_,rfl,by rw [show a+ (m+1) =a+1+m by omega];exact h1,by omega⟩
   ·exact⟨j+1,x,h1,by rw [show a+ (m+1) =a+1+m by omega];exact h2,by omega⟩
theorem aFJ :∀ (ts:List XT) (a m:Nat),m<aK ts→ ((a+m:Nat) :Int) ∈ (bL ts a).1∨∃ (j:Nat) (x:Node),(bL ts a).2[j]?=some x∧ ((a+m:Nat) :Int) ∈x.kids∧j<m
 | [],a,m,h=>by simp [aK]at h
 | t ::ts,a,m,h=>by
  have hl:=fB t a;simp only [aK]at h;simp only [bL];by_cases hm:m<eA t
  · rcases bB5 t a m hm with rfl| ⟨j,x,h1,h2,h3⟩
    ·exact .inl (by simp)
    ·exact .inr ⟨j,x,by rw [getElem?_append_left (by omega)];exact h1,h2,h3⟩
  · have e:a+m=a+ (dS t a).length+ (m- (dS t a).length) :=by omega
    rcases aFJ ts (a+ (dS t a).length) (m- (dS t a).length) (by omega)with h1| ⟨j,x,h1,h2,h3⟩
    ·exact .inl (List.mem_cons_of_mem _ (by rw [e];exact h1))
    ·exact .inr ⟨(dS t a).length+j,x,by rw [getElem?_append_right (by omega),show(dS t a).length+j- (dS t a).length=j by omega];exact h1,by rw [e];exact h2,by omega⟩
end
theorem bB6 {ts:List XT}{mn:Int}{cons:List Con}:Sprop (fP ts mn cons) (zF ts) :=by
 refine⟨by rw [aPC];simp only [fP,aFu];rw [mD],fun f hf=>?_,fun i x d k h hk=>?_⟩
 · obtain⟨m,h1,h2⟩ :=aHb ts 0 f hf;rw [h1,show((((0+m:Nat) :Int)).toNat) =m by omega];exact h2
 · obtain⟨s,h1,m,h2,h3⟩ :=aYH ts 0 i x d k h hk;exact⟨s,h1,by rw [h2,show((((0+m:Nat) :Int)).toNat) =m by omega];exact h3⟩
theorem aS8 {ts:List XT}{mn:Int}{cons:List Con}:yF (fP ts mn cons) :=fun m hm=>by
 simp only [fP,aFu]at hm ⊢;rw [mD]at hm;rcases aFJ ts 0 m hm with h1| ⟨j,x,h1,h2,h3⟩
 ·exact .inl ⟨_,h1,by omega⟩
 ·exact .inr ⟨j,x,_,h1,h2,by omega,h3⟩
theorem aFK {p:Prog}{Z:List Int}(hS:Sprop p Z){i:Nat}{x:Node}(hx:p.nodes[i]?=some x) :∀ (t:List Int) (j:Nat) (l:List Int) (P:Nat→Prop),x.kids.drop j=t→l.length=p.nodes.length→P i→ (∀m,P m→l[m]?=Z[m]?) →∀m,(P m∨∃k∈t,k.toNat=m) → (iL x i j t l)[m]?=Z[m]?
 | [],j,l,P,h,hl,hi,hP,m,hm=>by
  rcases hm with hm| ⟨k,hk,_⟩
  ·exact hP m hm
  ·cases hk
 | k ::t,j,l,P,h,hl,hi,hP,m,hm=>by
  obtain⟨g1,g2,_⟩ :=bB h;obtain⟨s,e1,e2⟩ :=hS.kid i x j k hx g1;have ei:l.getD i 0=s:=by rw [List.getD_eq_getElem?_getD,hP i hi,e1];rfl
  have hkl:k.toNat<l.length:=by have:= (List.getElem?_eq_some_iff.1 e2).1;rw [hl,←hS.len];exact this
  rw [iL,ei];refine aFK hS hx t (j+1) (l.set k.toNat (s+cZ x j)) (fun m=>P m∨k.toNat=m) g2 (by simpa using hl) (.inl hi) (fun m hm=>?_) m ?_
  · rw [getElem?_set];by_cases g:k.toNat=m
    ·rw [if_pos g,if_pos hkl,←g,e2]
    · rw [if_neg g];rcases hm with hm|hm
      ·exact hP m hm
      ·exact absurd hm g
  · rcases hm with hm| ⟨k',hk,e⟩
    ·exact .inl (.inl hm)
    · rcases List.mem_cons.1 hk with rfl|hk
      ·exact .inl (.inr e)
      ·exact .inr ⟨k',hk,e⟩
theorem aC0 {p:Prog}{Z:List Int}(hS:Sprop p Z)(hc:yF p) :∀ (t:List Node) (i:Nat) (l:List Int),p.nodes.drop i=t→l.length=p.nodes.length →
  (∀m,((∃f∈p.funs,f.toNat=m) ∨∃ (i':Nat) (x:Node) (k:Int),p.nodes[i']?=some x∧k∈x.kids∧k.toNat=m∧i'<i) →l[m]?=Z[m]?) →∀m,m<p.nodes.length→ (fZ i t l)[m]?=Z[m]?
 | [],i,l,h,hl,hP,m,hm=>by
  have:=bE h;rcases hc m hm with h1| ⟨i',x,k,h1,h2,h3,h4⟩
  ·exact hP m (.inl h1)
  ·exact hP m (.inr ⟨i',x,k,h1,h2,h3,by omega⟩)
 | x :: t,i,l,h,hl,hP,m,hm=>by
  obtain⟨g1,g2,g3⟩ :=bB h;rw [fZ];have hi:i<p.nodes.length:= (List.getElem?_eq_some_iff.1 g1).1;refine aC0 hS hc t (i+1) _ g2 (by rw [pA,hl]) (fun m' hm'=>?_) m hm;refine aFK hS g1 x.kids 0 l (fun m=> (∃f∈p.funs,f.toNat=m) ∨∃ (i':Nat) (x:Node) (k:Int),p.nodes[i']?=some x∧k∈x.kids∧k.toNat=m∧i'<i) rfl hl ?_ hP m' ?_
  · rcases hc i hi with h1| ⟨i',y,k,h1,h2,h3,h4⟩
    ·exact .inl h1
    ·exact .inr ⟨i',y,k,h1,h2,h3,h4⟩
  · rcases hm' with h1| ⟨i',y,k,h1,h2,h3,h4⟩
    ·exact .inl (.inl h1)
    · by_cases g:i'<i
      ·exact .inl (.inr ⟨i',y,k,h1,h2,h3,g⟩)
      · have e:i'=i:=by omega
        subst e;rw [g1]at h1;cases h1;exact .inr ⟨k,h2,h3⟩
theorem aFL :∀ (t:List Int) (l:List Int),(∀f∈t,f.toNat<l.length) →∀m,((∃f∈t,f.toNat=m) ∨l[m]?=some 1) → (mB t l)[m]?=some 1
 | [],l,_,m,hm=>by
  rcases hm with⟨f,hf,_⟩ |hm
  ·cases hf
  ·exact hm
 | a ::t,l,hb,m,hm=>by
  rw [mB];have ha:=hb a (List.mem_cons_self ..);refine aFL t _ (fun f hf=>by rw [length_set];exact hb f (List.mem_cons_of_mem _ hf)) m ?_;by_cases g:a.toNat=m
  ·exact .inr (by rw [getElem?_set,if_pos g,if_pos ha])
  · rcases hm with⟨f,hf,e⟩ |hm
    · rcases List.mem_cons.1 hf with rfl|hf
      ·exact absurd e g
      ·exact .inl ⟨f,hf,e⟩
    ·exact .inr (by rw [getElem?_set,if_neg g];exact hm)
theorem aS9 {p:Prog}(hp:FineP p){Z:List Int}(hS:Sprop p Z)(hc:yF p) :jF p=Z:=by
 have hl: (mB p.funs (replicate p.nodes.length 0)).length=p.nodes.length:=by rw [tX];simp
 apply List.ext_getElem?;intro m;by_cases hm:m<p.nodes.length
 · refine aC0 hS hc p.nodes 0 _ rfl hl (fun m' hm'=>?_) m hm;rcases hm' with⟨f,hf,e⟩ | ⟨i',_,_,_,_,_,h⟩
   · have:=hp.funs f hf;rw [aFL p.funs _ (fun f hf=>by have:=hp.funs f hf;simp;omega) m' (.inl ⟨f,hf,e⟩),←e,hS.root f hf]
   ·omega
 ·rw [List.getElem?_eq_none (by rw [aAp];omega),List.getElem?_eq_none (by rw [hS.len];omega)]
def wO (l:List Int) :Bool:=l.all fun z=>decide (z≤30)
theorem aMu (p:Prog)(S:List Int)(hS:S.length≤1000) :∀ (t:List Int) (i:Nat),S.drop i=t→Ends PP 0 (aDO p S (i:Int)).as (.ret (.tup [Prog.av (if wO t then p else iM),.int .i64 (if wO t then 0 else 3)])) (aA [] 0)
 | [],i,h=>by
  have:=bE h;exact aXV p S (i:Int) sd
 | s ::t,i,h=>by
  obtain⟨g1,g2,g3⟩ :=bB h;by_cases g:s≤30
  · have e:wO (s::t) =wO t:=by simp [wO,g]
    rw [e];exact(aXU p S (i:Int) s sd sd sd (by simpa using g) sd).ends (aMu p S hS t (i+1) g2)
  · have e:wO (s::t) =false:=by simp [wO,g]
    rw [e];exact Ends.val (aXT p S (i:Int) s sd sd sd (by simpa using g)) (fun E cv h=>eB h)
def zL (ts:List XT) :Bool:=tY (aK ts:Nat) &&wO (zF ts)
theorem aTa {B:Int}{ts:List XT}{mn:Int}{cs:List Con}(hf:FineXs B ts)(hw:mG (uG cs) ts)(hl:ts.length≤320) :
  aJ PP 43 [Prog.av (fP ts mn cs)] (.tup [Prog.av (if zL ts then fP ts mn cs else iM),.int .i64 (if zL ts then 0 else 3)]) :=by
 have hn: (fP ts mn cs).nodes.length=aK ts:=by simp only [fP,aFu];rw [mD]
 refine mZ (s:=aXi (fP ts mn cs)) (by kernel_rfl) (by kernel_rfl) rfl (by rfl) ?_;by_cases g:aK ts≤300
 · have e:zL ts=wO (zF ts) :=by
    have:tY (aK ts:Nat) =true:=by simp [tY];omega
    rw [zL,this,Bool.true_and]
   have hp:FineP (fP ts mn cs) :=aPB hf hw (by omega) hl;have hz:=aCU hp;rw [aS9 hp bB6 aS8]at hz;rw [e];exact(aXS _ _ (by rw [hn];simp;omega) hz).ends (aMu _ _ (by rw [aPC];omega) (zF ts) 0 rfl)
 · have e:zL ts=false:=by
    have:tY (aK ts:Nat) =false:=by simp [tY];omega
    rw [zL,this,Bool.false_and]
   rw [e];exact Ends.val (aXR _ (by rw [hn];simp;omega)) (fun E cv h=>eB h)
theorem aYI {ts:List XT}{cs:List Con}(hc:cs.length≤20) :zL ts=aBx 30 cs ts:=by
 have h:wO (zF ts) = (ts.all fun t=>zOk 30 t 1) :=by
  rw [Bool.eq_iff_iff,←bCN];simp [wO]
 rw [zL,aBx,h,decide_eq_true hc,Bool.and_true,Bool.and_comm]
noncomputable def bB7 (p:Prog) :Int:=if aH p=false then 2 else if(dF p).1=false then 7 else 0
theorem aHc {p:Prog}(hs:aE p=true) :aJ PP 39 [Prog.av p] (.int .i64 (bB7 p)) :=by
 refine mZ (s:=aXj p) (by kernel_rfl) (by kernel_rfl) rfl (by rfl) ?_;have h1:=aIe p hs;unfold bB7;cases hf:aH p
 case false=>
  rw [hf]at h1;exact aXW p false h1 rfl
 rw [hf]at h1;obtain⟨hp,_,_⟩ :=eE hs hf;have h2:=aO7 hp;have e: (dF p).1=gQ p (jF p) 0 (jF p) :=by rw [dF,if_pos hf]
 rw [←e]at h2;cases hc: (dF p).1
 case false=>rw [hc]at h2;exact aXX p true false h1 rfl h2 rfl
 rw [hc]at h2;exact aXY p true true h1 rfl h2 rfl
theorem aTb {p:Prog}(hs:aE p=true)(hf:aH p=true){ts:List XT}(ht:aR p ts p.funs) :aJ PP 49 [Prog.av p] (.ilst 1 (map bU (pH ts 0)) false) :=by
 refine mZ (s:=aX7 p) (by kernel_rfl) (by kernel_rfl) rfl (by rfl) ?_;have hb:=hs;simp only [aE,and_eq_true,decide_eq_true_eq]at hb;obtain⟨hp,_,_⟩ :=eE hs hf;have hsz:=mE hs hf ht;have hln:=gC ht;have hfx:=kB hp (gR hf) ts p.funs ht;have sp:=aMd (aJc hs) (by omega) ht;have e0:=aYh p ts (nH (m:=0) (ks:=[]) sp (by kernel_rfl) (by kernel_rfl) trivial ⟨xK _,trivial⟩);refine e0.ends ?_
 have lp:=aMp (B:=400) p (by decide) (v:=.ilst 1 (map bU (pH ts 0)) false) (hp:=aA [] 0) ts [] 0 [] false hfx (by omega) (by omega) (by simp;omega) (by simp;omega) (fun r b l' d' e1 e2 e3=>by
  rw [aBF (-1) ts 0 false (by omega)]at e1;simp only [List.nil_append]at e1 e2;rw [e1,e2];exact aYk p ts _ b d' (pH ts 0) (fP ts p.main p.cons) (by simp) (aFI ts p.main p.cons (by omega) (by omega) hfx (by omega)))
 exact lp
theorem aTc {p:Prog}(hs:aE p=true){ts:List XT}(ht:aH p=true→aR p ts p.funs) :aJ PP 18 [Prog.av p] (.tup [.ilst 1 (map bU (mF p ts).1) false,.int .i64 (mF p ts).2]) :=by
 refine mZ (s:=aX8 p) (by kernel_rfl) (by kernel_rfl) rfl (by rfl) ?_;have hk:=aHc hs;unfold bB7 at hk;unfold mF;cases hf:aH p
 case false=>
  rw [hf]at hk;exact Ends.val (aMj p 2 hk rfl) (fun E cv h=>qG h)
 rw [hf]at hk;cases hc: (dF p).1
 case false=>
  rw [hc]at hk;exact Ends.val (aMj p 7 hk rfl) (fun E cv h=>qG h)
 rw [hc]at hk;exact aYm p 0 (pH ts 0) hk rfl (aTb hs hf (ht hf))
theorem aMv {p:Prog}(hf:aH p=true) :p.cons.length≤20:=by
 simp only [aH,aB4,and_eq_true,decide_eq_true_eq]at hf;exact hf.1.2.1.2
theorem aTd {p:Prog}(hs:aE p=true){ts:List XT}(ht:aH p=true→aR p ts p.funs)(node:Int) :aJ PP 20 [Prog.av p,.int .i64 node] (.tup [Prog.av (doX p ts node).1,.int .i64 (doX p ts node).2]) :=by
 have kl:∀r:Prog×Int,keyless (.tup [Prog.av r.1,.int .i64 r.2]) =true:=fun r=>rfl;refine mZ (s:=aX9 p node) (by kernel_rfl) (by kernel_rfl) rfl (kl _) ?_;have hk:=aHc hs;unfold bB7 at hk;unfold doX;have hb:=hs;simp only [aE,and_eq_true,decide_eq_true_eq]at hb;cases hf:aH p
 case false=>
  rw [hf]at hk;have e: (if node<0∨node≥ (p.nodes.length:Int)then(iM,(2:Int))else if false=false then(iM,2)else if(dF p).1=false then(iM,7)else pL ts p.main p.cons node) = (iM,2) :=by split<;>rfl
  rw [e];exact Ends.val (aYn p node 2 hk rfl) (fun E cv h=>eB h)
 rw [hf]at hk;by_cases h1:node<0
 · rw [if_pos (.inl h1)];cases hc: (dF p).1
   case false=>rw [hc]at hk;exact Ends.val (aMk p node 7 hk rfl sd) (fun E cv h=>eB h)
   rw [hc]at hk;exact Ends.val (aMk p node 0 hk rfl sd) (fun E cv h=>eB h)
 · by_cases h2:node≥ (p.nodes.length:Int)
   · rw [if_pos (.inr h2)];cases hc: (dF p).1
     case false=>rw [hc]at hk;exact Ends.val (aMl p node 7 hk rfl sd sd) (fun E cv h=>eB h)
     rw [hc]at hk;exact Ends.val (aMl p node 0 hk rfl sd sd) (fun E cv h=>eB h)
   · rw [if_neg (by omega),if_neg (by decide)];cases hc: (dF p).1
     case false=>
      rw [hc]at hk;rw [if_pos rfl];exact Ends.val (aYo p node 7 hk rfl sd sd rfl) (fun E cv h=>eB h)
     rw [hc]at hk;rw [if_neg (by decide)];have ht:=ht hf;obtain⟨hp,_,_⟩ :=eE hs hf;have hsz:=mE hs hf ht;have hln:=gC ht;have hfx:=kC (show(400:Int) ≤500000 by decide) (kB hp (gR hf) ts p.funs ht);have hfw:=yJ hp ts p.funs ht;have hcn:=aMv hf;have sp:=aMd (aJc hs) (by omega) ht;have e0:=aYp p node 0 ts hk rfl sd sd rfl (nH (m:=0) (ks:=[]) sp (by kernel_rfl) (by kernel_rfl) trivial ⟨xK _,trivial⟩);refine e0.ends ?_;have hat:=aYy node ts 0
     have key:∀ (r:List XT) (b:Int) (l':List Int) (d':Bool),r= (thF node ts 0 false).1→d'= (thF node ts 0 false).2→Ends PP 0 (uE p node r ((r.length:Nat) :Int) b d' l').as (.ret (.tup [Prog.av (pL ts p.main p.cons node).1,.int .i64 (pL ts p.main p.cons node).2])) (aA [] 0) :=fun r b l' d' e1 e2=>by
      have stay:thF node ts 0 false= (ts,false) →pL ts p.main p.cons node= (iM,7) →Ends PP 0 (uE p node r ((r.length:Nat) :Int) b d' l').as (.ret (.tup [Prog.av (pL ts p.main p.cons node).1,.int .i64 (pL ts p.main p.cons node).2])) (aA [] 0) :=fun g1 g2=>by
       rw [g1]at e1 e2;rw [g2,e1,e2];exact Ends.val (aYr p node ts _ b false l' (fP ts p.main p.cons) (by simp) (aFI ts p.main p.cons (by omega) (by omega) hfx (by omega)) rfl) (fun E cv h=>eB h)
      cases hr:atF node ts 0 with
      |go m=>rw [hr]at hat;exact stay hat (aJq hr)
      |past=>rw [hr]at hat;exact stay hat.1 (aCm hr)
      | did ts'=>
       rw [hr]at hat;have g1:thF node ts 0 false= (ts',true) :=hat.1;rw [g1]at e1 e2;rw [e1,e2];obtain⟨f1,f2⟩ :=aBA hfx (by omega) hr;obtain⟨w1,w2⟩ :=aJI hfw hr;have hft:=aTa (mn:=p.main) f1 w1 (by omega);have hpg:=aFI ts' p.main p.cons (by omega) (by omega) f1 (by omega);have ed:pL ts p.main p.cons node= (if zL ts' then fP ts' p.main p.cons else iM,if zL ts' then 0 else 3) :=by
        unfold pL;rw [hr,aYI hcn];dsimp only;cases aBx 30 p.cons ts'<;>rfl
       rw [ed];exact aYs p node ts' _ b true l' (fP ts' p.main p.cons) _ _ (by simp) hpg rfl hft
     have lp:=aMq (B:=500000) p node (by decide) (v:=.tup [Prog.av (pL ts p.main p.cons node).1,.int .i64 (pL ts p.main p.cons node).2]) (hp:=aA [] 0) ts [] 0 [] false hfx (by omega) (by omega) (by simp;omega) (by simp;omega) (fun r b l' d' e1 e2=>key r b l' d' (by simpa using e1) e2);exact lp
section
variable {P :Program}
def bEc (P:Program)(is:List Ins)(s:TS) :Option (AV×Nat×List Prop) :=
 match pX P is s.as with
 | some (s1,ps) =>match s1.cs,s1.fr.kind,s1.fr.mode,s1.fr.roundOf,s1.fr.defers with
  | [],.normal,.ret,none,[] =>match P.funcs[s1.fr.fn]? with
   | some fd=>match kT P s1.h s1.fr.tm fd.results.toList with
    |some [v] =>some (v,s1.fr.fn,ps)
    |_=>none
   |none=>none
  |_,_,_,_,_=>none
 |none=>none
theorem aJJ {f : Nat} {args : List AV} {is : List Ins}{b:Bool}{ps:List Prop}{cargs:List Value}(hb:tG P f=true)(hk:keylessL args=true)(h0:bEc P is (start P f args) =some (.bool b,f,ps))(hps:AllP ps)(w:World)(hv:VRs (embOf w) args cargs) :
  Calls P f ⟨cargs⟩ w fun e w'=>e= .returned (.bool b) ∧GrownO w w':=by
 intro base;unfold tG at hb;split at hb
 · rename_i fn hf;split at hb
   · rename_i c hc;have hg:cL P f args .normal=some ⟨f,dA .leaf 0 args,max fn.ntmps args.length,[.code c],[],.run,.normal,none⟩ :=by simp [cL,hf,hc]
     have fr':FR (embOf w) _ (Frame.enter P f ⟨cargs⟩ .normal) :=iT hg hv;have f1:FR (embOf w) (start P f args).as.fr (Frame.enter P f ⟨cargs⟩ .normal) :=by
      have e1: (start P f args).as.fr= ⟨f,cP ((List.range args.length).zip args),max fn.ntmps args.length,[.code c],[],.run,.normal,none⟩ :=by simp [start,hf,hc,TS.as,TF.fr]
      rw [e1];refine⟨fr'.fn,⟨fr'.tm.1,fun t a e=>?_⟩,fr'.todo,fr'.defers,fr'.mode,fr'.kind,fr'.round⟩;have h1:=aJ8 (aBV e);have hlt:= (List.getElem?_eq_some_iff.1 h1).1;have h2: (dA .leaf 0 args).at t=some a:=by
       unfold dA;rw [aY,if_pos hlt];exact h1
      exact fr'.tm.2 t a h2
     have e2 : (start P f args).as.cs = [] := by unfold start;split; · split<;>rfl
                                                 ·rfl
     have e3 : (start P f args).as.h = ⟨.leaf, 0⟩ := by unfold start;split; · split<;>rfl
                                                        ·rfl
     unfold bEc at h0;split at h0
     · rename_i s1 qs h1;split at h0
       · rename_i hcs hkd hmo hro hde;split at h0
         · rename_i fd hfd;split at h0
           · rename_i v hrs;simp only [Option.some.injEq,Prod.mk.injEq]at h0;obtain⟨rfl,hfn,rfl⟩ :=h0;have hl:LeadsM P 0 (start P f args).as s1:=fR h1 (fun p hpp=>hps.mem p hpp);obtain⟨E',g,ccs,w',s2,f2,fs2,r2,x⟩ :=hl (by rw [e3];exact Nat.le_refl _) (embOf w) _ [] w base f1 (by rw [e2];rfl) (by rw [e3];exact aQ3 w);rw [hcs]at fs2;have:=fs2.nil_inv;subst this;obtain⟨cv,g1,g2⟩ :=vP r2 f2.tm hrs;simp only [aBH,VR]at g2;subst g2;have fm:=f2.mode;rw [hmo]at fm;simp only [MR]at fm;have fdd:=f2.defers;rw [hde]at fdd;rw [e3]at x;have hno:∀ {b o},¬ (⟨.leaf,0⟩ :Hp).look b=some o:=fun {b o} e=>by simp [Hp.look,T.at_leaf]at e
             refine⟨.returned (.bool b),w',g,⟨rfl,⟨x.os,x.output,fun i hi=>?_⟩,x.froz,x.size⟩,s2,by rw [f2.fn,hfn],fm,fdd.nil_inv,by rw [f2.kind,hkd],fd,by rw [f2.fn];exact hfd,g1⟩;have:=x.keep i hi (fun b o L e=>absurd e hno);rw [this];cases w.heap[i]? with
             |none=>rfl
             |some ob=>cases ob<;>simp
           ·cases h0
         ·cases h0
       ·cases h0
     ·cases h0
   ·cases hb
 ·cases hb
theorem cW {f:Nat}{args:List AV}{b:Bool}{cargs:List Value}(L:List Pf)(is:List Ins)(w:World)(hv:VRs (embOf w) args cargs)(hb:tG P f=true:=by kernel_rfl)(hk:keylessL args=true:=by kernel_rfl)(h0:bEc P is (start P f args) =some (.bool b,f,L.map Pf.p) :=by kernel_rfl) :
    Calls P f ⟨cargs⟩ w fun e w'=>e= .returned (.bool b) ∧GrownO w w':=aJJ hb hk h0 (bCd L) w hv
end
theorem aYJ (p:Prog)(node:Int)(y0 y1:Bool)(h0:aJ PP 10 [(Prog.av p)] (bV y0))(h1: (!y0) =true)(h2:aJ PP 11 [] (bV y1)) :
  ∀ (w:World) (cargs:List Value),VRs (embOf w) [Prog.av p,.int .i64 node] cargs→Calls PP 4 ⟨cargs⟩ w fun e w'=>e= .returned (.bool y1) ∧GrownO w w':=
 fun w cargs hv=>cW [qp h0,qp h1,qp h2] [rn 9,pB y0,rn 2,bt 15,rn 3,pB y1,rn 3] w hv
theorem aYK (p:Prog)(node:Int)(y0:Bool)(y1:List Int)(y2:Int)(y3:List Int)(y4:Int)(y5:Prog)(y6:Int)(y7:Prog)(y8:Int)(y9 y10 y11:Bool)(h0:aJ PP 10 [(Prog.av p)] (bV y0))(h1: (!y0) =false)(h2:aJ PP 17 [(Prog.av p)] (.tup [(iI y1),(nI y2)]))(h3:aJ PP 18 [(Prog.av p)] (.tup [(iI y3),(nI y4)]))(h4:aJ PP 19 [(Prog.av p),(nI node)] (.tup [(Prog.av y5),(nI y6)]))(h5:aJ PP 20 [(Prog.av p),(nI node)] (.tup [(Prog.av y7),(nI y8)]))(h6: (y2==y4) =true)(h7:aJ PP 21 [(iI y1),(iI y3)] (bV y9))(h8:y9=true)(h9: (y6==y8) =true)(h10:aJ PP 16 [(Prog.av y5),(Prog.av y7)] (bV y10))(h11:y10=true)(h12:aJ PP 11 [] (bV y11)) :
  ∀ (w:World) (cargs:List Value),VRs (embOf w) [Prog.av p,.int .i64 node] cargs→Calls PP 4 ⟨cargs⟩ w fun e w'=>e= .returned (.bool y11) ∧GrownO w w':=
 fun w cargs hv=>cW [qp h0,qp h1,qp h2,qp h3,qp h4,qp h5,qp h6,qp h7,qp h8,qp h9,qp h10,qp h11,qp h12] [rn 9,pB y0,rn 2,bf 15,rn 5,.pure (.tup [(iI y1),(nI y2)]),rn 9,.pure (.tup [(iI y3),(nI y4)]),rn 10,.pure (.tup [(Prog.av y5),(nI y6)]),rn 11,.pure (.tup [(Prog.av y7),(nI y8)]),rn 13,bt 42,rn 2,pB y9,rn 2,bt 47,rn 5,bt 52,rn 2,pB y10,rn 2,bt 57,pB y11,rn 4] w hv
end
end Go.Hb
