/- A machine on abstract values, its soundness, ways, plain laws. -/
import Derived.Test.YtnljmgihoioocaaGreatHF
import Derived.Test.YtnljmgihoioocaaGreatHG
import Derived.Test.YtnljmgihoioocaaGreatHH
set_option linter.defProp false
set_option linter.unusedVariables false
set_option linter.unusedSimpArgs false
set_option linter.unusedSectionVars false
set_option maxRecDepth 100000
namespace Go.Hb
open AV (ptr ren renL)
open List (drop getElem?_set length map nodup_nil set take)
open Nat (ble le_refl zero_le)
open Pats (av)
open Go.Proofs Tryz
noncomputable section
abbrev nV (a:Nat)(b:List (Nat×Nat)):=oL a 1 (map aW b)
abbrev aQf (a:Nat)(b c:Int)(d:List XT)(e:List Pat):=oC a [(nI b),(nI c),(.gl 3 1 0 d.length false),(iP e)]
abbrev zK (a b:List (Nat×Nat))(c:List (Option XT))(d:Nat)(e f:Int)(g:List XT)(h:List Pat):=[nV 4 a,(5,(.zone true [6] (eN b (set c d none) d)),false),aQf 6 e f g h]
abbrev aRT (a b c d:Int)(e:List (Nat×Nat))(f:List Pat)(g h:List (Nat×Nat))(i:List (Option XT))(j:Nat)(k:Int)(l:List XT)(m:List (Option XT)):=[oC 0 [(nI a)],oC 1 [(nI b)],oC 2 [(nI c),(nI d),(.gl 4 1 0 e.length false),(iP f)],oL 3 1 (map aW g),oL 4 1 (map aW e),(5,(.zone true [6] (eN h (set i j none) j)),false),oC 6 [(nI c),(nI k),(.gl 3 1 0 l.length false),(iP f)],(8,(.zone true [] (ZV e m)),false)]
abbrev aQg (a:Nat):=oL a 1 (map aW ([] :List (Nat×Nat)))
abbrev bGk:AV:=.gl 5 1 0 ([] :List (Nat×Nat)).length false
abbrev aRU (a b c d:Int)(e:List XT)(f:List Pat)(g:Int)(h:List (Nat×Nat))(i:List (Option XT))(j:Nat):=[oC 0 [(nI a)],oC 1 [(nI b)],oC 2 [(nI c),(nI d),(.gl 4 1 0 e.length false),(iP f)],oC 3 [(nI c),(nI g),bGk,(iP f)],(4,gh,false),aQg 5,(6,(.zone true [2] (eN h (set i j none) j)),false),(7,(.zone true [4] (cH e)),false)]
abbrev aEo (a:Nat)(b c:Int)(d:List (Nat×Nat))(e:List Pat):=oC a [(nI b),(nI c),(.gl 2 1 0 d.length false),(iP e)]
abbrev aXp (a:Nat×Nat)(b c d e:Int)(f:List (Nat×Nat))(g:List Pat)(h i:List (Nat×Nat))(j:List (Option XT))(k:Nat)(l:Int)(m:List XT)(n:List (Option XT))(o:XT):=Spec PP (.enter 251 [(aW a),(.func 252 [] [(.ptr 0 0),(.ptr 1 0)])]) (aA (aRT b c d e f g h i j k l m n++[(9,(.zone true [] (ZV h (map some m))),false)]) 11) (.ret (.ptr 12 0)) (aA (aRT b c d e f g h i j k l m n++[(11,(.zone true [] (ZV h (map some m))),false),(12,gh,false),(13,(.zone true [12] (Z1 o)),false)]) 14)
abbrev aXq (a:Prog)(b c d:Int)(e:List (Nat×Nat))(f:List Pat)(g:List (Option XT))(h:XT):=Spec PP (.enter 91 [(Prog.av a),(nI b)]) (aA [oC 0 [(iN a.nodes),(iI a.funs),(nI a.main),(iC a.cons)],aEo 1 c d e f,oL 2 1 (map aW e),(3,(.zone true [] (ZV e g)),false)] 5) (.ret (.ptr 5 0)) (aA [oC 0 [(iN a.nodes),(iI a.funs),(nI a.main),(iC a.cons)],aEo 1 c d e f,oL 2 1 (map aW e),(3,(.zone true [] (ZV e g)),false),(5,gh,false),(6,(.zone true [5] (Z1 h)),false)] 7)
abbrev aC3 (a:Nat)(b:Prog):=oC a [(iN b.nodes),(iI b.funs),(nI b.main),(iC b.cons)]
abbrev aC4 (a:Nat)(b c:Int)(d:List (Nat×Nat))(e:List Pat):=oC a [(nI b),(nI c),(.gl 4 1 0 d.length false),(iP e)]
abbrev aQh:AV:=.gl 3 1 0 ([] :List (Nat×Nat)).length false
abbrev aJ6:AV:=.gl 8 1 0 ([] :List (Nat×Nat)).length false
abbrev rG (a:List XT):AV:=.gl 3 1 0 a.length false
def bES(a:Prog)(b:Int):TS:=aX PP 91 [(Prog.av a),(nI b)] [] 0
def aQi(a:Prog)(j b c:Int)(d:List Int)(e:List Pat)(f g:Int)(i:List Pat):TS:=⟨(tf 91 44 [kp 2 0,(4,.nilp),kp 5 1,kp 6 2] [kc f91 60,kc f91 61,kc f91 31]),[],[aC3 0 a,oC 1 [(nI b),(nI c),(iI d),(iP e)],oC 2 [(nI f),(nI g),aQh,(iP i)],aQg 3],4⟩
def aJ7(a:Prog)(j b c:Int)(d:List Int)(e:List Pat)(f g:Int)(i:List Pat):TS:=⟨(tf 91 44 [kp 2 0,(4,.nilp),kp 5 1,kp 6 2] [kc f91 60,kc f91 61,kc f91 31]),[],[aC3 0 a,oC 1 [(nI b),(nI c),(iI d),(iP e)],oC 2 [(nI f),(nI g),aQh,(iP i)],aQg 3,(4,(.zone true [] (ZV ([] :List (Nat×Nat)) ([] :List (Option XT)))),false)],5⟩
def aGe(a:Prog)(k:Int)(c:List Int)(d e f:Int)(g:List Pat)(i:Int)(b:List (Nat×Nat))(j:List (Option XT)):TS:=⟨(tf 91 44 [kp 2 0,(4,.nilp),kp 6 1,(24,(iI c)),(25,(nI d)),(26,(nI i))] [kc f91 244,kl f91 244,.inBlock 0,kc f91 31]),[],[aC3 0 a,aEo 1 e f b g,nV 2 b,(3,(.zone true [] (ZV b j)),false)],4⟩
def aQj(a:Prog)(l:Int)(c:List Int)(d e f:Int)(g:List Pat)(i:XT)(j:Int)(b:List (Nat×Nat))(k:List (Option XT)):TS:=⟨(tf 91 44 [kp 2 0,(4,.nilp),kp 6 1,(24,(iI c)),(25,(nI d)),(26,(nI j))] [kc f91 1959,kl f91 244,.inBlock 0,kc f91 31]),[],[aC3 0 a,oC 1 [(nI e),(nI f),(.gl 2 1 0 (b.length+1) false),(iP g)],(2,(.lst 1 (map aW b++ [.ptr 3 0])),false),(3,gh,false),(4,(.zone true [3] (Z1 i)),false),(5,(.zone true [] (ZV b k)),false)],6⟩
def aEp(a:Prog)(m:Int)(d:List Int)(e f g:Int)(i:List Pat)(j:XT)(k:Int)(b:List (Nat×Nat))(l:List (Option XT))(c:Nat×Nat):TS:=⟨(tf 91 44 [kp 2 0,(4,.nilp),kp 6 1,(24,(iI d)),(25,(nI e)),(26,(nI k))] [kc f91 1959,kl f91 244,.inBlock 0,kc f91 31]),[],[aC3 0 a,oC 1 [(nI f),(nI g),(.gl 2 1 0 (b++ [c]).length false),(iP i)],oL 2 1 (map aW (b++ [c])),(6,(.zone true [] (ZV (b++ [c]) (l++ [some j]))),false)],7⟩
theorem bCr (p:Prog)(j:Int)(e:List Int)(h b c:Int)(f:List Pat)(d:Int)(a: (List (Nat×Nat)))(i: (List (Option XT)))(k:Int)(g:XT)(m:decide (d<h) =true)(h1:0≤d)(h2: ((e)[d.toNat]?) =some k)(l:aXq p k b c a f i g)(n:a.length+1≤1000000) :
  LeadsM PP 0 (aGe p j e h b c f d a i).as (aQj p j e h b c f g d a i).as:=
 lC (n1:=8) (ks:=[0,1,7,5,6,3]) (W:=[some (.cells (putCells .leaf 0 [(iN p.nodes),(iI p.funs),(nI p.main),(iC p.cons)]) 4 [] false),some (.cells (putCells .leaf 0 [(nI b),(nI c),(.gl 7 1 0 (a.length+1) false),(iP f)]) 4 [] false),some (.lst 1 (map aW a++ [.ptr 5 0])),some gh,some (.zone true [5] (Z1 g)),some (.zone true [] (ZV a i))]) (wc aC (wc aC (wc (aBT aC) (wc aC (wc aC (wc aC wn)))))) (ps:=[decide (d<h) =true,0≤d,(jI e)[d.toNat]?=some (cG k),aXq p k b c a f i g,0+a.length≤length (map aW a),a.length+1≤1000000,take a.length (drop 0 (map aW a)) ++ [ptr 5 0] = (map aW a++ [.ptr 5 0]),a.length+length [ptr 5 0] =a.length+1,(AV.gl 2 1 0 a.length false) = (AV.gl 2 1 0 a.length false),(AV.gl 2 1 0 a.length false) = (AV.gl 2 1 0 a.length false)]) (is:=[.run 5,.b 27 true,.run 6,.ans (.idx (cG k)),.run 3,.reg [.d,.d,.d,.d,.d,.d,.d,.call (.ptr 5 0) (aA [aC3 0 p,aEo 1 b c a f,nV 2 a,(3,(.zone true [] (ZV a i)),false),(5,gh,false),(6,(.zone true [5] (Z1 g)),false)] 7),.d,.app (map aW a++ [.ptr 5 0]) (a.length+1),.d,.d,.d],.run 1]) aC aC trivial ⟨m,h1,(bL h2),l,aFT,n,aO5,aO6,rfl,rfl⟩
def bET(a b:Int)(c:List (Nat×Nat))(d:List (Option XT))(f:Nat)(e:Nat×Nat)(g i:Int)(j:List XT)(k:List Pat):TS:=aX PP 251 [(aW e),(.func 252 [] [(.ptr 0 0),(.ptr 1 0)])] [oC 0 [(nI a)],oC 1 [(nI b)],(2,(.zone true [] (ZV c d)),false)] 3
def aQk(a b:Int)(c:List (Nat×Nat))(d:List (Option XT))(f:Nat)(e:Nat×Nat)(g i:Int)(j:List XT)(k:List Pat):TS:=⟨(tf 251 66 [(0,(aW e)),(1,(.func 252 [] [(.ptr 0 0),(.ptr 1 0)]))] [kc f251 2,kc f251 3]),[],[oC 0 [(nI a)],oC 1 [(nI b)],(2,(.zone true [] (ZV c d)),false)],3⟩
def aEq(c d:Int)(e:List (Nat×Nat))(f:List (Option XT))(a:Nat)(k:Nat×Nat)(g i:Int)(b:List XT)(j:List Pat):TS:=⟨(tf 251 66 [kp 0 3,(1,(.func 252 [] [(.ptr 0 0),(.ptr 1 0)]))] [kc f251 2,kc f251 3]),[],[oC 0 [(nI c)],oC 1 [(nI d)],oC 3 [(nI g),(nI i),(.gl 4 1 0 b.length false),(iP j)],(4,gh,false),(5,(.zone true [4] (cH b)),false),(6,(.zone true [3] (eN e (set f a none) a)),false)],7⟩
def aA3(e f:Int)(g:List (Nat×Nat))(i:List (Option XT))(a:Nat)(l:Nat×Nat)(b j:Int)(c:List XT)(d:List Pat)(k:Int):TS:=⟨(tf 251 66 [kp 0 2,(1,(.func 252 [] [(.ptr 0 0),(.ptr 1 0)])),(4,.nilp),kp 5 3] [kc f251 60,kc f251 61,kc f251 31]),[],(aRU e f b j c d k g i a),8⟩
def aJ8(e f:Int)(g:List (Nat×Nat))(i:List (Option XT))(a:Nat)(l:Nat×Nat)(b j:Int)(c:List XT)(d:List Pat)(k:Int):TS:=⟨(tf 251 66 [kp 0 2,(1,(.func 252 [] [(.ptr 0 0),(.ptr 1 0)])),(4,.nilp),kp 5 3] [kc f251 60,kc f251 61,kc f251 31]),[],(aRU e f b j c d k g i a++[(8,(.zone true [] (ZV ([] :List (Nat×Nat)) ([] :List (Option XT)))),false)]),9⟩
def aJ9(f g:Int)(i:List (Nat×Nat))(j:List (Option XT))(c:Nat)(o:Nat×Nat)(d k:Int)(a:List XT)(e:List Pat)(l m:Int)(b:List (Nat×Nat))(n:List (Option XT)):TS:=⟨(tf 251 66 [(1,(.func 252 [] [(.ptr 0 0),(.ptr 1 0)])),(4,.nilp),kp 5 2,(46,(rG a)),(47,(nI (a.length:Int))),(48,(nI m))] [kc f251 244,kl f251 244,.inBlock 0,kc f251 31]),[],([oC 0 [(nI f)],oC 1 [(nI g)],aC4 2 d l b e,(3,gh,false)]++zK b i j c d k a e++[(7,(.zone true [3] (cH a)),false),(8,(.zone true [] (ZV b n)),false)]),9⟩
def aQl(f g:Int)(i:List (Nat×Nat))(j:List (Option XT))(c:Nat)(o:Nat×Nat)(d k:Int)(a:List XT)(e:List Pat)(l m:Int)(b:List (Nat×Nat))(n:List (Option XT)):TS:=⟨(tf 251 66 [(1,(.func 252 [] [(.ptr 0 0),(.ptr 1 0)])),(4,.nilp),kp 5 2,(46,(rG a)),(47,(nI (a.length:Int))),(48,(nI m))] [kc f251 7832,kc f251 7833,.inBlock 1,kc f251 1959,kl f251 244,.inBlock 0,kc f251 31]),[],([oC 0 [(nI f)],oC 1 [(nI g)],aC4 2 d l b e,(3,gh,false)]++zK b i j c d k a e++[(7,(.zone true [3] (cH a)),false),(8,(.zone true [] (ZV b n)),false)]),9⟩
def aEr(g i:Int)(j:List (Nat×Nat))(k:List (Option XT))(c:Nat)(p:Nat×Nat)(d l:Int)(a:List XT)(e:List Pat)(m n:Int)(b:List (Nat×Nat))(o:List (Option XT))(f:List (Nat×Nat)):TS:=⟨(tf 251 66 [(1,(.func 252 [] [(.ptr 0 0),(.ptr 1 0)])),(4,.nilp),kp 5 2,(46,(rG a)),(47,(nI (a.length:Int))),(48,(nI n))] [kc f251 7832,kc f251 7833,.inBlock 1,kc f251 1959,kl f251 244,.inBlock 0,kc f251 31]),[],([oC 0 [(nI g)],oC 1 [(nI i)],aC4 2 d m b e,nV 3 f]++zK b j k c d l a e++[(8,(.zone true [] (ZV b o)),false),(9,(.zone true [] (ZV f (map some a))),false)]),10⟩
def aQm(g i:Int)(j:List (Nat×Nat))(k:List (Option XT))(c:Nat)(q:Nat×Nat)(d l:Int)(a:List XT)(e:List Pat)(m:Int)(n:XT)(f:List (Nat×Nat))(o:Int)(b:List (Nat×Nat))(p:List (Option XT)):TS:=⟨(tf 251 66 [(1,(.func 252 [] [(.ptr 0 0),(.ptr 1 0)])),(4,.nilp),kp 5 2,(46,(rG a)),(47,(nI (a.length:Int))),(48,(nI o))] [kc f251 1959,kl f251 244,.inBlock 0,kc f251 31]),[],[oC 0 [(nI g)],oC 1 [(nI i)],oC 2 [(nI d),(nI m),(.gl 4 1 0 (b.length+1) false),(iP e)],nV 3 f,(4,(.lst 1 (map aW b++ [.ptr 5 0])),false),(5,gh,false),(6,(.zone true [5] (Z1 n)),false),(7,(.zone true [8] (eN j (set k c none) c)),false),aQf 8 d l a e,(9,(.zone true [] (ZV b p)),false),(10,(.zone true [] (ZV f (map some a))),false)],11⟩
def aEs(i j:Int)(k:List (Nat×Nat))(l:List (Option XT))(d:Nat)(r:Nat×Nat)(e m:Int)(a:List XT)(f:List Pat)(n:Int)(o:XT)(g:List (Nat×Nat))(p:Int)(b:List (Nat×Nat))(q:List (Option XT))(c:Nat×Nat):TS:=⟨(tf 251 66 [(1,(.func 252 [] [(.ptr 0 0),(.ptr 1 0)])),(4,.nilp),kp 5 2,(46,(rG a)),(47,(nI (a.length:Int))),(48,(nI p))] [kc f251 1959,kl f251 244,.inBlock 0,kc f251 31]),[],[oC 0 [(nI i)],oC 1 [(nI j)],oC 2 [(nI e),(nI n),(.gl 4 1 0 (b++ [c]).length false),(iP f)],nV 3 g,oL 4 1 (map aW (b++ [c])),(7,(.zone true [8] (eN k (set l d none) d)),false),aQf 8 e m a f,(10,(.zone true [] (ZV g (map some a))),false),(11,(.zone true [] (ZV (b++ [c]) (q++ [some o]))),false)],12⟩
def aQn(g i:Int)(j:List (Nat×Nat))(k:List (Option XT))(c:Nat)(p:Nat×Nat)(d l:Int)(a:List XT)(e:List Pat)(m:Int)(f b:List (Nat×Nat))(n:List (Option XT))(o:Int):TS:=⟨(tf 251 66 [(1,(.func 252 [] [(.ptr 0 0),(.ptr 1 0)])),(4,.nilp),kp 5 2,(46,(rG a)),(47,(nI (a.length:Int))),(48,(nI o))] [kc f251 1959,kl f251 244,.inBlock 0,kc f251 31]),[],([oC 0 [(nI g)],oC 1 [(nI i)],aC4 2 d m b e,nV 3 f]++zK b j k c d l a e++[(7,(.zone true [] (ZV f (map some a))),false),(8,(.zone true [] (ZV b n)),false)]),9⟩
def aKa(f g:Int)(i:List (Nat×Nat))(j:List (Option XT))(c:Nat)(o:Nat×Nat)(d k:Int)(a:List XT)(e:List Pat)(l:Int)(p b:List (Nat×Nat))(m:List (Option XT))(n:Int):TS:=⟨(tf 251 66 [(1,(.func 252 [] [(.ptr 0 0),(.ptr 1 0)])),(4,.nilp),kp 5 2,(46,(rG a)),(47,(nI (a.length:Int))),(48,(nI n))] [kc f251 1959,kl f251 244,.inBlock 0,kc f251 31]),[],([oC 0 [(nI f)],oC 1 [(nI g)],aC4 2 d l b e,(3,gh,false)]++zK b i j c d k a e++[(8,(.zone true [] (ZV b m)),false),(9,(.zone true [3] (cH a)),false)]),10⟩
def bCs (c:Prog)(d:Int):=fun a b e f g=>(tT 0 (bES c d)<|gX Node.av 10 c.nodes d<|fun a=>.y fun b:List Pat=>.i [rn 5,.reg (rd 6 (.pure (iP b)::rd 3 []))] [hA (aK PP 120 [(iP a.pats)] (iP b)),hr (nI a.n),hr (nI a.n),hr (nI a.op),hr (nI a.op)]<|.i [rn 2,.cnil 2 2 1] []<|gu 0 3 (map aW ([] :List (Nat×Nat)))<|gv 0 2 2 aQh<|.W 0 4 [0,1,2,3] (aQi c d a.op a.n a.kids a.pats a.op a.n b)) a e f b g ⟨kk,trivial⟩
def bCt (b:Prog)(c g i:Int)(a:List Int)(j:List Pat)(d e:Int)(f:List Pat):=(tT 0 (aJ7 b c g i a j d e f)<|gl 3 cG a<|.W 4 5 [0,2,3,4] (aGe b c a (a.length:Int) d e f 0 ([] :List (Nat×Nat)) ([] :List (Option XT)))) ⟨kk,trivial⟩
def bCu (i:Prog)(j:Int)(k:List Int)(b c d:Int)(e:List Pat)(f:Int)(a:List (Nat×Nat))(g:List (Option XT)):=fun l=>(tT 0 (aGe i j k b c d e f a g)<|gd 5 27 (f<b) .x<|.E 8 4 [1,2,3] (.ptr 0 0) [oC 0 [(nI c),(nI d),(.gl 1 1 0 a.length false),(iP e)],nV 1 a,(2,(.zone true [] (ZV a g)),false)] 3)|>.f l ⟨kk,trivial⟩
def bCv (b:Prog)(c:Int)(d:List Int)(e f g:Int)(i:List Pat)(j:XT)(a:Int)(k:List (Nat×Nat))(l:List (Option XT))(m:Nat×Nat):=fun n=>(tT 0 (aEp b c d e f g i j a k l m)<|gw 2 42 (a+1)<|.W 3 7 [0,1,2,6] (aGe b c d e f g i (a+1) (k++ [m]) (l++ [some j]))) n ⟨kk,trivial⟩
def bCw (a b:Int)(c:List (Nat×Nat))(d:List (Option XT))(e:Nat)(f:Nat×Nat)(g i:Int)(j:List XT)(k:List Pat):=(tT 2 (bET a b c d e f g i j k)<|.W 1 3 [2] (aQk a b c d e f g i j k)) tv
def aKb(c b:Int)(e:List (Nat×Nat))(f:List (Option XT))(g:Nat)(i:Nat×Nat)(d a:Int)(j:List XT)(k:List Pat):=tT 2 (aEq c b e f g i d a j k)<|.i [rn 4,.reg (rd 15 [])] []<|.b 9 27 (d==4) (gd 7 33 (a≥0) (gd 20 7 (a≥c) (gw 6 10 (a+b)<|.i [rn 10,.cnil 7 2 1] []<|gu 0 8 (map aW ([] :List (Nat×Nat)))<|gv 0 7 2 aJ6<|.W 0 9 [3,7,4,8,6,5] (aA3 c b e f g i d a j k (a+b)))<|.i [rn 15,.cnil 7 2 1] []<|gu 0 8 (map aW ([] :List (Nat×Nat)))<|gv 0 7 2 aJ6<|.W 0 9 [3,7,4,8,6,5] (aA3 c b e f g i d a j k a))<|.i [rn 4,.cnil 7 2 1] []<|gu 0 8 (map aW ([] :List (Nat×Nat)))<|gv 0 7 2 aJ6<|.W 0 9 [3,7,4,8,6,5] (aA3 c b e f g i d a j k a))<|.i [rn 11,.cnil 7 2 1] []<|gu 0 8 (map aW ([] :List (Nat×Nat)))<|gv 0 7 2 aJ6<|.W 0 9 [3,7,4,8,6,5] (aA3 c b e f g i d a j k a)
def bCx:=fun a b c d e f g i j k l m n o=>aKb a b c d e f g i j k|>.t l|>.t m|>.t n o ⟨kk,trivial⟩
def bCy:=fun a b c d e f g i j k l m n=>aKb a b c d e f g i j k|>.t l|>.t m|>.f n ⟨kk,trivial⟩
def bCz:=fun a b c d e f g i j k l m=>aKb a b c d e f g i j k|>.t l|>.f m ⟨kk,trivial⟩
def bCA:=fun a b c d e f g i j k l=>aKb a b c d e f g i j k|>.f l ⟨kk,trivial⟩
def bCB (a b:Int)(c:List (Nat×Nat))(d:List (Option XT))(e:Nat)(f:Nat×Nat)(g i:Int)(j:List XT)(k:List Pat)(l:Int):=(tT 2 (aJ8 a b c d e f g i j k l)<|.W 10 9 [3,4,5,6,2,7,8] (aJ9 a b c d e f g i j k l 0 ([] :List (Nat×Nat)) ([] :List (Option XT)))) ⟨kk,trivial⟩
def aXr(f g:Int)(i:List (Nat×Nat))(j:List (Option XT))(c:Nat)(o:Nat×Nat)(d k:Int)(a:List XT)(e:List Pat)(l m:Int)(b:List (Nat×Nat))(n:List (Option XT)):=tT 2 (aJ9 f g i j c o d k a e l m b n)<|gd 5 49 (m< (a.length:Int)) (.W 5 9 [2,3,4,5,6,7,8] (aQl f g i j c o d k a e l m b n))<|.E 8 9 [2,4,5,6,3,7,8] (.ptr 2 0) [oC 0 [(nI f)],oC 1 [(nI g)],oC 2 [(nI d),(nI l),(.gl 3 1 0 b.length false),(iP e)],nV 3 b,(4,(.zone true [5] (eN i (set j c none) c)),false),oC 5 [(nI d),(nI k),(.gl 6 1 0 a.length false),(iP e)],(6,gh,false),(7,(.zone true [6] (cH a)),false),(8,(.zone true [] (ZV b n)),false)] 9
def bCC:=fun a b c d e f g i j k l m n o p=>aXr a b c d e f g i j k l m n o|>.t p ⟨kk,trivial⟩
def bCD:=fun a b c d e f g i j k l m n o p=>aXr a b c d e f g i j k l m n o|>.f p ⟨kk,trivial⟩
def bCE (a b:Int)(c:List (Nat×Nat))(d:List (Option XT))(e:Nat)(f:Nat×Nat)(g i:Int)(j:List XT)(k:List Pat)(l:Int)(m:XT)(n:List (Nat×Nat))(o:Int)(p:List (Nat×Nat))(q:List (Option XT))(r:Nat×Nat):=(tT 2 (aEs a b c d e f g i j k l m n o p q r)<|.W 0 12 [2,3,4,7,8,10,11] (aQn a b c d e f g i j k l n (p++ [r]) (q++ [some m]) o)) ⟨kk,⟨kk,trivial⟩⟩
def bCF (b c:Int)(d:List (Nat×Nat))(e:List (Option XT))(f:Nat)(g:Nat×Nat)(i j:Int)(k:List XT)(l:List Pat)(m:Int)(p n:List (Nat×Nat))(o:List (Option XT))(a:Int):=fun q=>(tT 2 (aKa b c d e f g i j k l m p n o a)<|gw 2 64 (a+1)<|.W 3 10 [2,3,4,5,6,9,8] (aJ9 b c d e f g i j k l m (a+1) n o)) q ⟨kk,trivial⟩
theorem bGl (fr b:Int)(us: (List (Nat×Nat)))(ts: (List (Option XT)))(ix:Nat)(u: (Nat×Nat))(op a:Int)(ks:List XT)(ps:List Pat)(d:us[ix]?=some u)(c: (ts)[ix]?=some (some (.mk op a ks ps))) :LeadsM PP 2 (aQk fr b us ts ix u op a ks ps).as (aEq fr b us ts ix u op a ks ps).as:=
 xZ (j:=0) (v:=aW u) (v':=.ptr 3 0) aC (fun hm=>sT (h:= (aQk fr b us ts ix u op a ks ps).as.h) (h':= (aEq fr b us ts ix u op a ks ps).as.h) (g:=2) (us:=us) (ts:=ts) (i:=ix) (u:=u) (op:=op) (n:=a) (ks:=ks) (ps:=ps) aC d c rfl (bC ⟨.inr (.inr (.inr (.inr ⟨by decide,by kernel_rfl⟩))),.inr (.inr (.inr (.inr ⟨by decide,by kernel_rfl⟩))),.inl ⟨rfl,rfl⟩,.inr (.inl ⟨rfl,rfl⟩),.inr (.inr (.inl ⟨rfl,rfl⟩)),.inr (.inr (.inr (.inl ⟨rfl,rfl⟩))),trivial⟩) hm) aC aC
theorem bGm (fr b:Int)(us: (List (Nat×Nat)))(ts: (List (Option XT)))(ix:Nat)(u: (Nat×Nat))(op c:Int)(ks:List XT)(ps:List Pat)(a:Int) :LeadsM PP 2 (aA3 fr b us ts ix u op c ks ps a).as (aJ8 fr b us ts ix u op c ks ps a).as:=
 mF (zE (h:= (aA3 fr b us ts ix u op c ks ps a).as.h) (h':= (aJ8 fr b us ts ix u op c ks ps a).as.h) (Z:= (ZV ([] :List (Nat×Nat)) ([] :List (Option XT)))) (fun _ _=> ⟨nodup_nil,by simp [OsAt]⟩) (le_refl _) (bC ⟨.inr aC,.inr aC,.inr aC,.inr aC,.inr aC,.inr aC,.inr aC,.inr aC,.inl ⟨rfl,rfl⟩,trivial⟩)) aC aC
theorem bGn (fr e:Int)(us: (List (Nat×Nat)))(ts: (List (Option XT)))(ix:Nat)(u: (Nat×Nat))(op i:Int)(ks:List XT)(ps:List Pat)(a b:Int)(f: (List (Nat×Nat)))(j: (List (Option XT))){d:Res}{hf:Hp}(l:ks≠ [])(k:∀c,c.length=ks.length→Ends PP 2 (aEr fr e us ts ix u op i ks ps a b f j c).as d hf) :Ends PP 2 (aQl fr e us ts ix u op i ks ps a b f j).as d hf:=
 mE (t:=fun c=> (aEr fr e us ts ix u op i ks ps a b f j c).as) (ok:=fun us=>us.length=ks.length) (xN (h:= (aQl fr e us ts ix u op i ks ps a b f j).as.h) (h':=fun c=> (aEr fr e us ts ix u op i ks ps a b f j c).as.h) (k:=3) (g:=7) (o:=gh) (ts:=ks) aC rfl aC l (fun _=>le_refl _) (fun c=> (bC ⟨.inr (.inr ⟨by decide,by kernel_rfl⟩),.inr (.inr ⟨by decide,by kernel_rfl⟩),.inr (.inr ⟨by decide,by kernel_rfl⟩),.inr (.inl ⟨rfl,rfl⟩),.inr (.inr ⟨by decide,by kernel_rfl⟩),.inr (.inr ⟨by decide,by kernel_rfl⟩),.inr (.inr ⟨by decide,by kernel_rfl⟩),.inr (.inr ⟨by decide,by kernel_rfl⟩),.inl ⟨rfl,rfl⟩,trivial⟩))) (fun c=> ⟨by kernel_rfl,by kernel_rfl⟩) k
theorem bGo (fr l:Int)(us: (List (Nat×Nat)))(ts: (List (Option XT)))(ix:Nat)(u: (Nat×Nat))(op m:Int)(ks:List XT)(ps:List Pat)(b:Int)(f:XT)(c: (List (Nat×Nat)))(d:Int)(a: (List (Nat×Nat)))(i: (List (Option XT))){j:Res}{hf:Hp}(k:∀e,Ends PP 2 (aEs fr l us ts ix u op m ks ps b f c d a i e).as j hf) :Ends PP 2 (aQm fr l us ts ix u op m ks ps b f c d a i).as j hf:=
 mE (t:= (fun e=> (aEs fr l us ts ix u op m ks ps b f c d a i e).as)) (ok:=fun _=>True) (aEh (h:= (aQm fr l us ts ix u op m ks ps b f c d a i).as.h) (h':=fun e=> (aEs fr l us ts ix u op m ks ps b f c d a i e).as.h) (k:=4) (g:=9) (gz:=6) (z:=5) (us:=a) (ts:=i) (t:=f) aC aC aC (by decide) (fun _=>le_refl _) (fun e=> (bC ⟨.inr (.inr ⟨by decide,by kernel_rfl⟩),.inr (.inr ⟨by decide,by kernel_rfl⟩),.inr (.inr ⟨by decide,by rw [qT];kernel_rfl⟩),.inr (.inr ⟨by decide,by kernel_rfl⟩),.inr (.inl ⟨rfl,rfl⟩),.inr (.inr ⟨by decide,by kernel_rfl⟩),.inr (.inr ⟨by decide,by kernel_rfl⟩),.inr (.inr ⟨by decide,by kernel_rfl⟩),.inl ⟨rfl,rfl⟩,trivial⟩))) (fun e=> ⟨by kernel_rfl,by kernel_rfl⟩) (fun e _=>k e)
theorem bGp (fr e:Int)(us: (List (Nat×Nat)))(ts: (List (Option XT)))(ix:Nat)(u: (Nat×Nat))(op f:Int)(ks:List XT)(ps:List Pat)(b:Int)(d: (List (Nat×Nat)))(a: (List (Nat×Nat)))(i: (List (Option XT)))(c:Int)(j:ks≠ []) :LeadsM PP 2 (aQn fr e us ts ix u op f ks ps b d a i c).as (aKa fr e us ts ix u op f ks ps b d a i c).as:=
 mF (aCU (h:= (aQn fr e us ts ix u op f ks ps b d a i c).as.h) (h':= (aKa fr e us ts ix u op f ks ps b d a i c).as.h) (k:=3) (g:=7) (us:=d) (ts:=ks) aC aC j (le_refl _) (bC ⟨.inr (.inr ⟨by decide,by decide,by kernel_rfl⟩),.inr (.inr ⟨by decide,by decide,by kernel_rfl⟩),.inr (.inr ⟨by decide,by decide,by kernel_rfl⟩),.inl ⟨rfl,rfl⟩,.inr (.inr ⟨by decide,by decide,by kernel_rfl⟩),.inr (.inr ⟨by decide,by decide,by kernel_rfl⟩),.inr (.inr ⟨by decide,by decide,by kernel_rfl⟩),.inr (.inr ⟨by decide,by decide,by kernel_rfl⟩),.inr (.inl ⟨rfl,rfl⟩),trivial⟩)) aC aC
theorem bCG (fr f:Int)(us: (List (Nat×Nat)))(ts: (List (Option XT)))(ix:Nat)(u: (Nat×Nat))(op g:Int)(ks:List XT)(ps:List Pat)(b c:Int)(a: (List (Nat×Nat)))(h: (List (Option XT)))(e: (List (Nat×Nat)))(i: (Nat×Nat))(d:XT)(k:0≤c)(h1:c< ((ks.length:Nat) :Int))(h2: ((e)[c.toNat]?) =some i)(j:aXp i fr f op b a ps e us ts ix g ks h d)(l:a.length+1≤1000000) :
  LeadsM PP 2 (aEr fr f us ts ix u op g ks ps b c a h e).as (aQm fr f us ts ix u op g ks ps b d e c a h).as:=
 lC (n1:=15) (ks:=[2,3,14,12,13,5,6,8,11]) (W:=[some (.cells (putCells .leaf 0 [(nI fr)]) 1 [] false),some (.cells (putCells .leaf 0 [(nI f)]) 1 [] false),some (.cells (putCells .leaf 0 [(nI op),(nI b),(.gl 14 1 0 (a.length+1) false),(iP ps)]) 4 [] false),some (.lst 1 (map aW e)),some (.lst 1 (map aW a++ [.ptr 12 0])),some gh,some (.zone true [12] (Z1 d)),some (.zone true [6] (eN us (set ts ix none) ix)),some (.cells (putCells .leaf 0 [(nI op),(nI g),(rG ks),(iP ps)]) 4 [] false),some (.zone true [] (ZV a h)),some (.zone true [] (ZV e (map some ks)))]) (wc aC (wc aC (wc aC (wc aC (wc (aBT aC) (wc aC (wc aC (wc aC (wc aC (wc aC (wc aC wn))))))))))) (ps:=[0≤c,c< ((ks.length:Nat) :Int),(map aW e)[(0+c.toNat)]?=some (aW i),aXp i fr f op b a ps e us ts ix g ks h d,0+a.length≤length (map aW a),a.length+1≤1000000,take a.length (drop 0 (map aW a)) ++ [ptr 12 0] = (map aW a++ [.ptr 12 0]),a.length+length [ptr 12 0] =a.length+1,(AV.gl 4 1 0 a.length false) = (AV.gl 4 1 0 a.length false),(AV.gl 4 1 0 a.length false) = (AV.gl 4 1 0 a.length false)]) (is:=[.run 1,.ans (.ix),.ans (.idx (aW i)),.run 2,.reg [.d,.d,.d,.d,.d,.d,.d,.call (.ptr 12 0) (aA ([oC 0 [(nI fr)],oC 1 [(nI f)],aC4 2 op b a ps,nV 3 e]++zK a us ts ix op g ks ps++[(8,(.zone true [] (ZV a h)),false),(11,(.zone true [] (ZV e (map some ks))),false),(12,gh,false),(13,(.zone true [12] (Z1 d)),false)]) 14),.d,.app (map aW a++ [.ptr 12 0]) (a.length+1),.d,.d,.d],.run 1]) aC aC ⟨(aN _ (fun _=>rfl) _),trivial⟩ ⟨k,h1,(cI h2),j,aFT,l,aO5,aO6,rfl,rfl⟩
abbrev HL :=List (Nat×AObj×Bool)
abbrev NT (t:XT) :HL:=[(0,gh,false),(1,.zone true [0] (Z1 t),false)]
abbrev NL (o n:Int)(ps:List Pat)(us:List (Nat×Nat))(ts:List (Option XT)) :HL:=[(0,(.cells (putCells .leaf 0 [(.int .i64 o),(.int .i64 n),(.gl 1 1 0 (length us) false),(.ilst 4 (av ps) false)]) 4 [] false),false),(1,(.lst 1 (map aW us)),true),(2,(.zone true [] (ZV us ts)),false)]
theorem bH4 (t:XT) :eY (NT t) :=trivial
def aGf (p:Prog) :Prop:=∀nd∈p.nodes,nd.kids.length<1000000∧bI nd.pats<1000000
theorem aUB {o n:Int}{ps:List Pat}{us:List (Nat×Nat)}{ts:List XT}:kN (aA (NL o n ps us (ts.map some)) 3) (aA [(0,gh,false),(3,.zone true [0] (Z1 (.mk o n ts ps)),false)] 4) :=fun E w r=>by
 have a:us.length=ts.length:=by
  obtain⟨L,_,d⟩ :=r.obj 2 (.zone true [] (ZV us (ts.map some))) aC;obtain⟨_,_,_,c⟩ :=fV d;have:=c.len;rwa [mR]at this
 have z:kN (aA (NL o n ps us (ts.map some)) 3) (aA [(0,gh,false),(3,.zone true [0] (Z1 (.mk o n ts ps)),false)] 4) :=
  aBS (b:=0) (k:=1) (g:=2) (us:=us) (op:=o) (n:=n) (ts:=ts) (ps:=ps) (len:=us.length) (ex:=false) (pv:=.ilst 4 (av ps) false) aC a (fun _ _ h=>h) aC aC (le_refl _)
   (bC ⟨.inr (.inl ⟨rfl,rfl⟩),.inl ⟨rfl,rfl⟩,trivial⟩)
 exact z E w r
theorem aUC {s:AS}{o n:Int}{ps:List Pat}{us:List (Nat×Nat)}{ts:List XT}(e:Ends PP 0 s (.ret (.ptr 0 0)) (aA (NL o n ps us (ts.map some)) 3)) :Ends PP 0 s (.ret (.ptr 0 0)) (aA (NT (.mk o n ts ps)) 2) :=
 dW (ks:=[0,3]) (rF e aUB (zero_le _)) aC aC aC (bH4 _)
theorem aXs {e:Prog}{o n:Int}{ps:List Pat}{us:List (Nat×Nat)}{ts:List (Option XT)}{t:XT}{b a c:Int}{ks:List Int}{d:Res}{hf:Hp}(k:∀u,Ends PP 0 (aEp e b ks a o n ps t c us ts u).as d hf) :Ends PP 0 (aQj e b ks a o n ps t c us ts).as d hf:=
 mE (t:=fun u=> (aEp e b ks a o n ps t c us ts u).as) (ok:=fun _=>True)
  (aEh (h:= (aQj e b ks a o n ps t c us ts).as.h) (h':=fun u=> (aEp e b ks a o n ps t c us ts u).as.h) (k:=2) (g:=5) (gz:=4) (z:=3) (us:=us) (ts:=ts) (t:=t) aC aC aC (by decide) (fun u=>le_refl _)
   (fun u=>bC ⟨.inr (.inr ⟨by decide,by kernel_rfl⟩),.inr (.inr ⟨by decide,by rw [qT];kernel_rfl⟩),.inr (.inl ⟨rfl,rfl⟩),.inl ⟨rfl,rfl⟩,trivial⟩))
  (fun u=> ⟨by kernel_rfl,by kernel_rfl⟩) (fun u _=>k u)
theorem nil_turn {c:Prog}{o n d e:Int}{ps b:List Pat}{a:Int}{ks:List Int}:LeadsM PP 0 (aQi c a d e ks b o n ps).as (aJ7 c a d e ks b o n ps).as:=
 mF (zE (h:= (aQi c a d e ks b o n ps).as.h) (h':= (aJ7 c a d e ks b o n ps).as.h) (Z:=ZV [] []) (fun _ _=> ⟨nodup_nil,by simp [OsAt]⟩) (le_refl _) (bC ⟨.inr aC,.inr aC,.inr aC,.inr aC,.inl ⟨rfl,rfl⟩,trivial⟩)) aC aC
section
variable {p :Prog} (hf:aGf p)
mutual
theorem aIa (c:aGf p) :∀ (t:XT) (a:Int),IsTree p t a→eS PP 0 (.enter 91 [Prog.av p,.int .i64 a]) (aA [] 0) (.ret (.ptr 0 0)) (aA (NT t) 2)
 | .mk o n e j,a,h=>by
  simp only [IsTree]at h;obtain⟨d,nd,b,rfl,rfl,rfl,g⟩ :=h;obtain⟨i,f⟩ :=c nd (jQ b);refine⟨(bES p a).as.fr,by kernel_rfl,?_⟩;refine((bCs p a nd nd.pats d b (aNe nd.pats f)).trans (nil_turn.trans (bCt p a _ _ nd.kids _ _ _ nd.pats))).ends ?_;exact aGg c a nd.kids nd.op nd.n nd.pats i e [] [] 0 (by simpa using g) rfl rfl
theorem aGg (g:aGf p)(b:Int)(ks:List Int)(o n:Int)(ps:List Pat)(hk:ks.length<1000000) :∀ (d c:List XT) (a:List (Nat×Nat)) (i:Nat),aO p d (ks.drop i) →c.length=i→a.length=i →
  Ends PP 0 (aGe p b ks ((length ks:Nat) :Int) o n ps (i:Int) a (c.map some)).as (.ret (.ptr 0 0)) (aA (NT (.mk o n (c++d) ps)) 2)
 | [],c,a,i,h,e,f=>by
  simp only [aO]at h;have x:=bH h;rw [rQ];exact aUC (bCu p b ks _ o n ps (i:Int) a (c.map some) sd)
 | t::d,c,a,i,h,e,f=>by
  simp only [aO]at h;obtain⟨k,y,q,r,s⟩ :=h;obtain⟨v,j,w⟩ :=bE q
  have l:=aH9 (m:=0) (ks:=[]) (n2:=5) (n3:=7) (v':=.ptr 5 0) (args':=[Prog.av p,.int .i64 k])
   (lc:=[(0,(.cells (putCells .leaf 0 [(.ilst 4 (map Node.av p.nodes) false),(.ilst 1 (map cG p.funs) false),(.int .i64 p.main),(.ilst 2 (map Con.av p.cons) false)]) 4 [] false),false),(1,(.cells (putCells .leaf 0 [(.int .i64 o),(.int .i64 n),(.gl 2 1 0 (length a) false),(.ilst 4 (av ps) false)]) 4 [] false),false),(2,(.lst 1 (map aW a)),true),(3,(.zone true [] (ZV a (c.map some))),false)])
   (lc':=[(0,(.cells (putCells .leaf 0 [(.ilst 4 (map Node.av p.nodes) false),(.ilst 1 (map cG p.funs) false),(.int .i64 p.main),(.ilst 2 (map Con.av p.cons) false)]) 4 [] false),false),(1,(.cells (putCells .leaf 0 [(.int .i64 o),(.int .i64 n),(.gl 2 1 0 (length a) false),(.ilst 4 (av ps) false)]) 4 [] false),false),(2,(.lst 1 (map aW a)),true),(3,(.zone true [] (ZV a (c.map some))),false),(5,gh,false),(6,(.zone true [5] (Z1 t)),false)])
   (aIa g t k r) (by rfl) (by rfl) aC (by rfl) (by rfl) aC aC trivial aC trivial
  refine(bCr p b ks _ o n ps (i:Int) a (c.map some) k t sd sd sd l (by omega)).ends (aXs fun u=>?_);refine(bCv p b ks _ o n ps t (i:Int) a (c.map some) u sd).ends ?_;have:=aGg g b ks o n ps hk d (c++ [t]) (a++ [u]) (i+1) (by rw [j];exact s) (by simp [e]) (by simp [f]);rw [zq9,aIx]at this;exact this
end
end
abbrev aXt (a:Nat×Nat)(b:List (Nat×Nat))(c:List (Option XT))(d:XT):=[oC 0 [(nI 7),(nI 0),(.gl 1 1 0 ([a].length+1) false),.nils],(1,(.lst 1 (map aW [a] ++ [.ptr 2 0])),false),(2,gh,false),(3,(.zone true [] (ZV b c)),false),(4,(.zone true [2] (Z1 d)),false)]
abbrev bGq (a:Nat)(b:List (Nat×Nat))(c:Prog)(d:List Con):=oC a [(.gl 2 1 0 b.length false),(nI c.main),(iC d)]
abbrev aKc (a:List (Nat×Nat))(b:Prog)(c:List Con)(d:List (Option XT)):=[bGq 1 a b c,oL 2 1 (map aW a),(3,(.zone true [] (ZV a d)),false)]
abbrev aXu (a:Prog)(b:Int)(c:List (Nat×Nat))(d:List Con)(e:List (Option XT))(f:XT):=Spec PP (.enter 91 [(Prog.av a),(nI b)]) (aA ([oC 0 [(iN a.nodes),(iI a.funs),(nI a.main),(iC a.cons)]]++aKc c a d e) 5) (.ret (.ptr 5 0)) (aA ([oC 0 [(iN a.nodes),(iI a.funs),(nI a.main),(iC a.cons)]]++aKc c a d e++[(5,gh,false),(6,(.zone true [5] (Z1 f)),false)]) 7)
abbrev aC5 (a:Nat)(b:Prog):=oC a [(iN b.nodes),(iI b.funs),(nI b.main),(iC b.cons)]
abbrev aQo:AV:=.gl 2 1 0 ([] :List (Nat×Nat)).length false
def bEU(a:Prog):TS:=aX PP 48 [(Prog.av a)] [] 0
def aQp(a:Prog)(b:List Con):TS:=⟨(tf 48 34 [kp 1 0,(2,.nilp),kp 3 1] [kc f48 28,kc f48 29,kc f48 15]),[],[aC5 0 a,oC 1 [aQo,(nI a.main),(iC b)],oL 2 1 (map aW ([] :List (Nat×Nat)))],3⟩
def aKd(a:Prog)(b:List Con):TS:=⟨(tf 48 34 [kp 1 0,(2,.nilp),kp 3 1] [kc f48 28,kc f48 29,kc f48 15]),[],[aC5 0 a,oC 1 [aQo,(nI a.main),(iC b)],oL 2 1 (map aW ([] :List (Nat×Nat))),(3,(.zone true [] (ZV ([] :List (Nat×Nat)) ([] :List (Option XT)))),false)],4⟩
def aGh(a:Prog)(c:List Con)(d:Int)(b:List (Nat×Nat))(e:List (Option XT)):TS:=⟨(tf 48 34 [kp 1 0,(2,.nilp),kp 3 1,(14,(iI a.funs)),(15,(nI (a.funs.length:Int))),(16,(nI d))] [kc f48 116,kl f48 116,.inBlock 0,kc f48 15]),[],([aC5 0 a]++aKc b a c e),4⟩
def aQq(a:Prog)(c:List Con)(d:XT)(e:Int)(b:List (Nat×Nat))(f:List (Option XT)):TS:=⟨(tf 48 34 [kp 1 0,(2,.nilp),kp 3 1,(14,(iI a.funs)),(15,(nI (a.funs.length:Int))),(16,(nI e))] [kc f48 935,kl f48 116,.inBlock 0,kc f48 15]),[],[aC5 0 a,oC 1 [(.gl 2 1 0 (b.length+1) false),(nI a.main),(iC c)],(2,(.lst 1 (map aW b++ [.ptr 3 0])),false),(3,gh,false),(4,(.zone true [3] (Z1 d)),false),(5,(.zone true [] (ZV b f)),false)],6⟩
def aEt(a:Prog)(d:List Con)(e:XT)(f:Int)(b:List (Nat×Nat))(g:List (Option XT))(c:Nat×Nat):TS:=⟨(tf 48 34 [kp 1 0,(2,.nilp),kp 3 1,(14,(iI a.funs)),(15,(nI (a.funs.length:Int))),(16,(nI f))] [kc f48 935,kl f48 116,.inBlock 0,kc f48 15]),[],[aC5 0 a,oC 1 [(.gl 2 1 0 (b++ [c]).length false),(nI a.main),(iC d)],oL 2 1 (map aW (b++ [c])),(6,(.zone true [] (ZV (b++ [c]) (g++ [some e]))),false)],7⟩
theorem bGr (p:Prog)(a:List Con) :LeadsM PP 0 (aQp p a).as (aKd p a).as:=
 mF (zE (h:= (aQp p a).as.h) (h':= (aKd p a).as.h) (Z:= (ZV ([] :List (Nat×Nat)) ([] :List (Option XT)))) (fun _ _=> ⟨nodup_nil,by simp [OsAt]⟩) (le_refl _) (bC ⟨.inr aC,.inr aC,.inr aC,.inl ⟨rfl,rfl⟩,trivial⟩)) aC aC
theorem bGs (p:Prog)(a:List Con)(d:XT)(b:Int)(us: (List (Nat×Nat)))(e: (List (Option XT))){f:Res}{hf:Hp}(k:∀c,Ends PP 0 (aEt p a d b us e c).as f hf) :Ends PP 0 (aQq p a d b us e).as f hf:=
 mE (t:= (fun c=> (aEt p a d b us e c).as)) (ok:=fun _=>True) (aEh (h:= (aQq p a d b us e).as.h) (h':=fun c=> (aEt p a d b us e c).as.h) (k:=2) (g:=5) (gz:=4) (z:=3) (us:=us) (ts:=e) (t:=d) aC aC aC (by decide) (fun _=>le_refl _) (fun c=> (bC ⟨.inr (.inr ⟨by decide,by kernel_rfl⟩),.inr (.inr ⟨by decide,by rw [qT];kernel_rfl⟩),.inr (.inl ⟨rfl,rfl⟩),.inl ⟨rfl,rfl⟩,trivial⟩))) (fun c=> ⟨by kernel_rfl,by kernel_rfl⟩) (fun c _=>k c)
theorem bCH (p:Prog)(c:List Con)(b:Int)(a: (List (Nat×Nat)))(e: (List (Option XT)))(f:Int)(d:XT)(h:decide (b< (p.funs.length:Int)) =true)(h1:0≤b)(h2: ((p.funs)[b.toNat]?) =some f)(g:aXu p f a c e d)(i:a.length+1≤1000000) :
  LeadsM PP 0 (aGh p c b a e).as (aQq p c d b a e).as:=
 lC (n1:=8) (ks:=[0,1,7,5,6,3]) (W:=[some (.cells (putCells .leaf 0 [(iN p.nodes),(iI p.funs),(nI p.main),(iC p.cons)]) 4 [] false),some (.cells (putCells .leaf 0 [(.gl 7 1 0 (a.length+1) false),(nI p.main),(iC c)]) 3 [] false),some (.lst 1 (map aW a++ [.ptr 5 0])),some gh,some (.zone true [5] (Z1 d)),some (.zone true [] (ZV a e))]) (wc aC (wc aC (wc (aBT aC) (wc aC (wc aC (wc aC wn)))))) (ps:=[decide (b< (p.funs.length:Int)) =true,0≤b,(jI p.funs)[b.toNat]?=some (cG f),aXu p f a c e d,0+a.length≤length (map aW a),a.length+1≤1000000,take a.length (drop 0 (map aW a)) ++ [ptr 5 0] = (map aW a++ [.ptr 5 0]),a.length+length [ptr 5 0] =a.length+1,(AV.gl 2 1 0 a.length false) = (AV.gl 2 1 0 a.length false),(AV.gl 2 1 0 a.length false) = (AV.gl 2 1 0 a.length false)]) (is:=[.run 5,.b 17 true,.run 6,.ans (.idx (cG f)),.run 3,.reg [.d,.d,.d,.d,.d,.d,.d,.call (.ptr 5 0) (aA ([aC5 0 p]++aKc a p c e++[(5,gh,false),(6,(.zone true [5] (Z1 d)),false)]) 7),.d,.app (map aW a++ [.ptr 5 0]) (a.length+1),.d,.d,.d],.run 1]) aC aC trivial ⟨h,h1,(bL h2),g,aFT,i,aO5,aO6,rfl,rfl⟩
def bEV(a:List (Nat×Nat))(b:List (Option XT))(f:Nat)(c:Nat×Nat)(d e:Int):TS:=aX PP 249 [(aW c),(nI d),(nI e)] [(0,(.zone true [] (ZV a b)),false)] 1
def bEW(a:List (Nat×Nat))(b:List (Option XT))(e:Nat)(c:Nat×Nat)(d:XT):TS:=aX PP 248 [(aW c),(.ptr 1 0)] [(0,(.zone true [] (ZV a b)),false),(1,gh,false),(2,(.zone true [1] (Z1 d)),false)] 3
theorem bCI (us: (List (Nat×Nat)))(ts: (List (Option XT)))(ix:Nat)(u: (Nat×Nat))(a:XT) :
  Ends PP 0 (bEW us ts ix u a).as (.ret (.ptr 0 0)) (aA (aXt u us ts a) 5) :=
 aL3 (n1:=5) (ks:=[4,3,1,0,2]) (hp:= (aXt u us ts a)) (v:= (.ptr 0 0)) (W:=[some (.cells (putCells .leaf 0 [(nI 7),(nI 0),(.gl 3 1 0 ([u].length+1) false),.nils]) 4 [] false),some (.lst 1 (map aW [u] ++ [.ptr 1 0])),some gh,some (.zone true [] (ZV us ts)),some (.zone true [1] (Z1 a))]) (wc aC (wc (aBT aC) (wc aC (wc aC (wc aC wn))))) (ps:=[getCells (putCells .leaf 0 [(aW u),(.ptr 1 0)]) 0 (2*1) =some [(aW u),(.ptr 1 0)],cY [(aW u),(.ptr 1 0)] =true,[(aW u),(.ptr 1 0)] = (map aW [u] ++ [(.ptr 1 0)]),(AV.gl 3 1 0 2 false) = (.gl 3 1 0 ([u].length+1) false)]) (is:=[.run 28,.ctoL 4 2 false [(aW u),(.ptr 1 0)],.lset 3 (map aW [u] ++ [(.ptr 1 0)]),.cweak 4 2,.cset 4 2 (.gl 3 1 0 ([u].length+1) false)]) aC aC trivial ⟨rfl,rfl,rfl,rfl⟩
def bEX(a:Nat ×Nat)(b:List (Nat×Nat)):TS:=aX PP 254 [(.gl 0 1 0 (a::b).length false)] [oL 0 1 (map aW (a::b))] 1
def bEY(a b:Int):TS:=aX PP 250 [(nI a),(nI b),.nils] [] 0
def bCJ (a:Prog):=fun b c=>(tT 0 (bEU a)<|.y fun b:List Con=>.i [rn 6,.reg (rd 4 (.pure (iC b)::rd 3 []))] [hA (aK PP 90 [(iC a.cons)] (iC b)),hr (nI a.main),hr (nI a.main)]<|.i [rn 2,.cnil 1 0 1] []<|gu 0 2 (map aW ([] :List (Nat×Nat)))<|gv 0 1 0 aQo<|.W 0 3 [0,1,2] (aQp a b)) b c ⟨kk,trivial⟩
def bCK (a:Prog)(b:List Con):=(tT 0 (aKd a b)<|gl 3 cG a.funs<|.W 4 4 [0,1,2,3] (aGh a b 0 ([] :List (Nat×Nat)) ([] :List (Option XT)))) ⟨kk,trivial⟩
def bCL (b:Prog)(c:List Con)(d:Int)(a:List (Nat×Nat))(e:List (Option XT)):=fun f=>(tT 0 (aGh b c d a e)<|gd 5 17 (d< (b.funs.length:Int)) .x<|.E 8 4 [1,2,3] (.ptr 0 0) [oC 0 [(.gl 1 1 0 a.length false),(nI b.main),(iC c)],oL 1 1 (map aW a),(2,(.zone true [] (ZV a e)),false)] 3)|>.f f ⟨kk,trivial⟩
def bCM (b:Prog)(c:List Con)(d:XT)(a:Int)(e:List (Nat×Nat))(f:List (Option XT))(g:Nat×Nat):=fun i=>(tT 0 (aEt b c d a e f g)<|gw 2 32 (a+1)<|.W 3 7 [0,1,2,6] (aGh b c (a+1) (e++ [g]) (f++ [some d]))) i ⟨kk,trivial⟩
def bCN (a:List (Nat×Nat))(b:List (Option XT))(g:Nat)(f:Nat×Nat)(d e:Int):=fun c i=>(tT 0 (bEV a b g f d e)<|.y fun c:XT=>gk 10 (.enter 251 [(aW f),(.func 252 [] [(.ptr 1 0),(.ptr 2 0)])]) [(0,(.zone true [] (ZV a b)),false),oC 1 [(nI d)],oC 2 [(nI e)]] 3 (.ptr 4 0) [oC 1 [(nI d)],oC 2 [(nI e)],(3,(.zone true [] (ZV a b)),false),(4,gh,false),(5,(.zone true [4] (Z1 c)),false)] 6<|.E 3 6 [4,3,5] (.ptr 0 0) [(0,gh,false),(1,(.zone true [] (ZV a b)),false),(2,(.zone true [0] (Z1 c)),false)] 3) c i tv
def bCO (a:Nat×Nat)(b:List (Nat×Nat)):=fun c=>(tT 1 (bEX a b)<|.i [rn 16,.toL 5 false []] [.q (p:=getCells (putCells .leaf 0 []) 0 (0*1) =some []) rfl,hr true]<|gu 0 1 (map aW ([] :List (Nat×Nat)))<|gs 0 5 (.gl 1 1 0 ([] :List (Nat×Nat)).length true)<|.i [.weak 5] []<|.i [.app (map aW (a::b)) (a::b).length] [.q (p:=0+ (a::b).length≤length (map aW (a::b))) aFT,.q (p:=0+ ([] :List (Nat×Nat)).length≤length (map aW ([] :List (Nat×Nat)))) aFT,hA ((a::b).length≤1000000),.q (p:=take ([] :List (Nat×Nat)).length (drop 0 (map aW ([] :List (Nat×Nat)))) ++take (a::b).length (drop 0 (map aW (a::b))) = (map aW (a::b))) bF3,.q (p:=([] :List (Nat×Nat)).length+ (a::b).length= (a::b).length) (fE _)]<|.E 3 3 [2] (.gl 1 1 0 (a::b).length false) [oL 0 1 (map aW (a::b)),oL 1 1 (map aW (a::b))] 2) c ⟨kk,⟨kk,trivial⟩⟩
def bCP (a b:Int):=(tT 0 (bEY a b)<|.E 14 1 [0] (.ptr 0 0) [oC 0 [(nI a),(nI b),.nils,.nils]] 1) tv
theorem qO {P:Program}{f:Nat}{b args':List AV}{v v':AV}{l l' lc lc':List (Nat×AObj×Bool)}{m nb a n2 n3:Nat}{ks:List Nat}
  (w:eS P m (.enter f b) (aA l nb) (.ret v) (aA l' a))
  (hb: (ble m nb&&ble m a&&dH 0 ⟨⟨0,0,[],[],[],.run,.normal,none⟩,[],l,nb⟩ ks&&xK l'&&fZ a l'&&fZ n2 lc&&fZ n3 lc'&&ks.all (fun k=>Nat.blt k n2)) =true)
  (he: (a-m+n2,ren (kC m n2 ks) v,renL (fK 0 nb n2 ks) b,uL (aA lc n2) (fK 0 nb n2 ks) l,uL (aA lc' n3) (kC m n2 ks) l',aDy (namesT (kC m n2 ks) l') (l.map fun p=>ks.getD p.1 0) (aA lc n2) lc',vX l') = (n3,v',args',iK (fK 0 nb n2 ks) l,iK (kC m n2 ks) l',vX lc',(l'.map fun p=> (aA l' a).look p.1)))
  (d:eY l) (c:eY l') :Spec P (.enter f args') (aA lc n2) (.ret v') (aA lc' n3) :=by
 simp only [dS]at hb;obtain⟨⟨⟨⟨⟨⟨⟨s,e⟩,q⟩,h⟩,u⟩,r⟩,j⟩,t⟩ :=hb;simp only [Prod.mk.injEq]at he;obtain⟨n,z,x,o,y,g,i⟩ :=he;exact aH9 w n z x s e q o d y c h u r j t g i
theorem bCQ {P:Program}{f:Nat}{x y:Int}{a p q:AV}{h h':Hp}{r:Res}(e:x=y)(s:Spec P (.enter f [.agg [a,.int .i64 y,p],q]) h r h') :Spec P (.enter f [.agg [a,.int .i64 x,p],q]) h r h':=by rw [e];exact s
theorem aUD {P:Program}{f:Nat}{x y:Int}{i j b k o:Nat}{a q:AV}{h h':Hp}{r:Res}(e:x=y)(c:i=j)(s:Spec P (.enter f [.agg [a,.int .i64 y,.ep b k j o],q]) h r h') :Spec P (.enter f [.agg [a,.int .i64 x,.ep b k i o],q]) h r h':=by rw [e,c];exact s
def mvN (fr mb o n:Int) :Int:=if o=4∧0≤n∧fr≤n then n+mb else n
mutual
def mG (fr mb:Int) :XT→XT
 | .mk o n ks ps=>.mk o (mvN fr mb o n) (cV fr mb ks) ps
def cV (fr mb:Int) :List XT→List XT
 | [] =>[]
 |t::ts=>mG fr mb t::cV fr mb ts
end
mutual
def OkT :XT→Prop
 | .mk o n ks _=> (o=4→n≤1000000) ∧ks.length<1000000∧aD4 ks
def aD4 :List XT→Prop
 | [] =>True
 |t::ts=>OkT t∧aD4 ts
end
theorem mH (fr b:Int) :∀a,cV fr b a=a.map (mG fr b)
 | [] =>rfl
 |t::a=>by rw [cV,mH fr b a];rfl
theorem okTs_iff :∀ {ts:List XT},aD4 ts↔∀t∈ts,OkT t
 | [] =>by simp [aD4]
 |t::ts=>by simp only [aD4,okTs_iff (ts:=ts),zq7];exact⟨fun h x a=>by rcases a with rfl|a;exact h.1;exact h.2 x a,fun h=> ⟨h t (.inl rfl),fun x a=>h x (.inr a)⟩⟩
abbrev PHl (fr mb:Int)(us:List (Nat×Nat))(ts:List (Option XT)) :HL:=[(0,(.cells (putCells .leaf 0 [(.int .i64 fr)]) 1 [] false),false),(1,(.cells (putCells .leaf 0 [(.int .i64 mb)]) 1 [] false),false),(2,(.zone true [] (ZV us ts)),false)]
abbrev PHr (fr mb:Int)(us:List (Nat×Nat))(ts:List (Option XT))(t:XT) :HL:=[(0,(.cells (putCells .leaf 0 [(.int .i64 fr)]) 1 [] false),false),(1,(.cells (putCells .leaf 0 [(.int .i64 mb)]) 1 [] false),false),(2,(.zone true [] (ZV us ts)),false),(3,gh,false),(4,.zone true [3] (Z1 t),false)]
def bGt (fr mb:Int)(t:XT) :Prop:=∀ (us:List (Nat×Nat)) (ts:List (Option XT)) (ix:Nat) (u:Nat×Nat),us[ix]?=some u→ts[ix]?=some (some t) →
 eS PP 2 (.enter 251 [aW u,.func 252 [] [.ptr 0 0,.ptr 1 0]]) (aA (PHl fr mb us ts) 3) (.ret (.ptr 3 0)) (aA (PHr fr mb us ts (mG fr mb t)) 5)
abbrev PHe (fr mb:Int)(us:List (Nat×Nat))(ts:List (Option XT))(ix:Nat)(op nn n':Int)(ks:List XT)(ps:List Pat)(w:List (Nat×Nat))(rs:List XT) :HL:=[(0,(.cells (putCells .leaf 0 [(.int .i64 fr)]) 1 [] false),false),(1,(.cells (putCells .leaf 0 [(.int .i64 mb)]) 1 [] false),false),(2,(.cells (putCells .leaf 0 [(.int .i64 op),(.int .i64 n'),(.gl 3 1 0 (length w) false),(.ilst 4 (av ps) false)]) 4 [] false),false),(3,(.lst 1 (map aW w)),true),(4,(.zone true [5] (eN us (set ts ix none) ix)),false),(5,(.cells (putCells .leaf 0 [(.int .i64 op),(.int .i64 nn),(.gl 6 1 0 (length ks) false),(.ilst 4 (av ps) false)]) 4 [] false),false),(6,gh,false),(7,(.zone true [6] (cH ks)),false),(8,(.zone true [] (ZV w (rs.map some))),false)]
abbrev PHf (fr mb:Int)(us:List (Nat×Nat))(ts:List (Option XT))(op n':Int)(ps:List Pat)(w:List (Nat×Nat))(rs:List XT) :HL:=[(0,(.cells (putCells .leaf 0 [(.int .i64 fr)]) 1 [] false),false),(1,(.cells (putCells .leaf 0 [(.int .i64 mb)]) 1 [] false),false),(2,(.cells (putCells .leaf 0 [(.int .i64 op),(.int .i64 n'),(.gl 3 1 0 (length w) false),(.ilst 4 (av ps) false)]) 4 [] false),false),(3,(.lst 1 (map aW w)),true),(8,(.zone true [] (ZV w (rs.map some))),false),(9,(.zone true [] (ZV us ts)),false)]
abbrev PHg (fr mb:Int)(us:List (Nat×Nat))(ts:List (Option XT))(t:XT) :HL:=[(0,(.cells (putCells .leaf 0 [(.int .i64 fr)]) 1 [] false),false),(1,(.cells (putCells .leaf 0 [(.int .i64 mb)]) 1 [] false),false),(2,gh,false),(9,(.zone true [] (ZV us ts)),false),(10,.zone true [2] (Z1 t),false)]
theorem aXv {ts:List (Option XT)}{ix:Nat}{x:Option XT}(h:ts[ix]?=some x) : (ts.set ix none).set ix x=ts:=by
 rw [List.set_set];apply List.ext_getElem?;intro j;rw [getElem?_set];split
 · rename_i a;subst a;rw [if_pos (zq0.1 h).1,h]
 ·rfl
theorem aXw {s:AS}{fr c:Int}{us:List (Nat×Nat)}{ts:List (Option XT)}{ix:Nat}{op d a:Int}{ks:List XT}{ps:List Pat}{w:List (Nat×Nat)}{rs:List XT}(f:ts[ix]?=some (some (.mk op d ks ps)))(l:w.length=rs.length)
  (e:Ends PP 2 s (.ret (.ptr 2 0)) (aA (PHe fr c us ts ix op d a ks ps w rs) 9)) :Ends PP 2 s (.ret (.ptr 3 0)) (aA (PHr fr c us ts (.mk op a rs ps)) 5) :=by
 have m:kN (aA (PHe fr c us ts ix op d a ks ps w rs) 9) (aA (PHf fr c us ts op a ps w rs) 10) :=by
  refine aFP (h:=aA (PHe fr c us ts ix op d a ks ps w rs) 9) (h':=aA (PHf fr c us ts op a ps w rs) 10) (b:=5) (k:=6) (gk:=7) (g:=4) (us:=us) (ts:=ts.set ix none) (i:=ix) (op:=op) (n:=d) (ks:=ks) (ps:=ps) (len:=ks.length) (ex:=false) (pv:=.ilst 4 (av ps) false) aC rfl (fun _ _ h=>h) aC aC (by decide) (le_refl _) ?_;rw [aXv f];exact bC ⟨.inr ⟨by decide,by kernel_rfl⟩,.inr ⟨by decide,by kernel_rfl⟩,.inr ⟨by decide,by kernel_rfl⟩,.inr ⟨by decide,by kernel_rfl⟩,.inr ⟨by decide,by kernel_rfl⟩,.inl ⟨rfl,rfl⟩,trivial⟩
 have j:kN (aA (PHf fr c us ts op a ps w rs) 10) (aA (PHg fr c us ts (.mk op a rs ps)) 11) :=
  aBS (h:=aA (PHf fr c us ts op a ps w rs) 10) (h':=aA (PHg fr c us ts (.mk op a rs ps)) 11) (b:=2) (k:=3) (g:=8) (us:=w) (op:=op) (n:=a) (ts:=rs) (ps:=ps) (len:=w.length) (ex:=false) (pv:=.ilst 4 (av ps) false) aC l (fun _ _ h=>h) aC aC (le_refl _)
   (bC ⟨.inr (.inr ⟨by decide,by kernel_rfl⟩),.inr (.inr ⟨by decide,by kernel_rfl⟩),.inr (.inl ⟨rfl,rfl⟩),.inr (.inr ⟨by decide,by kernel_rfl⟩),.inl ⟨rfl,rfl⟩,trivial⟩)
 exact dW (ks:=[9,2,10]) (rF (rF e m (show 2≤9 by decide)) j (show 2≤10 by decide)) aC aC aC trivial
theorem eC {c d:Type}{a:List c}{b:List d}(h:a.length=b.length){i:Nat}(e:i<b.length) :∃x,a[i]?=some x:= ⟨a[i]'(by omega),kX _⟩
mutual
theorem aRW (fr:Int) :∀ (t:XT),OkT t→bGt fr 1 t
 | .mk op a b c,h=>fun d e ix u l g=>by
  simp only [OkT]at h;obtain⟨k,n,m⟩ :=h;refine⟨(bET fr 1 d e ix u op a b c).as.fr,by kernel_rfl,?_⟩;have hc :LeadsM PP 2 (aEq fr 1 d e ix u op a b c).as (aA3 fr 1 d e ix u op a b c (mvN fr 1 op a)).as:=by
   unfold mvN;by_cases f:op=4
   · by_cases j:0≤a
     · by_cases i:fr≤a
       · rw [if_pos ⟨f,j,i⟩];have:=k f;exact bCx fr 1 d e ix u op a b c (by rw [f];rfl) sd sd sd
       · rw [if_neg (fun h=>i h.2.2)];exact bCy fr 1 d e ix u op a b c (by rw [f];rfl) sd sd
     · rw [if_neg (fun h=>j h.2.1)];exact bCz fr 1 d e ix u op a b c (by rw [f];rfl) sd
   · rw [if_neg (fun h=>f h.1)];exact bCA fr 1 d e ix u op a b c (by simpa using f)
  refine((bCw fr 1 d e ix u op a b c).trans ((bGl fr 1 d e ix u op a b c l g).trans (hc.trans ((bGm fr 1 d e ix u op a b c _).trans (bCB fr 1 d e ix u op a b c _))))).ends ?_;have:=aRX fr d e ix u op a b c g n b [] [] 0 rfl rfl rfl m;simp only [mG];exact this
theorem aRX (fr:Int)(us:List (Nat×Nat))(ts:List (Option XT))(ix:Nat)(u:Nat×Nat)(op a:Int)(ks:List XT)(ps:List Pat)(l:ts[ix]?=some (some (.mk op a ks ps)))(hk:ks.length<1000000) :∀ (d b:List XT) (w:List (Nat×Nat)) (i:Nat),ks.drop i=d→b.length=i→w.length=i→aD4 d →
  Ends PP 2 (aJ9 fr 1 us ts ix u op a ks ps (mvN fr 1 op a) (i:Int) w (b.map some)).as (.ret (.ptr 3 0)) (aA (PHr fr 1 us ts (.mk op (mvN fr 1 op a) (b++cV fr 1 d) ps)) 5)
 | [],b,w,i,h,q,r,_=>by
  have x:=bH h;simp only [cV,rQ];exact aXw l (by omega) (bCD fr 1 us ts ix u op a ks ps _ (i:Int) w (b.map some) sd)
 | t::d,b,w,i,h,q,r,j=>by
  simp only [aD4]at j;obtain⟨v,s,p⟩ :=bE h;have f:ks≠ [] :=fun e=>by subst e;simp at p
  refine(bCC fr 1 us ts ix u op a ks ps _ (i:Int) w (b.map some) sd).ends (bGn fr 1 us ts ix u op a ks ps _ (i:Int) w (b.map some) f fun c k=>?_);obtain⟨o,g⟩ :=eC k p;refine(bCG fr 1 us ts ix u op a ks ps _ (i:Int) w (b.map some) c o (mG fr 1 t) sd sd sd (qO (m:=2) (ks:=[0,1,9]) (aRW fr t j.1 c (ks.map some) i o g (by rw [tJ,v];rfl)) aC aC trivial trivial) (by omega)).ends ?_;refine bGo fr 1 us ts ix u op a ks ps _ _ c (i:Int) w (b.map some) fun n=>?_;refine((bCE fr 1 us ts ix u op a ks ps _ _ c (i:Int) w (b.map some) n).trans ((bGp fr 1 us ts ix u op a ks ps _ c _ _ (i:Int) f).trans (bCF fr 1 us ts ix u op a ks ps _ c _ _ (i:Int) sd))).ends ?_;have:=aRX fr us ts ix u op a ks ps l hk d (b++ [mG fr 1 t]) (w++ [n]) (i+1) s (by simp [q]) (by simp [r]) j.2;rw [zq9,aIx]at this;simp only [cV];exact this
end
theorem aRY (fr:Int)(t:XT)(h:OkT t)(us:List (Nat×Nat))(ts:List (Option XT))(ix:Nat)(u:Nat×Nat)(b:us[ix]?=some u)(a:ts[ix]?=some (some t)) :
  eS PP 0 (.enter 249 [aW u,.int .i64 fr,.int .i64 1]) (aA [(0,(.zone true [] (ZV us ts)),false)] 1) (.ret (.ptr 1 0)) (aA [(0,(.zone true [] (ZV us ts)),false),(1,gh,false),(2,.zone true [1] (Z1 (mG fr 1 t)),false)] 3) :=by
 refine⟨(bEV us ts ix u fr 1).as.fr,by kernel_rfl,?_⟩;have:=bCN us ts ix u fr 1 (mG fr 1 t) (qO (m:=2) (ks:=[1,2,0]) (aRW fr t h us ts ix u b a) aC aC trivial trivial);exact dW (ks:=[1,0,2]) this aC aC aC trivial
section
variable {P :Program}
theorem aIb {call:bP}(hc:eF P call){m:Nat}:∀ {n:Nat} {s:AS} {v:AV} {b:Hp},aID P call n s=some (v,b) →Ends P m s (.ret v) b
 |0,s,v,b,a=>by simp [aID]at a
 | n + 1,s,v,b,a=>by
  simp only [aID]at a;split at a
  · rename_i x d;cases a;exact mZ d
  · split at a
    · rename_i e c;exact(dI hc c).ends (aIb hc a)
    ·cases a
def aB0 :AObj→AObj
 | .cells t n _ _=>.cells t n [] false
 |o=>o
def sD (hp:List (Nat×AObj)) :List (Nat×AObj×Bool) :=hp.map fun p=> (p.1,aB0 p.2,false)
def aNf (x:Nat) :List (Nat×AObj) →Bool
 | [] =>false
 |p::r=>Nat.beq p.1 x||aNf x r
def aGi (l:List (Nat×AObj)) :List Nat→Bool
 | [] =>true
 |x::r=> !(aNf x l) &&aGi l r
def aC6 (l:List (Nat×AObj)) :List (Nat×AObj) →Bool
 | [] =>true
 |p::r=>aGi l (bY p.2) &&aC6 l r
theorem aC7 {x:Nat}:∀ {l:List (Nat×AObj)},∀p∈l,p.1=x→aNf x l=true
 | q::r,p,a,e=>by
  simp only [aNf,Bool.or_eq_true];rcases zq7.1 a with rfl|a
  ·exact .inl (by rw [e];exact Nat.beq_refl x)
  ·exact .inr (aC7 p a e)
theorem aA4 {l:List (Nat×AObj)}:∀ {k:List Nat},aGi l k=true→∀x∈k,aNf x l=false
 | y::r,h,x,a=>by
  simp only [aGi,dS,Bool.not_eq_true']at h;rcases zq7.1 a with rfl|a
  ·exact h.1
  ·exact aA4 h.2 x a
theorem aA5 {l:List (Nat×AObj)}:∀ {k:List (Nat×AObj)},aC6 l k=true→∀p∈k,aGi l (bY p.2) =true
 | q::r,h,p,a=>by
  simp only [aC6,dS]at h;rcases zq7.1 a with rfl|a
  ·exact h.1
  ·exact aA5 h.2 p a
theorem aIc {h:Hp}:∀ {a:List (Nat×AObj)},(a.map fun p=>h.look p.1) = (a.map fun p=>some p.2) →∀p∈a,h.look p.1=some p.2
 | q::r,e,p,a=>by
  simp only [eU,List.cons.injEq]at e;rcases zq7.1 a with rfl|a
  ·exact e.1
  ·exact aIc e.2 p a
theorem nG {h:Hp}{hp:List (Nat×AObj)}{nb:Nat}(hl: (hp.map fun p=>h.look p.1) = (hp.map fun p=>some p.2)){b:Nat}{o:AObj}(e: (aA (sD hp) nb).look b=some o) :∃o1,(b,o1) ∈hp∧h.look b=some o1∧o=aB0 o1:=by
 obtain⟨g,hm⟩ :=kM e;obtain⟨⟨f,d⟩,a,c⟩ :=zq24.1 hm;cases c;exact⟨d,a,aIc hl _ a,rfl⟩
theorem zL {o:AObj}{L:Loc}{i:Nat}:Own (aB0 o) L i→Own o L i:=by cases o<;>exact id
theorem aXx {E:Emb}{H:Array Obj}{o:AObj}{L:Loc}:OR E H L o→OR E H L (aB0 o) :=by cases o<;>exact id
theorem aNg (o:AObj) :kL (aB0 o) =kL o:=by cases o<;>rfl
theorem aUE {E:Emb}{h:Hp}{H:Array Obj}(r:Rel E h H){hp:List (Nat×AObj)}{nb:Nat}(hl: (hp.map fun p=>h.look p.1) = (hp.map fun p=>some p.2))(l:aC6 hp hp=true)(u:h.nb=nb) :Rel E (aA (sD hp) nb) H:=by
 subst u;refine⟨fun b o e=>?_,fun b s o D L L' e z k t hm j=>?_,r.fresh,r.imm,fun b o L e k i v=>?_,fun b o e=>?_⟩
 · obtain⟨a,d,c,rfl⟩ :=nG hl e;rcases r.obj0 b a c with⟨x,w⟩ | ⟨L,y,q⟩
   ·exact .inl ⟨by rw [aNg];exact x,w⟩
   ·exact .inr ⟨L,y,aXx q⟩
 · obtain⟨a,d,c,rfl⟩ :=nG hl e;obtain⟨n,m,C,rfl⟩ :=nG hl z;exfalso;have f:Meet a n L L':=by
    obtain⟨i,B,A⟩ :=hm;exact⟨i,zL B,zL A⟩
   rcases r.kin b s a n L L' c C k t f j with⟨g,_⟩ | ⟨g,_⟩
   · have:=aA4 (aA5 l _ d) _ g;rw [aC7 _ m rfl]at this;cases this
   · have:=aA4 (aA5 l _ m) _ g;rw [aC7 _ d rfl]at this;cases this
 · obtain⟨a,d,c,rfl⟩ :=nG hl e;exact r.apart b a L c k i (zL v)
 · obtain⟨a,d,c,rfl⟩ :=nG hl e;exact r.keys b a c
theorem aDM {fr:AFrame}{cs:List AFrame}{h:Hp}{hp:List (Nat×AObj)}{nb:Nat}(hl: (hp.map fun p=>h.look p.1) = (hp.map fun p=>some p.2))(s:aC6 hp hp=true)(l:h.nb=nb) :Leads P ⟨fr,cs,h⟩ ⟨fr,cs,aA (sD hp) nb⟩ :=fun E fr c w d f fs r=>by
 have a:∀ {x o},(aA (sD hp) nb).look x=some o→∃b,h.look x=some b∧∀L i,Own o L i→Own b L i:=fun {x o} e=>by
  obtain⟨k,_,m,rfl⟩ :=nG hl e;exact⟨k,m,fun L i=>zL⟩
 refine⟨E,fr,c,w,Steps.refl _ _,f,fs,aUE r hl s l,⟨Emb.le.refl E,le_refl _,fun _ _ _=>rfl,fun x o L j t i n _=>by obtain⟨b,e,g⟩ :=a j;exact⟨x,b,L,e,t,g L i n⟩,?_,rfl,rfl,rfl,fun _ _=>rfl,fun _ _=>rfl,fun _ _ e _=>.inl e,fun x o e _=>by obtain⟨b,q,_⟩ :=a e;exact⟨b,q⟩⟩⟩;show h.nb≤nb;omega
theorem aB1 {f:Nat}{a:List AV}{g:AFrame}{fr:AFrame}{h:Hp}{hp:List (Nat×AObj)}{nb:Nat}{v:AV}(d:dG P (aA [] 0) (.enter f a) =some g)(b:Leads P ⟨g,[],aA [] 0⟩ ⟨fr,[],h⟩)(hl: (hp.map fun p=>h.look p.1) = (hp.map fun p=>some p.2))(c:aC6 hp hp=true)(e:h.nb=nb)
  (i:wE P ⟨fr,[],aA (sD hp) nb⟩ =some (v,aA (sD hp) nb)) :eS P 0 (.enter f a) (aA [] 0) (.ret v) (aA (sD hp) nb) :=
 ⟨g,d,((b.trans (aDM hl c e)).toM).ends (mZ i)⟩
theorem zM {n d k:Nat}{c:AIn}{h:Hp}{v:AV}{l:List (Nat×AObj×Bool)}{nb:Nat}
  (i: (wF P n (d+1) k c h).map (fun r=> (r.1,r.2.nb,l.map fun p=>r.2.look p.1)) =some (v,nb,l.map fun p=>some p.2.1)) (hb:h.nb≤nb) :Spec P c h (.ret v) (aA l nb) :=by
 simp only [wF]at i;split at i
 · rename_i g D;cases hr:aID P (wF P n d) n ⟨g,[],h⟩with
   |none=>rw [hr]at i;cases i
   | some r=>
    rw [hr]at i;simp only [Option.map_some,Option.some.injEq,Prod.mk.injEq]at i;obtain⟨rfl,rfl,I⟩ :=i;refine⟨g,D,?_⟩;have e:=aIb (m:=h.nb) (uE n d) hr
    have u:∀b o,(aA l r.2.nb).look b=some o→r.2.look b=some o:=fun b o e=>by
     obtain⟨M,hm⟩ :=kM e;have:∀ {k:List (Nat×AObj×Bool)},(k.map fun p=>r.2.look p.1) = (k.map fun p=>some p.2.1) →∀p∈k,r.2.look p.1=some p.2.1:=by
      intro k
      induction k with
      |nil=>intro _ p s;cases s
      | cons q k G=>
       intro e p s;simp only [eU,List.cons.injEq]at e;rcases zq7.1 s with rfl|s
       ·exact e.1
       ·exact G e.2 p s
     exact this I _ hm
    intro hm E fr x w f fs J A j;obtain⟨t,B,L,H,K,F,a⟩ :=e hm E fr x w f fs J A j;exact⟨t,B,L,H,K,F.sub u (le_refl _),⟨a.low,a.imm,a.size,a.keep,fun z y C e=>a.own z y C (u z y e),hb,a.os,a.tape,a.output,a.froz,a.immo,fun b o e=>a.keys b o (u b o e)⟩⟩
 ·cases i
def aXy (τ:Nat→Nat) :List (Nat×AObj×Bool) →List (Nat×AObj×Bool)
 | [] =>[]
 |p::r=> (τ p.1,p.2.1.ren τ,false) ::aXy τ r
theorem bH5 {l:List (Nat×AObj×Bool)}(h:eY l=True) :eY l:=h.symm ▸ trivial
theorem aDN {f:Nat}{a:List AV}{v v':AV}{l' lc lc':List (Nat×AObj×Bool)}{b n2 n3:Nat}(o:eS P 0 (.enter f a) (aA [] 0) (.ret v) (aA l' b))
  (hb: (dH 0 ⟨⟨0,0,[],[],[],.run,.normal,none⟩,[],[],0⟩ [] &&xK l'&&fZ b l'&&fZ n2 lc&&fZ n3 lc') =true)
  (he: (b-0+n2,ren (kC 0 n2 []) v,renL (fK 0 0 n2 []) a,uL (aA lc' n3) (kC 0 n2 []) l',aDy (namesT (kC 0 n2 []) l') [] (aA lc n2) lc',vX l') = (n3,v',a,iK (kC 0 n2 []) l',vX lc',(l'.map fun p=> (aA l' b).look p.1)))
  (c:eY l'=True) :Spec P (.enter f a) (aA lc n2) (.ret v') (aA lc' n3) :=by
 simp only [dS]at hb;obtain⟨⟨⟨⟨d,g⟩,n⟩,h⟩,j⟩ :=hb;simp only [Prod.mk.injEq]at he;obtain⟨l,k,q,r,e,i⟩ :=he;refine qO (m:=0) (ks:=[]) o ?_ ?_ trivial (bH5 c)
 · simp only [dS];exact⟨⟨⟨⟨⟨⟨⟨rfl,by cases b<;>rfl⟩,d⟩,g⟩,n⟩,h⟩,j⟩,rfl⟩
 · simp only [Prod.mk.injEq];exact⟨l,k,q,rfl,r,e,i⟩
theorem aKe {s i:AS}{b:Bool}{is:List Ins}{ps:List Prop}(hl:Leads P s i)(g: (rD P is i).map (fun x=> ((wE P x.1).map Prod.fst,x.2)) =some (some (.bool b),ps))(hp:AllP ps) :Ends P 0 s (.ret (.bool b)) (aA [] 0) :=by
 cases hr:rD P is i with
 |none=>rw [hr]at g;cases g
 | some r=>
  obtain⟨s2,qs⟩ :=r;rw [hr]at g;simp only [Option.map_some,Option.some.injEq,Prod.mk.injEq]at g;obtain⟨d,rfl⟩ :=g;cases h:wE P s2 with
  |none=>rw [h]at d;cases d
  | some u=>
   obtain⟨v,G⟩ :=u;rw [h]at d;simp only [Option.map_some,Option.some.injEq]at d;subst d;have t:LeadsM P 0 s s2:= (hl.toM).trans (hM hr (fun p k=>hp.mem p k));intro hm E fr j w f fs r m c;obtain⟨l,n,A,z,⟨y,rfl,q⟩,B,a⟩ := (t.ends (mZ h)) hm E fr j w f fs r m c;refine⟨_,n,A.p,z,⟨y,rfl,?_⟩,aFs B,⟨fun b hb=>absurd hb (Nat.not_lt_zero _),a.imm,a.size,a.keep,fun F C D e=>?_,le_refl _,a.os,a.tape,a.output,a.froz,a.immo,fun b o e=>?_⟩⟩
   ·simpa only [VR]using q
   ·simp [aBL,Hp.look,T.at_leaf]at e
   ·simp [aBL,Hp.look,T.at_leaf]at e
theorem aQr {h h':Hp}{g:Nat}{us:List (Nat×Nat)}{ts:List (Option XT)}{i:Nat}{u:Nat×Nat}{t:XT}(y:h.look g=some (.zone true [] (ZV us ts)))(hu:us[i]?=some u)(X:ts[i]?=some (some t))(hn:h'.nb=h.nb+2)
  (hl:∀b o,h'.look b=some o→ (b=h.nb∧o= .zone true [] (ZV us (ts.set i none))) ∨ (b=h.nb+1∧o= .zone true [] (ZV [u] [some t])) ∨ (b≠g∧h.look b=some o)) :kN h h':=fun E w r=>by
 obtain⟨C,g1,Y⟩ :=r.obj g _ y;obtain⟨Ls,_,H,G⟩ :=fV Y;obtain⟨a,F1,f,O,o2,N,S⟩ :=G.out X;rw [hu]at O;cases O;have q:= (S.nodup_iff).2 H;obtain⟨A,I,n⟩ :=List.nodup_append.1 q
 let E':Emb:= ⟨fun b=>if b=h.nb then some ⟨iV f,0,0⟩else if b=h.nb+1 then some ⟨iV F1,0,0⟩else E b,E.imm⟩
 have D:E' h.nb=some ⟨iV f,0,0⟩ :=if_pos rfl;have B:E' (h.nb+1) =some ⟨iV F1,0,0⟩ :=by simp [E']
 have V:∀ {b},b<h.nb∨h.nb+2≤b→E' b=E b:=fun {b} hb=>by
  simp only [E'];rw [if_neg (by omega),if_neg (by omega)]
 have hgb:=r.keys g _ y;have oz:OR E' w.heap ⟨iV f,0,0⟩ (.zone true [] (ZV us (ts.set i none))) :=uT (Ls:=[]) rfl (OsAt.blk _ us f N) (fun m H' c z=> ⟨I,OsAt.go c _ us f N z⟩);have j:OsAt E.imm w.heap [u] [some t] F1:=by
  simp only [OsAt];exact⟨u,[],F1,[],rfl,by simp,o2,rfl,rfl⟩
 have oh:OR E' w.heap ⟨iV F1,0,0⟩ (.zone true [] (ZV [u] [some t])) :=uT (Ls:=[]) rfl (OsAt.blk _ _ F1 j) (fun m H' c z=> ⟨A,OsAt.go c _ _ F1 j z⟩);have s:∀ {i},i∈F1∨i∈f→i∈jE C.blk:=fun {i} c=> (S.mem_iff).1 (zq28.2 c);have old:∀i,i∈jE C.blk→∃F J T,¬ (fun b=>b≠g) F∧h.look F=some J∧E F=some T∧Own J T i:=fun i c=> ⟨g,_,C,fun l=>l rfl,y,g1,c⟩
 obtain ⟨q1,Z,q3⟩ :=r.swap (E':=E') (h':=h') (fun b=>b≠g) (by omega) (fun b hb=>V (.inl hb)) rfl (fun b hb=>by rw [V (by omega)];exact r.fresh b (by omega))
  (fun b o e hb=>by
   have h2:b=g:=Classical.not_not.1 hb;subst h2;rw [y]at e;cases e;exact⟨rfl,rfl⟩)
  (fun b o e=>by
   rcases hl b o e with⟨rfl,rfl⟩ | ⟨rfl,rfl⟩ |d
   ·exact .inr ⟨by omega,rfl,rfl,fun l=>absurd l (by omega),_,D,oz,fun i c=>old i (s (.inr (zone_own.1 c)))⟩
   ·exact .inr ⟨by omega,rfl,rfl,fun l=>absurd l (by omega),_,B,oh,fun i c=>old i (s (.inl (zone_own.1 c)))⟩
   ·exact .inl d)
  (fun b M o R L L' n1 Q e U k v p hm=>by
   obtain⟨x,K,W⟩ :=hm;rcases hl b o e with⟨rfl,rfl⟩ | ⟨rfl,rfl⟩ |d
   · rw [D]at k;cases k;rcases hl M R U with⟨rfl,rfl⟩ | ⟨rfl,rfl⟩ |d
     ·exact p rfl
     · rw [B]at v;cases v;exact n x (zone_own.1 W) x (zone_own.1 K) rfl
     ·exact Q d
   · rw [B]at k;cases k;rcases hl M R U with⟨rfl,rfl⟩ | ⟨rfl,rfl⟩ |d
     · rw [D]at v;cases v;exact n x (zone_own.1 K) x (zone_own.1 W) rfl
     ·exact p rfl
     ·exact Q d
   ·exact n1 d)
 exact⟨E',q1,Z,q3⟩
theorem bCR {i:Type}{m:Nat}{s:AS}{v:AV}{h:Hp}{h1:i→Hp}{h2:Hp}{ok:i→Prop}(e:Ends P m s (.ret v) h)(z:aAV h ok h1)(hm:m≤h.nb)(t:∀x,ok x→kN (h1 x) h2)(g:∀x,m≤ (h1 x).nb) :Ends P m s (.ret v) h2:=fun d E fr b w f fs r q a=>by
 obtain⟨l,c,D,n,⟨u,rfl,j⟩,F,C⟩ :=e d E fr b w f fs r q a;obtain⟨x,o,G,h1,h2,p⟩ :=z D c F;obtain⟨A,y,k,B⟩ :=t x G o c h2;exact⟨_,c,A,n,⟨u,rfl,(j.mono h1).mono y⟩,k,(C.trans (p m hm)).trans (B m (g x))⟩
end
theorem aId {E:Emb}{v:Value}(h:VR E .nils v) :VR E (.ilst 4 (av []) false) v:=by
 simp only [VR]at h ⊢;subst h;exact⟨[],by simp [av,VRs],fun _ a=>by(cases a),.inl ⟨rfl,none,0,rfl,fun _=>rfl,fun h=>by(cases h)⟩⟩
theorem bCS (op n:Int) :eS PP 0 (.enter 250 [.int .i64 op,.int .i64 n,.nils]) (aA [] 0) (.ret (.ptr 0 0)) (aA (NT (.mk op n [] [])) 2) :=by
 refine⟨(bEY op n).as.fr,by kernel_rfl,?_⟩;have z:kN (aA [(0,(.cells (putCells .leaf 0 [(.int .i64 op),(.int .i64 n),.nils,.nils]) 4 [] false),false)] 1) (aA (NT (.mk op n [] [])) 2) :=
  aWb (h:=aA [(0,(.cells (putCells .leaf 0 [(.int .i64 op),(.int .i64 n),.nils,.nils]) 4 [] false),false)] 1) (h':=aA (NT (.mk op n [] [])) 2) (b:=0) (op:=op) (n:=n) (ps:=[]) (kv:=.nils) (pv:=.nils) aC (fun _ _ h=> ⟨none,by simpa only [VR]using h⟩) (fun _ _ h=>aId h) (le_refl _)
   (bC ⟨.inr (.inl ⟨rfl,rfl⟩),.inl ⟨rfl,rfl⟩,trivial⟩)
 exact rF (bCP op n) z (zero_le _)
abbrev LT0 (us:List (Nat×Nat))(ts:List (Option XT))(u:Nat×Nat)(tb:XT) :HL:=[(0,(.cells (putCells .leaf 0 [(.int .i64 7),(.int .i64 0),(.gl 1 1 0 ((length [u]) +1) false),.nils]) 4 [] false),false),(1,(.lst 1 (map aW [u] ++ [.ptr 2 0])),false),(2,gh,false),(3,(.zone true [] (ZV us ts)),false),(4,(.zone true [2] (Z1 tb)),false)]
abbrev LT1 (us:List (Nat×Nat))(ts:List (Option XT))(ix:Nat)(u:Nat×Nat)(ta tb:XT) :HL:=[(0,(.cells (putCells .leaf 0 [(.int .i64 7),(.int .i64 0),(.gl 1 1 0 ((length [u]) +1) false),.nils]) 4 [] false),false),(1,(.lst 1 (map aW [u] ++ [.ptr 2 0])),false),(2,gh,false),(4,(.zone true [2] (Z1 tb)),false),(5,(.zone true [] (ZV us (ts.set ix none))),false),(6,(.zone true [] (ZV [u] [some ta])),false)]
abbrev LT2 (us:List (Nat×Nat))(ts:List (Option XT))(ix:Nat)(u:Nat×Nat)(ta tb:XT)(u9:Nat×Nat) :HL:=[(0,(.cells (putCells .leaf 0 [(.int .i64 7),(.int .i64 0),(.gl 1 1 0 ((length [u]) +1) false),.nils]) 4 [] false),false),(1,(.lst 1 (map aW [u,u9])),true),(5,(.zone true [] (ZV us (ts.set ix none))),false),(7,(.zone true [] (ZV [u,u9] [some ta,some tb])),false)]
abbrev LT3 (us:List (Nat×Nat))(ts:List (Option XT))(ix:Nat)(t:XT) :HL:=[(0,gh,false),(5,(.zone true [] (ZV us (ts.set ix none))),false),(8,(.zone true [0] (Z1 t)),false)]
theorem aKf (us:List (Nat×Nat))(ts:List (Option XT))(ix:Nat)(u:Nat×Nat)(c a:XT)(f:us[ix]?=some u)(e:ts[ix]?=some (some c)) :
  eS PP 0 (.enter 248 [aW u,.ptr 1 0]) (aA [(0,(.zone true [] (ZV us ts)),false),(1,gh,false),(2,.zone true [1] (Z1 a),false)] 3) (.ret (.ptr 1 0)) (aA [(0,(.zone true [] (ZV us (ts.set ix none))),false),(1,gh,false),(2,.zone true [1] (Z1 (.mk 7 0 [c,a] [])),false)] 3) :=by
 refine⟨(bEW us ts ix u a).as.fr,by kernel_rfl,?_⟩;have j:kN (aA (LT0 us ts u a) 5) (aA (LT1 us ts ix u c a) 7) :=
  aQr (h:=aA (LT0 us ts u a) 5) (h':=aA (LT1 us ts ix u c a) 7) (g:=3) (us:=us) (ts:=ts) (i:=ix) (u:=u) (t:=c) aC f e rfl
   (bC ⟨.inr (.inr ⟨by decide,by kernel_rfl⟩),.inr (.inr ⟨by decide,by kernel_rfl⟩),.inr (.inr ⟨by decide,by kernel_rfl⟩),.inr (.inr ⟨by decide,by kernel_rfl⟩),.inl ⟨rfl,rfl⟩,.inr (.inl ⟨rfl,rfl⟩),trivial⟩)
 have m:aAV (aA (LT1 us ts ix u c a) 7) (fun _=>True) (fun d=>aA (LT2 us ts ix u c a d) 8) :=
  aEh (h:=aA (LT1 us ts ix u c a) 7) (h':=fun d=>aA (LT2 us ts ix u c a d) 8) (k:=1) (g:=6) (gz:=4) (z:=2) (us:=[u]) (ts:=[some c]) (t:=a) aC aC aC (by decide) (fun _=>le_refl _)
   (fun d=>bC ⟨.inr (.inr ⟨by decide,by kernel_rfl⟩),.inr (.inl ⟨rfl,rfl⟩),.inr (.inr ⟨by decide,by kernel_rfl⟩),.inl ⟨rfl,rfl⟩,trivial⟩)
 have l:∀d,kN (aA (LT2 us ts ix u c a d) 8) (aA (LT3 us ts ix (.mk 7 0 [c,a] [])) 9) :=fun d=>
  aBS (h:=aA (LT2 us ts ix u c a d) 8) (h':=aA (LT3 us ts ix (.mk 7 0 [c,a] [])) 9) (b:=0) (k:=1) (g:=7) (us:=[u,d]) (op:=7) (n:=0) (ts:=[c,a]) (ps:=[]) (len:= (length [u]) +1) (ex:=false) (pv:=.nils) aC rfl (fun _ _ h=>aId h) aC aC (le_refl _)
   (bC ⟨.inr (.inl ⟨rfl,rfl⟩),.inr (.inr ⟨by decide,by kernel_rfl⟩),.inl ⟨rfl,rfl⟩,trivial⟩)
 exact dW (ks:=[5,0,8]) (bCR (rF (bCI us ts ix u a) j (zero_le _)) m (zero_le _) (fun d _=>l d) (fun _=>zero_le _)) aC aC aC trivial
theorem aKg (us:List (Nat×Nat)) :AV.keylessL (map aW us) =true:=aN _ (fun _=>rfl) us
theorem bCT :∀ (a:List (Nat×Nat)),a≠ [] →a.length≤1000000→eS PP 1 (.enter 254 [.gl 0 1 0 (length a) false]) (aA [(0,(.lst 1 (map aW a)),true)] 1) (.ret (.gl 1 1 0 (length a) false)) (aA [(0,(.lst 1 (map aW a)),true),(1,(.lst 1 (map aW a)),true)] 2)
 | [],h,_=>absurd rfl h
 |u::a,_,h=> ⟨(bEX u a).as.fr,by kernel_rfl,bCO u a h⟩
abbrev aQs (a:Nat)(b c:Int)(d:List XT)(e:List Pat):=oC a [(nI b),(nI c),(.gl 2 1 0 d.length false),(iP e)]
abbrev aEu (a b:Int)(c:List XT)(d:List Pat):=[aQs 1 a b c d,(2,gh,false),(3,(.zone true [2] (cH c)),false)]
abbrev aRZ (a:List (Nat×Nat))(b:List (Option XT))(c:Nat)(d:List (Nat×Nat))(e:List (Option XT))(f:List (Nat×Nat))(g:List XT)(h:XT):List (Nat×AObj×Bool):=[(4,(.zone true [] (ZV a (set b c none))),false),(6,(.zone true [] (ZV d e)),false),(7,(.zone true [] (ZV f (map some g))),false),(8,gh,false),(9,(.zone true [8] (Z1 h)),false)]
abbrev rH (a:List (Nat×Nat))(b:List (Option XT))(c:Nat)(d:List (Nat×Nat))(e:List XT):List (Nat×AObj×Bool):=[(4,(.zone true [] (ZV a (set b c none))),false),(5,(.zone true [] (ZV d (map some e))),false)]
abbrev zN (a:Nat)(b:List (Nat×Nat)):=oL a 1 (map aW b)
abbrev aKh (a b:Int)(c:List XT)(d:List Pat)(e f:List (Nat×Nat))(g:List (Option XT))(h:Nat)(i j:Int)(k:List XT)(l:List Pat)(m:List (Nat×Nat)):=[oC 0 [(nI a),(nI b),(.gl 1 1 0 c.length false),(iP d)],zN 1 e,(2,(.zone true [] (ZV f (set g h none))),false),oC 4 [(nI i),(nI j),(.gl 5 1 0 k.length false),(iP l)],zN 5 m]
abbrev cS (a:Nat)(b:List (Nat×Nat)):=oL a 1 (map aW b)
abbrev aB2 (a b:List (Nat×Nat))(c:List (Option XT))(d:Nat):=[cS 1 a,(2,(.zone true [] (ZV b (set c d none))),false)]
abbrev aR0 (a b:Int)(c:List (Nat×Nat))(d:List Pat)(e f:List (Nat×Nat))(g:List (Option XT))(h:Nat)(i:List XT)(j:List (Option XT)):=aA ([oC 0 [(nI a),(nI b),(.gl 2 1 0 c.length false),(iP d)],oC 1 [(nI a),(nI b),(.gl 3 1 0 c.length false),(iP d)],oL 2 1 (map aW c),oL 3 1 (map aW e)]++rH f g h c i++[(6,(.zone true [] (ZV e j)),false)]) 7
abbrev aB3 (a:List (Nat×Nat)):AV:=.gl 3 1 0 a.length false
abbrev aXz (a b c:Int)(d:List (Nat×Nat))(e:List Pat)(f g:List (Nat×Nat))(h:List (Option XT))(i:Nat)(j:List XT)(k:List (Option XT)):=Spec PP (.enter 250 [(nI 4),(nI a),.nils]) (aR0 b c d e f g h i j k) (.ret (.ptr 7 0)) (aA ([oC 0 [(nI b),(nI c),(.gl 2 1 0 d.length false),(iP e)],oC 1 [(nI b),(nI c),(aB3 d),(iP e)],zN 2 d,zN 3 f]++rH g h i d j++[(6,(.zone true [] (ZV f k)),false),(7,gh,false),(8,(.zone true [7] (Z1 (XT.mk 4 a [] []))),false)]) 9)
abbrev aXA (a:Nat×Nat)(b c d:Int)(e:List (Nat×Nat))(f:List Pat)(g h:List (Nat×Nat))(i:List (Option XT))(j:Nat)(k:List XT)(l:List (Option XT))(m:XT):=Spec PP (.enter 249 [(aW a),(nI b),(nI 1)]) (aR0 c d e f g h i j k l) (.ret (.ptr 8 0)) (aA ([oC 0 [(nI c),(nI d),(.gl 2 1 0 e.length false),(iP f)],oC 1 [(nI c),(nI d),(aB3 e),(iP f)],zN 2 e,zN 3 g]++aRZ h i j g l e k m) 10)
abbrev aXB (a b:Int)(c:List XT)(d:List Pat)(e f:List (Nat×Nat))(g:List (Option XT))(h:Nat)(i j:Int)(k:List XT)(l:List Pat)(m:List (Nat×Nat))(n:XT):=aA (aKh a b c d e f g h i j k l m++[(10,(.zone true [] (ZV e (set (map some c) 0 none))),false),(16,(.zone true [] (ZV m (set (set (map some k) 1 none) 0 none))),false),(17,gh,false),(18,(.zone true [17] (Z1 n)),false)]) 19
abbrev aQt (a b:Int)(c:List XT)(d:List Pat)(e f:List (Nat×Nat))(g:List (Option XT))(h:Nat)(i j:Int)(k:List XT)(l:List Pat)(m:List (Nat×Nat))(n:XT):=aA (aKh a b c d e f g h i j k l m++[(10,(.zone true [] (ZV e (set (map some c) 0 none))),false),(13,(.zone true [] (ZV m (set (map some k) 1 none))),false),(14,gh,false),(15,(.zone true [14] (Z1 n)),false)]) 16
abbrev aQu (a b:Int)(c:List XT)(d:List Pat)(e f:List (Nat×Nat))(g:List (Option XT))(h:Nat)(i j:Int)(k:List XT)(l:List Pat)(m:List (Nat×Nat))(n:XT):=aA (aKh a b c d e f g h i j k l m++[(9,(.zone true [] (ZV m (map some k))),false),(10,(.zone true [] (ZV e (set (map some c) 0 none))),false),(11,gh,false),(12,(.zone true [11] (Z1 n)),false)]) 13
abbrev jM (a:Nat)(b c:Int)(d:List (Nat×Nat))(e:List Pat):=oC a [(nI b),(nI c),(.gl 2 1 0 d.length false),(iP e)]
abbrev sE (a:Nat)(b c:Int)(d:List (Nat×Nat))(e:List Pat):=oC a [(nI b),(nI c),(aB3 d),(iP e)]
abbrev aGj (a:Nat)(b c:Int)(d:List XT)(e:List Pat):=oC a [(nI b),(nI c),(.gl 1 1 0 d.length false),(iP e)]
abbrev aEv (a:Nat)(b c:Int)(d:List XT)(e:List Pat):=oC a [(nI b),(nI c),(.gl 5 1 0 d.length false),(iP e)]
abbrev rI (a:List (Nat×Nat)):AV:=.gl 2 1 0 a.length false
def bEZ(a:List (Nat×Nat))(b:List (Option XT))(f:Nat)(c:Nat×Nat)(g i:Int)(j:List XT)(k:List Pat)(d e:Int)(l:List (Nat×Nat)):TS:=aX PP 253 [(nI d),(aW c),(nI e)] [(0,(.zone true [] (ZV a b)),false)] 1
def aQv(a:List (Nat×Nat))(b:List (Option XT))(f:Nat)(c:Nat×Nat)(g i:Int)(j:List XT)(k:List Pat)(d e:Int)(l:List (Nat×Nat)):TS:=⟨(tf 253 54 [(0,(nI d)),(1,(aW c)),(2,(nI e)),(6,.nilp)] [kc f253 6,kc f253 7]),[],[(0,(.zone true [] (ZV a b)),false)],1⟩
def aEw(c:List (Nat×Nat))(d:List (Option XT))(e:Nat)(l:Nat×Nat)(f g:Int)(a:List XT)(i:List Pat)(j k:Int)(b:List (Nat×Nat)):TS:=⟨(tf 253 54 [(0,(nI j)),kp 1 1,(2,(nI k)),(6,.nilp)] [kc f253 6,kc f253 7]),[],[aQs 1 f g a i,cS 2 b,(5,(.zone true [] (ZV c (set d e none))),false),(6,(.zone true [] (ZV b (map some a))),false)],7⟩
def aQw(e:List (Nat×Nat))(f:List (Option XT))(g:Nat)(l:Nat×Nat)(b c:Int)(i:List XT)(d:List Pat)(j k:Int)(a:List (Nat×Nat)):TS:=⟨(tf 253 54 [(0,(nI j)),kp 1 0,(2,(nI k)),(6,.nilp),kp 7 1] [kc f253 60,kc f253 61,kc f253 31]),[],([jM 0 b c a d,sE 1 b c a d,cS 2 a,cS 3 a]++rH e f g a i),6⟩
def aKi(e:List (Nat×Nat))(f:List (Option XT))(g:Nat)(l:Nat×Nat)(b c:Int)(i:List XT)(d:List Pat)(j k:Int)(a:List (Nat×Nat)):TS:=⟨(tf 253 54 [(0,(nI j)),kp 1 0,(2,(nI k)),(6,.nilp),kp 7 1] [kc f253 60,kc f253 61,kc f253 31]),[],([jM 0 b c a d,sE 1 b c a d,cS 2 a,cS 3 a]++rH e f g a i++[(6,(.zone true [] (ZV a (map (fun _=>none) a))),false)]),7⟩
def yA(f:List (Nat×Nat))(g:List (Option XT))(i:Nat)(o:Nat×Nat)(b c:Int)(j:List XT)(d:List Pat)(k l:Int)(a:List (Nat×Nat))(m:List (Option XT))(n:Int)(e:List (Nat×Nat)):TS:=⟨(tf 253 54 [(0,(nI k)),kp 1 0,(2,(nI l)),(6,.nilp),kp 7 1,(22,(rI a)),(23,(nI (a.length:Int))),(24,(nI n))] [kc f253 244,kl f253 244,.inBlock 0,kc f253 31]),[],([jM 0 b c a d,sE 1 b c a d,cS 2 a,cS 3 e]++rH f g i a j++[(6,(.zone true [] (ZV e m)),false)]),7⟩
def aQx(f:List (Nat×Nat))(g:List (Option XT))(i:Nat)(q:Nat×Nat)(b c:Int)(j:List XT)(d:List Pat)(k l:Int)(a:List (Nat×Nat))(m:Nat)(n:XT)(o:List (Option XT))(p:Int)(e:List (Nat×Nat)):TS:=⟨(tf 253 54 [(0,(nI k)),kp 1 0,(2,(nI l)),(6,.nilp),kp 7 1,(22,(rI a)),(23,(nI (a.length:Int))),(24,(nI p))] [kc f253 1959,kl f253 244,.inBlock 0,kc f253 31]),[],[jM 0 b c a d,sE 1 b c a d,cS 2 a,(3,(.lst 1 ((map aW e).set m (.ptr 4 0))),false),(4,gh,false),(5,(.zone true [4] (Z1 n)),false),(6,(.zone true [] (ZV f (set g i none))),false),(7,(.zone true [] (ZV e o)),false),(8,(.zone true [] (ZV a (map some j))),false)],9⟩
def aEx(i:List (Nat×Nat))(j:List (Option XT))(k:Nat)(r:Nat×Nat)(c d:Int)(l:List XT)(e:List Pat)(m n:Int)(a:List (Nat×Nat))(b:Nat)(o:XT)(p:List (Option XT))(q:Int)(f:List (Nat×Nat))(g:Nat×Nat):TS:=⟨(tf 253 54 [(0,(nI m)),kp 1 0,(2,(nI n)),(6,.nilp),kp 7 1,(22,(rI a)),(23,(nI (a.length:Int))),(24,(nI q))] [kc f253 1959,kl f253 244,.inBlock 0,kc f253 31]),[],[jM 0 c d a e,sE 1 c d a e,cS 2 a,oL 3 1 (map aW (set f b g)),(6,(.zone true [] (ZV i (set j k none))),false),(8,(.zone true [] (ZV a (map some l))),false),(9,(.zone true [] (ZV (set f b g) (set p b (some o)))),false)],10⟩
def aQy(f:List (Nat×Nat))(g:List (Option XT))(i:Nat)(o:Nat×Nat)(b c:Int)(j:List XT)(d:List Pat)(k p:Int)(a:List (Nat×Nat))(l:Nat)(m:XT)(n:List (Option XT))(e:List (Nat×Nat)):TS:=⟨(tf 253 54 [(0,(nI k)),kp 1 0,(6,.nilp),kp 7 1] [kc f253 63]),[],[jM 0 b c a d,sE 1 b c a d,cS 2 a,(3,(.lst 1 ((map aW e).set l (.ptr 4 0))),false),(4,gh,false),(5,(.zone true [4] (Z1 m)),false),(6,(.zone true [] (ZV f (set g i none))),false),(7,(.zone true [] (ZV a (map some j))),false),(8,(.zone true [] (ZV e n)),false)],9⟩
def aEy(i:List (Nat×Nat))(j:List (Option XT))(k:Nat)(p:Nat×Nat)(c d:Int)(l:List XT)(e:List Pat)(m q:Int)(a:List (Nat×Nat))(b:Nat)(n:XT)(o:List (Option XT))(f:List (Nat×Nat))(g:Nat×Nat):TS:=⟨(tf 253 54 [(0,(nI m)),kp 1 0,(6,.nilp),kp 7 1] [kc f253 63]),[],[jM 0 c d a e,sE 1 c d a e,cS 2 a,oL 3 1 (map aW (set f b g)),(6,(.zone true [] (ZV i (set j k none))),false),(7,(.zone true [] (ZV a (map some l))),false),(9,(.zone true [] (ZV (set f b g) (set o b (some n)))),false)],10⟩
def aQz(f:List (Nat×Nat))(g:List (Option XT))(i:Nat)(m:Nat×Nat)(b c:Int)(j:List XT)(d:List Pat)(k n:Int)(a e:List (Nat×Nat))(l:List (Option XT)):TS:=⟨(tf 253 54 [(0,(nI k)),kp 1 0,(6,.nilp),kp 7 1] [kc f253 126,kc f253 127]),[],([jM 0 b c a d,sE 1 b c a d,cS 2 a,cS 3 e]++rH f g i a j++[(6,(.zone true [] (ZV e l)),false)]),7⟩
def aKj(e:List (Nat×Nat))(f:List (Option XT))(g:Nat)(l:Nat×Nat)(b c:Int)(i:List XT)(d:List Pat)(j m:Int)(a n:List (Nat×Nat))(o:List (Option XT))(k:List XT):TS:=⟨(tf 253 54 [(0,(nI j)),kp 1 0,(6,.nilp),kp 7 1] [kc f253 126,kc f253 127]),[],([jM 0 b c a d,(1,gh,false),cS 2 a]++rH e f g a i++[(7,(.zone true [1] (Z1 (XT.mk b c k d))),false)]),8⟩
def aB4(c:List (Nat×Nat))(d:List (Option XT))(a:Nat)(k:Nat×Nat)(e f:Int)(b:List XT)(g:List Pat)(i j:Int)(l:List (Nat×Nat)):TS:=⟨(tf 253 54 [(0,(nI i)),kp 1 1,(2,(nI j)),(6,.nilp)] [kc f253 6,kc f253 7]),[],(aEu e f b g++[(4,(.zone true [1] (eN c (set d a none) a)),false)]),5⟩
theorem aXC (us: (List (Nat×Nat)))(ts: (List (Option XT)))(ix:Nat)(u: (Nat×Nat))(op a:Int)(ks:List XT)(ps:List Pat)(b sz:Int)(c: (List (Nat×Nat)))(d:us[ix]?=some u)(e: (ts)[ix]?=some (some (.mk op a ks ps))) :LeadsM PP 0 (aQv us ts ix u op a ks ps b sz c).as (aB4 us ts ix u op a ks ps b sz c).as:=
 xZ (j:=1) (v:=aW u) (v':=.ptr 1 0) aC (fun hm=>sT (h:= (aQv us ts ix u op a ks ps b sz c).as.h) (h':= (aB4 us ts ix u op a ks ps b sz c).as.h) (g:=0) (us:=us) (ts:=ts) (i:=ix) (u:=u) (op:=op) (n:=a) (ks:=ks) (ps:=ps) aC d e rfl (bC ⟨.inl ⟨rfl,rfl⟩,.inr (.inl ⟨rfl,rfl⟩),.inr (.inr (.inl ⟨rfl,rfl⟩)),.inr (.inr (.inr (.inl ⟨rfl,rfl⟩))),trivial⟩) hm) aC aC
def aB5(b:List (Nat×Nat))(c:List (Option XT))(d:Nat)(k:Nat×Nat)(e f:Int)(a:List XT)(g:List Pat)(i j:Int)(l:List (Nat×Nat)):TS:=⟨(tf 253 54 [(0,(nI i)),kp 1 1,(2,(nI j)),(6,.nilp)] [kc f253 6,kc f253 7]),[],(aEu e f a g++[(5,(.zone true [] (ZV b (set c d none))),false)]),6⟩
theorem aXD (us: (List (Nat×Nat)))(ts: (List (Option XT)))(ix:Nat)(u: (Nat×Nat))(op c:Int)(ks:List XT)(ps:List Pat)(a sz:Int)(b: (List (Nat×Nat))) :LeadsM PP 0 (aB4 us ts ix u op c ks ps a sz b).as (aB5 us ts ix u op c ks ps a sz b).as:=
 mF (aCW (h:= (aB4 us ts ix u op c ks ps a sz b).as.h) (h':= (aB5 us ts ix u op c ks ps a sz b).as.h) (g:=4) (Z:= (eN us (set ts ix none) ix)) (Z':= (ZV us (set ts ix none))) (rs:=[1]) (rs':=[]) aC (.inl rfl) (fun _ _ _ _ h=>by rw [if_pos rfl];exact aJv h) (le_refl _) (bC ⟨.inr ⟨by decide,by kernel_rfl⟩,.inr ⟨by decide,by kernel_rfl⟩,.inr ⟨by decide,by kernel_rfl⟩,.inl ⟨rfl,rfl⟩,trivial⟩)) aC aC
theorem aXE (us: (List (Nat×Nat)))(ts: (List (Option XT)))(ix:Nat)(u: (Nat×Nat))(op d:Int)(ks:List XT)(ps:List Pat)(b sz:Int)(e: (List (Nat×Nat))){c:Res}{hf:Hp}(f:ks≠ [])(k:∀a,a.length=ks.length→Ends PP 0 (aEw us ts ix u op d ks ps b sz a).as c hf) :Ends PP 0 (aB5 us ts ix u op d ks ps b sz e).as c hf:=
 mE (t:=fun a=> (aEw us ts ix u op d ks ps b sz a).as) (ok:=fun us=>us.length=ks.length) (xN (h:= (aB5 us ts ix u op d ks ps b sz e).as.h) (h':=fun a=> (aEw us ts ix u op d ks ps b sz a).as.h) (k:=2) (g:=3) (o:=gh) (ts:=ks) aC rfl aC f (fun _=>le_refl _) (fun a=> (bC ⟨.inr (.inr ⟨by decide,by kernel_rfl⟩),.inr (.inl ⟨rfl,rfl⟩),.inr (.inr ⟨by decide,by kernel_rfl⟩),.inl ⟨rfl,rfl⟩,trivial⟩))) (fun a=> ⟨by kernel_rfl,by kernel_rfl⟩) k
theorem bGu (us: (List (Nat×Nat)))(ts: (List (Option XT)))(ix:Nat)(u: (Nat×Nat))(op c:Int)(ks:List XT)(ps:List Pat)(b sz:Int)(a: (List (Nat×Nat))) :LeadsM PP 0 (aQw us ts ix u op c ks ps b sz a).as (aKi us ts ix u op c ks ps b sz a).as:=
 mF (zE (h:= (aQw us ts ix u op c ks ps b sz a).as.h) (h':= (aKi us ts ix u op c ks ps b sz a).as.h) (Z:= (ZV a (map (fun _=>none) a))) (fun _ _=>bBw) (le_refl _) (bC ⟨.inr aC,.inr aC,.inr aC,.inr aC,.inr aC,.inr aC,.inl ⟨rfl,rfl⟩,trivial⟩)) aC aC
theorem bGv (us: (List (Nat×Nat)))(ts: (List (Option XT)))(ix:Nat)(u: (Nat×Nat))(op n:Int)(ks:List XT)(ps:List Pat)(j sz:Int)(l: (List (Nat×Nat)))(d:Nat)(f:XT)(e: (List (Option XT)))(b:Int)(a: (List (Nat×Nat))){m:Res}{hf:Hp}(o: (e)[d]?=some none)(k:∀c,Ends PP 0 (aEx us ts ix u op n ks ps j sz l d f e b a c).as m hf) :Ends PP 0 (aQx us ts ix u op n ks ps j sz l d f e b a).as m hf:=
 mE (t:= (fun c=> (aEx us ts ix u op n ks ps j sz l d f e b a c).as)) (ok:=fun _=>True) (aJu (h:= (aQx us ts ix u op n ks ps j sz l d f e b a).as.h) (h':=fun c=> (aEx us ts ix u op n ks ps j sz l d f e b a c).as.h) (k:=3) (g:=7) (gz:=5) (z:=4) (us:=a) (ts:=e) (i:=d) (t:=f) aC aC aC o (by decide) (fun _=>le_refl _) (fun c=> (bC ⟨.inr (.inr ⟨by decide,by kernel_rfl⟩),.inr (.inr ⟨by decide,by kernel_rfl⟩),.inr (.inr ⟨by decide,by kernel_rfl⟩),.inr (.inl ⟨rfl,rfl⟩),.inr (.inr ⟨by decide,by kernel_rfl⟩),.inr (.inr ⟨by decide,by kernel_rfl⟩),.inl ⟨rfl,rfl⟩,trivial⟩))) (fun c=> ⟨by kernel_rfl,by kernel_rfl⟩) (fun c _=>k c)
theorem bGw (us: (List (Nat×Nat)))(ts: (List (Option XT)))(ix:Nat)(u: (Nat×Nat))(op m:Int)(ks:List XT)(ps:List Pat)(f sz:Int)(j: (List (Nat×Nat)))(c:Nat)(e:XT)(d: (List (Option XT)))(a: (List (Nat×Nat))){l:Res}{hf:Hp}(n: (d)[c]?=some none)(k:∀b,Ends PP 0 (aEy us ts ix u op m ks ps f sz j c e d a b).as l hf) :Ends PP 0 (aQy us ts ix u op m ks ps f sz j c e d a).as l hf:=
 mE (t:= (fun b=> (aEy us ts ix u op m ks ps f sz j c e d a b).as)) (ok:=fun _=>True) (aJu (h:= (aQy us ts ix u op m ks ps f sz j c e d a).as.h) (h':=fun b=> (aEy us ts ix u op m ks ps f sz j c e d a b).as.h) (k:=3) (g:=8) (gz:=5) (z:=4) (us:=a) (ts:=d) (i:=c) (t:=e) aC aC aC n (by decide) (fun _=>le_refl _) (fun b=> (bC ⟨.inr (.inr ⟨by decide,by kernel_rfl⟩),.inr (.inr ⟨by decide,by kernel_rfl⟩),.inr (.inr ⟨by decide,by kernel_rfl⟩),.inr (.inl ⟨rfl,rfl⟩),.inr (.inr ⟨by decide,by kernel_rfl⟩),.inr (.inr ⟨by decide,by kernel_rfl⟩),.inl ⟨rfl,rfl⟩,trivial⟩))) (fun b=> ⟨by kernel_rfl,by kernel_rfl⟩) (fun b _=>k b)
theorem bGx (us: (List (Nat×Nat)))(ts: (List (Option XT)))(ix:Nat)(u: (Nat×Nat))(op e:Int)(ks:List XT)(ps:List Pat)(f sz:Int)(c: (List (Nat×Nat)))(d: (List (Nat×Nat)))(a:List XT)(hl:c.length=length a) :LeadsM PP 0 (aQz us ts ix u op e ks ps f sz c d (a.map some)).as (aKj us ts ix u op e ks ps f sz c d (a.map some) a).as:=
 mF (aBS (h:= (aQz us ts ix u op e ks ps f sz c d (a.map some)).as.h) (h':= (aKj us ts ix u op e ks ps f sz c d (a.map some) a).as.h) (b:=1) (k:=3) (g:=6) (us:=d) (op:=op) (n:=e) (ts:=a) (ps:=ps) (len:=c.length) (ex:=false) (pv:=.ilst 4 (av ps) false) aC hl (fun _ _ h=>h) aC aC (le_refl _) (bC ⟨.inr (.inr ⟨by decide,by kernel_rfl⟩),.inr (.inl ⟨rfl,rfl⟩),.inr (.inr ⟨by decide,by kernel_rfl⟩),.inr (.inr ⟨by decide,by kernel_rfl⟩),.inr (.inr ⟨by decide,by kernel_rfl⟩),.inl ⟨rfl,rfl⟩,trivial⟩)) aC aC
theorem bCU (us: (List (Nat×Nat)))(ts: (List (Option XT)))(ix:Nat)(u: (Nat×Nat))(op e:Int)(ks:List XT)(ps:List Pat)(h sz:Int)(b: (List (Nat×Nat)))(f: (List (Option XT)))(a:Int)(c: (List (Nat×Nat)))(g: (Nat×Nat))(d:XT)(i: (Nat×Nat))(l:decide (a< ((b.length:Nat) :Int)) =true)(h1:0≤a)(h2:a< ((b.length:Nat) :Int))(j: ((b)[a.toNat]?) =some g)(m: (a != h) =true)(n:aXA g sz op e b ps c us ts ix ks f d)(k: ((c)[a.toNat]?) =some i) :
  LeadsM PP 0 (yA us ts ix u op e ks ps h sz b f a c).as (aQx us ts ix u op e ks ps h sz b a.toNat d f a c).as:=
 lC (n1:=10) (ks:=[0,1,2,3,8,9,4,6,7]) (W:=[some (.cells (putCells .leaf 0 [(nI op),(nI e),(rI b),(iP ps)]) 4 [] false),some (.cells (putCells .leaf 0 [(nI op),(nI e),(aB3 b),(iP ps)]) 4 [] false),some (.lst 1 (map aW b)),some (.lst 1 ((map aW c).set a.toNat (.ptr 8 0))),some gh,some (.zone true [8] (Z1 d)),some (.zone true [] (ZV us (set ts ix none))),some (.zone true [] (ZV c f)),some (.zone true [] (ZV b (map some ks)))]) (wc aC (wc aC (wc aC (wc (zD aC) (wc aC (wc aC (wc aC (wc aC (wc aC wn))))))))) (ps:=[decide (a< ((b.length:Nat) :Int)) =true,0≤a,a< ((b.length:Nat) :Int),(map aW b)[(0+a.toNat)]?=some (aW g),(a != h) =true,aXA g sz op e b ps c us ts ix ks f d,0≤a,a< ((b.length:Nat) :Int),(map aW c)[(0+a.toNat)]?=some (aW i),kQ (aW i) 0 [(.ptr 8 0)] =some (ptr 8 0),(AV.gl 3 1 0 b.length false) = (AV.gl 3 1 0 b.length false),(AV.gl 3 1 0 b.length false) = (AV.gl 3 1 0 b.length false),(map aW c).set (0+a.toNat) (.ptr 8 0) = ((map aW c).set a.toNat (.ptr 8 0))]) (is:=[.run 5,.b 25 true,.run 7,.ans (.ix),.ans (.idx (aW g)),.run 9,.b 31 true,.run 1,.reg [.d,.d,.d,.d,.d,.call (.ptr 8 0) (aA ([jM 0 op e b ps,sE 1 op e b ps,cS 2 b,cS 3 c]++aRZ us ts ix c f b ks d) 10),.ans (.ix),.st (aW i) (.ptr 8 0)],.lset 3 ((map aW c).set a.toNat (.ptr 8 0)),.run 1]) aC aC ⟨(aN _ (fun _=>rfl) _),trivial⟩ ⟨l,h1,h2,(cI j),m,n,h1,h2,(cI k),rfl,rfl,rfl,(aWd _ _ _)⟩
theorem bCV (us: (List (Nat×Nat)))(ts: (List (Option XT)))(ix:Nat)(u: (Nat×Nat))(op d:Int)(ks:List XT)(ps:List Pat)(b sz:Int)(a: (List (Nat×Nat)))(f: (List (Option XT)))(e:Int)(c: (List (Nat×Nat)))(g: (Nat×Nat))(i:decide (e< ((a.length:Nat) :Int)) =false)(h1:aXz sz op d a ps c us ts ix ks f)(h2:0≤b)(h:b< ((a.length:Nat) :Int))(j: ((c)[b.toNat]?) =some g) :
  LeadsM PP 0 (yA us ts ix u op d ks ps b sz a f e c).as (aQy us ts ix u op d ks ps b sz a b.toNat (XT.mk 4 sz [] []) f c).as:=
 lC (n1:=9) (ks:=[0,1,2,3,7,8,4,5,6]) (W:=[some (.cells (putCells .leaf 0 [(nI op),(nI d),(rI a),(iP ps)]) 4 [] false),some (.cells (putCells .leaf 0 [(nI op),(nI d),(aB3 a),(iP ps)]) 4 [] false),some (.lst 1 (map aW a)),some (.lst 1 ((map aW c).set b.toNat (.ptr 7 0))),some gh,some (.zone true [7] (Z1 (XT.mk 4 sz [] []))),some (.zone true [] (ZV us (set ts ix none))),some (.zone true [] (ZV a (map some ks))),some (.zone true [] (ZV c f))]) (wc aC (wc aC (wc aC (wc (zD aC) (wc aC (wc aC (wc aC (wc aC (wc aC wn))))))))) (ps:=[decide (e< ((a.length:Nat) :Int)) =false,aXz sz op d a ps c us ts ix ks f,0≤b,b< ((a.length:Nat) :Int),(map aW c)[(0+b.toNat)]?=some (aW g),kQ (aW g) 0 [(.ptr 7 0)] =some (ptr 7 0),(AV.gl 3 1 0 a.length false) = (AV.gl 3 1 0 a.length false),(AV.gl 3 1 0 a.length false) = (AV.gl 3 1 0 a.length false),(map aW c).set (0+b.toNat) (.ptr 7 0) = ((map aW c).set b.toNat (.ptr 7 0))]) (is:=[.run 5,.b 25 false,.run 3,.reg [.d,.d,.d,.d,.call (.ptr 7 0) (aA ([jM 0 op d a ps,sE 1 op d a ps,cS 2 a,cS 3 c]++rH us ts ix a ks++[(6,(.zone true [] (ZV c f)),false),(7,gh,false),(8,(.zone true [7] (Z1 (XT.mk 4 sz [] []))),false)]) 9),.ans (.ix),.st (aW g) (.ptr 7 0)],.lset 3 ((map aW c).set b.toNat (.ptr 7 0))]) aC aC ⟨(aN _ (fun _=>rfl) _),trivial⟩ ⟨i,h1,h2,h,(cI j),rfl,rfl,rfl,(aWd _ _ _)⟩
def bE0(a:List (Nat×Nat))(b:List (Option XT))(e:Nat)(c:Nat×Nat)(f g:Int)(i:List XT)(j:List Pat)(k l:Int)(m:List XT)(n:List Pat)(d:Int)(o p:List (Nat×Nat)):TS:=aX PP 247 [(.agg []),(aW c),(nI d)] [(0,(.zone true [] (ZV a b)),false)] 1
def aQA(a:List (Nat×Nat))(b:List (Option XT))(e:Nat)(c:Nat×Nat)(f g:Int)(i:List XT)(j:List Pat)(k l:Int)(m:List XT)(n:List Pat)(d:Int)(o p:List (Nat×Nat)):TS:=⟨(tf 247 36 [(1,(aW c)),(2,(nI d)),(6,.nilp)] [kc f247 6,kc f247 7]),[],[(0,(.zone true [] (ZV a b)),false)],1⟩
def aEz(c:List (Nat×Nat))(d:List (Option XT))(e:Nat)(k:Nat×Nat)(f g:Int)(a:List XT)(i:List Pat)(l m:Int)(n:List XT)(o:List Pat)(j:Int)(b p:List (Nat×Nat)):TS:=⟨(tf 247 36 [kp 1 1,(2,(nI j)),(6,.nilp)] [kc f247 6,kc f247 7]),[],[aQs 1 f g a i,cS 2 b,(5,(.zone true [] (ZV c (set d e none))),false),(6,(.zone true [] (ZV b (map some a))),false)],7⟩
def aQB(c:List (Nat×Nat))(d:List (Option XT))(e:Nat)(l:Nat×Nat)(f g:Int)(a:List XT)(i:List Pat)(m n:Int)(o:List XT)(p:List Pat)(j:Int)(b q:List (Nat×Nat))(k:Nat×Nat):TS:=⟨(tf 247 36 [kp 1 0,(2,(nI j)),(6,.nilp),(7,(aW k))] [kc f247 14,kc f247 15]),[],([aGj 0 f g a i]++aB2 b c d e++[(3,(.zone true [] (ZV b (map some a))),false)]),4⟩
def aEA(e:List (Nat×Nat))(f:List (Option XT))(g:Nat)(p:Nat×Nat)(i j:Int)(a:List XT)(k:List Pat)(l m:Int)(b:List XT)(n:List Pat)(o:Int)(c d:List (Nat×Nat))(q:Nat×Nat):TS:=⟨(tf 247 36 [kp 1 0,(2,(nI o)),(6,.nilp),kp 7 4] [kc f247 14,kc f247 15]),[],([aGj 0 i j a k]++aB2 c e f g++[aEv 4 l m b n,cS 5 d,(8,(.zone true [] (ZV c (set (map some a) 0 none))),false),(9,(.zone true [] (ZV d (map some b))),false)]),10⟩
def aB6(c:List (Nat×Nat))(d:List (Option XT))(a:Nat)(j:Nat×Nat)(e f:Int)(b:List XT)(g:List Pat)(k l:Int)(m:List XT)(n:List Pat)(i:Int)(o p:List (Nat×Nat)):TS:=⟨(tf 247 36 [kp 1 1,(2,(nI i)),(6,.nilp)] [kc f247 6,kc f247 7]),[],(aEu e f b g++[(4,(.zone true [1] (eN c (set d a none) a)),false)]),5⟩
theorem aXF (us: (List (Nat×Nat)))(ts: (List (Option XT)))(ix:Nat)(u: (Nat×Nat))(op a:Int)(ks:List XT)(ps:List Pat)(e n2:Int)(c:List XT)(d:List Pat)(sz:Int)(b: (List (Nat×Nat)))(f: (List (Nat×Nat)))(l:us[ix]?=some u)(k: (ts)[ix]?=some (some (.mk op a ks ps))) :LeadsM PP 0 (aQA us ts ix u op a ks ps e n2 c d sz b f).as (aB6 us ts ix u op a ks ps e n2 c d sz b f).as:=
 xZ (j:=1) (v:=aW u) (v':=.ptr 1 0) aC (fun hm=>sT (h:= (aQA us ts ix u op a ks ps e n2 c d sz b f).as.h) (h':= (aB6 us ts ix u op a ks ps e n2 c d sz b f).as.h) (g:=0) (us:=us) (ts:=ts) (i:=ix) (u:=u) (op:=op) (n:=a) (ks:=ks) (ps:=ps) aC l k rfl (bC ⟨.inl ⟨rfl,rfl⟩,.inr (.inl ⟨rfl,rfl⟩),.inr (.inr (.inl ⟨rfl,rfl⟩)),.inr (.inr (.inr (.inl ⟨rfl,rfl⟩))),trivial⟩) hm) aC aC
def aB7(b:List (Nat×Nat))(c:List (Option XT))(d:Nat)(j:Nat×Nat)(e f:Int)(a:List XT)(g:List Pat)(k l:Int)(m:List XT)(n:List Pat)(i:Int)(o p:List (Nat×Nat)):TS:=⟨(tf 247 36 [kp 1 1,(2,(nI i)),(6,.nilp)] [kc f247 6,kc f247 7]),[],(aEu e f a g++[(5,(.zone true [] (ZV b (set c d none))),false)]),6⟩
theorem aXG (us: (List (Nat×Nat)))(ts: (List (Option XT)))(ix:Nat)(u: (Nat×Nat))(op c:Int)(ks:List XT)(ps:List Pat)(e n2:Int)(b:List XT)(d:List Pat)(sz:Int)(a: (List (Nat×Nat)))(f: (List (Nat×Nat))) :LeadsM PP 0 (aB6 us ts ix u op c ks ps e n2 b d sz a f).as (aB7 us ts ix u op c ks ps e n2 b d sz a f).as:=
 mF (aCW (h:= (aB6 us ts ix u op c ks ps e n2 b d sz a f).as.h) (h':= (aB7 us ts ix u op c ks ps e n2 b d sz a f).as.h) (g:=4) (Z:= (eN us (set ts ix none) ix)) (Z':= (ZV us (set ts ix none))) (rs:=[1]) (rs':=[]) aC (.inl rfl) (fun _ _ _ _ h=>by rw [if_pos rfl];exact aJv h) (le_refl _) (bC ⟨.inr ⟨by decide,by kernel_rfl⟩,.inr ⟨by decide,by kernel_rfl⟩,.inr ⟨by decide,by kernel_rfl⟩,.inl ⟨rfl,rfl⟩,trivial⟩)) aC aC
theorem aXH (us: (List (Nat×Nat)))(ts: (List (Option XT)))(ix:Nat)(u: (Nat×Nat))(op i:Int)(ks:List XT)(ps:List Pat)(f n2:Int)(b:List XT)(j:List Pat)(sz:Int)(d: (List (Nat×Nat)))(c: (List (Nat×Nat))){e:Res}{hf:Hp}(l:ks≠ [])(k:∀a,a.length=ks.length→Ends PP 0 (aEz us ts ix u op i ks ps f n2 b j sz a c).as e hf) :Ends PP 0 (aB7 us ts ix u op i ks ps f n2 b j sz d c).as e hf:=
 mE (t:=fun a=> (aEz us ts ix u op i ks ps f n2 b j sz a c).as) (ok:=fun us=>us.length=ks.length) (xN (h:= (aB7 us ts ix u op i ks ps f n2 b j sz d c).as.h) (h':=fun a=> (aEz us ts ix u op i ks ps f n2 b j sz a c).as.h) (k:=2) (g:=3) (o:=gh) (ts:=ks) aC rfl aC l (fun _=>le_refl _) (fun a=> (bC ⟨.inr (.inr ⟨by decide,by kernel_rfl⟩),.inr (.inl ⟨rfl,rfl⟩),.inr (.inr ⟨by decide,by kernel_rfl⟩),.inl ⟨rfl,rfl⟩,trivial⟩))) (fun a=> ⟨by kernel_rfl,by kernel_rfl⟩) k
def aB8(d:List (Nat×Nat))(e:List (Option XT))(f:Nat)(o:Nat×Nat)(g i:Int)(a:List XT)(j:List Pat)(k l:Int)(b:List XT)(m:List Pat)(n:Int)(c p:List (Nat×Nat))(q:Nat×Nat):TS:=⟨(tf 247 36 [kp 1 0,(2,(nI n)),(6,.nilp),kp 7 4] [kc f247 14,kc f247 15]),[],([aGj 0 g i a j]++aB2 c d e f++[aEv 4 k l b m,(5,gh,false),(6,(.zone true [5] (cH b)),false),(7,(.zone true [4] (eN c (set (map some a) 0 none) 0)),false)]),8⟩
theorem aXI (us: (List (Nat×Nat)))(ts: (List (Option XT)))(ix:Nat)(u: (Nat×Nat))(op k:Int)(ks:List XT)(ps:List Pat)(c n2:Int)(b:List XT)(e:List Pat)(sz:Int)(d: (List (Nat×Nat)))(f: (List (Nat×Nat)))(a: (Nat×Nat))(m:d[0]?=some a)(l: ((map some ks))[0]?=some (some (.mk c n2 b e))) :LeadsM PP 0 (aQB us ts ix u op k ks ps c n2 b e sz d f a).as (aB8 us ts ix u op k ks ps c n2 b e sz d f a).as:=
 xZ (j:=7) (v:=aW a) (v':=.ptr 4 0) aC (fun hm=>sT (h:= (aQB us ts ix u op k ks ps c n2 b e sz d f a).as.h) (h':= (aB8 us ts ix u op k ks ps c n2 b e sz d f a).as.h) (g:=3) (us:=d) (ts:= (map some ks)) (i:=0) (u:=a) (op:=c) (n:=n2) (ks:=b) (ps:=e) aC m l rfl (bC ⟨.inr (.inr (.inr (.inr ⟨by decide,by kernel_rfl⟩))),.inr (.inr (.inr (.inr ⟨by decide,by kernel_rfl⟩))),.inr (.inr (.inr (.inr ⟨by decide,by kernel_rfl⟩))),.inl ⟨rfl,rfl⟩,.inr (.inl ⟨rfl,rfl⟩),.inr (.inr (.inl ⟨rfl,rfl⟩)),.inr (.inr (.inr (.inl ⟨rfl,rfl⟩))),trivial⟩) hm) aC aC
def aB9(d:List (Nat×Nat))(e:List (Option XT))(f:Nat)(o:Nat×Nat)(g i:Int)(a:List XT)(j:List Pat)(k l:Int)(b:List XT)(m:List Pat)(n:Int)(c p:List (Nat×Nat))(q:Nat×Nat):TS:=⟨(tf 247 36 [kp 1 0,(2,(nI n)),(6,.nilp),kp 7 4] [kc f247 14,kc f247 15]),[],([aGj 0 g i a j]++aB2 c d e f++[aEv 4 k l b m,(5,gh,false),(6,(.zone true [5] (cH b)),false),(8,(.zone true [] (ZV c (set (map some a) 0 none))),false)]),9⟩
def bCW (a:List (Nat×Nat))(b:List (Option XT))(c:Nat)(d:Nat×Nat)(e f:Int)(g:List XT)(i:List Pat)(j k:Int)(l:List (Nat×Nat)):=(tT 0 (bEZ a b c d e f g i j k l)<|.W 5 1 [0] (aQv a b c d e f g i j k l)) tv
def bCX (f:List (Nat×Nat))(g:List (Option XT))(i:Nat)(j:Nat×Nat)(b c:Int)(d:List XT)(e:List Pat)(k l:Int)(a:List (Nat×Nat)):=fun m n=>(tT 0 (aEw f g i j b c d e k l a)<|.i [rn 3,.cset 1 2 (rI a)] [.a (a.length=d.length) (p':=(AV.gl 2 1 0 d.length false) = (rI a)) (fun h=>(bK h.symm))]<|gk 10 (.enter 254 [(rI a)]) [jM 1 b c a e,cS 2 a,(5,(.zone true [] (ZV f (set g i none))),false),(6,(.zone true [] (ZV a (map some d))),false),jM 7 b c a e] 8 (.gl 8 1 0 a.length false) [jM 1 b c a e,cS 2 a,(5,(.zone true [] (ZV f (set g i none))),false),(6,(.zone true [] (ZV a (map some d))),false),jM 7 b c a e,cS 8 a] 9<|.W 5 9 [1,7,2,8,5,6] (aQw f g i j b c d e k l a)) m n ⟨kk,⟨kk,trivial⟩⟩
def bCY (b:List (Nat×Nat))(c:List (Option XT))(d:Nat)(e:Nat×Nat)(f g:Int)(i:List XT)(j:List Pat)(k l:Int)(a:List (Nat×Nat)):=(tT 0 (aKi b c d e f g i j k l a)<|.W 10 7 [0,1,2,3,4,5,6] (yA b c d e f g i j k l a (map (fun _=>none) a) 0 a)) ⟨kk,⟨kk,trivial⟩⟩
def bCZ (e:List (Nat×Nat))(f:List (Option XT))(g:Nat)(i:Nat×Nat)(j k:Int)(l:List XT)(m:List Pat)(c n:Int)(b:List (Nat×Nat))(o:List (Option XT))(a:Int)(p:List (Nat×Nat)):=fun d q r s t u v=>(tT 0 (yA e f g i j k l m c n b o a p)<|gd 5 25 (a< (b.length:Int)) (.i [rn 7,.ans (.ix)] [hA (0≤a),hA (a< (b.length:Int))]<|.y fun d:Nat×Nat=>gj aW 0 b a.toNat d<|.b 9 31 (a != c) .x<|gw 5 39 (a+1)<|.W 3 7 [0,1,2,3,4,5,6] (yA e f g i j k l m c n b o (a+1) p)) .x)|>.t q r s d t|>.f u v ⟨kk,⟨kk,trivial⟩⟩
def bC0 (c:List (Nat×Nat))(d:List (Option XT))(e:Nat)(f:Nat×Nat)(g i:Int)(j:List XT)(k:List Pat)(l m:Int)(n:List (Nat×Nat))(a:Nat)(o:XT)(p:List (Option XT))(b:Int)(q:List (Nat×Nat))(r:Nat×Nat):=fun s=>(tT 0 (aEx c d e f g i j k l m n a o p b q r)<|gw 2 39 (b+1)<|.W 3 10 [0,1,2,3,6,8,9] (yA c d e f g i j k l m n (set p a (some o)) (b+1) (set q a r))) s ⟨kk,⟨kk,trivial⟩⟩
def bC1 (b:List (Nat×Nat))(c:List (Option XT))(d:Nat)(e:Nat×Nat)(f g:Int)(i:List XT)(j:List Pat)(k l:Int)(m:List (Nat×Nat))(a:Nat)(n:XT)(o:List (Option XT))(p:List (Nat×Nat))(q:Nat×Nat):=(tT 0 (aEy b c d e f g i j k l m a n o p q)<|.W 1 10 [0,1,2,3,6,7,9] (aQz b c d e f g i j k l m (set p a q) (set o a (some n)))) ⟨kk,⟨kk,trivial⟩⟩
def bC2 (c:List (Nat×Nat))(d:List (Option XT))(e:Nat)(n:Nat×Nat)(f g:Int)(i:List XT)(j:List Pat)(b o:Int)(a p:List (Nat×Nat))(q:List (Option XT))(m:List XT):=fun k l r s t u=>(tT 0 (aKj c d e n f g i j b o a p q m)<|.i [rn 6,.ans (.ix)] [hA (0≤b),hA (b< (a.length:Int))]<|.y fun k:Nat×Nat=>gj aW 0 a b.toNat k<|.y fun l:XT=>gk 0 (.enter 248 [(aW k),(.ptr 1 0)]) [jM 0 f g a j,(1,gh,false),cS 2 a,(4,(.zone true [] (ZV c (set d e none))),false),(5,(.zone true [] (ZV a (map some i))),false),(7,(.zone true [1] (Z1 (XT.mk f g m j))),false)] 8 (.ptr 9 0) [jM 0 f g a j,cS 2 a,(4,(.zone true [] (ZV c (set d e none))),false),(8,(.zone true [] (ZV a (set (map some i) (Int.toNat b) none))),false),(9,gh,false),(10,(.zone true [9] (Z1 l)),false)] 11<|.E 3 11 [9,4,8,10] (.ptr 0 0) [(0,gh,false),(1,(.zone true [] (ZV c (set d e none))),false),(2,(.zone true [] (ZV a (set (map some i) (Int.toNat b) none))),false),(3,(.zone true [0] (Z1 l)),false)] 4) r s k t l u tv
def bC3 (a:List (Nat×Nat))(b:List (Option XT))(c:Nat)(d:Nat×Nat)(e f:Int)(g:List XT)(i:List Pat)(j k:Int)(l:List XT)(m:List Pat)(n:Int)(o p:List (Nat×Nat)):=(tT 0 (bE0 a b c d e f g i j k l m n o p)<|.W 6 2 [0] (aQA a b c d e f g i j k l m n o p)) tv
def bC4 (d:List (Nat×Nat))(e:List (Option XT))(f:Nat)(g:Nat×Nat)(i j:Int)(b:List XT)(k:List Pat)(l m:Int)(n:List XT)(o:List Pat)(p:Int)(c q:List (Nat×Nat)):=fun a r s t=>(tT 0 (aEz d e f g i j b k l m n o p c q)<|.i [rn 5,.ans (.ix)] [hA (0≤ (0:Int)),hA ((0:Int) < ((b.length:Nat) :Int))]<|.y fun a:Nat×Nat=>gj aW 0 c ((0:Int).toNat) a<|.W 3 7 [1,2,5,6] (aQB d e f g i j b k l m n o p c q a)) r s a t ⟨kk,trivial⟩
def bC5 (f:List (Nat×Nat))(g:List (Option XT))(i:Nat)(y:Nat×Nat)(j k:Int)(c:List XT)(l:List Pat)(m n:Int)(a:List XT)(o:List Pat)(w:Int)(d b:List (Nat×Nat))(z:Nat×Nat):=fun e p q r s t A B u x C v D F G H I=>(tT 0 (aEA f g i y j k c l m n a o w d b z)<|.y fun e:Nat×Nat=>.y fun p:Nat×Nat=>.y fun q:Nat×Nat=>.y fun r:XT=>.y fun s:XT=>.y fun t:XT=>.i [.regA (rd 4 (.ans (.ix)::.ans (.idx (aW e))::rd 4 (.ans (.ix)::.ans (.idx (aW p))::rd 4 [.ans (.ix),.ans (.idx (aW q)),.d,.call (.ptr 11 0) (aQu j k c l d f g i m n a o b r),.call (.ptr 14 0) (aQt j k c l d f g i m n a o b s),.call (.ptr 17 0) (aXB j k c l d f g i m n a o b t),.d]))) [(some (.idx (aW p))),none,(some (.idx (aW e))),none]] [hA (0≤ (0:Int)),hA ((0:Int) < ((a.length:Nat) :Int)),.a (((b)[(0:Int).toNat]?) =some e) (cI (f:=aW)),hA (0≤ (1:Int)),hA ((1:Int) < ((a.length:Nat) :Int)),.a (((b)[(1:Int).toNat]?) =some p) (cI (f:=aW)),hA (0≤ (1:Int)),hA ((1:Int) < ((c.length:Nat) :Int)),.a (((d)[(1:Int).toNat]?) =some q) (cI (f:=aW)),hA (Spec PP (.enter 249 [(aW q),(nI w),(nI 1)]) (aA ([aGj 0 j k c l]++aB2 d f g i++[aEv 4 m n a o,cS 5 b,(8,(.zone true [] (ZV d (set (map some c) 0 none))),false),(9,(.zone true [] (ZV b (map some a))),false)]) 10) (.ret (.ptr 11 0)) (aQu j k c l d f g i m n a o b r)),hA (Spec PP (.enter 248 [(aW p),(.ptr 11 0)]) (aQu j k c l d f g i m n a o b r) (.ret (.ptr 14 0)) (aQt j k c l d f g i m n a o b s)),hA (Spec PP (.enter 248 [(aW e),(.ptr 14 0)]) (aQt j k c l d f g i m n a o b s) (.ret (.ptr 17 0)) (aXB j k c l d f g i m n a o b t)),hr (aW p),.a (((b)[(1:Int).toNat]?) =some p) (cI (f:=aW)),hr (aW p),.a (((b)[(1:Int).toNat]?) =some p) (cI (f:=aW)),hr (AV.gl 5 1 0 a.length false),hr (AV.gl 5 1 0 a.length false),hr (aW e),.a (((b)[(0:Int).toNat]?) =some e) (cI (f:=aW)),hr (aW e),.a (((b)[(0:Int).toNat]?) =some e) (cI (f:=aW)),hr (aW e),.a (((b)[(0:Int).toNat]?) =some e) (cI (f:=aW)),hr (AV.gl 5 1 0 a.length false),hr (AV.gl 5 1 0 a.length false),hr (AV.gl 5 1 0 a.length false)]<|.E 1 19 [17,2,10,16,18] (.ptr 0 0) [(0,gh,false),(1,(.zone true [] (ZV f (set g i none))),false),(2,(.zone true [] (ZV d (set (map some c) 0 none))),false),(3,(.zone true [] (ZV b (set (set (map some a) 1 none) 0 none))),false),(4,(.zone true [0] (Z1 t)),false)] 5) e p q r s t A B u x C v x D F G H I v v u u u tv
theorem aXJ (us: (List (Nat×Nat)))(ts: (List (Option XT)))(ix:Nat)(u: (Nat×Nat))(op c:Int)(ks:List XT)(ps:List Pat)(e n2:Int)(b:List XT)(d:List Pat)(sz:Int)(a: (List (Nat×Nat)))(f: (List (Nat×Nat)))(i: (Nat×Nat)) :LeadsM PP 0 (aB8 us ts ix u op c ks ps e n2 b d sz a f i).as (aB9 us ts ix u op c ks ps e n2 b d sz a f i).as:=
 mF (aCW (h:= (aB8 us ts ix u op c ks ps e n2 b d sz a f i).as.h) (h':= (aB9 us ts ix u op c ks ps e n2 b d sz a f i).as.h) (g:=7) (Z:= (eN a (set (map some ks) 0 none) 0)) (Z':= (ZV a (set (map some ks) 0 none))) (rs:=[4]) (rs':=[]) aC (.inl rfl) (fun _ _ _ _ h=>by rw [if_pos rfl];exact aJv h) (le_refl _) (bC ⟨.inr ⟨by decide,by kernel_rfl⟩,.inr ⟨by decide,by kernel_rfl⟩,.inr ⟨by decide,by kernel_rfl⟩,.inr ⟨by decide,by kernel_rfl⟩,.inr ⟨by decide,by kernel_rfl⟩,.inr ⟨by decide,by kernel_rfl⟩,.inl ⟨rfl,rfl⟩,trivial⟩)) aC aC
theorem aXK (us: (List (Nat×Nat)))(ts: (List (Option XT)))(ix:Nat)(u: (Nat×Nat))(op j:Int)(ks:List XT)(ps:List Pat)(f n2:Int)(a:List XT)(l:List Pat)(sz:Int)(c: (List (Nat×Nat)))(e: (List (Nat×Nat)))(i: (Nat×Nat)){d:Res}{hf:Hp}(m:a≠ [])(k:∀b,b.length=a.length→Ends PP 0 (aEA us ts ix u op j ks ps f n2 a l sz c b i).as d hf) :Ends PP 0 (aB9 us ts ix u op j ks ps f n2 a l sz c e i).as d hf:=
 mE (t:=fun b=> (aEA us ts ix u op j ks ps f n2 a l sz c b i).as) (ok:=fun us=>us.length=a.length) (xN (h:= (aB9 us ts ix u op j ks ps f n2 a l sz c e i).as.h) (h':=fun b=> (aEA us ts ix u op j ks ps f n2 a l sz c b i).as.h) (k:=5) (g:=6) (o:=gh) (ts:=a) aC rfl aC m (fun _=>le_refl _) (fun b=> (bC ⟨.inr (.inr ⟨by decide,by kernel_rfl⟩),.inr (.inr ⟨by decide,by kernel_rfl⟩),.inr (.inr ⟨by decide,by kernel_rfl⟩),.inr (.inr ⟨by decide,by kernel_rfl⟩),.inr (.inl ⟨rfl,rfl⟩),.inr (.inr ⟨by decide,by kernel_rfl⟩),.inl ⟨rfl,rfl⟩,trivial⟩))) (fun b=> ⟨by kernel_rfl,by kernel_rfl⟩) k
def dnT (sz:Int)(k:Nat)(o n:Int)(ks:List XT)(ps:List Pat)(x:XT) :XT:=.mk 7 0 [x,.mk o n ((ks.map (mG sz 1)).set k (.mk 4 sz [] [])) ps] []
abbrev DNr (us:List (Nat×Nat))(ts:List (Option XT))(ix:Nat)(t:XT) :HL:=[(0,(.zone true [] (ZV us (ts.set ix none))),false),(1,gh,false),(2,.zone true [1] (Z1 t),false)]
section
variable (us :List (Nat×Nat)) (ts:List (Option XT)) (ix:Nat) (u:Nat×Nat) (op nn:Int) (ks:List XT) (ps:List Pat) (k:Nat) (sz:Int)
theorem bGy (x:XT)(f:ks[k]?=some x)(a:List (Nat×Nat))(b:a.length=ks.length)(hl:ks.length<1000000)(w:List (Nat×Nat))(rs:List (Option XT))(q:w.length=ks.length)(hr:rs.length=ks.length)
  (n:∀j t,ks[j]?=some t→rs[j]?=some (if j≠k then some (mG sz 1 t)else none)) :
  Ends PP 0 (yA us ts ix u op nn ks ps (k:Int) sz a rs ((ks.length:Nat) :Int) w).as (.ret (.ptr 1 0)) (aA (DNr us ts ix (dnT sz k op nn ks ps x)) 3) :=by
 have hk:k<ks.length:= (zq0.1 f).1;obtain⟨r,p⟩ :=eC q hk;obtain⟨g,c⟩ :=eC b hk;have i: ((k:Nat) :Int).toNat=k:=tI k;refine(bCV us ts ix u op nn ks ps (k:Int) sz a rs _ w r sd (qO (m:=0) (ks:=[]) (bCS 4 sz) aC aC trivial trivial) sd sd sd).ends ?_;refine bGw us ts ix u op nn ks ps (k:Int) sz a _ _ rs w (by rw [i,n k x f];simp) fun l=>?_;refine(bC1 us ts ix u op nn ks ps (k:Int) sz a _ _ rs w l).ends ?_;rw [i];have d:rs.set k (some (.mk 4 sz [] [])) =map some ((ks.map (mG sz 1)).set k (.mk 4 sz [] [])) :=by
  apply List.ext_getElem?;intro j;rw [tJ,getElem?_set,getElem?_set,mR];by_cases h:k=j
  ·subst h;simp [hk,hr]
  · rw [if_neg h,if_neg h,tJ];cases o:ks[j]? with
    |none=>rw [aIy (by rw [List.getElem?_eq_none_iff]at o;omega)];rfl
    |some t=>rw [n j t o,if_pos (fun e=>h e.symm)];rfl
 rw [d];refine(bGx us ts ix u op nn ks ps (k:Int) sz a _ _ (by simp [b])).ends ?_
 have:=bC2 us ts ix u op nn ks ps (k:Int) sz a (w.set k l) (((ks.map (mG sz 1)).set k (.mk 4 sz [] [])).map some) ((ks.map (mG sz 1)).set k (.mk 4 sz [] [])) g (dnT sz k op nn ks ps x) sd sd sd
  (qO (m:=0) (ks:=[5,1,7]) (aKf a (ks.map some) k g x (.mk op nn ((ks.map (mG sz 1)).set k (.mk 4 sz [] [])) ps) c (by rw [tJ,f];rfl)) aC aC trivial trivial)
 exact dW (ks:=[1,0,3]) this aC aC aC trivial
theorem aKk (x:XT)(s:ks[k]?=some x)(b:List (Nat×Nat))(c:b.length=ks.length)(hl:ks.length<1000000)(f:aD4 ks) :∀ (n:List XT) (i:Nat) (w:List (Nat×Nat)) (a:List (Option XT)),ks.drop i=n→i≤ks.length→w.length=ks.length→a.length=ks.length →
  (∀j t,ks[j]?=some t→a[j]?=some (if j<i∧j≠k then some (mG sz 1 t)else none)) →
  Ends PP 0 (yA us ts ix u op nn ks ps (k:Int) sz b a (i:Int) w).as (.ret (.ptr 1 0)) (aA (DNr us ts ix (dnT sz k op nn ks ps x)) 3)
 | [],i,w,a,h,D,l,hr,g=>by
  have:=bH h;have e:i=ks.length:=by omega
  subst e;exact bGy us ts ix u op nn ks ps k sz x s b c hl w a l hr (fun j t d=>by rw [g j t d];have:= (zq0.1 d).1;simp [this])
 | t ::n,i,w,a,h,D,l,hr,g=>by
  obtain⟨o,v,A⟩ :=bE h;obtain⟨q,p⟩ :=eC c A;obtain⟨B,C⟩ :=eC l A;by_cases hk:i=k
  · refine(bCZ us ts ix u op nn ks ps (k:Int) sz b a (i:Int) w q sd sd sd sd (by simp [hk]) sd).ends ?_;refine aKk x s b c hl f n (i+1) w a v (by omega) l hr (fun j r d=>?_);rw [g j r d];have: (j<i∧j≠k) ↔ (j<i+1∧j≠k) :=by omega
    simp only [this]
  · have hm:OkT t:=okTs_iff.1 f t (jQ o)
    refine(bCU us ts ix u op nn ks ps (k:Int) sz b a (i:Int) w q (mG sz 1 t) B sd sd sd sd (by simp;omega)
     (qO (m:=0) (ks:=[5]) (aRY sz t hm b (ks.map some) i q p (by rw [tJ,o];rfl)) aC aC trivial trivial) sd).ends ?_
    have z: ((i:Nat) :Int).toNat=i:=tI i;refine bGv us ts ix u op nn ks ps (k:Int) sz b _ _ a (i:Int) w (by rw [z,g i t o];simp) fun y=>?_;refine(bC0 us ts ix u op nn ks ps (k:Int) sz b _ _ a (i:Int) w y sd).ends ?_;rw [z];refine aKk x s b c hl f n (i+1) (w.set i y) (a.set i (some (mG sz 1 t))) v (by omega) (by simp [l]) (by simp [hr]) (fun j r d=>?_);rw [getElem?_set];by_cases e:i=j
    · subst e;rw [o]at d;cases d;rw [if_pos rfl,if_pos (by omega),if_pos ⟨by omega,hk⟩]
    · rw [if_neg e,g j r d];have: (j<i∧j≠k) ↔ (j<i+1∧j≠k) :=by omega
      simp only [this]
theorem bC6 (x:XT)(g:ks[k]?=some x)(i:us[ix]?=some u)(h:ts[ix]?=some (some (.mk op nn ks ps)))(d:OkT (.mk op nn ks ps)) :
  eS PP 0 (.enter 253 [.int .i64 (k:Int),aW u,.int .i64 sz]) (aA [(0,(.zone true [] (ZV us ts)),false)] 1) (.ret (.ptr 1 0)) (aA (DNr us ts ix (dnT sz k op nn ks ps x)) 3) :=by
 simp only [OkT]at d;obtain⟨_,hl,c⟩ :=d;have hk:k<ks.length:= (zq0.1 g).1;have f:ks≠ [] :=fun e=>by subst e;simp at hk
 refine⟨(bEZ us ts ix u op nn ks ps (k:Int) sz []).as.fr,by kernel_rfl,?_⟩;refine((bCW us ts ix u op nn ks ps (k:Int) sz []).trans ((aXC us ts ix u op nn ks ps (k:Int) sz [] i h).trans (aXD us ts ix u op nn ks ps (k:Int) sz []))).ends (aXE us ts ix u op nn ks ps (k:Int) sz [] f fun b a=>?_);refine((bCX us ts ix u op nn ks ps (k:Int) sz b a (qO (m:=1) (ks:=[2]) (bCT b (fun e=>by subst e;simp at a;omega) (by omega)) aC aC ⟨aKg _,trivial⟩ ⟨aKg _,aKg _,trivial⟩)).trans ((bGu us ts ix u op nn ks ps (k:Int) sz b).trans (bCY us ts ix u op nn ks ps (k:Int) sz b))).ends ?_;refine aKk us ts ix u op nn ks ps k sz x g b a hl c ks 0 b _ rfl (zero_le _) a (by simp [a]) (fun j t l=>?_);obtain⟨y,n⟩ :=eC a (zq0.1 l).1;rw [tJ,n];simp
end
def neT (sz:Int)(a b c:XT) :XT:=.mk 7 0 [a,.mk 7 0 [b,mG sz 1 c] []] []
theorem bC7 (us:List (Nat×Nat))(ts:List (Option XT))(ix:Nat)(u:Nat×Nat)(op g:Int)(ks:List XT)(ps:List Pat)(f n2:Int)(d:List XT)(h:List Pat)(sz:Int)(a b c:XT)(H:ks[0]?=some (.mk f n2 d h))(hc:ks[1]?=some c)(F:d[0]?=some a)(hb:d[1]?=some b)(hm:OkT c)(G:us[ix]?=some u)(D:ts[ix]?=some (some (.mk op g ks ps))) :
  eS PP 0 (.enter 247 [.agg [],aW u,.int .i64 sz]) (aA [(0,(.zone true [] (ZV us ts)),false)] 1) (.ret (.ptr 1 0)) (aA (DNr us ts ix (neT sz a b c)) 3) :=by
 have o:1<ks.length:= (zq0.1 hc).1;have q:1<d.length:= (zq0.1 hb).1;have z:ks≠ [] :=fun e=>by subst e;simp at o
 have p:d≠ [] :=fun e=>by subst e;simp at q
 refine⟨(bE0 us ts ix u op g ks ps f n2 d h sz [] []).as.fr,by kernel_rfl,?_⟩;refine((bC3 us ts ix u op g ks ps f n2 d h sz [] []).trans ((aXF us ts ix u op g ks ps f n2 d h sz [] [] G D).trans (aXG us ts ix u op g ks ps f n2 d h sz [] []))).ends (aXH us ts ix u op g ks ps f n2 d h sz [] [] z fun i t=>?_);obtain⟨n,j⟩ :=eC t (show 0<ks.length by omega);obtain⟨A,l⟩ :=eC t o;refine((bC4 us ts ix u op g ks ps f n2 d h sz i [] n (by omega) (by omega) j).trans ((aXI us ts ix u op g ks ps f n2 d h sz i [] n j (by rw [tJ,H];rfl)).trans (aXJ us ts ix u op g ks ps f n2 d h sz i [] n))).ends (aXK us ts ix u op g ks ps f n2 d h sz i [] n p fun v s=>?_);obtain⟨C,k⟩ :=eC s (show 0<d.length by omega);obtain⟨B,r⟩ :=eC s q;have x: ((ks.map some).set 0 none)[1]?=some (some c) :=by rw [getElem?_set,if_neg (by omega),tJ,hc];rfl
 have y: (d.map some)[1]?=some (some b) :=by rw [tJ,hb];rfl
 have w: ((d.map some).set 1 none)[0]?=some (some a) :=by rw [getElem?_set,if_neg (by omega),tJ,F];rfl
 have:=bC5 us ts ix u op g ks ps f n2 d h sz i v n C B A (mG sz 1 c) (.mk 7 0 [b,mG sz 1 c] []) (neT sz a b c) (by omega) (by omega) k (by omega) (by omega) r (by omega) l
  (qO (m:=0) (ks:=[8]) (aRY sz c hm i ((ks.map some).set 0 none) 1 A l x) aC aC trivial trivial)
  (qO (m:=0) (ks:=[9,11,12]) (aKf v (d.map some) 1 B b (mG sz 1 c) r y) aC aC trivial trivial)
  (qO (m:=0) (ks:=[13,14,15]) (aKf v ((d.map some).set 1 none) 0 C a (.mk 7 0 [b,mG sz 1 c] []) k w) aC aC trivial trivial)
 exact dW (ks:=[1,0,4]) this aC aC aC trivial
end
end Go.Hb
