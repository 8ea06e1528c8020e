/- A machine on abstract values, its soundness, ways, plain laws. -/
import Derived.Test.YtnljmgihoioocaaGreatHF
import Derived.Test.YtnljmgihoioocaaGreatHG
import Derived.Test.YtnljmgihoioocaaGreatHH
set_option linter.defProp false
set_option linter.unusedVariables false
set_option linter.unusedSimpArgs false
set_option linter.unusedSectionVars false
set_option maxRecDepth 100000
namespace Go.Hb
open AV (ptr ren renL)
open List (drop getElem?_set length map nodup_nil set take)
open Nat (ble le_refl zero_le)
open Pats (av)
open Go.Proofs Tryz
noncomputable section
abbrev nV (a:Nat)(b:List (Nat×Nat)):=oL a 1 (map aV b)
abbrev aPS (a:Nat)(b c:Int)(d:List XT)(e:List Pat):=oC a [(nI b),(nI c),(.gl 3 1 0 d.length false),(iP e)]
abbrev zH (a b:List (Nat×Nat))(c:List (Option XT))(d:Nat)(e f:Int)(g:List XT)(h:List Pat):=[nV 4 a,(5,(.zone true [6] (eV b (set c d none) d)),false),aPS 6 e f g h]
abbrev aRp (a b c d:Int)(e:List (Nat×Nat))(f:List Pat)(g h:List (Nat×Nat))(i:List (Option XT))(j:Nat)(k:Int)(l:List XT)(m:List (Option XT)):=[oC 0 [(nI a)],oC 1 [(nI b)],oC 2 [(nI c),(nI d),(.gl 4 1 0 e.length false),(iP f)],oL 3 1 (map aV g),oL 4 1 (map aV e),(5,(.zone true [6] (eV h (set i j none) j)),false),oC 6 [(nI c),(nI k),(.gl 3 1 0 l.length false),(iP f)],(8,(.zone true [] (ZV e m)),false)]
abbrev bE2:AV:=.gl 5 1 0 ([] :List (Nat×Nat)).length false
abbrev aPT (a:Nat):=oL a 1 (map aV ([] :List (Nat×Nat)))
abbrev aRq (a b c d:Int)(e:List XT)(f:List Pat)(g:Int)(h:List (Nat×Nat))(i:List (Option XT))(j:Nat):=[oC 0 [(nI a)],oC 1 [(nI b)],oC 2 [(nI c),(nI d),(.gl 4 1 0 e.length false),(iP f)],oC 3 [(nI c),(nI g),bE2,(iP f)],(4,gh,false),aPT 5,(6,(.zone true [2] (eV h (set i j none) j)),false),(7,(.zone true [4] (cJ e)),false)]
abbrev aEl (a:Nat)(b c:Int)(d:List (Nat×Nat))(e:List Pat):=oC a [(nI b),(nI c),(.gl 2 1 0 d.length false),(iP e)]
abbrev aW2 (a:Nat×Nat)(b c d e:Int)(f:List (Nat×Nat))(g:List Pat)(h i:List (Nat×Nat))(j:List (Option XT))(k:Nat)(l:Int)(m:List XT)(n:List (Option XT))(o:XT):=Spec PP (.enter 251 [(aV a),(.func 252 [] [(.ptr 0 0),(.ptr 1 0)])]) (aA (aRp b c d e f g h i j k l m n++[(9,(.zone true [] (ZV h (map some m))),false)]) 11) (.ret (.ptr 12 0)) (aA (aRp b c d e f g h i j k l m n++[(11,(.zone true [] (ZV h (map some m))),false),(12,gh,false),(13,(.zone true [12] (Z1 o)),false)]) 14)
abbrev aW3 (a:Prog)(b c d:Int)(e:List (Nat×Nat))(f:List Pat)(g:List (Option XT))(h:XT):=Spec PP (.enter 91 [(Prog.av a),(nI b)]) (aA [oC 0 [(iN a.nodes),(iI a.funs),(nI a.main),(iC a.cons)],aEl 1 c d e f,oL 2 1 (map aV e),(3,(.zone true [] (ZV e g)),false)] 5) (.ret (.ptr 5 0)) (aA [oC 0 [(iN a.nodes),(iI a.funs),(nI a.main),(iC a.cons)],aEl 1 c d e f,oL 2 1 (map aV e),(3,(.zone true [] (ZV e g)),false),(5,gh,false),(6,(.zone true [5] (Z1 h)),false)] 7)
abbrev aCX (a:Nat)(b:Prog):=oC a [(iN b.nodes),(iI b.funs),(nI b.main),(iC b.cons)]
abbrev aCY (a:Nat)(b c:Int)(d:List (Nat×Nat))(e:List Pat):=oC a [(nI b),(nI c),(.gl 4 1 0 d.length false),(iP e)]
abbrev aPU:AV:=.gl 3 1 0 ([] :List (Nat×Nat)).length false
abbrev aJ9:AV:=.gl 8 1 0 ([] :List (Nat×Nat)).length false
abbrev rC (a:List XT):AV:=.gl 3 1 0 a.length false
def bDE(a:Prog)(b:Int):TS:=cA PP 91 [(Prog.av a),(nI b)] [] 0
def aPV(a:Prog)(j b c:Int)(d:List Int)(e:List Pat)(f g:Int)(i:List Pat):TS:=⟨(tf 91 44 [kp 2 0,(4,.nilp),kp 5 1,kp 6 2] [kc f91 60,kc f91 61,kc f91 31]),[],[aCX 0 a,oC 1 [(nI b),(nI c),(iI d),(iP e)],oC 2 [(nI f),(nI g),aPU,(iP i)],aPT 3],4⟩
def aKa(a:Prog)(j b c:Int)(d:List Int)(e:List Pat)(f g:Int)(i:List Pat):TS:=⟨(tf 91 44 [kp 2 0,(4,.nilp),kp 5 1,kp 6 2] [kc f91 60,kc f91 61,kc f91 31]),[],[aCX 0 a,oC 1 [(nI b),(nI c),(iI d),(iP e)],oC 2 [(nI f),(nI g),aPU,(iP i)],aPT 3,(4,(.zone true [] (ZV ([] :List (Nat×Nat)) ([] :List (Option XT)))),false)],5⟩
def aGe(a:Prog)(k:Int)(c:List Int)(d e f:Int)(g:List Pat)(i:Int)(b:List (Nat×Nat))(j:List (Option XT)):TS:=⟨(tf 91 44 [kp 2 0,(4,.nilp),kp 6 1,(24,(iI c)),(25,(nI d)),(26,(nI i))] [kc f91 244,kl f91 244,.inBlock 0,kc f91 31]),[],[aCX 0 a,aEl 1 e f b g,nV 2 b,(3,(.zone true [] (ZV b j)),false)],4⟩
def aPW(a:Prog)(l:Int)(c:List Int)(d e f:Int)(g:List Pat)(i:XT)(j:Int)(b:List (Nat×Nat))(k:List (Option XT)):TS:=⟨(tf 91 44 [kp 2 0,(4,.nilp),kp 6 1,(24,(iI c)),(25,(nI d)),(26,(nI j))] [kc f91 1959,kl f91 244,.inBlock 0,kc f91 31]),[],[aCX 0 a,oC 1 [(nI e),(nI f),(.gl 2 1 0 (b.length+1) false),(iP g)],(2,(.lst 1 (map aV b++ [.ptr 3 0])),false),(3,gh,false),(4,(.zone true [3] (Z1 i)),false),(5,(.zone true [] (ZV b k)),false)],6⟩
def aEm(a:Prog)(m:Int)(d:List Int)(e f g:Int)(i:List Pat)(j:XT)(k:Int)(b:List (Nat×Nat))(l:List (Option XT))(c:Nat×Nat):TS:=⟨(tf 91 44 [kp 2 0,(4,.nilp),kp 6 1,(24,(iI d)),(25,(nI e)),(26,(nI k))] [kc f91 1959,kl f91 244,.inBlock 0,kc f91 31]),[],[aCX 0 a,oC 1 [(nI f),(nI g),(.gl 2 1 0 (b++ [c]).length false),(iP i)],oL 2 1 (map aV (b++ [c])),(6,(.zone true [] (ZV (b++ [c]) (l++ [some j]))),false)],7⟩
theorem bA1 (p:Prog)(k:Int)(e:List Int)(h c b:Int)(f:List Pat)(d:Int)(a: (List (Nat×Nat)))(i: (List (Option XT)))(j:Int)(g:XT)(m:decide (d<h) =true)(h1:0≤d)(h2: ((e)[d.toNat]?) =some j)(n:aW3 p j c b a f i g)(l:a.length+1≤1000000) :
  LeadsM PP 0 (aGe p k e h c b f d a i).as (aPW p k e h c b f g d a i).as:=
 lG (n1:=8) (ks:=[0,1,7,5,6,3]) (W:=[some (.cells (putCells .leaf 0 [(iN p.nodes),(iI p.funs),(nI p.main),(iC p.cons)]) 4 [] false),some (.cells (putCells .leaf 0 [(nI c),(nI b),(.gl 7 1 0 (a.length+1) false),(iP f)]) 4 [] false),some (.lst 1 (map aV a++ [.ptr 5 0])),some gh,some (.zone true [5] (Z1 g)),some (.zone true [] (ZV a i))]) (wc aC (wc aC (wc (aBQ aC) (wc aC (wc aC (wc aC wn)))))) (ps:=[decide (d<h) =true,0≤d,(jI e)[d.toNat]?=some (cC j),aW3 p j c b a f i g,0+a.length≤length (map aV a),a.length+1≤1000000,take a.length (drop 0 (map aV a)) ++ [ptr 5 0] = (map aV a++ [.ptr 5 0]),a.length+length [ptr 5 0] =a.length+1,(AV.gl 2 1 0 a.length false) = (AV.gl 2 1 0 a.length false),(AV.gl 2 1 0 a.length false) = (AV.gl 2 1 0 a.length false)]) (is:=[.run 5,.b 27 true,.run 6,.ans (.idx (cC j)),.run 3,.reg [.d,.d,.d,.d,.d,.d,.d,.call (.ptr 5 0) (aA [aCX 0 p,aEl 1 c b a f,nV 2 a,(3,(.zone true [] (ZV a i)),false),(5,gh,false),(6,(.zone true [5] (Z1 g)),false)] 7),.d,.app (map aV a++ [.ptr 5 0]) (a.length+1),.d,.d,.d],.run 1]) aC aC trivial ⟨m,h1,(bC h2),n,aFS,l,aOI,aOJ,rfl,rfl⟩
def bDF(a b:Int)(c:List (Nat×Nat))(d:List (Option XT))(f:Nat)(e:Nat×Nat)(g i:Int)(j:List XT)(k:List Pat):TS:=cA PP 251 [(aV e),(.func 252 [] [(.ptr 0 0),(.ptr 1 0)])] [oC 0 [(nI a)],oC 1 [(nI b)],(2,(.zone true [] (ZV c d)),false)] 3
def aPX(a b:Int)(c:List (Nat×Nat))(d:List (Option XT))(f:Nat)(e:Nat×Nat)(g i:Int)(j:List XT)(k:List Pat):TS:=⟨(tf 251 66 [(0,(aV e)),(1,(.func 252 [] [(.ptr 0 0),(.ptr 1 0)]))] [kc f251 2,kc f251 3]),[],[oC 0 [(nI a)],oC 1 [(nI b)],(2,(.zone true [] (ZV c d)),false)],3⟩
def aEn(c d:Int)(e:List (Nat×Nat))(f:List (Option XT))(a:Nat)(k:Nat×Nat)(g i:Int)(b:List XT)(j:List Pat):TS:=⟨(tf 251 66 [kp 0 3,(1,(.func 252 [] [(.ptr 0 0),(.ptr 1 0)]))] [kc f251 2,kc f251 3]),[],[oC 0 [(nI c)],oC 1 [(nI d)],oC 3 [(nI g),(nI i),(.gl 4 1 0 b.length false),(iP j)],(4,gh,false),(5,(.zone true [4] (cJ b)),false),(6,(.zone true [3] (eV e (set f a none) a)),false)],7⟩
def aAV(e f:Int)(g:List (Nat×Nat))(i:List (Option XT))(a:Nat)(l:Nat×Nat)(b j:Int)(c:List XT)(d:List Pat)(k:Int):TS:=⟨(tf 251 66 [kp 0 2,(1,(.func 252 [] [(.ptr 0 0),(.ptr 1 0)])),(4,.nilp),kp 5 3] [kc f251 60,kc f251 61,kc f251 31]),[],(aRq e f b j c d k g i a),8⟩
def aKb(e f:Int)(g:List (Nat×Nat))(i:List (Option XT))(a:Nat)(l:Nat×Nat)(b j:Int)(c:List XT)(d:List Pat)(k:Int):TS:=⟨(tf 251 66 [kp 0 2,(1,(.func 252 [] [(.ptr 0 0),(.ptr 1 0)])),(4,.nilp),kp 5 3] [kc f251 60,kc f251 61,kc f251 31]),[],(aRq e f b j c d k g i a++[(8,(.zone true [] (ZV ([] :List (Nat×Nat)) ([] :List (Option XT)))),false)]),9⟩
def aKc(f g:Int)(i:List (Nat×Nat))(j:List (Option XT))(c:Nat)(o:Nat×Nat)(d k:Int)(a:List XT)(e:List Pat)(l m:Int)(b:List (Nat×Nat))(n:List (Option XT)):TS:=⟨(tf 251 66 [(1,(.func 252 [] [(.ptr 0 0),(.ptr 1 0)])),(4,.nilp),kp 5 2,(46,(rC a)),(47,(nI (a.length:Int))),(48,(nI m))] [kc f251 244,kl f251 244,.inBlock 0,kc f251 31]),[],([oC 0 [(nI f)],oC 1 [(nI g)],aCY 2 d l b e,(3,gh,false)]++zH b i j c d k a e++[(7,(.zone true [3] (cJ a)),false),(8,(.zone true [] (ZV b n)),false)]),9⟩
def aPY(f g:Int)(i:List (Nat×Nat))(j:List (Option XT))(c:Nat)(o:Nat×Nat)(d k:Int)(a:List XT)(e:List Pat)(l m:Int)(b:List (Nat×Nat))(n:List (Option XT)):TS:=⟨(tf 251 66 [(1,(.func 252 [] [(.ptr 0 0),(.ptr 1 0)])),(4,.nilp),kp 5 2,(46,(rC a)),(47,(nI (a.length:Int))),(48,(nI m))] [kc f251 7832,kc f251 7833,.inBlock 1,kc f251 1959,kl f251 244,.inBlock 0,kc f251 31]),[],([oC 0 [(nI f)],oC 1 [(nI g)],aCY 2 d l b e,(3,gh,false)]++zH b i j c d k a e++[(7,(.zone true [3] (cJ a)),false),(8,(.zone true [] (ZV b n)),false)]),9⟩
def aEo(g i:Int)(j:List (Nat×Nat))(k:List (Option XT))(c:Nat)(p:Nat×Nat)(d l:Int)(a:List XT)(e:List Pat)(m n:Int)(b:List (Nat×Nat))(o:List (Option XT))(f:List (Nat×Nat)):TS:=⟨(tf 251 66 [(1,(.func 252 [] [(.ptr 0 0),(.ptr 1 0)])),(4,.nilp),kp 5 2,(46,(rC a)),(47,(nI (a.length:Int))),(48,(nI n))] [kc f251 7832,kc f251 7833,.inBlock 1,kc f251 1959,kl f251 244,.inBlock 0,kc f251 31]),[],([oC 0 [(nI g)],oC 1 [(nI i)],aCY 2 d m b e,nV 3 f]++zH b j k c d l a e++[(8,(.zone true [] (ZV b o)),false),(9,(.zone true [] (ZV f (map some a))),false)]),10⟩
def aPZ(g i:Int)(j:List (Nat×Nat))(k:List (Option XT))(c:Nat)(q:Nat×Nat)(d l:Int)(a:List XT)(e:List Pat)(m:Int)(n:XT)(f:List (Nat×Nat))(o:Int)(b:List (Nat×Nat))(p:List (Option XT)):TS:=⟨(tf 251 66 [(1,(.func 252 [] [(.ptr 0 0),(.ptr 1 0)])),(4,.nilp),kp 5 2,(46,(rC a)),(47,(nI (a.length:Int))),(48,(nI o))] [kc f251 1959,kl f251 244,.inBlock 0,kc f251 31]),[],[oC 0 [(nI g)],oC 1 [(nI i)],oC 2 [(nI d),(nI m),(.gl 4 1 0 (b.length+1) false),(iP e)],nV 3 f,(4,(.lst 1 (map aV b++ [.ptr 5 0])),false),(5,gh,false),(6,(.zone true [5] (Z1 n)),false),(7,(.zone true [8] (eV j (set k c none) c)),false),aPS 8 d l a e,(9,(.zone true [] (ZV b p)),false),(10,(.zone true [] (ZV f (map some a))),false)],11⟩
def aEp(i j:Int)(k:List (Nat×Nat))(l:List (Option XT))(d:Nat)(r:Nat×Nat)(e m:Int)(a:List XT)(f:List Pat)(n:Int)(o:XT)(g:List (Nat×Nat))(p:Int)(b:List (Nat×Nat))(q:List (Option XT))(c:Nat×Nat):TS:=⟨(tf 251 66 [(1,(.func 252 [] [(.ptr 0 0),(.ptr 1 0)])),(4,.nilp),kp 5 2,(46,(rC a)),(47,(nI (a.length:Int))),(48,(nI p))] [kc f251 1959,kl f251 244,.inBlock 0,kc f251 31]),[],[oC 0 [(nI i)],oC 1 [(nI j)],oC 2 [(nI e),(nI n),(.gl 4 1 0 (b++ [c]).length false),(iP f)],nV 3 g,oL 4 1 (map aV (b++ [c])),(7,(.zone true [8] (eV k (set l d none) d)),false),aPS 8 e m a f,(10,(.zone true [] (ZV g (map some a))),false),(11,(.zone true [] (ZV (b++ [c]) (q++ [some o]))),false)],12⟩
def aP0(g i:Int)(j:List (Nat×Nat))(k:List (Option XT))(c:Nat)(p:Nat×Nat)(d l:Int)(a:List XT)(e:List Pat)(m:Int)(f b:List (Nat×Nat))(n:List (Option XT))(o:Int):TS:=⟨(tf 251 66 [(1,(.func 252 [] [(.ptr 0 0),(.ptr 1 0)])),(4,.nilp),kp 5 2,(46,(rC a)),(47,(nI (a.length:Int))),(48,(nI o))] [kc f251 1959,kl f251 244,.inBlock 0,kc f251 31]),[],([oC 0 [(nI g)],oC 1 [(nI i)],aCY 2 d m b e,nV 3 f]++zH b j k c d l a e++[(7,(.zone true [] (ZV f (map some a))),false),(8,(.zone true [] (ZV b n)),false)]),9⟩
def aKd(f g:Int)(i:List (Nat×Nat))(j:List (Option XT))(c:Nat)(o:Nat×Nat)(d k:Int)(a:List XT)(e:List Pat)(l:Int)(p b:List (Nat×Nat))(m:List (Option XT))(n:Int):TS:=⟨(tf 251 66 [(1,(.func 252 [] [(.ptr 0 0),(.ptr 1 0)])),(4,.nilp),kp 5 2,(46,(rC a)),(47,(nI (a.length:Int))),(48,(nI n))] [kc f251 1959,kl f251 244,.inBlock 0,kc f251 31]),[],([oC 0 [(nI f)],oC 1 [(nI g)],aCY 2 d l b e,(3,gh,false)]++zH b i j c d k a e++[(8,(.zone true [] (ZV b m)),false),(9,(.zone true [3] (cJ a)),false)]),10⟩
def bA2 (c:Prog)(d:Int):=fun a b e f g=>(tT 0 (bDE c d)<|gX Node.av 10 c.nodes d<|fun a=>.y fun b:List Pat=>.i [rn 5,.reg (rd 6 (.pure (iP b)::rd 3 []))] [hA (aM PP 120 [(iP a.pats)] (iP b)),hr (nI a.n),hr (nI a.n),hr (nI a.op),hr (nI a.op)]<|.i [rn 2,.cnil 2 2 1] []<|gu 0 3 (map aV ([] :List (Nat×Nat)))<|gv 0 2 2 aPU<|.W 0 4 [0,1,2,3] (aPV c d a.op a.n a.kids a.pats a.op a.n b)) a e f b g ⟨kk,trivial⟩
def bA3 (b:Prog)(c g i:Int)(a:List Int)(j:List Pat)(d e:Int)(f:List Pat):=(tT 0 (aKa b c g i a j d e f)<|gl 3 cC a<|.W 4 5 [0,2,3,4] (aGe b c a (a.length:Int) d e f 0 ([] :List (Nat×Nat)) ([] :List (Option XT)))) ⟨kk,trivial⟩
def bA4 (i:Prog)(j:Int)(k:List Int)(b c d:Int)(e:List Pat)(f:Int)(a:List (Nat×Nat))(g:List (Option XT)):=fun l=>(tT 0 (aGe i j k b c d e f a g)<|gd 5 27 (f<b) .x<|.E 8 4 [1,2,3] (.ptr 0 0) [oC 0 [(nI c),(nI d),(.gl 1 1 0 a.length false),(iP e)],nV 1 a,(2,(.zone true [] (ZV a g)),false)] 3)|>.f l ⟨kk,trivial⟩
def bA5 (b:Prog)(c:Int)(d:List Int)(e f g:Int)(i:List Pat)(j:XT)(a:Int)(k:List (Nat×Nat))(l:List (Option XT))(m:Nat×Nat):=fun n=>(tT 0 (aEm b c d e f g i j a k l m)<|gw 2 42 (a+1)<|.W 3 7 [0,1,2,6] (aGe b c d e f g i (a+1) (k++ [m]) (l++ [some j]))) n ⟨kk,trivial⟩
def bA6 (a b:Int)(c:List (Nat×Nat))(d:List (Option XT))(e:Nat)(f:Nat×Nat)(g i:Int)(j:List XT)(k:List Pat):=(tT 2 (bDF a b c d e f g i j k)<|.W 1 3 [2] (aPX a b c d e f g i j k)) tv
def aKe(c b:Int)(e:List (Nat×Nat))(f:List (Option XT))(g:Nat)(i:Nat×Nat)(d a:Int)(j:List XT)(k:List Pat):=tT 2 (aEn c b e f g i d a j k)<|.i [rn 4,.reg (rd 15 [])] []<|.b 9 27 (d==4) (gd 7 33 (a≥0) (gd 20 7 (a≥c) (gw 6 10 (a+b)<|.i [rn 10,.cnil 7 2 1] []<|gu 0 8 (map aV ([] :List (Nat×Nat)))<|gv 0 7 2 aJ9<|.W 0 9 [3,7,4,8,6,5] (aAV c b e f g i d a j k (a+b)))<|.i [rn 15,.cnil 7 2 1] []<|gu 0 8 (map aV ([] :List (Nat×Nat)))<|gv 0 7 2 aJ9<|.W 0 9 [3,7,4,8,6,5] (aAV c b e f g i d a j k a))<|.i [rn 4,.cnil 7 2 1] []<|gu 0 8 (map aV ([] :List (Nat×Nat)))<|gv 0 7 2 aJ9<|.W 0 9 [3,7,4,8,6,5] (aAV c b e f g i d a j k a))<|.i [rn 11,.cnil 7 2 1] []<|gu 0 8 (map aV ([] :List (Nat×Nat)))<|gv 0 7 2 aJ9<|.W 0 9 [3,7,4,8,6,5] (aAV c b e f g i d a j k a)
def bA7:=fun a b c d e f g i j k l m n o=>aKe a b c d e f g i j k|>.t l|>.t m|>.t n o ⟨kk,trivial⟩
def bA8:=fun a b c d e f g i j k l m n=>aKe a b c d e f g i j k|>.t l|>.t m|>.f n ⟨kk,trivial⟩
def bA9:=fun a b c d e f g i j k l m=>aKe a b c d e f g i j k|>.t l|>.f m ⟨kk,trivial⟩
def bBa:=fun a b c d e f g i j k l=>aKe a b c d e f g i j k|>.f l ⟨kk,trivial⟩
def bBb (a b:Int)(c:List (Nat×Nat))(d:List (Option XT))(e:Nat)(f:Nat×Nat)(g i:Int)(j:List XT)(k:List Pat)(l:Int):=(tT 2 (aKb a b c d e f g i j k l)<|.W 10 9 [3,4,5,6,2,7,8] (aKc a b c d e f g i j k l 0 ([] :List (Nat×Nat)) ([] :List (Option XT)))) ⟨kk,trivial⟩
def aW4(f g:Int)(i:List (Nat×Nat))(j:List (Option XT))(c:Nat)(o:Nat×Nat)(d k:Int)(a:List XT)(e:List Pat)(l m:Int)(b:List (Nat×Nat))(n:List (Option XT)):=tT 2 (aKc f g i j c o d k a e l m b n)<|gd 5 49 (m< (a.length:Int)) (.W 5 9 [2,3,4,5,6,7,8] (aPY f g i j c o d k a e l m b n))<|.E 8 9 [2,4,5,6,3,7,8] (.ptr 2 0) [oC 0 [(nI f)],oC 1 [(nI g)],oC 2 [(nI d),(nI l),(.gl 3 1 0 b.length false),(iP e)],nV 3 b,(4,(.zone true [5] (eV i (set j c none) c)),false),oC 5 [(nI d),(nI k),(.gl 6 1 0 a.length false),(iP e)],(6,gh,false),(7,(.zone true [6] (cJ a)),false),(8,(.zone true [] (ZV b n)),false)] 9
def bBc:=fun a b c d e f g i j k l m n o p=>aW4 a b c d e f g i j k l m n o|>.t p ⟨kk,trivial⟩
def bBd:=fun a b c d e f g i j k l m n o p=>aW4 a b c d e f g i j k l m n o|>.f p ⟨kk,trivial⟩
def bBe (a b:Int)(c:List (Nat×Nat))(d:List (Option XT))(e:Nat)(f:Nat×Nat)(g i:Int)(j:List XT)(k:List Pat)(l:Int)(m:XT)(n:List (Nat×Nat))(o:Int)(p:List (Nat×Nat))(q:List (Option XT))(r:Nat×Nat):=(tT 2 (aEp a b c d e f g i j k l m n o p q r)<|.W 0 12 [2,3,4,7,8,10,11] (aP0 a b c d e f g i j k l n (p++ [r]) (q++ [some m]) o)) ⟨kk,⟨kk,trivial⟩⟩
def bBf (b c:Int)(d:List (Nat×Nat))(e:List (Option XT))(f:Nat)(g:Nat×Nat)(i j:Int)(k:List XT)(l:List Pat)(m:Int)(p n:List (Nat×Nat))(o:List (Option XT))(a:Int):=fun q=>(tT 2 (aKd b c d e f g i j k l m p n o a)<|gw 2 64 (a+1)<|.W 3 10 [2,3,4,5,6,9,8] (aKc b c d e f g i j k l m (a+1) n o)) q ⟨kk,trivial⟩
theorem bE3 (fr b:Int)(us: (List (Nat×Nat)))(ts: (List (Option XT)))(ix:Nat)(u: (Nat×Nat))(op a:Int)(ks:List XT)(ps:List Pat)(c:us[ix]?=some u)(d: (ts)[ix]?=some (some (.mk op a ks ps))) :LeadsM PP 2 (aPX fr b us ts ix u op a ks ps).as (aEn fr b us ts ix u op a ks ps).as:=
 xZ (j:=0) (v:=aV u) (v':=.ptr 3 0) aC (fun hm=>sS (h:= (aPX fr b us ts ix u op a ks ps).as.h) (h':= (aEn fr b us ts ix u op a ks ps).as.h) (g:=2) (us:=us) (ts:=ts) (i:=ix) (u:=u) (op:=op) (n:=a) (ks:=ks) (ps:=ps) aC c d rfl (bA ⟨.inr (.inr (.inr (.inr ⟨by decide,by kernel_rfl⟩))),.inr (.inr (.inr (.inr ⟨by decide,by kernel_rfl⟩))),.inl ⟨rfl,rfl⟩,.inr (.inl ⟨rfl,rfl⟩),.inr (.inr (.inl ⟨rfl,rfl⟩)),.inr (.inr (.inr (.inl ⟨rfl,rfl⟩))),trivial⟩) hm) aC aC
theorem bE4 (fr c:Int)(us: (List (Nat×Nat)))(ts: (List (Option XT)))(ix:Nat)(u: (Nat×Nat))(op b:Int)(ks:List XT)(ps:List Pat)(a:Int) :LeadsM PP 2 (aAV fr c us ts ix u op b ks ps a).as (aKb fr c us ts ix u op b ks ps a).as:=
 mG (zB (h:= (aAV fr c us ts ix u op b ks ps a).as.h) (h':= (aKb fr c us ts ix u op b ks ps a).as.h) (Z:= (ZV ([] :List (Nat×Nat)) ([] :List (Option XT)))) (fun _ _=> ⟨nodup_nil,by simp [OsAt]⟩) (le_refl _) (bA ⟨.inr aC,.inr aC,.inr aC,.inr aC,.inr aC,.inr aC,.inr aC,.inr aC,.inl ⟨rfl,rfl⟩,trivial⟩)) aC aC
theorem bE5 (fr f:Int)(us: (List (Nat×Nat)))(ts: (List (Option XT)))(ix:Nat)(u: (Nat×Nat))(op e:Int)(ks:List XT)(ps:List Pat)(a b:Int)(d: (List (Nat×Nat)))(j: (List (Option XT))){i:Res}{hf:Hp}(l:ks≠ [])(k:∀c,c.length=ks.length→Ends PP 2 (aEo fr f us ts ix u op e ks ps a b d j c).as i hf) :Ends PP 2 (aPY fr f us ts ix u op e ks ps a b d j).as i hf:=
 mF (t:=fun c=> (aEo fr f us ts ix u op e ks ps a b d j c).as) (ok:=fun us=>us.length=ks.length) (xP (h:= (aPY fr f us ts ix u op e ks ps a b d j).as.h) (h':=fun c=> (aEo fr f us ts ix u op e ks ps a b d j c).as.h) (k:=3) (g:=7) (o:=gh) (ts:=ks) aC rfl aC l (fun _=>le_refl _) (fun c=> (bA ⟨.inr (.inr ⟨by decide,by kernel_rfl⟩),.inr (.inr ⟨by decide,by kernel_rfl⟩),.inr (.inr ⟨by decide,by kernel_rfl⟩),.inr (.inl ⟨rfl,rfl⟩),.inr (.inr ⟨by decide,by kernel_rfl⟩),.inr (.inr ⟨by decide,by kernel_rfl⟩),.inr (.inr ⟨by decide,by kernel_rfl⟩),.inr (.inr ⟨by decide,by kernel_rfl⟩),.inl ⟨rfl,rfl⟩,trivial⟩))) (fun c=> ⟨by kernel_rfl,by kernel_rfl⟩) k
theorem bE6 (fr l:Int)(us: (List (Nat×Nat)))(ts: (List (Option XT)))(ix:Nat)(u: (Nat×Nat))(op j:Int)(ks:List XT)(ps:List Pat)(b:Int)(f:XT)(c: (List (Nat×Nat)))(d:Int)(a: (List (Nat×Nat)))(i: (List (Option XT))){m:Res}{hf:Hp}(k:∀e,Ends PP 2 (aEp fr l us ts ix u op j ks ps b f c d a i e).as m hf) :Ends PP 2 (aPZ fr l us ts ix u op j ks ps b f c d a i).as m hf:=
 mF (t:= (fun e=> (aEp fr l us ts ix u op j ks ps b f c d a i e).as)) (ok:=fun _=>True) (aEe (h:= (aPZ fr l us ts ix u op j ks ps b f c d a i).as.h) (h':=fun e=> (aEp fr l us ts ix u op j ks ps b f c d a i e).as.h) (k:=4) (g:=9) (gz:=6) (z:=5) (us:=a) (ts:=i) (t:=f) aC aC aC (by decide) (fun _=>le_refl _) (fun e=> (bA ⟨.inr (.inr ⟨by decide,by kernel_rfl⟩),.inr (.inr ⟨by decide,by kernel_rfl⟩),.inr (.inr ⟨by decide,by rw [vP];kernel_rfl⟩),.inr (.inr ⟨by decide,by kernel_rfl⟩),.inr (.inl ⟨rfl,rfl⟩),.inr (.inr ⟨by decide,by kernel_rfl⟩),.inr (.inr ⟨by decide,by kernel_rfl⟩),.inr (.inr ⟨by decide,by kernel_rfl⟩),.inl ⟨rfl,rfl⟩,trivial⟩))) (fun e=> ⟨by kernel_rfl,by kernel_rfl⟩) (fun e _=>k e)
theorem bE7 (fr f:Int)(us: (List (Nat×Nat)))(ts: (List (Option XT)))(ix:Nat)(u: (Nat×Nat))(op e:Int)(ks:List XT)(ps:List Pat)(a:Int)(d: (List (Nat×Nat)))(b: (List (Nat×Nat)))(i: (List (Option XT)))(c:Int)(j:ks≠ []) :LeadsM PP 2 (aP0 fr f us ts ix u op e ks ps a d b i c).as (aKd fr f us ts ix u op e ks ps a d b i c).as:=
 mG (aCQ (h:= (aP0 fr f us ts ix u op e ks ps a d b i c).as.h) (h':= (aKd fr f us ts ix u op e ks ps a d b i c).as.h) (k:=3) (g:=7) (us:=d) (ts:=ks) aC aC j (le_refl _) (bA ⟨.inr (.inr ⟨by decide,by decide,by kernel_rfl⟩),.inr (.inr ⟨by decide,by decide,by kernel_rfl⟩),.inr (.inr ⟨by decide,by decide,by kernel_rfl⟩),.inl ⟨rfl,rfl⟩,.inr (.inr ⟨by decide,by decide,by kernel_rfl⟩),.inr (.inr ⟨by decide,by decide,by kernel_rfl⟩),.inr (.inr ⟨by decide,by decide,by kernel_rfl⟩),.inr (.inr ⟨by decide,by decide,by kernel_rfl⟩),.inr (.inl ⟨rfl,rfl⟩),trivial⟩)) aC aC
theorem bBg (fr g:Int)(us: (List (Nat×Nat)))(ts: (List (Option XT)))(ix:Nat)(u: (Nat×Nat))(op f:Int)(ks:List XT)(ps:List Pat)(b c:Int)(a: (List (Nat×Nat)))(h: (List (Option XT)))(e: (List (Nat×Nat)))(i: (Nat×Nat))(d:XT)(j:0≤c)(h1:c< ((ks.length:Nat) :Int))(h2: ((e)[c.toNat]?) =some i)(l:aW2 i fr g op b a ps e us ts ix f ks h d)(k:a.length+1≤1000000) :
  LeadsM PP 2 (aEo fr g us ts ix u op f ks ps b c a h e).as (aPZ fr g us ts ix u op f ks ps b d e c a h).as:=
 lG (n1:=15) (ks:=[2,3,14,12,13,5,6,8,11]) (W:=[some (.cells (putCells .leaf 0 [(nI fr)]) 1 [] false),some (.cells (putCells .leaf 0 [(nI g)]) 1 [] false),some (.cells (putCells .leaf 0 [(nI op),(nI b),(.gl 14 1 0 (a.length+1) false),(iP ps)]) 4 [] false),some (.lst 1 (map aV e)),some (.lst 1 (map aV a++ [.ptr 12 0])),some gh,some (.zone true [12] (Z1 d)),some (.zone true [6] (eV us (set ts ix none) ix)),some (.cells (putCells .leaf 0 [(nI op),(nI f),(rC ks),(iP ps)]) 4 [] false),some (.zone true [] (ZV a h)),some (.zone true [] (ZV e (map some ks)))]) (wc aC (wc aC (wc aC (wc aC (wc (aBQ aC) (wc aC (wc aC (wc aC (wc aC (wc aC (wc aC wn))))))))))) (ps:=[0≤c,c< ((ks.length:Nat) :Int),(map aV e)[(0+c.toNat)]?=some (aV i),aW2 i fr g op b a ps e us ts ix f ks h d,0+a.length≤length (map aV a),a.length+1≤1000000,take a.length (drop 0 (map aV a)) ++ [ptr 12 0] = (map aV a++ [.ptr 12 0]),a.length+length [ptr 12 0] =a.length+1,(AV.gl 4 1 0 a.length false) = (AV.gl 4 1 0 a.length false),(AV.gl 4 1 0 a.length false) = (AV.gl 4 1 0 a.length false)]) (is:=[.run 1,.ans (.ix),.ans (.idx (aV i)),.run 2,.reg [.d,.d,.d,.d,.d,.d,.d,.call (.ptr 12 0) (aA ([oC 0 [(nI fr)],oC 1 [(nI g)],aCY 2 op b a ps,nV 3 e]++zH a us ts ix op f ks ps++[(8,(.zone true [] (ZV a h)),false),(11,(.zone true [] (ZV e (map some ks))),false),(12,gh,false),(13,(.zone true [12] (Z1 d)),false)]) 14),.d,.app (map aV a++ [.ptr 12 0]) (a.length+1),.d,.d,.d],.run 1]) aC aC ⟨(aH _ (fun _=>rfl) _),trivial⟩ ⟨j,h1,(cU h2),l,aFS,k,aOI,aOJ,rfl,rfl⟩
abbrev HL :=List (Nat×AObj×Bool)
abbrev NT (t:XT) :HL:=[(0,gh,false),(1,.zone true [0] (Z1 t),false)]
abbrev NL (o n:Int)(ps:List Pat)(us:List (Nat×Nat))(ts:List (Option XT)) :HL:=[(0,(.cells (putCells .leaf 0 [(.int .i64 o),(.int .i64 n),(.gl 1 1 0 (length us) false),(.ilst 4 (av ps) false)]) 4 [] false),false),(1,(.lst 1 (map aV us)),true),(2,(.zone true [] (ZV us ts)),false)]
theorem bGA (t:XT) :fG (NT t) :=trivial
def aP1 (p:Prog) :Prop:=∀nd∈p.nodes,nd.kids.length<1000000∧bG nd.pats<1000000
theorem aUb {o n:Int}{ps:List Pat}{us:List (Nat×Nat)}{ts:List XT}:kP (aA (NL o n ps us (ts.map some)) 3) (aA [(0,gh,false),(3,.zone true [0] (Z1 (.mk o n ts ps)),false)] 4) :=fun E w r=>by
 have a:us.length=ts.length:=by
  obtain⟨L,_,d⟩ :=r.obj 2 (.zone true [] (ZV us (ts.map some))) aC;obtain⟨_,_,_,c⟩ :=gJ d;have:=c.len;rwa [lB]at this
 have z:kP (aA (NL o n ps us (ts.map some)) 3) (aA [(0,gh,false),(3,.zone true [0] (Z1 (.mk o n ts ps)),false)] 4) :=
  aBP (b:=0) (k:=1) (g:=2) (us:=us) (op:=o) (n:=n) (ts:=ts) (ps:=ps) (len:=us.length) (ex:=false) (pv:=.ilst 4 (av ps) false) aC a (fun _ _ h=>h) aC aC (le_refl _)
   (bA ⟨.inr (.inl ⟨rfl,rfl⟩),.inl ⟨rfl,rfl⟩,trivial⟩)
 exact z E w r
theorem aUc {s:AS}{o n:Int}{ps:List Pat}{us:List (Nat×Nat)}{ts:List XT}(e:Ends PP 0 s (.ret (.ptr 0 0)) (aA (NL o n ps us (ts.map some)) 3)) :Ends PP 0 s (.ret (.ptr 0 0)) (aA (NT (.mk o n ts ps)) 2) :=
 gR (ks:=[0,3]) (rB e aUb (zero_le _)) aC aC aC (bGA _)
theorem aW5 {d:Prog}{o n:Int}{ps:List Pat}{us:List (Nat×Nat)}{ts:List (Option XT)}{t:XT}{b a c:Int}{ks:List Int}{e:Res}{hf:Hp}(k:∀u,Ends PP 0 (aEm d b ks a o n ps t c us ts u).as e hf) :Ends PP 0 (aPW d b ks a o n ps t c us ts).as e hf:=
 mF (t:=fun u=> (aEm d b ks a o n ps t c us ts u).as) (ok:=fun _=>True)
  (aEe (h:= (aPW d b ks a o n ps t c us ts).as.h) (h':=fun u=> (aEm d b ks a o n ps t c us ts u).as.h) (k:=2) (g:=5) (gz:=4) (z:=3) (us:=us) (ts:=ts) (t:=t) aC aC aC (by decide) (fun u=>le_refl _)
   (fun u=>bA ⟨.inr (.inr ⟨by decide,by kernel_rfl⟩),.inr (.inr ⟨by decide,by rw [vP];kernel_rfl⟩),.inr (.inl ⟨rfl,rfl⟩),.inl ⟨rfl,rfl⟩,trivial⟩))
  (fun u=> ⟨by kernel_rfl,by kernel_rfl⟩) (fun u _=>k u)
theorem nil_turn {e:Prog}{o n c d:Int}{ps b:List Pat}{a:Int}{ks:List Int}:LeadsM PP 0 (aPV e a c d ks b o n ps).as (aKa e a c d ks b o n ps).as:=
 mG (zB (h:= (aPV e a c d ks b o n ps).as.h) (h':= (aKa e a c d ks b o n ps).as.h) (Z:=ZV [] []) (fun _ _=> ⟨nodup_nil,by simp [OsAt]⟩) (le_refl _) (bA ⟨.inr aC,.inr aC,.inr aC,.inr aC,.inl ⟨rfl,rfl⟩,trivial⟩)) aC aC
section
variable {p :Prog} (hf:aP1 p)
mutual
theorem aIc (c:aP1 p) :∀ (t:XT) (a:Int),IsTree p t a→gI PP 0 (.enter 91 [Prog.av p,.int .i64 a]) (aA [] 0) (.ret (.ptr 0 0)) (aA (NT t) 2)
 | .mk o n g j,a,h=>by
  simp only [IsTree]at h;obtain⟨e,nd,b,rfl,rfl,rfl,i⟩ :=h;obtain⟨d,f⟩ :=c nd (kS b);refine⟨(bDE p a).as.fr,by kernel_rfl,?_⟩;refine((bA2 p a nd nd.pats e b (aM4 nd.pats f)).trans (nil_turn.trans (bA3 p a _ _ nd.kids _ _ _ nd.pats))).ends ?_;exact aGf c a nd.kids nd.op nd.n nd.pats d g [] [] 0 (by simpa using i) rfl rfl
theorem aGf (f:aP1 p)(b:Int)(ks:List Int)(o n:Int)(ps:List Pat)(hk:ks.length<1000000) :∀ (d c:List XT) (a:List (Nat×Nat)) (i:Nat),aN p d (ks.drop i) →c.length=i→a.length=i →
  Ends PP 0 (aGe p b ks ((length ks:Nat) :Int) o n ps (i:Int) a (c.map some)).as (.ret (.ptr 0 0)) (aA (NT (.mk o n (c++d) ps)) 2)
 | [],c,a,i,h,e,g=>by
  simp only [aN]at h;have w:=bL h;rw [vZ];exact aUc (bA4 p b ks _ o n ps (i:Int) a (c.map some) sd)
 | t::d,c,a,i,h,e,g=>by
  simp only [aN]at h;obtain⟨k,x,q,j,r⟩ :=h;obtain⟨v,s,y⟩ :=bI q
  have l:=aIb (m:=0) (ks:=[]) (n2:=5) (n3:=7) (v':=.ptr 5 0) (args':=[Prog.av p,.int .i64 k])
   (lc:=[(0,(.cells (putCells .leaf 0 [(.ilst 4 (map Node.av p.nodes) false),(.ilst 1 (map cC p.funs) false),(.int .i64 p.main),(.ilst 2 (map Con.av p.cons) false)]) 4 [] false),false),(1,(.cells (putCells .leaf 0 [(.int .i64 o),(.int .i64 n),(.gl 2 1 0 (length a) false),(.ilst 4 (av ps) false)]) 4 [] false),false),(2,(.lst 1 (map aV a)),true),(3,(.zone true [] (ZV a (c.map some))),false)])
   (lc':=[(0,(.cells (putCells .leaf 0 [(.ilst 4 (map Node.av p.nodes) false),(.ilst 1 (map cC p.funs) false),(.int .i64 p.main),(.ilst 2 (map Con.av p.cons) false)]) 4 [] false),false),(1,(.cells (putCells .leaf 0 [(.int .i64 o),(.int .i64 n),(.gl 2 1 0 (length a) false),(.ilst 4 (av ps) false)]) 4 [] false),false),(2,(.lst 1 (map aV a)),true),(3,(.zone true [] (ZV a (c.map some))),false),(5,gh,false),(6,(.zone true [5] (Z1 t)),false)])
   (aIc f t k j) (by rfl) (by rfl) aC (by rfl) (by rfl) aC aC trivial aC trivial
  refine(bA1 p b ks _ o n ps (i:Int) a (c.map some) k t sd sd sd l (by omega)).ends (aW5 fun u=>?_);refine(bA5 p b ks _ o n ps t (i:Int) a (c.map some) u sd).ends ?_;have:=aGf f b ks o n ps hk d (c++ [t]) (a++ [u]) (i+1) (by rw [s];exact r) (by simp [e]) (by simp [g]);rw [zq9,aG2]at this;exact this
end
end
abbrev aW6 (a:Nat×Nat)(b:List (Nat×Nat))(c:List (Option XT))(d:XT):=[oC 0 [(nI 7),(nI 0),(.gl 1 1 0 ([a].length+1) false),.nils],(1,(.lst 1 (map aV [a] ++ [.ptr 2 0])),false),(2,gh,false),(3,(.zone true [] (ZV b c)),false),(4,(.zone true [2] (Z1 d)),false)]
abbrev bE8 (a:Nat)(b:List (Nat×Nat))(c:Prog)(d:List Con):=oC a [(.gl 2 1 0 b.length false),(nI c.main),(iC d)]
abbrev aKf (a:List (Nat×Nat))(b:Prog)(c:List Con)(d:List (Option XT)):=[bE8 1 a b c,oL 2 1 (map aV a),(3,(.zone true [] (ZV a d)),false)]
abbrev aW7 (a:Prog)(b:Int)(c:List (Nat×Nat))(d:List Con)(e:List (Option XT))(f:XT):=Spec PP (.enter 91 [(Prog.av a),(nI b)]) (aA ([oC 0 [(iN a.nodes),(iI a.funs),(nI a.main),(iC a.cons)]]++aKf c a d e) 5) (.ret (.ptr 5 0)) (aA ([oC 0 [(iN a.nodes),(iI a.funs),(nI a.main),(iC a.cons)]]++aKf c a d e++[(5,gh,false),(6,(.zone true [5] (Z1 f)),false)]) 7)
abbrev aCZ (a:Nat)(b:Prog):=oC a [(iN b.nodes),(iI b.funs),(nI b.main),(iC b.cons)]
abbrev aP2:AV:=.gl 2 1 0 ([] :List (Nat×Nat)).length false
def bDG(a:Prog):TS:=cA PP 48 [(Prog.av a)] [] 0
def aP3(a:Prog)(b:List Con):TS:=⟨(tf 48 34 [kp 1 0,(2,.nilp),kp 3 1] [kc f48 28,kc f48 29,kc f48 15]),[],[aCZ 0 a,oC 1 [aP2,(nI a.main),(iC b)],oL 2 1 (map aV ([] :List (Nat×Nat)))],3⟩
def aKg(a:Prog)(b:List Con):TS:=⟨(tf 48 34 [kp 1 0,(2,.nilp),kp 3 1] [kc f48 28,kc f48 29,kc f48 15]),[],[aCZ 0 a,oC 1 [aP2,(nI a.main),(iC b)],oL 2 1 (map aV ([] :List (Nat×Nat))),(3,(.zone true [] (ZV ([] :List (Nat×Nat)) ([] :List (Option XT)))),false)],4⟩
def aGg(a:Prog)(c:List Con)(d:Int)(b:List (Nat×Nat))(e:List (Option XT)):TS:=⟨(tf 48 34 [kp 1 0,(2,.nilp),kp 3 1,(14,(iI a.funs)),(15,(nI (a.funs.length:Int))),(16,(nI d))] [kc f48 116,kl f48 116,.inBlock 0,kc f48 15]),[],([aCZ 0 a]++aKf b a c e),4⟩
def aP4(a:Prog)(c:List Con)(d:XT)(e:Int)(b:List (Nat×Nat))(f:List (Option XT)):TS:=⟨(tf 48 34 [kp 1 0,(2,.nilp),kp 3 1,(14,(iI a.funs)),(15,(nI (a.funs.length:Int))),(16,(nI e))] [kc f48 935,kl f48 116,.inBlock 0,kc f48 15]),[],[aCZ 0 a,oC 1 [(.gl 2 1 0 (b.length+1) false),(nI a.main),(iC c)],(2,(.lst 1 (map aV b++ [.ptr 3 0])),false),(3,gh,false),(4,(.zone true [3] (Z1 d)),false),(5,(.zone true [] (ZV b f)),false)],6⟩
def aEq(a:Prog)(d:List Con)(e:XT)(f:Int)(b:List (Nat×Nat))(g:List (Option XT))(c:Nat×Nat):TS:=⟨(tf 48 34 [kp 1 0,(2,.nilp),kp 3 1,(14,(iI a.funs)),(15,(nI (a.funs.length:Int))),(16,(nI f))] [kc f48 935,kl f48 116,.inBlock 0,kc f48 15]),[],[aCZ 0 a,oC 1 [(.gl 2 1 0 (b++ [c]).length false),(nI a.main),(iC d)],oL 2 1 (map aV (b++ [c])),(6,(.zone true [] (ZV (b++ [c]) (g++ [some e]))),false)],7⟩
theorem bE9 (p:Prog)(a:List Con) :LeadsM PP 0 (aP3 p a).as (aKg p a).as:=
 mG (zB (h:= (aP3 p a).as.h) (h':= (aKg p a).as.h) (Z:= (ZV ([] :List (Nat×Nat)) ([] :List (Option XT)))) (fun _ _=> ⟨nodup_nil,by simp [OsAt]⟩) (le_refl _) (bA ⟨.inr aC,.inr aC,.inr aC,.inl ⟨rfl,rfl⟩,trivial⟩)) aC aC
theorem bFa (p:Prog)(b:List Con)(d:XT)(a:Int)(us: (List (Nat×Nat)))(e: (List (Option XT))){f:Res}{hf:Hp}(k:∀c,Ends PP 0 (aEq p b d a us e c).as f hf) :Ends PP 0 (aP4 p b d a us e).as f hf:=
 mF (t:= (fun c=> (aEq p b d a us e c).as)) (ok:=fun _=>True) (aEe (h:= (aP4 p b d a us e).as.h) (h':=fun c=> (aEq p b d a us e c).as.h) (k:=2) (g:=5) (gz:=4) (z:=3) (us:=us) (ts:=e) (t:=d) aC aC aC (by decide) (fun _=>le_refl _) (fun c=> (bA ⟨.inr (.inr ⟨by decide,by kernel_rfl⟩),.inr (.inr ⟨by decide,by rw [vP];kernel_rfl⟩),.inr (.inl ⟨rfl,rfl⟩),.inl ⟨rfl,rfl⟩,trivial⟩))) (fun c=> ⟨by kernel_rfl,by kernel_rfl⟩) (fun c _=>k c)
theorem bBh (p:Prog)(c:List Con)(b:Int)(a: (List (Nat×Nat)))(e: (List (Option XT)))(f:Int)(d:XT)(h:decide (b< (p.funs.length:Int)) =true)(h1:0≤b)(h2: ((p.funs)[b.toNat]?) =some f)(i:aW7 p f a c e d)(g:a.length+1≤1000000) :
  LeadsM PP 0 (aGg p c b a e).as (aP4 p c d b a e).as:=
 lG (n1:=8) (ks:=[0,1,7,5,6,3]) (W:=[some (.cells (putCells .leaf 0 [(iN p.nodes),(iI p.funs),(nI p.main),(iC p.cons)]) 4 [] false),some (.cells (putCells .leaf 0 [(.gl 7 1 0 (a.length+1) false),(nI p.main),(iC c)]) 3 [] false),some (.lst 1 (map aV a++ [.ptr 5 0])),some gh,some (.zone true [5] (Z1 d)),some (.zone true [] (ZV a e))]) (wc aC (wc aC (wc (aBQ aC) (wc aC (wc aC (wc aC wn)))))) (ps:=[decide (b< (p.funs.length:Int)) =true,0≤b,(jI p.funs)[b.toNat]?=some (cC f),aW7 p f a c e d,0+a.length≤length (map aV a),a.length+1≤1000000,take a.length (drop 0 (map aV a)) ++ [ptr 5 0] = (map aV a++ [.ptr 5 0]),a.length+length [ptr 5 0] =a.length+1,(AV.gl 2 1 0 a.length false) = (AV.gl 2 1 0 a.length false),(AV.gl 2 1 0 a.length false) = (AV.gl 2 1 0 a.length false)]) (is:=[.run 5,.b 17 true,.run 6,.ans (.idx (cC f)),.run 3,.reg [.d,.d,.d,.d,.d,.d,.d,.call (.ptr 5 0) (aA ([aCZ 0 p]++aKf a p c e++[(5,gh,false),(6,(.zone true [5] (Z1 d)),false)]) 7),.d,.app (map aV a++ [.ptr 5 0]) (a.length+1),.d,.d,.d],.run 1]) aC aC trivial ⟨h,h1,(bC h2),i,aFS,g,aOI,aOJ,rfl,rfl⟩
def bDH(a:List (Nat×Nat))(b:List (Option XT))(f:Nat)(c:Nat×Nat)(d e:Int):TS:=cA PP 249 [(aV c),(nI d),(nI e)] [(0,(.zone true [] (ZV a b)),false)] 1
def bDI(a:List (Nat×Nat))(b:List (Option XT))(e:Nat)(c:Nat×Nat)(d:XT):TS:=cA PP 248 [(aV c),(.ptr 1 0)] [(0,(.zone true [] (ZV a b)),false),(1,gh,false),(2,(.zone true [1] (Z1 d)),false)] 3
theorem bBi (us: (List (Nat×Nat)))(ts: (List (Option XT)))(ix:Nat)(u: (Nat×Nat))(a:XT) :
  Ends PP 0 (bDI us ts ix u a).as (.ret (.ptr 0 0)) (aA (aW6 u us ts a) 5) :=
 aLT (n1:=5) (ks:=[4,3,1,0,2]) (hp:= (aW6 u us ts a)) (v:= (.ptr 0 0)) (W:=[some (.cells (putCells .leaf 0 [(nI 7),(nI 0),(.gl 3 1 0 ([u].length+1) false),.nils]) 4 [] false),some (.lst 1 (map aV [u] ++ [.ptr 1 0])),some gh,some (.zone true [] (ZV us ts)),some (.zone true [1] (Z1 a))]) (wc aC (wc (aBQ aC) (wc aC (wc aC (wc aC wn))))) (ps:=[getCells (putCells .leaf 0 [(aV u),(.ptr 1 0)]) 0 (2*1) =some [(aV u),(.ptr 1 0)],dE [(aV u),(.ptr 1 0)] =true,[(aV u),(.ptr 1 0)] = (map aV [u] ++ [(.ptr 1 0)]),(AV.gl 3 1 0 2 false) = (.gl 3 1 0 ([u].length+1) false)]) (is:=[.run 28,.ctoL 4 2 false [(aV u),(.ptr 1 0)],.lset 3 (map aV [u] ++ [(.ptr 1 0)]),.cweak 4 2,.cset 4 2 (.gl 3 1 0 ([u].length+1) false)]) aC aC trivial ⟨rfl,rfl,rfl,rfl⟩
def bDJ(a:Nat ×Nat)(b:List (Nat×Nat)):TS:=cA PP 254 [(.gl 0 1 0 (a::b).length false)] [oL 0 1 (map aV (a::b))] 1
def bDK(a b:Int):TS:=cA PP 250 [(nI a),(nI b),.nils] [] 0
def bBj (a:Prog):=fun b c=>(tT 0 (bDG a)<|.y fun b:List Con=>.i [rn 6,.reg (rd 4 (.pure (iC b)::rd 3 []))] [hA (aM PP 90 [(iC a.cons)] (iC b)),hr (nI a.main),hr (nI a.main)]<|.i [rn 2,.cnil 1 0 1] []<|gu 0 2 (map aV ([] :List (Nat×Nat)))<|gv 0 1 0 aP2<|.W 0 3 [0,1,2] (aP3 a b)) b c ⟨kk,trivial⟩
def bBk (a:Prog)(b:List Con):=(tT 0 (aKg a b)<|gl 3 cC a.funs<|.W 4 4 [0,1,2,3] (aGg a b 0 ([] :List (Nat×Nat)) ([] :List (Option XT)))) ⟨kk,trivial⟩
def bBl (b:Prog)(c:List Con)(d:Int)(a:List (Nat×Nat))(e:List (Option XT)):=fun f=>(tT 0 (aGg b c d a e)<|gd 5 17 (d< (b.funs.length:Int)) .x<|.E 8 4 [1,2,3] (.ptr 0 0) [oC 0 [(.gl 1 1 0 a.length false),(nI b.main),(iC c)],oL 1 1 (map aV a),(2,(.zone true [] (ZV a e)),false)] 3)|>.f f ⟨kk,trivial⟩
def bBm (b:Prog)(c:List Con)(d:XT)(a:Int)(e:List (Nat×Nat))(f:List (Option XT))(g:Nat×Nat):=fun i=>(tT 0 (aEq b c d a e f g)<|gw 2 32 (a+1)<|.W 3 7 [0,1,2,6] (aGg b c (a+1) (e++ [g]) (f++ [some d]))) i ⟨kk,trivial⟩
def bBn (a:List (Nat×Nat))(b:List (Option XT))(g:Nat)(f:Nat×Nat)(d e:Int):=fun c i=>(tT 0 (bDH a b g f d e)<|.y fun c:XT=>gk 10 (.enter 251 [(aV f),(.func 252 [] [(.ptr 1 0),(.ptr 2 0)])]) [(0,(.zone true [] (ZV a b)),false),oC 1 [(nI d)],oC 2 [(nI e)]] 3 (.ptr 4 0) [oC 1 [(nI d)],oC 2 [(nI e)],(3,(.zone true [] (ZV a b)),false),(4,gh,false),(5,(.zone true [4] (Z1 c)),false)] 6<|.E 3 6 [4,3,5] (.ptr 0 0) [(0,gh,false),(1,(.zone true [] (ZV a b)),false),(2,(.zone true [0] (Z1 c)),false)] 3) c i tv
def bBo (a:Nat×Nat)(b:List (Nat×Nat)):=fun c=>(tT 1 (bDJ a b)<|.i [rn 16,.toL 5 false []] [.q (p:=getCells (putCells .leaf 0 []) 0 (0*1) =some []) rfl,hr true]<|gu 0 1 (map aV ([] :List (Nat×Nat)))<|gs 0 5 (.gl 1 1 0 ([] :List (Nat×Nat)).length true)<|.i [.weak 5] []<|.i [.app (map aV (a::b)) (a::b).length] [.q (p:=0+ (a::b).length≤length (map aV (a::b))) aFS,.q (p:=0+ ([] :List (Nat×Nat)).length≤length (map aV ([] :List (Nat×Nat)))) aFS,hA ((a::b).length≤1000000),.q (p:=take ([] :List (Nat×Nat)).length (drop 0 (map aV ([] :List (Nat×Nat)))) ++take (a::b).length (drop 0 (map aV (a::b))) = (map aV (a::b))) bEL,.q (p:=([] :List (Nat×Nat)).length+ (a::b).length= (a::b).length) (eM _)]<|.E 3 3 [2] (.gl 1 1 0 (a::b).length false) [oL 0 1 (map aV (a::b)),oL 1 1 (map aV (a::b))] 2) c ⟨kk,⟨kk,trivial⟩⟩
def bBp (a b:Int):=(tT 0 (bDK a b)<|.E 14 1 [0] (.ptr 0 0) [oC 0 [(nI a),(nI b),.nils,.nils]] 1) tv
theorem vD {P:Program}{f:Nat}{b args':List AV}{v v':AV}{l l' lc lc':List (Nat×AObj×Bool)}{m nb a n2 n3:Nat}{ks:List Nat}
  (e:gI P m (.enter f b) (aA l nb) (.ret v) (aA l' a))
  (hb: (ble m nb&&ble m a&&cR 0 ⟨⟨0,0,[],[],[],.run,.normal,none⟩,[],l,nb⟩ ks&&xM l'&&fU a l'&&fU n2 lc&&fU n3 lc'&&ks.all (fun k=>Nat.blt k n2)) =true)
  (he: (a-m+n2,ren (kE m n2 ks) v,renL (fA 0 nb n2 ks) b,sQ (aA lc n2) (fA 0 nb n2 ks) l,sQ (aA lc' n3) (kE m n2 ks) l',aDu (namesT (kE m n2 ks) l') (l.map fun p=>ks.getD p.1 0) (aA lc n2) lc',qL l') = (n3,v',args',iF (fA 0 nb n2 ks) l,iF (kE m n2 ks) l',qL lc',(l'.map fun p=> (aA l' a).look p.1)))
  (d:fG l) (c:fG l') :Spec P (.enter f args') (aA lc n2) (.ret v') (aA lc' n3) :=by
 simp only [cP]at hb;obtain⟨⟨⟨⟨⟨⟨⟨g,s⟩,h⟩,t⟩,u⟩,r⟩,i⟩,x⟩ :=hb;simp only [Prod.mk.injEq]at he;obtain⟨y,w,j,n,z,q,o⟩ :=he;exact aIb e y w j g s h n d z c t u r i x q o
theorem bBq {P:Program}{f:Nat}{x y:Int}{a p q:AV}{h h':Hp}{r:Res}(e:x=y)(s:Spec P (.enter f [.agg [a,.int .i64 y,p],q]) h r h') :Spec P (.enter f [.agg [a,.int .i64 x,p],q]) h r h':=by rw [e];exact s
theorem aUd {P:Program}{f:Nat}{x y:Int}{i j b k o:Nat}{a q:AV}{h h':Hp}{r:Res}(e:x=y)(c:i=j)(s:Spec P (.enter f [.agg [a,.int .i64 y,.ep b k j o],q]) h r h') :Spec P (.enter f [.agg [a,.int .i64 x,.ep b k i o],q]) h r h':=by rw [e,c];exact s
def mvN (fr mb o n:Int) :Int:=if o=4∧0≤n∧fr≤n then n+mb else n
mutual
def rD (fr mb:Int) :XT→XT
 | .mk o n ks ps=>.mk o (mvN fr mb o n) (dU fr mb ks) ps
def dU (fr mb:Int) :List XT→List XT
 | [] =>[]
 |t::ts=>rD fr mb t::dU fr mb ts
end
mutual
def OkT :XT→Prop
 | .mk o n ks _=> (o=4→n≤1000000) ∧ks.length<1000000∧aKi ks
def aKi :List XT→Prop
 | [] =>True
 |t::ts=>OkT t∧aKi ts
end
theorem mH (fr b:Int) :∀a,dU fr b a=a.map (rD fr b)
 | [] =>rfl
 |t::a=>by rw [dU,mH fr b a];rfl
theorem okTs_iff :∀ {ts:List XT},aKi ts↔∀t∈ts,OkT t
 | [] =>by simp [aKi]
 |t::ts=>by simp only [aKi,okTs_iff (ts:=ts),zq7];exact⟨fun h x a=>by rcases a with rfl|a;exact h.1;exact h.2 x a,fun h=> ⟨h t (.inl rfl),fun x a=>h x (.inr a)⟩⟩
abbrev PHl (fr mb:Int)(us:List (Nat×Nat))(ts:List (Option XT)) :HL:=[(0,(.cells (putCells .leaf 0 [(.int .i64 fr)]) 1 [] false),false),(1,(.cells (putCells .leaf 0 [(.int .i64 mb)]) 1 [] false),false),(2,(.zone true [] (ZV us ts)),false)]
abbrev PHr (fr mb:Int)(us:List (Nat×Nat))(ts:List (Option XT))(t:XT) :HL:=[(0,(.cells (putCells .leaf 0 [(.int .i64 fr)]) 1 [] false),false),(1,(.cells (putCells .leaf 0 [(.int .i64 mb)]) 1 [] false),false),(2,(.zone true [] (ZV us ts)),false),(3,gh,false),(4,.zone true [3] (Z1 t),false)]
def bFb (fr mb:Int)(t:XT) :Prop:=∀ (us:List (Nat×Nat)) (ts:List (Option XT)) (ix:Nat) (u:Nat×Nat),us[ix]?=some u→ts[ix]?=some (some t) →
 gI PP 2 (.enter 251 [aV u,.func 252 [] [.ptr 0 0,.ptr 1 0]]) (aA (PHl fr mb us ts) 3) (.ret (.ptr 3 0)) (aA (PHr fr mb us ts (rD fr mb t)) 5)
abbrev PHe (fr mb:Int)(us:List (Nat×Nat))(ts:List (Option XT))(ix:Nat)(op nn n':Int)(ks:List XT)(ps:List Pat)(w:List (Nat×Nat))(rs:List XT) :HL:=[(0,(.cells (putCells .leaf 0 [(.int .i64 fr)]) 1 [] false),false),(1,(.cells (putCells .leaf 0 [(.int .i64 mb)]) 1 [] false),false),(2,(.cells (putCells .leaf 0 [(.int .i64 op),(.int .i64 n'),(.gl 3 1 0 (length w) false),(.ilst 4 (av ps) false)]) 4 [] false),false),(3,(.lst 1 (map aV w)),true),(4,(.zone true [5] (eV us (set ts ix none) ix)),false),(5,(.cells (putCells .leaf 0 [(.int .i64 op),(.int .i64 nn),(.gl 6 1 0 (length ks) false),(.ilst 4 (av ps) false)]) 4 [] false),false),(6,gh,false),(7,(.zone true [6] (cJ ks)),false),(8,(.zone true [] (ZV w (rs.map some))),false)]
abbrev PHf (fr mb:Int)(us:List (Nat×Nat))(ts:List (Option XT))(op n':Int)(ps:List Pat)(w:List (Nat×Nat))(rs:List XT) :HL:=[(0,(.cells (putCells .leaf 0 [(.int .i64 fr)]) 1 [] false),false),(1,(.cells (putCells .leaf 0 [(.int .i64 mb)]) 1 [] false),false),(2,(.cells (putCells .leaf 0 [(.int .i64 op),(.int .i64 n'),(.gl 3 1 0 (length w) false),(.ilst 4 (av ps) false)]) 4 [] false),false),(3,(.lst 1 (map aV w)),true),(8,(.zone true [] (ZV w (rs.map some))),false),(9,(.zone true [] (ZV us ts)),false)]
abbrev PHg (fr mb:Int)(us:List (Nat×Nat))(ts:List (Option XT))(t:XT) :HL:=[(0,(.cells (putCells .leaf 0 [(.int .i64 fr)]) 1 [] false),false),(1,(.cells (putCells .leaf 0 [(.int .i64 mb)]) 1 [] false),false),(2,gh,false),(9,(.zone true [] (ZV us ts)),false),(10,.zone true [2] (Z1 t),false)]
theorem aW9 {ts:List (Option XT)}{ix:Nat}{x:Option XT}(h:ts[ix]?=some x) : (ts.set ix none).set ix x=ts:=by
 rw [List.set_set];apply List.ext_getElem?;intro j;rw [getElem?_set];split
 · rename_i a;subst a;rw [if_pos (zq0.1 h).1,h]
 ·rfl
theorem aXa {s:AS}{fr c:Int}{us:List (Nat×Nat)}{ts:List (Option XT)}{ix:Nat}{op d a:Int}{ks:List XT}{ps:List Pat}{w:List (Nat×Nat)}{rs:List XT}(m:ts[ix]?=some (some (.mk op d ks ps)))(l:w.length=rs.length)
  (e:Ends PP 2 s (.ret (.ptr 2 0)) (aA (PHe fr c us ts ix op d a ks ps w rs) 9)) :Ends PP 2 s (.ret (.ptr 3 0)) (aA (PHr fr c us ts (.mk op a rs ps)) 5) :=by
 have j:kP (aA (PHe fr c us ts ix op d a ks ps w rs) 9) (aA (PHf fr c us ts op a ps w rs) 10) :=by
  refine aFO (h:=aA (PHe fr c us ts ix op d a ks ps w rs) 9) (h':=aA (PHf fr c us ts op a ps w rs) 10) (b:=5) (k:=6) (gk:=7) (g:=4) (us:=us) (ts:=ts.set ix none) (i:=ix) (op:=op) (n:=d) (ks:=ks) (ps:=ps) (len:=ks.length) (ex:=false) (pv:=.ilst 4 (av ps) false) aC rfl (fun _ _ h=>h) aC aC (by decide) (le_refl _) ?_;rw [aW9 m];exact bA ⟨.inr ⟨by decide,by kernel_rfl⟩,.inr ⟨by decide,by kernel_rfl⟩,.inr ⟨by decide,by kernel_rfl⟩,.inr ⟨by decide,by kernel_rfl⟩,.inr ⟨by decide,by kernel_rfl⟩,.inl ⟨rfl,rfl⟩,trivial⟩
 have f:kP (aA (PHf fr c us ts op a ps w rs) 10) (aA (PHg fr c us ts (.mk op a rs ps)) 11) :=
  aBP (h:=aA (PHf fr c us ts op a ps w rs) 10) (h':=aA (PHg fr c us ts (.mk op a rs ps)) 11) (b:=2) (k:=3) (g:=8) (us:=w) (op:=op) (n:=a) (ts:=rs) (ps:=ps) (len:=w.length) (ex:=false) (pv:=.ilst 4 (av ps) false) aC l (fun _ _ h=>h) aC aC (le_refl _)
   (bA ⟨.inr (.inr ⟨by decide,by kernel_rfl⟩),.inr (.inr ⟨by decide,by kernel_rfl⟩),.inr (.inl ⟨rfl,rfl⟩),.inr (.inr ⟨by decide,by kernel_rfl⟩),.inl ⟨rfl,rfl⟩,trivial⟩)
 exact gR (ks:=[9,2,10]) (rB (rB e j (show 2≤9 by decide)) f (show 2≤10 by decide)) aC aC aC trivial
theorem eO {d c:Type}{a:List d}{b:List c}(h:a.length=b.length){i:Nat}(e:i<b.length) :∃x,a[i]?=some x:= ⟨a[i]'(by omega),kR _⟩
mutual
theorem aRr (fr:Int) :∀ (t:XT),OkT t→bFb fr 1 t
 | .mk op a b c,h=>fun e d ix u m g=>by
  simp only [OkT]at h;obtain⟨l,n,k⟩ :=h;refine⟨(bDF fr 1 e d ix u op a b c).as.fr,by kernel_rfl,?_⟩;have hc :LeadsM PP 2 (aEn fr 1 e d ix u op a b c).as (aAV fr 1 e d ix u op a b c (mvN fr 1 op a)).as:=by
   unfold mvN;by_cases f:op=4
   · by_cases j:0≤a
     · by_cases i:fr≤a
       · rw [if_pos ⟨f,j,i⟩];have:=l f;exact bA7 fr 1 e d ix u op a b c (by rw [f];rfl) sd sd sd
       · rw [if_neg (fun h=>i h.2.2)];exact bA8 fr 1 e d ix u op a b c (by rw [f];rfl) sd sd
     · rw [if_neg (fun h=>j h.2.1)];exact bA9 fr 1 e d ix u op a b c (by rw [f];rfl) sd
   · rw [if_neg (fun h=>f h.1)];exact bBa fr 1 e d ix u op a b c (by simpa using f)
  refine((bA6 fr 1 e d ix u op a b c).trans ((bE3 fr 1 e d ix u op a b c m g).trans (hc.trans ((bE4 fr 1 e d ix u op a b c _).trans (bBb fr 1 e d ix u op a b c _))))).ends ?_;have:=aRs fr e d ix u op a b c g n b [] [] 0 rfl rfl rfl k;simp only [rD];exact this
theorem aRs (fr:Int)(us:List (Nat×Nat))(ts:List (Option XT))(ix:Nat)(u:Nat×Nat)(op a:Int)(ks:List XT)(ps:List Pat)(p:ts[ix]?=some (some (.mk op a ks ps)))(hk:ks.length<1000000) :∀ (d b:List XT) (w:List (Nat×Nat)) (i:Nat),ks.drop i=d→b.length=i→w.length=i→aKi d →
  Ends PP 2 (aKc fr 1 us ts ix u op a ks ps (mvN fr 1 op a) (i:Int) w (b.map some)).as (.ret (.ptr 3 0)) (aA (PHr fr 1 us ts (.mk op (mvN fr 1 op a) (b++dU fr 1 d) ps)) 5)
 | [],b,w,i,h,n,r,_=>by
  have x:=bL h;simp only [dU,vZ];exact aXa p (by omega) (bBd fr 1 us ts ix u op a ks ps _ (i:Int) w (b.map some) sd)
 | t::d,b,w,i,h,n,r,g=>by
  simp only [aKi]at g;obtain⟨s,v,o⟩ :=bI h;have f:ks≠ [] :=fun e=>by subst e;simp at o
  refine(bBc fr 1 us ts ix u op a ks ps _ (i:Int) w (b.map some) sd).ends (bE5 fr 1 us ts ix u op a ks ps _ (i:Int) w (b.map some) f fun c k=>?_);obtain⟨l,j⟩ :=eO k o;refine(bBg fr 1 us ts ix u op a ks ps _ (i:Int) w (b.map some) c l (rD fr 1 t) sd sd sd (vD (m:=2) (ks:=[0,1,9]) (aRr fr t g.1 c (ks.map some) i l j (by rw [rM,s];rfl)) aC aC trivial trivial) (by omega)).ends ?_;refine bE6 fr 1 us ts ix u op a ks ps _ _ c (i:Int) w (b.map some) fun q=>?_;refine((bBe fr 1 us ts ix u op a ks ps _ _ c (i:Int) w (b.map some) q).trans ((bE7 fr 1 us ts ix u op a ks ps _ c _ _ (i:Int) f).trans (bBf fr 1 us ts ix u op a ks ps _ c _ _ (i:Int) sd))).ends ?_;have:=aRs fr us ts ix u op a ks ps p hk d (b++ [rD fr 1 t]) (w++ [q]) (i+1) v (by simp [n]) (by simp [r]) g.2;rw [zq9,aG2]at this;simp only [dU];exact this
end
theorem aRt (fr:Int)(t:XT)(h:OkT t)(us:List (Nat×Nat))(ts:List (Option XT))(ix:Nat)(u:Nat×Nat)(a:us[ix]?=some u)(b:ts[ix]?=some (some t)) :
  gI PP 0 (.enter 249 [aV u,.int .i64 fr,.int .i64 1]) (aA [(0,(.zone true [] (ZV us ts)),false)] 1) (.ret (.ptr 1 0)) (aA [(0,(.zone true [] (ZV us ts)),false),(1,gh,false),(2,.zone true [1] (Z1 (rD fr 1 t)),false)] 3) :=by
 refine⟨(bDH us ts ix u fr 1).as.fr,by kernel_rfl,?_⟩;have:=bBn us ts ix u fr 1 (rD fr 1 t) (vD (m:=2) (ks:=[1,2,0]) (aRr fr t h us ts ix u a b) aC aC trivial trivial);exact gR (ks:=[1,0,2]) this aC aC aC trivial
section
variable {P :Program}
theorem aId {call:bP}(hc:eP P call){m:Nat}:∀ {n:Nat} {s:AS} {v:AV} {b:Hp},aIE P call n s=some (v,b) →Ends P m s (.ret v) b
 |0,s,v,b,a=>by simp [aIE]at a
 | n + 1,s,v,b,a=>by
  simp only [aIE]at a;split at a
  · rename_i x d;cases a;exact mY d
  · split at a
    · rename_i e c;exact(dM hc c).ends (aId hc a)
    ·cases a
def aBX :AObj→AObj
 | .cells t n _ _=>.cells t n [] false
 |o=>o
def sB (hp:List (Nat×AObj)) :List (Nat×AObj×Bool) :=hp.map fun p=> (p.1,aBX p.2,false)
def aM5 (x:Nat) :List (Nat×AObj) →Bool
 | [] =>false
 |p::r=>Nat.beq p.1 x||aM5 x r
def aGh (l:List (Nat×AObj)) :List Nat→Bool
 | [] =>true
 |x::r=> !(aM5 x l) &&aGh l r
def aC0 (l:List (Nat×AObj)) :List (Nat×AObj) →Bool
 | [] =>true
 |p::r=>aGh l (bQ p.2) &&aC0 l r
theorem aC1 {x:Nat}:∀ {l:List (Nat×AObj)},∀p∈l,p.1=x→aM5 x l=true
 | q::r,p,a,e=>by
  simp only [aM5,Bool.or_eq_true];rcases zq7.1 a with rfl|a
  ·exact .inl (by rw [e];exact Nat.beq_refl x)
  ·exact .inr (aC1 p a e)
theorem aAW {l:List (Nat×AObj)}:∀ {k:List Nat},aGh l k=true→∀x∈k,aM5 x l=false
 | y::r,h,x,a=>by
  simp only [aGh,cP,Bool.not_eq_true']at h;rcases zq7.1 a with rfl|a
  ·exact h.1
  ·exact aAW h.2 x a
theorem aAX {l:List (Nat×AObj)}:∀ {k:List (Nat×AObj)},aC0 l k=true→∀p∈k,aGh l (bQ p.2) =true
 | q::r,h,p,a=>by
  simp only [aC0,cP]at h;rcases zq7.1 a with rfl|a
  ·exact h.1
  ·exact aAX h.2 p a
theorem aIe {h:Hp}:∀ {a:List (Nat×AObj)},(a.map fun p=>h.look p.1) = (a.map fun p=>some p.2) →∀p∈a,h.look p.1=some p.2
 | q::r,e,p,a=>by
  simp only [eI,List.cons.injEq]at e;rcases zq7.1 a with rfl|a
  ·exact e.1
  ·exact aIe e.2 p a
theorem nE {h:Hp}{hp:List (Nat×AObj)}{nb:Nat}(hl: (hp.map fun p=>h.look p.1) = (hp.map fun p=>some p.2)){b:Nat}{o:AObj}(e: (aA (sB hp) nb).look b=some o) :∃o1,(b,o1) ∈hp∧h.look b=some o1∧o=aBX o1:=by
 obtain⟨f,hm⟩ :=hX e;obtain⟨⟨g,d⟩,a,c⟩ :=zq24.1 hm;cases c;exact⟨d,a,aIe hl _ a,rfl⟩
theorem zI {o:AObj}{L:Loc}{i:Nat}:Own (aBX o) L i→Own o L i:=by cases o<;>exact id
theorem aXb {E:Emb}{H:Array Obj}{o:AObj}{L:Loc}:OR E H L o→OR E H L (aBX o) :=by cases o<;>exact id
theorem aM6 (o:AObj) :kN (aBX o) =kN o:=by cases o<;>rfl
theorem aUe {E:Emb}{h:Hp}{H:Array Obj}(r:Rel E h H){hp:List (Nat×AObj)}{nb:Nat}(hl: (hp.map fun p=>h.look p.1) = (hp.map fun p=>some p.2))(l:aC0 hp hp=true)(q:h.nb=nb) :Rel E (aA (sB hp) nb) H:=by
 subst q;refine⟨fun b o e=>?_,fun b A o D L L' e w k y hm f=>?_,r.fresh,r.imm,fun b o L e k i z=>?_,fun b o e=>?_⟩
 · obtain⟨a,d,c,rfl⟩ :=nE hl e;rcases r.obj0 b a c with⟨t,s⟩ | ⟨L,B,u⟩
   ·exact .inl ⟨by rw [aM6];exact t,s⟩
   ·exact .inr ⟨L,B,aXb u⟩
 · obtain⟨a,d,c,rfl⟩ :=nE hl e;obtain⟨m,n,C,rfl⟩ :=nE hl w;exfalso;have j:Meet a m L L':=by
    obtain⟨i,x,v⟩ :=hm;exact⟨i,zI x,zI v⟩
   rcases r.kin b A a m L L' c C k y j f with⟨g,_⟩ | ⟨g,_⟩
   · have:=aAW (aAX l _ d) _ g;rw [aC1 _ n rfl]at this;cases this
   · have:=aAW (aAX l _ n) _ g;rw [aC1 _ d rfl]at this;cases this
 · obtain⟨a,d,c,rfl⟩ :=nE hl e;exact r.apart b a L c k i (zI z)
 · obtain⟨a,d,c,rfl⟩ :=nE hl e;exact r.keys b a c
theorem aDH {fr:AFrame}{cs:List AFrame}{h:Hp}{hp:List (Nat×AObj)}{nb:Nat}(hl: (hp.map fun p=>h.look p.1) = (hp.map fun p=>some p.2))(g:aC0 hp hp=true)(l:h.nb=nb) :Leads P ⟨fr,cs,h⟩ ⟨fr,cs,aA (sB hp) nb⟩ :=fun E fr c w d f fs r=>by
 have a:∀ {x o},(aA (sB hp) nb).look x=some o→∃b,h.look x=some b∧∀L i,Own o L i→Own b L i:=fun {x o} e=>by
  obtain⟨k,_,t,rfl⟩ :=nE hl e;exact⟨k,t,fun L i=>zI⟩
 refine⟨E,fr,c,w,Steps.refl _ _,f,fs,aUe r hl g l,⟨Emb.le.refl E,le_refl _,fun _ _ _=>rfl,fun x o L m s i n _=>by obtain⟨b,e,q⟩ :=a m;exact⟨x,b,L,e,s,q L i n⟩,?_,rfl,rfl,rfl,fun _ _=>rfl,fun _ _=>rfl,fun _ _ e _=>.inl e,fun x o e _=>by obtain⟨b,j,_⟩ :=a e;exact⟨b,j⟩⟩⟩;show h.nb≤nb;omega
theorem aBY {f:Nat}{a:List AV}{g:AFrame}{fr:AFrame}{h:Hp}{hp:List (Nat×AObj)}{nb:Nat}{v:AV}(i:dW P (aA [] 0) (.enter f a) =some g)(c:Leads P ⟨g,[],aA [] 0⟩ ⟨fr,[],h⟩)(hl: (hp.map fun p=>h.look p.1) = (hp.map fun p=>some p.2))(d:aC0 hp hp=true)(b:h.nb=nb)
  (e:wE P ⟨fr,[],aA (sB hp) nb⟩ =some (v,aA (sB hp) nb)) :gI P 0 (.enter f a) (aA [] 0) (.ret v) (aA (sB hp) nb) :=
 ⟨g,i,((c.trans (aDH hl d b)).toM).ends (mY e)⟩
theorem zJ {n d k:Nat}{c:AIn}{h:Hp}{v:AV}{l:List (Nat×AObj×Bool)}{nb:Nat}
  (i: (wF P n (d+1) k c h).map (fun r=> (r.1,r.2.nb,l.map fun p=>r.2.look p.1)) =some (v,nb,l.map fun p=>some p.2.1)) (hb:h.nb≤nb) :Spec P c h (.ret v) (aA l nb) :=by
 simp only [wF]at i;split at i
 · rename_i g H;cases hr:aIE P (wF P n d) n ⟨g,[],h⟩with
   |none=>rw [hr]at i;cases i
   | some r=>
    rw [hr]at i;simp only [Option.map_some,Option.some.injEq,Prod.mk.injEq]at i;obtain⟨rfl,rfl,C⟩ :=i;refine⟨g,H,?_⟩;have e:=aId (m:=h.nb) (uD n d) hr
    have u:∀b o,(aA l r.2.nb).look b=some o→r.2.look b=some o:=fun b o e=>by
     obtain⟨M,hm⟩ :=hX e;have:∀ {k:List (Nat×AObj×Bool)},(k.map fun p=>r.2.look p.1) = (k.map fun p=>some p.2.1) →∀p∈k,r.2.look p.1=some p.2.1:=by
      intro k
      induction k with
      |nil=>intro _ p j;cases j
      | cons q k J=>
       intro e p j;simp only [eI,List.cons.injEq]at e;rcases zq7.1 j with rfl|j
       ·exact e.1
       ·exact J e.2 p j
     exact this C _ hm
    intro hm E fr x w f fs K D s;obtain⟨t,G,A,B,F,L,a⟩ :=e hm E fr x w f fs K D s;exact⟨t,G,A,B,F,L.sub u (le_refl _),⟨a.low,a.imm,a.size,a.keep,fun y z I e=>a.own y z I (u y z e),hb,a.os,a.tape,a.output,a.froz,a.immo,fun b o e=>a.keys b o (u b o e)⟩⟩
 ·cases i
def aXc (τ:Nat→Nat) :List (Nat×AObj×Bool) →List (Nat×AObj×Bool)
 | [] =>[]
 |p::r=> (τ p.1,p.2.1.ren τ,false) ::aXc τ r
theorem bGB {l:List (Nat×AObj×Bool)}(h:fG l=True) :fG l:=h.symm ▸ trivial
theorem aDI {f:Nat}{a:List AV}{v v':AV}{l' lc lc':List (Nat×AObj×Bool)}{b n2 n3:Nat}(g:gI P 0 (.enter f a) (aA [] 0) (.ret v) (aA l' b))
  (hb: (cR 0 ⟨⟨0,0,[],[],[],.run,.normal,none⟩,[],[],0⟩ [] &&xM l'&&fU b l'&&fU n2 lc&&fU n3 lc') =true)
  (he: (b-0+n2,ren (kE 0 n2 []) v,renL (fA 0 0 n2 []) a,sQ (aA lc' n3) (kE 0 n2 []) l',aDu (namesT (kE 0 n2 []) l') [] (aA lc n2) lc',qL l') = (n3,v',a,iF (kE 0 n2 []) l',qL lc',(l'.map fun p=> (aA l' b).look p.1)))
  (c:fG l'=True) :Spec P (.enter f a) (aA lc n2) (.ret v') (aA lc' n3) :=by
 simp only [cP]at hb;obtain⟨⟨⟨⟨k,h⟩,i⟩,d⟩,l⟩ :=hb;simp only [Prod.mk.injEq]at he;obtain⟨o,j,n,q,r,e⟩ :=he;refine vD (m:=0) (ks:=[]) g ?_ ?_ trivial (bGB c)
 · simp only [cP];exact⟨⟨⟨⟨⟨⟨⟨rfl,by cases b<;>rfl⟩,k⟩,h⟩,i⟩,d⟩,l⟩,rfl⟩
 · simp only [Prod.mk.injEq];exact⟨o,j,n,rfl,q,r,e⟩
theorem aKj {s i:AS}{b:Bool}{is:List Ins}{ps:List Prop}(hl:Leads P s i)(g: (qZ P is i).map (fun x=> ((wE P x.1).map Prod.fst,x.2)) =some (some (.bool b),ps))(hp:AllP ps) :Ends P 0 s (.ret (.bool b)) (aA [] 0) :=by
 cases hr:qZ P is i with
 |none=>rw [hr]at g;cases g
 | some r=>
  obtain⟨s2,qs⟩ :=r;rw [hr]at g;simp only [Option.map_some,Option.some.injEq,Prod.mk.injEq]at g;obtain⟨d,rfl⟩ :=g;cases k:wE P s2 with
  |none=>rw [k]at d;cases d
  | some u=>
   obtain⟨v,D⟩ :=u;rw [k]at d;simp only [Option.map_some,Option.some.injEq]at d;subst d;have n:LeadsM P 0 s s2:= (hl.toM).trans (gG hr (fun p h=>hp.mem p h));intro hm E fr j w f fs r t c;obtain⟨l,z,m,y,⟨q,rfl,B⟩,A,a⟩ := (n.ends (mY k)) hm E fr j w f fs r t c;refine⟨_,z,m.p,y,⟨q,rfl,?_⟩,aFq A,⟨fun b hb=>absurd hb (Nat.not_lt_zero _),a.imm,a.size,a.keep,fun C G F e=>?_,le_refl _,a.os,a.tape,a.output,a.froz,a.immo,fun b o e=>?_⟩⟩
   ·simpa only [VR]using B
   ·simp [aBG,Hp.look,T.at_leaf]at e
   ·simp [aBG,Hp.look,T.at_leaf]at e
theorem aP5 {h h':Hp}{g:Nat}{us:List (Nat×Nat)}{ts:List (Option XT)}{i:Nat}{u:Nat×Nat}{t:XT}(v:h.look g=some (.zone true [] (ZV us ts)))(Z:us[i]?=some u)(ht:ts[i]?=some (some t))(hn:h'.nb=h.nb+2)
  (hl:∀b o,h'.look b=some o→ (b=h.nb∧o= .zone true [] (ZV us (ts.set i none))) ∨ (b=h.nb+1∧o= .zone true [] (ZV [u] [some t])) ∨ (b≠g∧h.look b=some o)) :kP h h':=fun E w r=>by
 obtain⟨F,X,g2⟩ :=r.obj g _ v;obtain⟨Ls,_,D,C⟩ :=gJ g2;obtain⟨a,F1,f,Q,o2,M,W⟩ :=C.out ht;rw [Z]at Q;cases Q;have j:= (W.nodup_iff).2 D;obtain⟨z,G,l⟩ :=List.nodup_append.1 j
 let E':Emb:= ⟨fun b=>if b=h.nb then some ⟨jD f,0,0⟩else if b=h.nb+1 then some ⟨jD F1,0,0⟩else E b,E.imm⟩
 have A:E' h.nb=some ⟨jD f,0,0⟩ :=if_pos rfl;have I:E' (h.nb+1) =some ⟨jD F1,0,0⟩ :=by simp [E']
 have K:∀ {b},b<h.nb∨h.nb+2≤b→E' b=E b:=fun {b} hb=>by
  simp only [E'];rw [if_neg (by omega),if_neg (by omega)]
 have hgb:=r.keys g _ v;have oz:OR E' w.heap ⟨jD f,0,0⟩ (.zone true [] (ZV us (ts.set i none))) :=uR (Ls:=[]) rfl (OsAt.blk _ us f M) (fun s Y c B=> ⟨G,OsAt.go c _ us f M B⟩);have m:OsAt E.imm w.heap [u] [some t] F1:=by
  simp only [OsAt];exact⟨u,[],F1,[],rfl,by simp,o2,rfl,rfl⟩
 have oh:OR E' w.heap ⟨jD F1,0,0⟩ (.zone true [] (ZV [u] [some t])) :=uR (Ls:=[]) rfl (OsAt.blk _ _ F1 m) (fun s Y c B=> ⟨z,OsAt.go c _ _ F1 m B⟩);have q:∀ {i},i∈F1∨i∈f→i∈jH F.blk:=fun {i} c=> (W.mem_iff).1 (zq28.2 c);have old:∀i,i∈jH F.blk→∃H S J,¬ (fun b=>b≠g) H∧h.look H=some S∧E H=some J∧Own S J i:=fun i c=> ⟨g,_,F,fun n=>n rfl,v,X,c⟩
 obtain ⟨q1,q2,q3⟩ :=r.swap (E':=E') (h':=h') (fun b=>b≠g) (by omega) (fun b hb=>K (.inl hb)) rfl (fun b hb=>by rw [K (by omega)];exact r.fresh b (by omega))
  (fun b o e hb=>by
   have h2:b=g:=Classical.not_not.1 hb;subst h2;rw [v]at e;cases e;exact⟨rfl,rfl⟩)
  (fun b o e=>by
   rcases hl b o e with⟨rfl,rfl⟩ | ⟨rfl,rfl⟩ |d
   ·exact .inr ⟨by omega,rfl,rfl,fun n=>absurd n (by omega),_,A,oz,fun i c=>old i (q (.inr (zone_own.1 c)))⟩
   ·exact .inr ⟨by omega,rfl,rfl,fun n=>absurd n (by omega),_,I,oh,fun i c=>old i (q (.inl (zone_own.1 c)))⟩
   ·exact .inl d)
  (fun b T o V L L' n1 U e O k y p hm=>by
   obtain⟨x,R,N⟩ :=hm;rcases hl b o e with⟨rfl,rfl⟩ | ⟨rfl,rfl⟩ |d
   · rw [A]at k;cases k;rcases hl T V O with⟨rfl,rfl⟩ | ⟨rfl,rfl⟩ |d
     ·exact p rfl
     · rw [I]at y;cases y;exact l x (zone_own.1 N) x (zone_own.1 R) rfl
     ·exact U d
   · rw [I]at k;cases k;rcases hl T V O with⟨rfl,rfl⟩ | ⟨rfl,rfl⟩ |d
     · rw [A]at y;cases y;exact l x (zone_own.1 R) x (zone_own.1 N) rfl
     ·exact p rfl
     ·exact U d
   ·exact n1 d)
 exact⟨E',q1,q2,q3⟩
theorem bBr {i:Type}{m:Nat}{s:AS}{v:AV}{h:Hp}{h1:i→Hp}{h2:Hp}{ok:i→Prop}(e:Ends P m s (.ret v) h)(z:aAN h ok h1)(hm:m≤h.nb)(n:∀x,ok x→kP (h1 x) h2)(c:∀x,m≤ (h1 x).nb) :Ends P m s (.ret v) h2:=fun d E fr g w f fs r j a=>by
 obtain⟨k,b,o,t,⟨F,rfl,D⟩,q,u⟩ :=e d E fr g w f fs r j a;obtain⟨x,p,l,h1,h2,B⟩ :=z o b q;obtain⟨y,G,A,C⟩ :=n x l p b h2;exact⟨_,b,y,t,⟨F,rfl,(D.mono h1).mono G⟩,A,(u.trans (B m hm)).trans (C m (c x))⟩
end
theorem aIf {E:Emb}{v:Value}(h:VR E .nils v) :VR E (.ilst 4 (av []) false) v:=by
 simp only [VR]at h ⊢;subst h;exact⟨[],by simp [av,VRs],fun _ a=>by(cases a),.inl ⟨rfl,none,0,rfl,fun _=>rfl,fun h=>by(cases h)⟩⟩
theorem bBs (op n:Int) :gI PP 0 (.enter 250 [.int .i64 op,.int .i64 n,.nils]) (aA [] 0) (.ret (.ptr 0 0)) (aA (NT (.mk op n [] [])) 2) :=by
 refine⟨(bDK op n).as.fr,by kernel_rfl,?_⟩;have z:kP (aA [(0,(.cells (putCells .leaf 0 [(.int .i64 op),(.int .i64 n),.nils,.nils]) 4 [] false),false)] 1) (aA (NT (.mk op n [] [])) 2) :=
  aVL (h:=aA [(0,(.cells (putCells .leaf 0 [(.int .i64 op),(.int .i64 n),.nils,.nils]) 4 [] false),false)] 1) (h':=aA (NT (.mk op n [] [])) 2) (b:=0) (op:=op) (n:=n) (ps:=[]) (kv:=.nils) (pv:=.nils) aC (fun _ _ h=> ⟨none,by simpa only [VR]using h⟩) (fun _ _ h=>aIf h) (le_refl _)
   (bA ⟨.inr (.inl ⟨rfl,rfl⟩),.inl ⟨rfl,rfl⟩,trivial⟩)
 exact rB (bBp op n) z (zero_le _)
abbrev LT0 (us:List (Nat×Nat))(ts:List (Option XT))(u:Nat×Nat)(tb:XT) :HL:=[(0,(.cells (putCells .leaf 0 [(.int .i64 7),(.int .i64 0),(.gl 1 1 0 ((length [u]) +1) false),.nils]) 4 [] false),false),(1,(.lst 1 (map aV [u] ++ [.ptr 2 0])),false),(2,gh,false),(3,(.zone true [] (ZV us ts)),false),(4,(.zone true [2] (Z1 tb)),false)]
abbrev LT1 (us:List (Nat×Nat))(ts:List (Option XT))(ix:Nat)(u:Nat×Nat)(ta tb:XT) :HL:=[(0,(.cells (putCells .leaf 0 [(.int .i64 7),(.int .i64 0),(.gl 1 1 0 ((length [u]) +1) false),.nils]) 4 [] false),false),(1,(.lst 1 (map aV [u] ++ [.ptr 2 0])),false),(2,gh,false),(4,(.zone true [2] (Z1 tb)),false),(5,(.zone true [] (ZV us (ts.set ix none))),false),(6,(.zone true [] (ZV [u] [some ta])),false)]
abbrev LT2 (us:List (Nat×Nat))(ts:List (Option XT))(ix:Nat)(u:Nat×Nat)(ta tb:XT)(u9:Nat×Nat) :HL:=[(0,(.cells (putCells .leaf 0 [(.int .i64 7),(.int .i64 0),(.gl 1 1 0 ((length [u]) +1) false),.nils]) 4 [] false),false),(1,(.lst 1 (map aV [u,u9])),true),(5,(.zone true [] (ZV us (ts.set ix none))),false),(7,(.zone true [] (ZV [u,u9] [some ta,some tb])),false)]
abbrev LT3 (us:List (Nat×Nat))(ts:List (Option XT))(ix:Nat)(t:XT) :HL:=[(0,gh,false),(5,(.zone true [] (ZV us (ts.set ix none))),false),(8,(.zone true [0] (Z1 t)),false)]
theorem aKk (us:List (Nat×Nat))(ts:List (Option XT))(ix:Nat)(u:Nat×Nat)(c a:XT)(f:us[ix]?=some u)(m:ts[ix]?=some (some c)) :
  gI PP 0 (.enter 248 [aV u,.ptr 1 0]) (aA [(0,(.zone true [] (ZV us ts)),false),(1,gh,false),(2,.zone true [1] (Z1 a),false)] 3) (.ret (.ptr 1 0)) (aA [(0,(.zone true [] (ZV us (ts.set ix none))),false),(1,gh,false),(2,.zone true [1] (Z1 (.mk 7 0 [c,a] [])),false)] 3) :=by
 refine⟨(bDI us ts ix u a).as.fr,by kernel_rfl,?_⟩;have j:kP (aA (LT0 us ts u a) 5) (aA (LT1 us ts ix u c a) 7) :=
  aP5 (h:=aA (LT0 us ts u a) 5) (h':=aA (LT1 us ts ix u c a) 7) (g:=3) (us:=us) (ts:=ts) (i:=ix) (u:=u) (t:=c) aC f m rfl
   (bA ⟨.inr (.inr ⟨by decide,by kernel_rfl⟩),.inr (.inr ⟨by decide,by kernel_rfl⟩),.inr (.inr ⟨by decide,by kernel_rfl⟩),.inr (.inr ⟨by decide,by kernel_rfl⟩),.inl ⟨rfl,rfl⟩,.inr (.inl ⟨rfl,rfl⟩),trivial⟩)
 have l:aAN (aA (LT1 us ts ix u c a) 7) (fun _=>True) (fun d=>aA (LT2 us ts ix u c a d) 8) :=
  aEe (h:=aA (LT1 us ts ix u c a) 7) (h':=fun d=>aA (LT2 us ts ix u c a d) 8) (k:=1) (g:=6) (gz:=4) (z:=2) (us:=[u]) (ts:=[some c]) (t:=a) aC aC aC (by decide) (fun _=>le_refl _)
   (fun d=>bA ⟨.inr (.inr ⟨by decide,by kernel_rfl⟩),.inr (.inl ⟨rfl,rfl⟩),.inr (.inr ⟨by decide,by kernel_rfl⟩),.inl ⟨rfl,rfl⟩,trivial⟩)
 have e:∀d,kP (aA (LT2 us ts ix u c a d) 8) (aA (LT3 us ts ix (.mk 7 0 [c,a] [])) 9) :=fun d=>
  aBP (h:=aA (LT2 us ts ix u c a d) 8) (h':=aA (LT3 us ts ix (.mk 7 0 [c,a] [])) 9) (b:=0) (k:=1) (g:=7) (us:=[u,d]) (op:=7) (n:=0) (ts:=[c,a]) (ps:=[]) (len:= (length [u]) +1) (ex:=false) (pv:=.nils) aC rfl (fun _ _ h=>aIf h) aC aC (le_refl _)
   (bA ⟨.inr (.inl ⟨rfl,rfl⟩),.inr (.inr ⟨by decide,by kernel_rfl⟩),.inl ⟨rfl,rfl⟩,trivial⟩)
 exact gR (ks:=[5,0,8]) (bBr (rB (bBi us ts ix u a) j (zero_le _)) l (zero_le _) (fun d _=>e d) (fun _=>zero_le _)) aC aC aC trivial
theorem aKl (us:List (Nat×Nat)) :AV.keylessL (map aV us) =true:=aH _ (fun _=>rfl) us
theorem bBt :∀ (a:List (Nat×Nat)),a≠ [] →a.length≤1000000→gI PP 1 (.enter 254 [.gl 0 1 0 (length a) false]) (aA [(0,(.lst 1 (map aV a)),true)] 1) (.ret (.gl 1 1 0 (length a) false)) (aA [(0,(.lst 1 (map aV a)),true),(1,(.lst 1 (map aV a)),true)] 2)
 | [],h,_=>absurd rfl h
 |u::a,_,h=> ⟨(bDJ u a).as.fr,by kernel_rfl,bBo u a h⟩
abbrev aP6 (a:Nat)(b c:Int)(d:List XT)(e:List Pat):=oC a [(nI b),(nI c),(.gl 2 1 0 d.length false),(iP e)]
abbrev aEr (a b:Int)(c:List XT)(d:List Pat):=[aP6 1 a b c d,(2,gh,false),(3,(.zone true [2] (cJ c)),false)]
abbrev aRu (a:List (Nat×Nat))(b:List (Option XT))(c:Nat)(d:List (Nat×Nat))(e:List (Option XT))(f:List (Nat×Nat))(g:List XT)(h:XT):List (Nat×AObj×Bool):=[(4,(.zone true [] (ZV a (set b c none))),false),(6,(.zone true [] (ZV d e)),false),(7,(.zone true [] (ZV f (map some g))),false),(8,gh,false),(9,(.zone true [8] (Z1 h)),false)]
abbrev rE (a:List (Nat×Nat))(b:List (Option XT))(c:Nat)(d:List (Nat×Nat))(e:List XT):List (Nat×AObj×Bool):=[(4,(.zone true [] (ZV a (set b c none))),false),(5,(.zone true [] (ZV d (map some e))),false)]
abbrev zK (a:Nat)(b:List (Nat×Nat)):=oL a 1 (map aV b)
abbrev aKm (a b:Int)(c:List XT)(d:List Pat)(e f:List (Nat×Nat))(g:List (Option XT))(h:Nat)(i j:Int)(k:List XT)(l:List Pat)(m:List (Nat×Nat)):=[oC 0 [(nI a),(nI b),(.gl 1 1 0 c.length false),(iP d)],zK 1 e,(2,(.zone true [] (ZV f (set g h none))),false),oC 4 [(nI i),(nI j),(.gl 5 1 0 k.length false),(iP l)],zK 5 m]
abbrev dB (a:Nat)(b:List (Nat×Nat)):=oL a 1 (map aV b)
abbrev aBZ (a b:List (Nat×Nat))(c:List (Option XT))(d:Nat):=[dB 1 a,(2,(.zone true [] (ZV b (set c d none))),false)]
abbrev aRv (a b:Int)(c:List (Nat×Nat))(d:List Pat)(e f:List (Nat×Nat))(g:List (Option XT))(h:Nat)(i:List XT)(j:List (Option XT)):=aA ([oC 0 [(nI a),(nI b),(.gl 2 1 0 c.length false),(iP d)],oC 1 [(nI a),(nI b),(.gl 3 1 0 c.length false),(iP d)],oL 2 1 (map aV c),oL 3 1 (map aV e)]++rE f g h c i++[(6,(.zone true [] (ZV e j)),false)]) 7
abbrev aB0 (a:List (Nat×Nat)):AV:=.gl 3 1 0 a.length false
abbrev aXd (a b c:Int)(d:List (Nat×Nat))(e:List Pat)(f g:List (Nat×Nat))(h:List (Option XT))(i:Nat)(j:List XT)(k:List (Option XT)):=Spec PP (.enter 250 [(nI 4),(nI a),.nils]) (aRv b c d e f g h i j k) (.ret (.ptr 7 0)) (aA ([oC 0 [(nI b),(nI c),(.gl 2 1 0 d.length false),(iP e)],oC 1 [(nI b),(nI c),(aB0 d),(iP e)],zK 2 d,zK 3 f]++rE g h i d j++[(6,(.zone true [] (ZV f k)),false),(7,gh,false),(8,(.zone true [7] (Z1 (XT.mk 4 a [] []))),false)]) 9)
abbrev aXe (a:Nat×Nat)(b c d:Int)(e:List (Nat×Nat))(f:List Pat)(g h:List (Nat×Nat))(i:List (Option XT))(j:Nat)(k:List XT)(l:List (Option XT))(m:XT):=Spec PP (.enter 249 [(aV a),(nI b),(nI 1)]) (aRv c d e f g h i j k l) (.ret (.ptr 8 0)) (aA ([oC 0 [(nI c),(nI d),(.gl 2 1 0 e.length false),(iP f)],oC 1 [(nI c),(nI d),(aB0 e),(iP f)],zK 2 e,zK 3 g]++aRu h i j g l e k m) 10)
abbrev aXf (a b:Int)(c:List XT)(d:List Pat)(e f:List (Nat×Nat))(g:List (Option XT))(h:Nat)(i j:Int)(k:List XT)(l:List Pat)(m:List (Nat×Nat))(n:XT):=aA (aKm a b c d e f g h i j k l m++[(10,(.zone true [] (ZV e (set (map some c) 0 none))),false),(16,(.zone true [] (ZV m (set (set (map some k) 1 none) 0 none))),false),(17,gh,false),(18,(.zone true [17] (Z1 n)),false)]) 19
abbrev aP7 (a b:Int)(c:List XT)(d:List Pat)(e f:List (Nat×Nat))(g:List (Option XT))(h:Nat)(i j:Int)(k:List XT)(l:List Pat)(m:List (Nat×Nat))(n:XT):=aA (aKm a b c d e f g h i j k l m++[(10,(.zone true [] (ZV e (set (map some c) 0 none))),false),(13,(.zone true [] (ZV m (set (map some k) 1 none))),false),(14,gh,false),(15,(.zone true [14] (Z1 n)),false)]) 16
abbrev aP8 (a b:Int)(c:List XT)(d:List Pat)(e f:List (Nat×Nat))(g:List (Option XT))(h:Nat)(i j:Int)(k:List XT)(l:List Pat)(m:List (Nat×Nat))(n:XT):=aA (aKm a b c d e f g h i j k l m++[(9,(.zone true [] (ZV m (map some k))),false),(10,(.zone true [] (ZV e (set (map some c) 0 none))),false),(11,gh,false),(12,(.zone true [11] (Z1 n)),false)]) 13
abbrev jS (a:Nat)(b c:Int)(d:List (Nat×Nat))(e:List Pat):=oC a [(nI b),(nI c),(.gl 2 1 0 d.length false),(iP e)]
abbrev sC (a:Nat)(b c:Int)(d:List (Nat×Nat))(e:List Pat):=oC a [(nI b),(nI c),(aB0 d),(iP e)]
abbrev aGi (a:Nat)(b c:Int)(d:List XT)(e:List Pat):=oC a [(nI b),(nI c),(.gl 1 1 0 d.length false),(iP e)]
abbrev aEs (a:Nat)(b c:Int)(d:List XT)(e:List Pat):=oC a [(nI b),(nI c),(.gl 5 1 0 d.length false),(iP e)]
abbrev rF (a:List (Nat×Nat)):AV:=.gl 2 1 0 a.length false
def bDL(a:List (Nat×Nat))(b:List (Option XT))(f:Nat)(c:Nat×Nat)(g i:Int)(j:List XT)(k:List Pat)(d e:Int)(l:List (Nat×Nat)):TS:=cA PP 253 [(nI d),(aV c),(nI e)] [(0,(.zone true [] (ZV a b)),false)] 1
def aP9(a:List (Nat×Nat))(b:List (Option XT))(f:Nat)(c:Nat×Nat)(g i:Int)(j:List XT)(k:List Pat)(d e:Int)(l:List (Nat×Nat)):TS:=⟨(tf 253 54 [(0,(nI d)),(1,(aV c)),(2,(nI e)),(6,.nilp)] [kc f253 6,kc f253 7]),[],[(0,(.zone true [] (ZV a b)),false)],1⟩
def aEt(c:List (Nat×Nat))(d:List (Option XT))(e:Nat)(l:Nat×Nat)(f g:Int)(a:List XT)(i:List Pat)(j k:Int)(b:List (Nat×Nat)):TS:=⟨(tf 253 54 [(0,(nI j)),kp 1 1,(2,(nI k)),(6,.nilp)] [kc f253 6,kc f253 7]),[],[aP6 1 f g a i,dB 2 b,(5,(.zone true [] (ZV c (set d e none))),false),(6,(.zone true [] (ZV b (map some a))),false)],7⟩
def aQa(e:List (Nat×Nat))(f:List (Option XT))(g:Nat)(l:Nat×Nat)(b c:Int)(i:List XT)(d:List Pat)(j k:Int)(a:List (Nat×Nat)):TS:=⟨(tf 253 54 [(0,(nI j)),kp 1 0,(2,(nI k)),(6,.nilp),kp 7 1] [kc f253 60,kc f253 61,kc f253 31]),[],([jS 0 b c a d,sC 1 b c a d,dB 2 a,dB 3 a]++rE e f g a i),6⟩
def aKn(e:List (Nat×Nat))(f:List (Option XT))(g:Nat)(l:Nat×Nat)(b c:Int)(i:List XT)(d:List Pat)(j k:Int)(a:List (Nat×Nat)):TS:=⟨(tf 253 54 [(0,(nI j)),kp 1 0,(2,(nI k)),(6,.nilp),kp 7 1] [kc f253 60,kc f253 61,kc f253 31]),[],([jS 0 b c a d,sC 1 b c a d,dB 2 a,dB 3 a]++rE e f g a i++[(6,(.zone true [] (ZV a (map (fun _=>none) a))),false)]),7⟩
def yA(f:List (Nat×Nat))(g:List (Option XT))(i:Nat)(o:Nat×Nat)(b c:Int)(j:List XT)(d:List Pat)(k l:Int)(a:List (Nat×Nat))(m:List (Option XT))(n:Int)(e:List (Nat×Nat)):TS:=⟨(tf 253 54 [(0,(nI k)),kp 1 0,(2,(nI l)),(6,.nilp),kp 7 1,(22,(rF a)),(23,(nI (a.length:Int))),(24,(nI n))] [kc f253 244,kl f253 244,.inBlock 0,kc f253 31]),[],([jS 0 b c a d,sC 1 b c a d,dB 2 a,dB 3 e]++rE f g i a j++[(6,(.zone true [] (ZV e m)),false)]),7⟩
def aQb(f:List (Nat×Nat))(g:List (Option XT))(i:Nat)(q:Nat×Nat)(b c:Int)(j:List XT)(d:List Pat)(k l:Int)(a:List (Nat×Nat))(m:Nat)(n:XT)(o:List (Option XT))(p:Int)(e:List (Nat×Nat)):TS:=⟨(tf 253 54 [(0,(nI k)),kp 1 0,(2,(nI l)),(6,.nilp),kp 7 1,(22,(rF a)),(23,(nI (a.length:Int))),(24,(nI p))] [kc f253 1959,kl f253 244,.inBlock 0,kc f253 31]),[],[jS 0 b c a d,sC 1 b c a d,dB 2 a,(3,(.lst 1 ((map aV e).set m (.ptr 4 0))),false),(4,gh,false),(5,(.zone true [4] (Z1 n)),false),(6,(.zone true [] (ZV f (set g i none))),false),(7,(.zone true [] (ZV e o)),false),(8,(.zone true [] (ZV a (map some j))),false)],9⟩
def aEu(i:List (Nat×Nat))(j:List (Option XT))(k:Nat)(r:Nat×Nat)(c d:Int)(l:List XT)(e:List Pat)(m n:Int)(a:List (Nat×Nat))(b:Nat)(o:XT)(p:List (Option XT))(q:Int)(f:List (Nat×Nat))(g:Nat×Nat):TS:=⟨(tf 253 54 [(0,(nI m)),kp 1 0,(2,(nI n)),(6,.nilp),kp 7 1,(22,(rF a)),(23,(nI (a.length:Int))),(24,(nI q))] [kc f253 1959,kl f253 244,.inBlock 0,kc f253 31]),[],[jS 0 c d a e,sC 1 c d a e,dB 2 a,oL 3 1 (map aV (set f b g)),(6,(.zone true [] (ZV i (set j k none))),false),(8,(.zone true [] (ZV a (map some l))),false),(9,(.zone true [] (ZV (set f b g) (set p b (some o)))),false)],10⟩
def aQc(f:List (Nat×Nat))(g:List (Option XT))(i:Nat)(o:Nat×Nat)(b c:Int)(j:List XT)(d:List Pat)(k p:Int)(a:List (Nat×Nat))(l:Nat)(m:XT)(n:List (Option XT))(e:List (Nat×Nat)):TS:=⟨(tf 253 54 [(0,(nI k)),kp 1 0,(6,.nilp),kp 7 1] [kc f253 63]),[],[jS 0 b c a d,sC 1 b c a d,dB 2 a,(3,(.lst 1 ((map aV e).set l (.ptr 4 0))),false),(4,gh,false),(5,(.zone true [4] (Z1 m)),false),(6,(.zone true [] (ZV f (set g i none))),false),(7,(.zone true [] (ZV a (map some j))),false),(8,(.zone true [] (ZV e n)),false)],9⟩
def aEv(i:List (Nat×Nat))(j:List (Option XT))(k:Nat)(p:Nat×Nat)(c d:Int)(l:List XT)(e:List Pat)(m q:Int)(a:List (Nat×Nat))(b:Nat)(n:XT)(o:List (Option XT))(f:List (Nat×Nat))(g:Nat×Nat):TS:=⟨(tf 253 54 [(0,(nI m)),kp 1 0,(6,.nilp),kp 7 1] [kc f253 63]),[],[jS 0 c d a e,sC 1 c d a e,dB 2 a,oL 3 1 (map aV (set f b g)),(6,(.zone true [] (ZV i (set j k none))),false),(7,(.zone true [] (ZV a (map some l))),false),(9,(.zone true [] (ZV (set f b g) (set o b (some n)))),false)],10⟩
def aQd(f:List (Nat×Nat))(g:List (Option XT))(i:Nat)(m:Nat×Nat)(b c:Int)(j:List XT)(d:List Pat)(k n:Int)(a e:List (Nat×Nat))(l:List (Option XT)):TS:=⟨(tf 253 54 [(0,(nI k)),kp 1 0,(6,.nilp),kp 7 1] [kc f253 126,kc f253 127]),[],([jS 0 b c a d,sC 1 b c a d,dB 2 a,dB 3 e]++rE f g i a j++[(6,(.zone true [] (ZV e l)),false)]),7⟩
def aKo(e:List (Nat×Nat))(f:List (Option XT))(g:Nat)(l:Nat×Nat)(b c:Int)(i:List XT)(d:List Pat)(j m:Int)(a n:List (Nat×Nat))(o:List (Option XT))(k:List XT):TS:=⟨(tf 253 54 [(0,(nI j)),kp 1 0,(6,.nilp),kp 7 1] [kc f253 126,kc f253 127]),[],([jS 0 b c a d,(1,gh,false),dB 2 a]++rE e f g a i++[(7,(.zone true [1] (Z1 (XT.mk b c k d))),false)]),8⟩
def aB1(c:List (Nat×Nat))(d:List (Option XT))(a:Nat)(k:Nat×Nat)(e f:Int)(b:List XT)(g:List Pat)(i j:Int)(l:List (Nat×Nat)):TS:=⟨(tf 253 54 [(0,(nI i)),kp 1 1,(2,(nI j)),(6,.nilp)] [kc f253 6,kc f253 7]),[],(aEr e f b g++[(4,(.zone true [1] (eV c (set d a none) a)),false)]),5⟩
theorem aXg (us: (List (Nat×Nat)))(ts: (List (Option XT)))(ix:Nat)(u: (Nat×Nat))(op a:Int)(ks:List XT)(ps:List Pat)(b sz:Int)(c: (List (Nat×Nat)))(d:us[ix]?=some u)(e: (ts)[ix]?=some (some (.mk op a ks ps))) :LeadsM PP 0 (aP9 us ts ix u op a ks ps b sz c).as (aB1 us ts ix u op a ks ps b sz c).as:=
 xZ (j:=1) (v:=aV u) (v':=.ptr 1 0) aC (fun hm=>sS (h:= (aP9 us ts ix u op a ks ps b sz c).as.h) (h':= (aB1 us ts ix u op a ks ps b sz c).as.h) (g:=0) (us:=us) (ts:=ts) (i:=ix) (u:=u) (op:=op) (n:=a) (ks:=ks) (ps:=ps) aC d e rfl (bA ⟨.inl ⟨rfl,rfl⟩,.inr (.inl ⟨rfl,rfl⟩),.inr (.inr (.inl ⟨rfl,rfl⟩)),.inr (.inr (.inr (.inl ⟨rfl,rfl⟩))),trivial⟩) hm) aC aC
def aB2(b:List (Nat×Nat))(c:List (Option XT))(d:Nat)(k:Nat×Nat)(e f:Int)(a:List XT)(g:List Pat)(i j:Int)(l:List (Nat×Nat)):TS:=⟨(tf 253 54 [(0,(nI i)),kp 1 1,(2,(nI j)),(6,.nilp)] [kc f253 6,kc f253 7]),[],(aEr e f a g++[(5,(.zone true [] (ZV b (set c d none))),false)]),6⟩
theorem aXh (us: (List (Nat×Nat)))(ts: (List (Option XT)))(ix:Nat)(u: (Nat×Nat))(op a:Int)(ks:List XT)(ps:List Pat)(b sz:Int)(c: (List (Nat×Nat))) :LeadsM PP 0 (aB1 us ts ix u op a ks ps b sz c).as (aB2 us ts ix u op a ks ps b sz c).as:=
 mG (aCS (h:= (aB1 us ts ix u op a ks ps b sz c).as.h) (h':= (aB2 us ts ix u op a ks ps b sz c).as.h) (g:=4) (Z:= (eV us (set ts ix none) ix)) (Z':= (ZV us (set ts ix none))) (rs:=[1]) (rs':=[]) aC (.inl rfl) (fun _ _ _ _ h=>by rw [if_pos rfl];exact aJx h) (le_refl _) (bA ⟨.inr ⟨by decide,by kernel_rfl⟩,.inr ⟨by decide,by kernel_rfl⟩,.inr ⟨by decide,by kernel_rfl⟩,.inl ⟨rfl,rfl⟩,trivial⟩)) aC aC
theorem aXi (us: (List (Nat×Nat)))(ts: (List (Option XT)))(ix:Nat)(u: (Nat×Nat))(op b:Int)(ks:List XT)(ps:List Pat)(c sz:Int)(d: (List (Nat×Nat))){e:Res}{hf:Hp}(f:ks≠ [])(k:∀a,a.length=ks.length→Ends PP 0 (aEt us ts ix u op b ks ps c sz a).as e hf) :Ends PP 0 (aB2 us ts ix u op b ks ps c sz d).as e hf:=
 mF (t:=fun a=> (aEt us ts ix u op b ks ps c sz a).as) (ok:=fun us=>us.length=ks.length) (xP (h:= (aB2 us ts ix u op b ks ps c sz d).as.h) (h':=fun a=> (aEt us ts ix u op b ks ps c sz a).as.h) (k:=2) (g:=3) (o:=gh) (ts:=ks) aC rfl aC f (fun _=>le_refl _) (fun a=> (bA ⟨.inr (.inr ⟨by decide,by kernel_rfl⟩),.inr (.inl ⟨rfl,rfl⟩),.inr (.inr ⟨by decide,by kernel_rfl⟩),.inl ⟨rfl,rfl⟩,trivial⟩))) (fun a=> ⟨by kernel_rfl,by kernel_rfl⟩) k
theorem bFc (us: (List (Nat×Nat)))(ts: (List (Option XT)))(ix:Nat)(u: (Nat×Nat))(op b:Int)(ks:List XT)(ps:List Pat)(c sz:Int)(a: (List (Nat×Nat))) :LeadsM PP 0 (aQa us ts ix u op b ks ps c sz a).as (aKn us ts ix u op b ks ps c sz a).as:=
 mG (zB (h:= (aQa us ts ix u op b ks ps c sz a).as.h) (h':= (aKn us ts ix u op b ks ps c sz a).as.h) (Z:= (ZV a (map (fun _=>none) a))) (fun _ _=>aZ7) (le_refl _) (bA ⟨.inr aC,.inr aC,.inr aC,.inr aC,.inr aC,.inr aC,.inl ⟨rfl,rfl⟩,trivial⟩)) aC aC
theorem bFd (us: (List (Nat×Nat)))(ts: (List (Option XT)))(ix:Nat)(u: (Nat×Nat))(op m:Int)(ks:List XT)(ps:List Pat)(j sz:Int)(l: (List (Nat×Nat)))(d:Nat)(f:XT)(e: (List (Option XT)))(b:Int)(a: (List (Nat×Nat))){n:Res}{hf:Hp}(o: (e)[d]?=some none)(k:∀c,Ends PP 0 (aEu us ts ix u op m ks ps j sz l d f e b a c).as n hf) :Ends PP 0 (aQb us ts ix u op m ks ps j sz l d f e b a).as n hf:=
 mF (t:= (fun c=> (aEu us ts ix u op m ks ps j sz l d f e b a c).as)) (ok:=fun _=>True) (aJw (h:= (aQb us ts ix u op m ks ps j sz l d f e b a).as.h) (h':=fun c=> (aEu us ts ix u op m ks ps j sz l d f e b a c).as.h) (k:=3) (g:=7) (gz:=5) (z:=4) (us:=a) (ts:=e) (i:=d) (t:=f) aC aC aC o (by decide) (fun _=>le_refl _) (fun c=> (bA ⟨.inr (.inr ⟨by decide,by kernel_rfl⟩),.inr (.inr ⟨by decide,by kernel_rfl⟩),.inr (.inr ⟨by decide,by kernel_rfl⟩),.inr (.inl ⟨rfl,rfl⟩),.inr (.inr ⟨by decide,by kernel_rfl⟩),.inr (.inr ⟨by decide,by kernel_rfl⟩),.inl ⟨rfl,rfl⟩,trivial⟩))) (fun c=> ⟨by kernel_rfl,by kernel_rfl⟩) (fun c _=>k c)
theorem bFe (us: (List (Nat×Nat)))(ts: (List (Option XT)))(ix:Nat)(u: (Nat×Nat))(op l:Int)(ks:List XT)(ps:List Pat)(f sz:Int)(j: (List (Nat×Nat)))(c:Nat)(e:XT)(d: (List (Option XT)))(a: (List (Nat×Nat))){m:Res}{hf:Hp}(n: (d)[c]?=some none)(k:∀b,Ends PP 0 (aEv us ts ix u op l ks ps f sz j c e d a b).as m hf) :Ends PP 0 (aQc us ts ix u op l ks ps f sz j c e d a).as m hf:=
 mF (t:= (fun b=> (aEv us ts ix u op l ks ps f sz j c e d a b).as)) (ok:=fun _=>True) (aJw (h:= (aQc us ts ix u op l ks ps f sz j c e d a).as.h) (h':=fun b=> (aEv us ts ix u op l ks ps f sz j c e d a b).as.h) (k:=3) (g:=8) (gz:=5) (z:=4) (us:=a) (ts:=d) (i:=c) (t:=e) aC aC aC n (by decide) (fun _=>le_refl _) (fun b=> (bA ⟨.inr (.inr ⟨by decide,by kernel_rfl⟩),.inr (.inr ⟨by decide,by kernel_rfl⟩),.inr (.inr ⟨by decide,by kernel_rfl⟩),.inr (.inl ⟨rfl,rfl⟩),.inr (.inr ⟨by decide,by kernel_rfl⟩),.inr (.inr ⟨by decide,by kernel_rfl⟩),.inl ⟨rfl,rfl⟩,trivial⟩))) (fun b=> ⟨by kernel_rfl,by kernel_rfl⟩) (fun b _=>k b)
theorem bFf (us: (List (Nat×Nat)))(ts: (List (Option XT)))(ix:Nat)(u: (Nat×Nat))(op d:Int)(ks:List XT)(ps:List Pat)(f sz:Int)(c: (List (Nat×Nat)))(e: (List (Nat×Nat)))(a:List XT)(hl:c.length=length a) :LeadsM PP 0 (aQd us ts ix u op d ks ps f sz c e (a.map some)).as (aKo us ts ix u op d ks ps f sz c e (a.map some) a).as:=
 mG (aBP (h:= (aQd us ts ix u op d ks ps f sz c e (a.map some)).as.h) (h':= (aKo us ts ix u op d ks ps f sz c e (a.map some) a).as.h) (b:=1) (k:=3) (g:=6) (us:=e) (op:=op) (n:=d) (ts:=a) (ps:=ps) (len:=c.length) (ex:=false) (pv:=.ilst 4 (av ps) false) aC hl (fun _ _ h=>h) aC aC (le_refl _) (bA ⟨.inr (.inr ⟨by decide,by kernel_rfl⟩),.inr (.inl ⟨rfl,rfl⟩),.inr (.inr ⟨by decide,by kernel_rfl⟩),.inr (.inr ⟨by decide,by kernel_rfl⟩),.inr (.inr ⟨by decide,by kernel_rfl⟩),.inl ⟨rfl,rfl⟩,trivial⟩)) aC aC
theorem bBu (us: (List (Nat×Nat)))(ts: (List (Option XT)))(ix:Nat)(u: (Nat×Nat))(op e:Int)(ks:List XT)(ps:List Pat)(h sz:Int)(b: (List (Nat×Nat)))(f: (List (Option XT)))(a:Int)(c: (List (Nat×Nat)))(g: (Nat×Nat))(d:XT)(i: (Nat×Nat))(j:decide (a< ((b.length:Nat) :Int)) =true)(h1:0≤a)(h2:a< ((b.length:Nat) :Int))(l: ((b)[a.toNat]?) =some g)(k: (a != h) =true)(n:aXe g sz op e b ps c us ts ix ks f d)(m: ((c)[a.toNat]?) =some i) :
  LeadsM PP 0 (yA us ts ix u op e ks ps h sz b f a c).as (aQb us ts ix u op e ks ps h sz b a.toNat d f a c).as:=
 lG (n1:=10) (ks:=[0,1,2,3,8,9,4,6,7]) (W:=[some (.cells (putCells .leaf 0 [(nI op),(nI e),(rF b),(iP ps)]) 4 [] false),some (.cells (putCells .leaf 0 [(nI op),(nI e),(aB0 b),(iP ps)]) 4 [] false),some (.lst 1 (map aV b)),some (.lst 1 ((map aV c).set a.toNat (.ptr 8 0))),some gh,some (.zone true [8] (Z1 d)),some (.zone true [] (ZV us (set ts ix none))),some (.zone true [] (ZV c f)),some (.zone true [] (ZV b (map some ks)))]) (wc aC (wc aC (wc aC (wc (zA aC) (wc aC (wc aC (wc aC (wc aC (wc aC wn))))))))) (ps:=[decide (a< ((b.length:Nat) :Int)) =true,0≤a,a< ((b.length:Nat) :Int),(map aV b)[(0+a.toNat)]?=some (aV g),(a != h) =true,aXe g sz op e b ps c us ts ix ks f d,0≤a,a< ((b.length:Nat) :Int),(map aV c)[(0+a.toNat)]?=some (aV i),kT (aV i) 0 [(.ptr 8 0)] =some (ptr 8 0),(AV.gl 3 1 0 b.length false) = (AV.gl 3 1 0 b.length false),(AV.gl 3 1 0 b.length false) = (AV.gl 3 1 0 b.length false),(map aV c).set (0+a.toNat) (.ptr 8 0) = ((map aV c).set a.toNat (.ptr 8 0))]) (is:=[.run 5,.b 25 true,.run 7,.ans (.ix),.ans (.idx (aV g)),.run 9,.b 31 true,.run 1,.reg [.d,.d,.d,.d,.d,.call (.ptr 8 0) (aA ([jS 0 op e b ps,sC 1 op e b ps,dB 2 b,dB 3 c]++aRu us ts ix c f b ks d) 10),.ans (.ix),.st (aV i) (.ptr 8 0)],.lset 3 ((map aV c).set a.toNat (.ptr 8 0)),.run 1]) aC aC ⟨(aH _ (fun _=>rfl) _),trivial⟩ ⟨j,h1,h2,(cU l),k,n,h1,h2,(cU m),rfl,rfl,rfl,(aVN _ _ _)⟩
theorem bBv (us: (List (Nat×Nat)))(ts: (List (Option XT)))(ix:Nat)(u: (Nat×Nat))(op d:Int)(ks:List XT)(ps:List Pat)(b sz:Int)(a: (List (Nat×Nat)))(f: (List (Option XT)))(e:Int)(c: (List (Nat×Nat)))(g: (Nat×Nat))(h:decide (e< ((a.length:Nat) :Int)) =false)(h1:aXd sz op d a ps c us ts ix ks f)(h2:0≤b)(j:b< ((a.length:Nat) :Int))(i: ((c)[b.toNat]?) =some g) :
  LeadsM PP 0 (yA us ts ix u op d ks ps b sz a f e c).as (aQc us ts ix u op d ks ps b sz a b.toNat (XT.mk 4 sz [] []) f c).as:=
 lG (n1:=9) (ks:=[0,1,2,3,7,8,4,5,6]) (W:=[some (.cells (putCells .leaf 0 [(nI op),(nI d),(rF a),(iP ps)]) 4 [] false),some (.cells (putCells .leaf 0 [(nI op),(nI d),(aB0 a),(iP ps)]) 4 [] false),some (.lst 1 (map aV a)),some (.lst 1 ((map aV c).set b.toNat (.ptr 7 0))),some gh,some (.zone true [7] (Z1 (XT.mk 4 sz [] []))),some (.zone true [] (ZV us (set ts ix none))),some (.zone true [] (ZV a (map some ks))),some (.zone true [] (ZV c f))]) (wc aC (wc aC (wc aC (wc (zA aC) (wc aC (wc aC (wc aC (wc aC (wc aC wn))))))))) (ps:=[decide (e< ((a.length:Nat) :Int)) =false,aXd sz op d a ps c us ts ix ks f,0≤b,b< ((a.length:Nat) :Int),(map aV c)[(0+b.toNat)]?=some (aV g),kT (aV g) 0 [(.ptr 7 0)] =some (ptr 7 0),(AV.gl 3 1 0 a.length false) = (AV.gl 3 1 0 a.length false),(AV.gl 3 1 0 a.length false) = (AV.gl 3 1 0 a.length false),(map aV c).set (0+b.toNat) (.ptr 7 0) = ((map aV c).set b.toNat (.ptr 7 0))]) (is:=[.run 5,.b 25 false,.run 3,.reg [.d,.d,.d,.d,.call (.ptr 7 0) (aA ([jS 0 op d a ps,sC 1 op d a ps,dB 2 a,dB 3 c]++rE us ts ix a ks++[(6,(.zone true [] (ZV c f)),false),(7,gh,false),(8,(.zone true [7] (Z1 (XT.mk 4 sz [] []))),false)]) 9),.ans (.ix),.st (aV g) (.ptr 7 0)],.lset 3 ((map aV c).set b.toNat (.ptr 7 0))]) aC aC ⟨(aH _ (fun _=>rfl) _),trivial⟩ ⟨h,h1,h2,j,(cU i),rfl,rfl,rfl,(aVN _ _ _)⟩
def bDM(a:List (Nat×Nat))(b:List (Option XT))(e:Nat)(c:Nat×Nat)(f g:Int)(i:List XT)(j:List Pat)(k l:Int)(m:List XT)(n:List Pat)(d:Int)(o p:List (Nat×Nat)):TS:=cA PP 247 [(.agg []),(aV c),(nI d)] [(0,(.zone true [] (ZV a b)),false)] 1
def aQe(a:List (Nat×Nat))(b:List (Option XT))(e:Nat)(c:Nat×Nat)(f g:Int)(i:List XT)(j:List Pat)(k l:Int)(m:List XT)(n:List Pat)(d:Int)(o p:List (Nat×Nat)):TS:=⟨(tf 247 36 [(1,(aV c)),(2,(nI d)),(6,.nilp)] [kc f247 6,kc f247 7]),[],[(0,(.zone true [] (ZV a b)),false)],1⟩
def aEw(c:List (Nat×Nat))(d:List (Option XT))(e:Nat)(k:Nat×Nat)(f g:Int)(a:List XT)(i:List Pat)(l m:Int)(n:List XT)(o:List Pat)(j:Int)(b p:List (Nat×Nat)):TS:=⟨(tf 247 36 [kp 1 1,(2,(nI j)),(6,.nilp)] [kc f247 6,kc f247 7]),[],[aP6 1 f g a i,dB 2 b,(5,(.zone true [] (ZV c (set d e none))),false),(6,(.zone true [] (ZV b (map some a))),false)],7⟩
def aQf(c:List (Nat×Nat))(d:List (Option XT))(e:Nat)(l:Nat×Nat)(f g:Int)(a:List XT)(i:List Pat)(m n:Int)(o:List XT)(p:List Pat)(j:Int)(b q:List (Nat×Nat))(k:Nat×Nat):TS:=⟨(tf 247 36 [kp 1 0,(2,(nI j)),(6,.nilp),(7,(aV k))] [kc f247 14,kc f247 15]),[],([aGi 0 f g a i]++aBZ b c d e++[(3,(.zone true [] (ZV b (map some a))),false)]),4⟩
def aEx(e:List (Nat×Nat))(f:List (Option XT))(g:Nat)(p:Nat×Nat)(i j:Int)(a:List XT)(k:List Pat)(l m:Int)(b:List XT)(n:List Pat)(o:Int)(c d:List (Nat×Nat))(q:Nat×Nat):TS:=⟨(tf 247 36 [kp 1 0,(2,(nI o)),(6,.nilp),kp 7 4] [kc f247 14,kc f247 15]),[],([aGi 0 i j a k]++aBZ c e f g++[aEs 4 l m b n,dB 5 d,(8,(.zone true [] (ZV c (set (map some a) 0 none))),false),(9,(.zone true [] (ZV d (map some b))),false)]),10⟩
def aB3(c:List (Nat×Nat))(d:List (Option XT))(a:Nat)(j:Nat×Nat)(e f:Int)(b:List XT)(g:List Pat)(k l:Int)(m:List XT)(n:List Pat)(i:Int)(o p:List (Nat×Nat)):TS:=⟨(tf 247 36 [kp 1 1,(2,(nI i)),(6,.nilp)] [kc f247 6,kc f247 7]),[],(aEr e f b g++[(4,(.zone true [1] (eV c (set d a none) a)),false)]),5⟩
theorem aXj (us: (List (Nat×Nat)))(ts: (List (Option XT)))(ix:Nat)(u: (Nat×Nat))(op a:Int)(ks:List XT)(ps:List Pat)(c n2:Int)(d:List XT)(e:List Pat)(sz:Int)(f: (List (Nat×Nat)))(b: (List (Nat×Nat)))(k:us[ix]?=some u)(l: (ts)[ix]?=some (some (.mk op a ks ps))) :LeadsM PP 0 (aQe us ts ix u op a ks ps c n2 d e sz f b).as (aB3 us ts ix u op a ks ps c n2 d e sz f b).as:=
 xZ (j:=1) (v:=aV u) (v':=.ptr 1 0) aC (fun hm=>sS (h:= (aQe us ts ix u op a ks ps c n2 d e sz f b).as.h) (h':= (aB3 us ts ix u op a ks ps c n2 d e sz f b).as.h) (g:=0) (us:=us) (ts:=ts) (i:=ix) (u:=u) (op:=op) (n:=a) (ks:=ks) (ps:=ps) aC k l rfl (bA ⟨.inl ⟨rfl,rfl⟩,.inr (.inl ⟨rfl,rfl⟩),.inr (.inr (.inl ⟨rfl,rfl⟩)),.inr (.inr (.inr (.inl ⟨rfl,rfl⟩))),trivial⟩) hm) aC aC
def aB4(b:List (Nat×Nat))(c:List (Option XT))(d:Nat)(j:Nat×Nat)(e f:Int)(a:List XT)(g:List Pat)(k l:Int)(m:List XT)(n:List Pat)(i:Int)(o p:List (Nat×Nat)):TS:=⟨(tf 247 36 [kp 1 1,(2,(nI i)),(6,.nilp)] [kc f247 6,kc f247 7]),[],(aEr e f a g++[(5,(.zone true [] (ZV b (set c d none))),false)]),6⟩
theorem aXk (us: (List (Nat×Nat)))(ts: (List (Option XT)))(ix:Nat)(u: (Nat×Nat))(op b:Int)(ks:List XT)(ps:List Pat)(c n2:Int)(d:List XT)(e:List Pat)(sz:Int)(f: (List (Nat×Nat)))(a: (List (Nat×Nat))) :LeadsM PP 0 (aB3 us ts ix u op b ks ps c n2 d e sz f a).as (aB4 us ts ix u op b ks ps c n2 d e sz f a).as:=
 mG (aCS (h:= (aB3 us ts ix u op b ks ps c n2 d e sz f a).as.h) (h':= (aB4 us ts ix u op b ks ps c n2 d e sz f a).as.h) (g:=4) (Z:= (eV us (set ts ix none) ix)) (Z':= (ZV us (set ts ix none))) (rs:=[1]) (rs':=[]) aC (.inl rfl) (fun _ _ _ _ h=>by rw [if_pos rfl];exact aJx h) (le_refl _) (bA ⟨.inr ⟨by decide,by kernel_rfl⟩,.inr ⟨by decide,by kernel_rfl⟩,.inr ⟨by decide,by kernel_rfl⟩,.inl ⟨rfl,rfl⟩,trivial⟩)) aC aC
theorem aXl (us: (List (Nat×Nat)))(ts: (List (Option XT)))(ix:Nat)(u: (Nat×Nat))(op c:Int)(ks:List XT)(ps:List Pat)(i n2:Int)(f:List XT)(b:List Pat)(sz:Int)(d: (List (Nat×Nat)))(j: (List (Nat×Nat))){e:Res}{hf:Hp}(l:ks≠ [])(k:∀a,a.length=ks.length→Ends PP 0 (aEw us ts ix u op c ks ps i n2 f b sz a j).as e hf) :Ends PP 0 (aB4 us ts ix u op c ks ps i n2 f b sz d j).as e hf:=
 mF (t:=fun a=> (aEw us ts ix u op c ks ps i n2 f b sz a j).as) (ok:=fun us=>us.length=ks.length) (xP (h:= (aB4 us ts ix u op c ks ps i n2 f b sz d j).as.h) (h':=fun a=> (aEw us ts ix u op c ks ps i n2 f b sz a j).as.h) (k:=2) (g:=3) (o:=gh) (ts:=ks) aC rfl aC l (fun _=>le_refl _) (fun a=> (bA ⟨.inr (.inr ⟨by decide,by kernel_rfl⟩),.inr (.inl ⟨rfl,rfl⟩),.inr (.inr ⟨by decide,by kernel_rfl⟩),.inl ⟨rfl,rfl⟩,trivial⟩))) (fun a=> ⟨by kernel_rfl,by kernel_rfl⟩) k
def aB5(d:List (Nat×Nat))(e:List (Option XT))(f:Nat)(o:Nat×Nat)(g i:Int)(a:List XT)(j:List Pat)(k l:Int)(b:List XT)(m:List Pat)(n:Int)(c p:List (Nat×Nat))(q:Nat×Nat):TS:=⟨(tf 247 36 [kp 1 0,(2,(nI n)),(6,.nilp),kp 7 4] [kc f247 14,kc f247 15]),[],([aGi 0 g i a j]++aBZ c d e f++[aEs 4 k l b m,(5,gh,false),(6,(.zone true [5] (cJ b)),false),(7,(.zone true [4] (eV c (set (map some a) 0 none) 0)),false)]),8⟩
theorem aXm (us: (List (Nat×Nat)))(ts: (List (Option XT)))(ix:Nat)(u: (Nat×Nat))(op f:Int)(ks:List XT)(ps:List Pat)(e n2:Int)(b:List XT)(c:List Pat)(sz:Int)(d: (List (Nat×Nat)))(k: (List (Nat×Nat)))(a: (Nat×Nat))(l:d[0]?=some a)(m: ((map some ks))[0]?=some (some (.mk e n2 b c))) :LeadsM PP 0 (aQf us ts ix u op f ks ps e n2 b c sz d k a).as (aB5 us ts ix u op f ks ps e n2 b c sz d k a).as:=
 xZ (j:=7) (v:=aV a) (v':=.ptr 4 0) aC (fun hm=>sS (h:= (aQf us ts ix u op f ks ps e n2 b c sz d k a).as.h) (h':= (aB5 us ts ix u op f ks ps e n2 b c sz d k a).as.h) (g:=3) (us:=d) (ts:= (map some ks)) (i:=0) (u:=a) (op:=e) (n:=n2) (ks:=b) (ps:=c) aC l m rfl (bA ⟨.inr (.inr (.inr (.inr ⟨by decide,by kernel_rfl⟩))),.inr (.inr (.inr (.inr ⟨by decide,by kernel_rfl⟩))),.inr (.inr (.inr (.inr ⟨by decide,by kernel_rfl⟩))),.inl ⟨rfl,rfl⟩,.inr (.inl ⟨rfl,rfl⟩),.inr (.inr (.inl ⟨rfl,rfl⟩)),.inr (.inr (.inr (.inl ⟨rfl,rfl⟩))),trivial⟩) hm) aC aC
def aB6(d:List (Nat×Nat))(e:List (Option XT))(f:Nat)(o:Nat×Nat)(g i:Int)(a:List XT)(j:List Pat)(k l:Int)(b:List XT)(m:List Pat)(n:Int)(c p:List (Nat×Nat))(q:Nat×Nat):TS:=⟨(tf 247 36 [kp 1 0,(2,(nI n)),(6,.nilp),kp 7 4] [kc f247 14,kc f247 15]),[],([aGi 0 g i a j]++aBZ c d e f++[aEs 4 k l b m,(5,gh,false),(6,(.zone true [5] (cJ b)),false),(8,(.zone true [] (ZV c (set (map some a) 0 none))),false)]),9⟩
def bBw (a:List (Nat×Nat))(b:List (Option XT))(c:Nat)(d:Nat×Nat)(e f:Int)(g:List XT)(i:List Pat)(j k:Int)(l:List (Nat×Nat)):=(tT 0 (bDL a b c d e f g i j k l)<|.W 5 1 [0] (aP9 a b c d e f g i j k l)) tv
def bBx (f:List (Nat×Nat))(g:List (Option XT))(i:Nat)(j:Nat×Nat)(b c:Int)(d:List XT)(e:List Pat)(k l:Int)(a:List (Nat×Nat)):=fun m n=>(tT 0 (aEt f g i j b c d e k l a)<|.i [rn 3,.cset 1 2 (rF a)] [.a (a.length=d.length) (p':=(AV.gl 2 1 0 d.length false) = (rF a)) (fun h=>(cF h.symm))]<|gk 10 (.enter 254 [(rF a)]) [jS 1 b c a e,dB 2 a,(5,(.zone true [] (ZV f (set g i none))),false),(6,(.zone true [] (ZV a (map some d))),false),jS 7 b c a e] 8 (.gl 8 1 0 a.length false) [jS 1 b c a e,dB 2 a,(5,(.zone true [] (ZV f (set g i none))),false),(6,(.zone true [] (ZV a (map some d))),false),jS 7 b c a e,dB 8 a] 9<|.W 5 9 [1,7,2,8,5,6] (aQa f g i j b c d e k l a)) m n ⟨kk,⟨kk,trivial⟩⟩
def bBy (b:List (Nat×Nat))(c:List (Option XT))(d:Nat)(e:Nat×Nat)(f g:Int)(i:List XT)(j:List Pat)(k l:Int)(a:List (Nat×Nat)):=(tT 0 (aKn b c d e f g i j k l a)<|.W 10 7 [0,1,2,3,4,5,6] (yA b c d e f g i j k l a (map (fun _=>none) a) 0 a)) ⟨kk,⟨kk,trivial⟩⟩
def bBz (e:List (Nat×Nat))(f:List (Option XT))(g:Nat)(i:Nat×Nat)(j k:Int)(l:List XT)(m:List Pat)(c n:Int)(b:List (Nat×Nat))(o:List (Option XT))(a:Int)(p:List (Nat×Nat)):=fun d q r s t u v=>(tT 0 (yA e f g i j k l m c n b o a p)<|gd 5 25 (a< (b.length:Int)) (.i [rn 7,.ans (.ix)] [hA (0≤a),hA (a< (b.length:Int))]<|.y fun d:Nat×Nat=>gj aV 0 b a.toNat d<|.b 9 31 (a != c) .x<|gw 5 39 (a+1)<|.W 3 7 [0,1,2,3,4,5,6] (yA e f g i j k l m c n b o (a+1) p)) .x)|>.t q r s d t|>.f u v ⟨kk,⟨kk,trivial⟩⟩
def bBA (c:List (Nat×Nat))(d:List (Option XT))(e:Nat)(f:Nat×Nat)(g i:Int)(j:List XT)(k:List Pat)(l m:Int)(n:List (Nat×Nat))(a:Nat)(o:XT)(p:List (Option XT))(b:Int)(q:List (Nat×Nat))(r:Nat×Nat):=fun s=>(tT 0 (aEu c d e f g i j k l m n a o p b q r)<|gw 2 39 (b+1)<|.W 3 10 [0,1,2,3,6,8,9] (yA c d e f g i j k l m n (set p a (some o)) (b+1) (set q a r))) s ⟨kk,⟨kk,trivial⟩⟩
def bBB (b:List (Nat×Nat))(c:List (Option XT))(d:Nat)(e:Nat×Nat)(f g:Int)(i:List XT)(j:List Pat)(k l:Int)(m:List (Nat×Nat))(a:Nat)(n:XT)(o:List (Option XT))(p:List (Nat×Nat))(q:Nat×Nat):=(tT 0 (aEv b c d e f g i j k l m a n o p q)<|.W 1 10 [0,1,2,3,6,7,9] (aQd b c d e f g i j k l m (set p a q) (set o a (some n)))) ⟨kk,⟨kk,trivial⟩⟩
def bBC (c:List (Nat×Nat))(d:List (Option XT))(e:Nat)(n:Nat×Nat)(f g:Int)(i:List XT)(j:List Pat)(b o:Int)(a p:List (Nat×Nat))(q:List (Option XT))(m:List XT):=fun k l r s t u=>(tT 0 (aKo c d e n f g i j b o a p q m)<|.i [rn 6,.ans (.ix)] [hA (0≤b),hA (b< (a.length:Int))]<|.y fun k:Nat×Nat=>gj aV 0 a b.toNat k<|.y fun l:XT=>gk 0 (.enter 248 [(aV k),(.ptr 1 0)]) [jS 0 f g a j,(1,gh,false),dB 2 a,(4,(.zone true [] (ZV c (set d e none))),false),(5,(.zone true [] (ZV a (map some i))),false),(7,(.zone true [1] (Z1 (XT.mk f g m j))),false)] 8 (.ptr 9 0) [jS 0 f g a j,dB 2 a,(4,(.zone true [] (ZV c (set d e none))),false),(8,(.zone true [] (ZV a (set (map some i) (Int.toNat b) none))),false),(9,gh,false),(10,(.zone true [9] (Z1 l)),false)] 11<|.E 3 11 [9,4,8,10] (.ptr 0 0) [(0,gh,false),(1,(.zone true [] (ZV c (set d e none))),false),(2,(.zone true [] (ZV a (set (map some i) (Int.toNat b) none))),false),(3,(.zone true [0] (Z1 l)),false)] 4) r s k t l u tv
def bBD (a:List (Nat×Nat))(b:List (Option XT))(c:Nat)(d:Nat×Nat)(e f:Int)(g:List XT)(i:List Pat)(j k:Int)(l:List XT)(m:List Pat)(n:Int)(o p:List (Nat×Nat)):=(tT 0 (bDM a b c d e f g i j k l m n o p)<|.W 6 2 [0] (aQe a b c d e f g i j k l m n o p)) tv
def bBE (d:List (Nat×Nat))(e:List (Option XT))(f:Nat)(g:Nat×Nat)(i j:Int)(b:List XT)(k:List Pat)(l m:Int)(n:List XT)(o:List Pat)(p:Int)(c q:List (Nat×Nat)):=fun a r s t=>(tT 0 (aEw d e f g i j b k l m n o p c q)<|.i [rn 5,.ans (.ix)] [hA (0≤ (0:Int)),hA ((0:Int) < ((b.length:Nat) :Int))]<|.y fun a:Nat×Nat=>gj aV 0 c ((0:Int).toNat) a<|.W 3 7 [1,2,5,6] (aQf d e f g i j b k l m n o p c q a)) r s a t ⟨kk,trivial⟩
def bBF (f:List (Nat×Nat))(g:List (Option XT))(i:Nat)(y:Nat×Nat)(j k:Int)(c:List XT)(l:List Pat)(m n:Int)(a:List XT)(o:List Pat)(w:Int)(d b:List (Nat×Nat))(z:Nat×Nat):=fun e p q r s t A B u x C v D F G H I=>(tT 0 (aEx f g i y j k c l m n a o w d b z)<|.y fun e:Nat×Nat=>.y fun p:Nat×Nat=>.y fun q:Nat×Nat=>.y fun r:XT=>.y fun s:XT=>.y fun t:XT=>.i [.regA (rd 4 (.ans (.ix)::.ans (.idx (aV e))::rd 4 (.ans (.ix)::.ans (.idx (aV p))::rd 4 [.ans (.ix),.ans (.idx (aV q)),.d,.call (.ptr 11 0) (aP8 j k c l d f g i m n a o b r),.call (.ptr 14 0) (aP7 j k c l d f g i m n a o b s),.call (.ptr 17 0) (aXf j k c l d f g i m n a o b t),.d]))) [(some (.idx (aV p))),none,(some (.idx (aV e))),none]] [hA (0≤ (0:Int)),hA ((0:Int) < ((a.length:Nat) :Int)),.a (((b)[(0:Int).toNat]?) =some e) (cU (f:=aV)),hA (0≤ (1:Int)),hA ((1:Int) < ((a.length:Nat) :Int)),.a (((b)[(1:Int).toNat]?) =some p) (cU (f:=aV)),hA (0≤ (1:Int)),hA ((1:Int) < ((c.length:Nat) :Int)),.a (((d)[(1:Int).toNat]?) =some q) (cU (f:=aV)),hA (Spec PP (.enter 249 [(aV q),(nI w),(nI 1)]) (aA ([aGi 0 j k c l]++aBZ d f g i++[aEs 4 m n a o,dB 5 b,(8,(.zone true [] (ZV d (set (map some c) 0 none))),false),(9,(.zone true [] (ZV b (map some a))),false)]) 10) (.ret (.ptr 11 0)) (aP8 j k c l d f g i m n a o b r)),hA (Spec PP (.enter 248 [(aV p),(.ptr 11 0)]) (aP8 j k c l d f g i m n a o b r) (.ret (.ptr 14 0)) (aP7 j k c l d f g i m n a o b s)),hA (Spec PP (.enter 248 [(aV e),(.ptr 14 0)]) (aP7 j k c l d f g i m n a o b s) (.ret (.ptr 17 0)) (aXf j k c l d f g i m n a o b t)),hr (aV p),.a (((b)[(1:Int).toNat]?) =some p) (cU (f:=aV)),hr (aV p),.a (((b)[(1:Int).toNat]?) =some p) (cU (f:=aV)),hr (AV.gl 5 1 0 a.length false),hr (AV.gl 5 1 0 a.length false),hr (aV e),.a (((b)[(0:Int).toNat]?) =some e) (cU (f:=aV)),hr (aV e),.a (((b)[(0:Int).toNat]?) =some e) (cU (f:=aV)),hr (aV e),.a (((b)[(0:Int).toNat]?) =some e) (cU (f:=aV)),hr (AV.gl 5 1 0 a.length false),hr (AV.gl 5 1 0 a.length false),hr (AV.gl 5 1 0 a.length false)]<|.E 1 19 [17,2,10,16,18] (.ptr 0 0) [(0,gh,false),(1,(.zone true [] (ZV f (set g i none))),false),(2,(.zone true [] (ZV d (set (map some c) 0 none))),false),(3,(.zone true [] (ZV b (set (set (map some a) 1 none) 0 none))),false),(4,(.zone true [0] (Z1 t)),false)] 5) e p q r s t A B u x C v x D F G H I v v u u u tv
theorem aXn (us: (List (Nat×Nat)))(ts: (List (Option XT)))(ix:Nat)(u: (Nat×Nat))(op c:Int)(ks:List XT)(ps:List Pat)(d n2:Int)(e:List XT)(f:List Pat)(sz:Int)(a: (List (Nat×Nat)))(b: (List (Nat×Nat)))(i: (Nat×Nat)) :LeadsM PP 0 (aB5 us ts ix u op c ks ps d n2 e f sz a b i).as (aB6 us ts ix u op c ks ps d n2 e f sz a b i).as:=
 mG (aCS (h:= (aB5 us ts ix u op c ks ps d n2 e f sz a b i).as.h) (h':= (aB6 us ts ix u op c ks ps d n2 e f sz a b i).as.h) (g:=7) (Z:= (eV a (set (map some ks) 0 none) 0)) (Z':= (ZV a (set (map some ks) 0 none))) (rs:=[4]) (rs':=[]) aC (.inl rfl) (fun _ _ _ _ h=>by rw [if_pos rfl];exact aJx h) (le_refl _) (bA ⟨.inr ⟨by decide,by kernel_rfl⟩,.inr ⟨by decide,by kernel_rfl⟩,.inr ⟨by decide,by kernel_rfl⟩,.inr ⟨by decide,by kernel_rfl⟩,.inr ⟨by decide,by kernel_rfl⟩,.inr ⟨by decide,by kernel_rfl⟩,.inl ⟨rfl,rfl⟩,trivial⟩)) aC aC
theorem aXo (us: (List (Nat×Nat)))(ts: (List (Option XT)))(ix:Nat)(u: (Nat×Nat))(op e:Int)(ks:List XT)(ps:List Pat)(j n2:Int)(a:List XT)(c:List Pat)(sz:Int)(d: (List (Nat×Nat)))(l: (List (Nat×Nat)))(i: (Nat×Nat)){f:Res}{hf:Hp}(m:a≠ [])(k:∀b,b.length=a.length→Ends PP 0 (aEx us ts ix u op e ks ps j n2 a c sz d b i).as f hf) :Ends PP 0 (aB6 us ts ix u op e ks ps j n2 a c sz d l i).as f hf:=
 mF (t:=fun b=> (aEx us ts ix u op e ks ps j n2 a c sz d b i).as) (ok:=fun us=>us.length=a.length) (xP (h:= (aB6 us ts ix u op e ks ps j n2 a c sz d l i).as.h) (h':=fun b=> (aEx us ts ix u op e ks ps j n2 a c sz d b i).as.h) (k:=5) (g:=6) (o:=gh) (ts:=a) aC rfl aC m (fun _=>le_refl _) (fun b=> (bA ⟨.inr (.inr ⟨by decide,by kernel_rfl⟩),.inr (.inr ⟨by decide,by kernel_rfl⟩),.inr (.inr ⟨by decide,by kernel_rfl⟩),.inr (.inr ⟨by decide,by kernel_rfl⟩),.inr (.inl ⟨rfl,rfl⟩),.inr (.inr ⟨by decide,by kernel_rfl⟩),.inl ⟨rfl,rfl⟩,trivial⟩))) (fun b=> ⟨by kernel_rfl,by kernel_rfl⟩) k
def dnT (sz:Int)(k:Nat)(o n:Int)(ks:List XT)(ps:List Pat)(x:XT) :XT:=.mk 7 0 [x,.mk o n ((ks.map (rD sz 1)).set k (.mk 4 sz [] [])) ps] []
abbrev DNr (us:List (Nat×Nat))(ts:List (Option XT))(ix:Nat)(t:XT) :HL:=[(0,(.zone true [] (ZV us (ts.set ix none))),false),(1,gh,false),(2,.zone true [1] (Z1 t),false)]
section
variable (us :List (Nat×Nat)) (ts:List (Option XT)) (ix:Nat) (u:Nat×Nat) (op nn:Int) (ks:List XT) (ps:List Pat) (k:Nat) (sz:Int)
theorem bFg (x:XT)(d:ks[k]?=some x)(a:List (Nat×Nat))(b:a.length=ks.length)(hl:ks.length<1000000)(w:List (Nat×Nat))(rs:List (Option XT))(r:w.length=ks.length)(hr:rs.length=ks.length)
  (o:∀j t,ks[j]?=some t→rs[j]?=some (if j≠k then some (rD sz 1 t)else none)) :
  Ends PP 0 (yA us ts ix u op nn ks ps (k:Int) sz a rs ((ks.length:Nat) :Int) w).as (.ret (.ptr 1 0)) (aA (DNr us ts ix (dnT sz k op nn ks ps x)) 3) :=by
 have hk:k<ks.length:= (zq0.1 d).1;obtain⟨q,p⟩ :=eO r hk;obtain⟨l,f⟩ :=eO b hk;have g: ((k:Nat) :Int).toNat=k:=kZ k;refine(bBv us ts ix u op nn ks ps (k:Int) sz a rs _ w q sd (vD (m:=0) (ks:=[]) (bBs 4 sz) aC aC trivial trivial) sd sd sd).ends ?_;refine bFe us ts ix u op nn ks ps (k:Int) sz a _ _ rs w (by rw [g,o k x d];simp) fun i=>?_;refine(bBB us ts ix u op nn ks ps (k:Int) sz a _ _ rs w i).ends ?_;rw [g];have c:rs.set k (some (.mk 4 sz [] [])) =map some ((ks.map (rD sz 1)).set k (.mk 4 sz [] [])) :=by
  apply List.ext_getElem?;intro j;rw [rM,getElem?_set,getElem?_set,lB];by_cases h:k=j
  ·subst h;simp [hk,hr]
  · rw [if_neg h,if_neg h,rM];cases n:ks[j]? with
    |none=>rw [aEQ (by rw [List.getElem?_eq_none_iff]at n;omega)];rfl
    |some t=>rw [o j t n,if_pos (fun e=>h e.symm)];rfl
 rw [c];refine(bFf us ts ix u op nn ks ps (k:Int) sz a _ _ (by simp [b])).ends ?_
 have:=bBC us ts ix u op nn ks ps (k:Int) sz a (w.set k i) (((ks.map (rD sz 1)).set k (.mk 4 sz [] [])).map some) ((ks.map (rD sz 1)).set k (.mk 4 sz [] [])) l (dnT sz k op nn ks ps x) sd sd sd
  (vD (m:=0) (ks:=[5,1,7]) (aKk a (ks.map some) k l x (.mk op nn ((ks.map (rD sz 1)).set k (.mk 4 sz [] [])) ps) f (by rw [rM,d];rfl)) aC aC trivial trivial)
 exact gR (ks:=[1,0,3]) this aC aC aC trivial
theorem aKp (x:XT)(q:ks[k]?=some x)(b:List (Nat×Nat))(c:b.length=ks.length)(hl:ks.length<1000000)(f:aKi ks) :∀ (o:List XT) (i:Nat) (w:List (Nat×Nat)) (a:List (Option XT)),ks.drop i=o→i≤ks.length→w.length=ks.length→a.length=ks.length →
  (∀j t,ks[j]?=some t→a[j]?=some (if j<i∧j≠k then some (rD sz 1 t)else none)) →
  Ends PP 0 (yA us ts ix u op nn ks ps (k:Int) sz b a (i:Int) w).as (.ret (.ptr 1 0)) (aA (DNr us ts ix (dnT sz k op nn ks ps x)) 3)
 | [],i,w,a,h,B,g,hr,l=>by
  have:=bL h;have e:i=ks.length:=by omega
  subst e;exact bFg us ts ix u op nn ks ps k sz x q b c hl w a g hr (fun j t d=>by rw [l j t d];have:= (zq0.1 d).1;simp [this])
 | t ::o,i,w,a,h,B,g,hr,l=>by
  obtain⟨n,A,v⟩ :=bI h;obtain⟨p,s⟩ :=eO c v;obtain⟨D,C⟩ :=eO g v;by_cases hk:i=k
  · refine(bBz us ts ix u op nn ks ps (k:Int) sz b a (i:Int) w p sd sd sd sd (by simp [hk]) sd).ends ?_;refine aKp x q b c hl f o (i+1) w a A (by omega) g hr (fun j r d=>?_);rw [l j r d];have: (j<i∧j≠k) ↔ (j<i+1∧j≠k) :=by omega
    simp only [this]
  · have hm:OkT t:=okTs_iff.1 f t (kS n)
    refine(bBu us ts ix u op nn ks ps (k:Int) sz b a (i:Int) w p (rD sz 1 t) D sd sd sd sd (by simp;omega)
     (vD (m:=0) (ks:=[5]) (aRt sz t hm b (ks.map some) i p s (by rw [rM,n];rfl)) aC aC trivial trivial) sd).ends ?_
    have z: ((i:Nat) :Int).toNat=i:=kZ i;refine bFd us ts ix u op nn ks ps (k:Int) sz b _ _ a (i:Int) w (by rw [z,l i t n];simp) fun y=>?_;refine(bBA us ts ix u op nn ks ps (k:Int) sz b _ _ a (i:Int) w y sd).ends ?_;rw [z];refine aKp x q b c hl f o (i+1) (w.set i y) (a.set i (some (rD sz 1 t))) A (by omega) (by simp [g]) (by simp [hr]) (fun j r d=>?_);rw [getElem?_set];by_cases e:i=j
    · subst e;rw [n]at d;cases d;rw [if_pos rfl,if_pos (by omega),if_pos ⟨by omega,hk⟩]
    · rw [if_neg e,l j r d];have: (j<i∧j≠k) ↔ (j<i+1∧j≠k) :=by omega
      simp only [this]
theorem bBG (x:XT)(g:ks[k]?=some x)(i:us[ix]?=some u)(n:ts[ix]?=some (some (.mk op nn ks ps)))(d:OkT (.mk op nn ks ps)) :
  gI PP 0 (.enter 253 [.int .i64 (k:Int),aV u,.int .i64 sz]) (aA [(0,(.zone true [] (ZV us ts)),false)] 1) (.ret (.ptr 1 0)) (aA (DNr us ts ix (dnT sz k op nn ks ps x)) 3) :=by
 simp only [OkT]at d;obtain⟨_,hl,c⟩ :=d;have hk:k<ks.length:= (zq0.1 g).1;have f:ks≠ [] :=fun e=>by subst e;simp at hk
 refine⟨(bDL us ts ix u op nn ks ps (k:Int) sz []).as.fr,by kernel_rfl,?_⟩;refine((bBw us ts ix u op nn ks ps (k:Int) sz []).trans ((aXg us ts ix u op nn ks ps (k:Int) sz [] i n).trans (aXh us ts ix u op nn ks ps (k:Int) sz []))).ends (aXi us ts ix u op nn ks ps (k:Int) sz [] f fun b a=>?_);refine((bBx us ts ix u op nn ks ps (k:Int) sz b a (vD (m:=1) (ks:=[2]) (bBt b (fun e=>by subst e;simp at a;omega) (by omega)) aC aC ⟨aKl _,trivial⟩ ⟨aKl _,aKl _,trivial⟩)).trans ((bFc us ts ix u op nn ks ps (k:Int) sz b).trans (bBy us ts ix u op nn ks ps (k:Int) sz b))).ends ?_;refine aKp us ts ix u op nn ks ps k sz x g b a hl c ks 0 b _ rfl (zero_le _) a (by simp [a]) (fun j t l=>?_);obtain⟨y,h⟩ :=eO a (zq0.1 l).1;rw [rM,h];simp
end
def neT (sz:Int)(a b c:XT) :XT:=.mk 7 0 [a,.mk 7 0 [b,rD sz 1 c] []] []
theorem bBH (us:List (Nat×Nat))(ts:List (Option XT))(ix:Nat)(u:Nat×Nat)(op g:Int)(ks:List XT)(ps:List Pat)(h n2:Int)(d:List XT)(f:List Pat)(sz:Int)(a b c:XT)(G:ks[0]?=some (.mk h n2 d f))(hc:ks[1]?=some c)(D:d[0]?=some a)(hb:d[1]?=some b)(hm:OkT c)(F:us[ix]?=some u)(H:ts[ix]?=some (some (.mk op g ks ps))) :
  gI PP 0 (.enter 247 [.agg [],aV u,.int .i64 sz]) (aA [(0,(.zone true [] (ZV us ts)),false)] 1) (.ret (.ptr 1 0)) (aA (DNr us ts ix (neT sz a b c)) 3) :=by
 have q:1<ks.length:= (zq0.1 hc).1;have l:1<d.length:= (zq0.1 hb).1;have x:ks≠ [] :=fun e=>by subst e;simp at q
 have j:d≠ [] :=fun e=>by subst e;simp at l
 refine⟨(bDM us ts ix u op g ks ps h n2 d f sz [] []).as.fr,by kernel_rfl,?_⟩;refine((bBD us ts ix u op g ks ps h n2 d f sz [] []).trans ((aXj us ts ix u op g ks ps h n2 d f sz [] [] F H).trans (aXk us ts ix u op g ks ps h n2 d f sz [] []))).ends (aXl us ts ix u op g ks ps h n2 d f sz [] [] x fun i s=>?_);obtain⟨k,p⟩ :=eO s (show 0<ks.length by omega);obtain⟨C,r⟩ :=eO s q;refine((bBE us ts ix u op g ks ps h n2 d f sz i [] k (by omega) (by omega) p).trans ((aXm us ts ix u op g ks ps h n2 d f sz i [] k p (by rw [rM,G];rfl)).trans (aXn us ts ix u op g ks ps h n2 d f sz i [] k))).ends (aXo us ts ix u op g ks ps h n2 d f sz i [] k j fun z o=>?_);obtain⟨B,n⟩ :=eO o (show 0<d.length by omega);obtain⟨A,t⟩ :=eO o l;have y: ((ks.map some).set 0 none)[1]?=some (some c) :=by rw [getElem?_set,if_neg (by omega),rM,hc];rfl
 have v: (d.map some)[1]?=some (some b) :=by rw [rM,hb];rfl
 have w: ((d.map some).set 1 none)[0]?=some (some a) :=by rw [getElem?_set,if_neg (by omega),rM,D];rfl
 have:=bBF us ts ix u op g ks ps h n2 d f sz i z k B A C (rD sz 1 c) (.mk 7 0 [b,rD sz 1 c] []) (neT sz a b c) (by omega) (by omega) n (by omega) (by omega) t (by omega) r
  (vD (m:=0) (ks:=[8]) (aRt sz c hm i ((ks.map some).set 0 none) 1 C r y) aC aC trivial trivial)
  (vD (m:=0) (ks:=[9,11,12]) (aKk z (d.map some) 1 A b (rD sz 1 c) t v) aC aC trivial trivial)
  (vD (m:=0) (ks:=[13,14,15]) (aKk z ((d.map some).set 1 none) 0 B a (.mk 7 0 [b,rD sz 1 c] []) n w) aC aC trivial trivial)
 exact gR (ks:=[1,0,4]) this aC aC aC trivial
end
end Go.Hb
