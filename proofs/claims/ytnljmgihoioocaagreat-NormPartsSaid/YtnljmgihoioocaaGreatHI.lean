/- A machine on abstract values, its soundness, ways, plain laws. -/
import Derived.Test.YtnljmgihoioocaaGreatHF
import Derived.Test.YtnljmgihoioocaaGreatHG
import Derived.Test.YtnljmgihoioocaaGreatHH
set_option linter.defProp false
set_option linter.unusedVariables false
set_option linter.unusedSimpArgs false
set_option linter.unusedSectionVars false
set_option maxRecDepth 100000
namespace Go.Hb
open AV (ptr ren renL)
open List (drop getElem?_set length map nodup_nil set take)
open Nat (ble le_refl zero_le)
open Pats (av)
open Go.Proofs Tryz
noncomputable section
abbrev aQ4 (a:Nat)(b c:Int)(d:List XT)(e:List Pat):=oC a [(nI b),(nI c),(.gl 3 1 0 d.length false),(iP e)]
abbrev oI (a:Nat)(b:List (Nat×Nat)):=oL a 1 (map aU b)
abbrev zZ (a b:List (Nat×Nat))(c:List (Option XT))(d:Nat)(e f:Int)(g:List XT)(h:List Pat):=[oI 4 a,(5,(.zone true [6] (eY b (set c d none) d)),false),aQ4 6 e f g h]
abbrev aSB (a b c d:Int)(e:List (Nat×Nat))(f:List Pat)(g h:List (Nat×Nat))(i:List (Option XT))(j:Nat)(k:Int)(l:List XT)(m:List (Option XT)):=[oC 0 [(nI a)],oC 1 [(nI b)],oC 2 [(nI c),(nI d),(.gl 4 1 0 e.length false),(iP f)],oL 3 1 (map aU g),oL 4 1 (map aU e),(5,(.zone true [6] (eY h (set i j none) j)),false),oC 6 [(nI c),(nI k),(.gl 3 1 0 l.length false),(iP f)],(8,(.zone true [] (ZV e m)),false)]
abbrev aQ5 (a:Nat):=oL a 1 (map aU ([] :List (Nat×Nat)))
abbrev bGA:AV:=.gl 5 1 0 ([] :List (Nat×Nat)).length false
abbrev aSC (a b c d:Int)(e:List XT)(f:List Pat)(g:Int)(h:List (Nat×Nat))(i:List (Option XT))(j:Nat):=[oC 0 [(nI a)],oC 1 [(nI b)],oC 2 [(nI c),(nI d),(.gl 4 1 0 e.length false),(iP f)],oC 3 [(nI c),(nI g),bGA,(iP f)],(4,gh,false),aQ5 5,(6,(.zone true [2] (eY h (set i j none) j)),false),(7,(.zone true [4] (cQ e)),false)]
abbrev aE2 (a:Nat)(b c:Int)(d:List (Nat×Nat))(e:List Pat):=oC a [(nI b),(nI c),(.gl 2 1 0 d.length false),(iP e)]
abbrev aX1 (a:Nat×Nat)(b c d e:Int)(f:List (Nat×Nat))(g:List Pat)(h i:List (Nat×Nat))(j:List (Option XT))(k:Nat)(l:Int)(m:List XT)(n:List (Option XT))(o:XT):=Spec PP (.enter 251 [(aU a),(.func 252 [] [(.ptr 0 0),(.ptr 1 0)])]) (aA (aSB b c d e f g h i j k l m n++[(9,(.zone true [] (ZV h (map some m))),false)]) 11) (.ret (.ptr 12 0)) (aA (aSB b c d e f g h i j k l m n++[(11,(.zone true [] (ZV h (map some m))),false),(12,gh,false),(13,(.zone true [12] (Z1 o)),false)]) 14)
abbrev aX2 (a:Prog)(b c d:Int)(e:List (Nat×Nat))(f:List Pat)(g:List (Option XT))(h:XT):=Spec PP (.enter 91 [(Prog.av a),(nI b)]) (aA [oC 0 [(iN a.nodes),(iI a.funs),(nI a.main),(iC a.cons)],aE2 1 c d e f,oL 2 1 (map aU e),(3,(.zone true [] (ZV e g)),false)] 5) (.ret (.ptr 5 0)) (aA [oC 0 [(iN a.nodes),(iI a.funs),(nI a.main),(iC a.cons)],aE2 1 c d e f,oL 2 1 (map aU e),(3,(.zone true [] (ZV e g)),false),(5,gh,false),(6,(.zone true [5] (Z1 h)),false)] 7)
abbrev aDr (a:Nat)(b:Prog):=oC a [(iN b.nodes),(iI b.funs),(nI b.main),(iC b.cons)]
abbrev aDs (a:Nat)(b c:Int)(d:List (Nat×Nat))(e:List Pat):=oC a [(nI b),(nI c),(.gl 4 1 0 d.length false),(iP e)]
abbrev aQ6:AV:=.gl 3 1 0 ([] :List (Nat×Nat)).length false
abbrev aK0:AV:=.gl 8 1 0 ([] :List (Nat×Nat)).length false
abbrev rR (a:List XT):AV:=.gl 3 1 0 a.length false
def bE9(a:Prog)(b:Int):TS:=cO PP 91 [(Prog.av a),(nI b)] [] 0
def aQ7(a:Prog)(j b c:Int)(d:List Int)(e:List Pat)(f g:Int)(i:List Pat):TS:=⟨(tf 91 44 [kp 2 0,(4,.nilp),kp 5 1,kp 6 2] [kc f91 60,kc f91 61,kc f91 31]),[],[aDr 0 a,oC 1 [(nI b),(nI c),(iI d),(iP e)],oC 2 [(nI f),(nI g),aQ6,(iP i)],aQ5 3],4⟩
def aK1(a:Prog)(j b c:Int)(d:List Int)(e:List Pat)(f g:Int)(i:List Pat):TS:=⟨(tf 91 44 [kp 2 0,(4,.nilp),kp 5 1,kp 6 2] [kc f91 60,kc f91 61,kc f91 31]),[],[aDr 0 a,oC 1 [(nI b),(nI c),(iI d),(iP e)],oC 2 [(nI f),(nI g),aQ6,(iP i)],aQ5 3,(4,(.zone true [] (ZV ([] :List (Nat×Nat)) ([] :List (Option XT)))),false)],5⟩
def aGQ(a:Prog)(k:Int)(c:List Int)(d e f:Int)(g:List Pat)(i:Int)(b:List (Nat×Nat))(j:List (Option XT)):TS:=⟨(tf 91 44 [kp 2 0,(4,.nilp),kp 6 1,(24,(iI c)),(25,(nI d)),(26,(nI i))] [kc f91 244,kl f91 244,.inBlock 0,kc f91 31]),[],[aDr 0 a,aE2 1 e f b g,oI 2 b,(3,(.zone true [] (ZV b j)),false)],4⟩
def aQ8(a:Prog)(l:Int)(c:List Int)(d e f:Int)(g:List Pat)(i:XT)(j:Int)(b:List (Nat×Nat))(k:List (Option XT)):TS:=⟨(tf 91 44 [kp 2 0,(4,.nilp),kp 6 1,(24,(iI c)),(25,(nI d)),(26,(nI j))] [kc f91 1959,kl f91 244,.inBlock 0,kc f91 31]),[],[aDr 0 a,oC 1 [(nI e),(nI f),(.gl 2 1 0 (b.length+1) false),(iP g)],(2,(.lst 1 (map aU b++ [.ptr 3 0])),false),(3,gh,false),(4,(.zone true [3] (Z1 i)),false),(5,(.zone true [] (ZV b k)),false)],6⟩
def aE3(a:Prog)(m:Int)(d:List Int)(e f g:Int)(i:List Pat)(j:XT)(k:Int)(b:List (Nat×Nat))(l:List (Option XT))(c:Nat×Nat):TS:=⟨(tf 91 44 [kp 2 0,(4,.nilp),kp 6 1,(24,(iI d)),(25,(nI e)),(26,(nI k))] [kc f91 1959,kl f91 244,.inBlock 0,kc f91 31]),[],[aDr 0 a,oC 1 [(nI f),(nI g),(.gl 2 1 0 (b++ [c]).length false),(iP i)],oL 2 1 (map aU (b++ [c])),(6,(.zone true [] (ZV (b++ [c]) (l++ [some j]))),false)],7⟩
theorem bB1 (p:Prog)(k:Int)(e:List Int)(h b c:Int)(f:List Pat)(d:Int)(a: (List (Nat×Nat)))(i: (List (Option XT)))(j:Int)(g:XT)(n:decide (d<h) =true)(h1:0≤d)(h2: ((e)[d.toNat]?) =some j)(l:aX2 p j b c a f i g)(m:a.length+1≤1000000) :
  LeadsM PP 0 (aGQ p k e h b c f d a i).as (aQ8 p k e h b c f g d a i).as:=
 lK (n1:=8) (ks:=[0,1,7,5,6,3]) (W:=[some (.cells (putCells .leaf 0 [(iN p.nodes),(iI p.funs),(nI p.main),(iC p.cons)]) 4 [] false),some (.cells (putCells .leaf 0 [(nI b),(nI c),(.gl 7 1 0 (a.length+1) false),(iP f)]) 4 [] false),some (.lst 1 (map aU a++ [.ptr 5 0])),some gh,some (.zone true [5] (Z1 g)),some (.zone true [] (ZV a i))]) (wc aC (wc aC (wc (aB5 aC) (wc aC (wc aC (wc aC wn)))))) (ps:=[decide (d<h) =true,0≤d,(jI e)[d.toNat]?=some (bU j),aX2 p j b c a f i g,0+a.length≤length (map aU a),a.length+1≤1000000,take a.length (drop 0 (map aU a)) ++ [ptr 5 0] = (map aU a++ [.ptr 5 0]),a.length+length [ptr 5 0] =a.length+1,(AV.gl 2 1 0 a.length false) = (AV.gl 2 1 0 a.length false),(AV.gl 2 1 0 a.length false) = (AV.gl 2 1 0 a.length false)]) (is:=[.run 5,.b 27 true,.run 6,.ans (.idx (bU j)),.run 3,.reg [.d,.d,.d,.d,.d,.d,.d,.call (.ptr 5 0) (aA [aDr 0 p,aE2 1 b c a f,oI 2 a,(3,(.zone true [] (ZV a i)),false),(5,gh,false),(6,(.zone true [5] (Z1 g)),false)] 7),.d,.app (map aU a++ [.ptr 5 0]) (a.length+1),.d,.d,.d],.run 1]) aC aC trivial ⟨n,h1,(bP h2),l,aGv,m,aPZ,aP0,rfl,rfl⟩
def bFa(a b:Int)(c:List (Nat×Nat))(d:List (Option XT))(f:Nat)(e:Nat×Nat)(g i:Int)(j:List XT)(k:List Pat):TS:=cO PP 251 [(aU e),(.func 252 [] [(.ptr 0 0),(.ptr 1 0)])] [oC 0 [(nI a)],oC 1 [(nI b)],(2,(.zone true [] (ZV c d)),false)] 3
def aQ9(a b:Int)(c:List (Nat×Nat))(d:List (Option XT))(f:Nat)(e:Nat×Nat)(g i:Int)(j:List XT)(k:List Pat):TS:=⟨(tf 251 66 [(0,(aU e)),(1,(.func 252 [] [(.ptr 0 0),(.ptr 1 0)]))] [kc f251 2,kc f251 3]),[],[oC 0 [(nI a)],oC 1 [(nI b)],(2,(.zone true [] (ZV c d)),false)],3⟩
def aE4(c d:Int)(e:List (Nat×Nat))(f:List (Option XT))(a:Nat)(k:Nat×Nat)(g i:Int)(b:List XT)(j:List Pat):TS:=⟨(tf 251 66 [kp 0 3,(1,(.func 252 [] [(.ptr 0 0),(.ptr 1 0)]))] [kc f251 2,kc f251 3]),[],[oC 0 [(nI c)],oC 1 [(nI d)],oC 3 [(nI g),(nI i),(.gl 4 1 0 b.length false),(iP j)],(4,gh,false),(5,(.zone true [4] (cQ b)),false),(6,(.zone true [3] (eY e (set f a none) a)),false)],7⟩
def aA8(e f:Int)(g:List (Nat×Nat))(i:List (Option XT))(a:Nat)(l:Nat×Nat)(b j:Int)(c:List XT)(d:List Pat)(k:Int):TS:=⟨(tf 251 66 [kp 0 2,(1,(.func 252 [] [(.ptr 0 0),(.ptr 1 0)])),(4,.nilp),kp 5 3] [kc f251 60,kc f251 61,kc f251 31]),[],(aSC e f b j c d k g i a),8⟩
def aK2(e f:Int)(g:List (Nat×Nat))(i:List (Option XT))(a:Nat)(l:Nat×Nat)(b j:Int)(c:List XT)(d:List Pat)(k:Int):TS:=⟨(tf 251 66 [kp 0 2,(1,(.func 252 [] [(.ptr 0 0),(.ptr 1 0)])),(4,.nilp),kp 5 3] [kc f251 60,kc f251 61,kc f251 31]),[],(aSC e f b j c d k g i a++[(8,(.zone true [] (ZV ([] :List (Nat×Nat)) ([] :List (Option XT)))),false)]),9⟩
def aK3(f g:Int)(i:List (Nat×Nat))(j:List (Option XT))(c:Nat)(o:Nat×Nat)(d k:Int)(a:List XT)(e:List Pat)(l m:Int)(b:List (Nat×Nat))(n:List (Option XT)):TS:=⟨(tf 251 66 [(1,(.func 252 [] [(.ptr 0 0),(.ptr 1 0)])),(4,.nilp),kp 5 2,(46,(rR a)),(47,(nI (a.length:Int))),(48,(nI m))] [kc f251 244,kl f251 244,.inBlock 0,kc f251 31]),[],([oC 0 [(nI f)],oC 1 [(nI g)],aDs 2 d l b e,(3,gh,false)]++zZ b i j c d k a e++[(7,(.zone true [3] (cQ a)),false),(8,(.zone true [] (ZV b n)),false)]),9⟩
def aRa(f g:Int)(i:List (Nat×Nat))(j:List (Option XT))(c:Nat)(o:Nat×Nat)(d k:Int)(a:List XT)(e:List Pat)(l m:Int)(b:List (Nat×Nat))(n:List (Option XT)):TS:=⟨(tf 251 66 [(1,(.func 252 [] [(.ptr 0 0),(.ptr 1 0)])),(4,.nilp),kp 5 2,(46,(rR a)),(47,(nI (a.length:Int))),(48,(nI m))] [kc f251 7832,kc f251 7833,.inBlock 1,kc f251 1959,kl f251 244,.inBlock 0,kc f251 31]),[],([oC 0 [(nI f)],oC 1 [(nI g)],aDs 2 d l b e,(3,gh,false)]++zZ b i j c d k a e++[(7,(.zone true [3] (cQ a)),false),(8,(.zone true [] (ZV b n)),false)]),9⟩
def aE5(g i:Int)(j:List (Nat×Nat))(k:List (Option XT))(c:Nat)(p:Nat×Nat)(d l:Int)(a:List XT)(e:List Pat)(m n:Int)(b:List (Nat×Nat))(o:List (Option XT))(f:List (Nat×Nat)):TS:=⟨(tf 251 66 [(1,(.func 252 [] [(.ptr 0 0),(.ptr 1 0)])),(4,.nilp),kp 5 2,(46,(rR a)),(47,(nI (a.length:Int))),(48,(nI n))] [kc f251 7832,kc f251 7833,.inBlock 1,kc f251 1959,kl f251 244,.inBlock 0,kc f251 31]),[],([oC 0 [(nI g)],oC 1 [(nI i)],aDs 2 d m b e,oI 3 f]++zZ b j k c d l a e++[(8,(.zone true [] (ZV b o)),false),(9,(.zone true [] (ZV f (map some a))),false)]),10⟩
def aRb(g i:Int)(j:List (Nat×Nat))(k:List (Option XT))(c:Nat)(q:Nat×Nat)(d l:Int)(a:List XT)(e:List Pat)(m:Int)(n:XT)(f:List (Nat×Nat))(o:Int)(b:List (Nat×Nat))(p:List (Option XT)):TS:=⟨(tf 251 66 [(1,(.func 252 [] [(.ptr 0 0),(.ptr 1 0)])),(4,.nilp),kp 5 2,(46,(rR a)),(47,(nI (a.length:Int))),(48,(nI o))] [kc f251 1959,kl f251 244,.inBlock 0,kc f251 31]),[],[oC 0 [(nI g)],oC 1 [(nI i)],oC 2 [(nI d),(nI m),(.gl 4 1 0 (b.length+1) false),(iP e)],oI 3 f,(4,(.lst 1 (map aU b++ [.ptr 5 0])),false),(5,gh,false),(6,(.zone true [5] (Z1 n)),false),(7,(.zone true [8] (eY j (set k c none) c)),false),aQ4 8 d l a e,(9,(.zone true [] (ZV b p)),false),(10,(.zone true [] (ZV f (map some a))),false)],11⟩
def aE6(i j:Int)(k:List (Nat×Nat))(l:List (Option XT))(d:Nat)(r:Nat×Nat)(e m:Int)(a:List XT)(f:List Pat)(n:Int)(o:XT)(g:List (Nat×Nat))(p:Int)(b:List (Nat×Nat))(q:List (Option XT))(c:Nat×Nat):TS:=⟨(tf 251 66 [(1,(.func 252 [] [(.ptr 0 0),(.ptr 1 0)])),(4,.nilp),kp 5 2,(46,(rR a)),(47,(nI (a.length:Int))),(48,(nI p))] [kc f251 1959,kl f251 244,.inBlock 0,kc f251 31]),[],[oC 0 [(nI i)],oC 1 [(nI j)],oC 2 [(nI e),(nI n),(.gl 4 1 0 (b++ [c]).length false),(iP f)],oI 3 g,oL 4 1 (map aU (b++ [c])),(7,(.zone true [8] (eY k (set l d none) d)),false),aQ4 8 e m a f,(10,(.zone true [] (ZV g (map some a))),false),(11,(.zone true [] (ZV (b++ [c]) (q++ [some o]))),false)],12⟩
def aRc(g i:Int)(j:List (Nat×Nat))(k:List (Option XT))(c:Nat)(p:Nat×Nat)(d l:Int)(a:List XT)(e:List Pat)(m:Int)(f b:List (Nat×Nat))(n:List (Option XT))(o:Int):TS:=⟨(tf 251 66 [(1,(.func 252 [] [(.ptr 0 0),(.ptr 1 0)])),(4,.nilp),kp 5 2,(46,(rR a)),(47,(nI (a.length:Int))),(48,(nI o))] [kc f251 1959,kl f251 244,.inBlock 0,kc f251 31]),[],([oC 0 [(nI g)],oC 1 [(nI i)],aDs 2 d m b e,oI 3 f]++zZ b j k c d l a e++[(7,(.zone true [] (ZV f (map some a))),false),(8,(.zone true [] (ZV b n)),false)]),9⟩
def aK4(f g:Int)(i:List (Nat×Nat))(j:List (Option XT))(c:Nat)(o:Nat×Nat)(d k:Int)(a:List XT)(e:List Pat)(l:Int)(p b:List (Nat×Nat))(m:List (Option XT))(n:Int):TS:=⟨(tf 251 66 [(1,(.func 252 [] [(.ptr 0 0),(.ptr 1 0)])),(4,.nilp),kp 5 2,(46,(rR a)),(47,(nI (a.length:Int))),(48,(nI n))] [kc f251 1959,kl f251 244,.inBlock 0,kc f251 31]),[],([oC 0 [(nI f)],oC 1 [(nI g)],aDs 2 d l b e,(3,gh,false)]++zZ b i j c d k a e++[(8,(.zone true [] (ZV b m)),false),(9,(.zone true [3] (cQ a)),false)]),10⟩
def bB2 (c:Prog)(d:Int):=fun a b e f g=>(tT 0 (bE9 c d)<|gX Node.av 10 c.nodes d<|fun a=>.y fun b:List Pat=>.i [rn 5,.reg (rd 6 (.pure (iP b)::rd 3 []))] [hA (aJ PP 120 [(iP a.pats)] (iP b)),hr (nI a.n),hr (nI a.n),hr (nI a.op),hr (nI a.op)]<|.i [rn 2,.cnil 2 2 1] []<|gu 0 3 (map aU ([] :List (Nat×Nat)))<|gv 0 2 2 aQ6<|.W 0 4 [0,1,2,3] (aQ7 c d a.op a.n a.kids a.pats a.op a.n b)) a e f b g ⟨kk,trivial⟩
def bB3 (b:Prog)(c g i:Int)(a:List Int)(j:List Pat)(d e:Int)(f:List Pat):=(tT 0 (aK1 b c g i a j d e f)<|gl 3 bU a<|.W 4 5 [0,2,3,4] (aGQ b c a (a.length:Int) d e f 0 ([] :List (Nat×Nat)) ([] :List (Option XT)))) ⟨kk,trivial⟩
def bB4 (i:Prog)(j:Int)(k:List Int)(b c d:Int)(e:List Pat)(f:Int)(a:List (Nat×Nat))(g:List (Option XT)):=fun l=>(tT 0 (aGQ i j k b c d e f a g)<|gd 5 27 (f<b) .x<|.E 8 4 [1,2,3] (.ptr 0 0) [oC 0 [(nI c),(nI d),(.gl 1 1 0 a.length false),(iP e)],oI 1 a,(2,(.zone true [] (ZV a g)),false)] 3)|>.f l ⟨kk,trivial⟩
def bB5 (b:Prog)(c:Int)(d:List Int)(e f g:Int)(i:List Pat)(j:XT)(a:Int)(k:List (Nat×Nat))(l:List (Option XT))(m:Nat×Nat):=fun n=>(tT 0 (aE3 b c d e f g i j a k l m)<|gw 2 42 (a+1)<|.W 3 7 [0,1,2,6] (aGQ b c d e f g i (a+1) (k++ [m]) (l++ [some j]))) n ⟨kk,trivial⟩
def bB6 (a b:Int)(c:List (Nat×Nat))(d:List (Option XT))(e:Nat)(f:Nat×Nat)(g i:Int)(j:List XT)(k:List Pat):=(tT 2 (bFa a b c d e f g i j k)<|.W 1 3 [2] (aQ9 a b c d e f g i j k)) tv
def aK5(c b:Int)(e:List (Nat×Nat))(f:List (Option XT))(g:Nat)(i:Nat×Nat)(d a:Int)(j:List XT)(k:List Pat):=tT 2 (aE4 c b e f g i d a j k)<|.i [rn 4,.reg (rd 15 [])] []<|.b 9 27 (d==4) (gd 7 33 (a≥0) (gd 20 7 (a≥c) (gw 6 10 (a+b)<|.i [rn 10,.cnil 7 2 1] []<|gu 0 8 (map aU ([] :List (Nat×Nat)))<|gv 0 7 2 aK0<|.W 0 9 [3,7,4,8,6,5] (aA8 c b e f g i d a j k (a+b)))<|.i [rn 15,.cnil 7 2 1] []<|gu 0 8 (map aU ([] :List (Nat×Nat)))<|gv 0 7 2 aK0<|.W 0 9 [3,7,4,8,6,5] (aA8 c b e f g i d a j k a))<|.i [rn 4,.cnil 7 2 1] []<|gu 0 8 (map aU ([] :List (Nat×Nat)))<|gv 0 7 2 aK0<|.W 0 9 [3,7,4,8,6,5] (aA8 c b e f g i d a j k a))<|.i [rn 11,.cnil 7 2 1] []<|gu 0 8 (map aU ([] :List (Nat×Nat)))<|gv 0 7 2 aK0<|.W 0 9 [3,7,4,8,6,5] (aA8 c b e f g i d a j k a)
def bB7:=fun a b c d e f g i j k l m n o=>aK5 a b c d e f g i j k|>.t l|>.t m|>.t n o ⟨kk,trivial⟩
def bB8:=fun a b c d e f g i j k l m n=>aK5 a b c d e f g i j k|>.t l|>.t m|>.f n ⟨kk,trivial⟩
def bB9:=fun a b c d e f g i j k l m=>aK5 a b c d e f g i j k|>.t l|>.f m ⟨kk,trivial⟩
def bCa:=fun a b c d e f g i j k l=>aK5 a b c d e f g i j k|>.f l ⟨kk,trivial⟩
def bCb (a b:Int)(c:List (Nat×Nat))(d:List (Option XT))(e:Nat)(f:Nat×Nat)(g i:Int)(j:List XT)(k:List Pat)(l:Int):=(tT 2 (aK2 a b c d e f g i j k l)<|.W 10 9 [3,4,5,6,2,7,8] (aK3 a b c d e f g i j k l 0 ([] :List (Nat×Nat)) ([] :List (Option XT)))) ⟨kk,trivial⟩
def aX3(f g:Int)(i:List (Nat×Nat))(j:List (Option XT))(c:Nat)(o:Nat×Nat)(d k:Int)(a:List XT)(e:List Pat)(l m:Int)(b:List (Nat×Nat))(n:List (Option XT)):=tT 2 (aK3 f g i j c o d k a e l m b n)<|gd 5 49 (m< (a.length:Int)) (.W 5 9 [2,3,4,5,6,7,8] (aRa f g i j c o d k a e l m b n))<|.E 8 9 [2,4,5,6,3,7,8] (.ptr 2 0) [oC 0 [(nI f)],oC 1 [(nI g)],oC 2 [(nI d),(nI l),(.gl 3 1 0 b.length false),(iP e)],oI 3 b,(4,(.zone true [5] (eY i (set j c none) c)),false),oC 5 [(nI d),(nI k),(.gl 6 1 0 a.length false),(iP e)],(6,gh,false),(7,(.zone true [6] (cQ a)),false),(8,(.zone true [] (ZV b n)),false)] 9
def bCc:=fun a b c d e f g i j k l m n o p=>aX3 a b c d e f g i j k l m n o|>.t p ⟨kk,trivial⟩
def bCd:=fun a b c d e f g i j k l m n o p=>aX3 a b c d e f g i j k l m n o|>.f p ⟨kk,trivial⟩
def bCe (a b:Int)(c:List (Nat×Nat))(d:List (Option XT))(e:Nat)(f:Nat×Nat)(g i:Int)(j:List XT)(k:List Pat)(l:Int)(m:XT)(n:List (Nat×Nat))(o:Int)(p:List (Nat×Nat))(q:List (Option XT))(r:Nat×Nat):=(tT 2 (aE6 a b c d e f g i j k l m n o p q r)<|.W 0 12 [2,3,4,7,8,10,11] (aRc a b c d e f g i j k l n (p++ [r]) (q++ [some m]) o)) ⟨kk,⟨kk,trivial⟩⟩
def bCf (b c:Int)(d:List (Nat×Nat))(e:List (Option XT))(f:Nat)(g:Nat×Nat)(i j:Int)(k:List XT)(l:List Pat)(m:Int)(p n:List (Nat×Nat))(o:List (Option XT))(a:Int):=fun q=>(tT 2 (aK4 b c d e f g i j k l m p n o a)<|gw 2 64 (a+1)<|.W 3 10 [2,3,4,5,6,9,8] (aK3 b c d e f g i j k l m (a+1) n o)) q ⟨kk,trivial⟩
theorem bGB (fr b:Int)(us: (List (Nat×Nat)))(ts: (List (Option XT)))(ix:Nat)(u: (Nat×Nat))(op a:Int)(ks:List XT)(ps:List Pat)(c:us[ix]?=some u)(d: (ts)[ix]?=some (some (.mk op a ks ps))) :LeadsM PP 2 (aQ9 fr b us ts ix u op a ks ps).as (aE4 fr b us ts ix u op a ks ps).as:=
 yT (j:=0) (v:=aU u) (v':=.ptr 3 0) aC (fun hm=>tI (h:= (aQ9 fr b us ts ix u op a ks ps).as.h) (h':= (aE4 fr b us ts ix u op a ks ps).as.h) (g:=2) (us:=us) (ts:=ts) (i:=ix) (u:=u) (op:=op) (n:=a) (ks:=ks) (ps:=ps) aC c d rfl (aZ ⟨.inr (.inr (.inr (.inr ⟨by decide,by kernel_rfl⟩))),.inr (.inr (.inr (.inr ⟨by decide,by kernel_rfl⟩))),.inl ⟨rfl,rfl⟩,.inr (.inl ⟨rfl,rfl⟩),.inr (.inr (.inl ⟨rfl,rfl⟩)),.inr (.inr (.inr (.inl ⟨rfl,rfl⟩))),trivial⟩) hm) aC aC
theorem bGC (fr c:Int)(us: (List (Nat×Nat)))(ts: (List (Option XT)))(ix:Nat)(u: (Nat×Nat))(op b:Int)(ks:List XT)(ps:List Pat)(a:Int) :LeadsM PP 2 (aA8 fr c us ts ix u op b ks ps a).as (aK2 fr c us ts ix u op b ks ps a).as:=
 mK (zU (h:= (aA8 fr c us ts ix u op b ks ps a).as.h) (h':= (aK2 fr c us ts ix u op b ks ps a).as.h) (Z:= (ZV ([] :List (Nat×Nat)) ([] :List (Option XT)))) (fun _ _=> ⟨nodup_nil,by simp [OsAt]⟩) (le_refl _) (aZ ⟨.inr aC,.inr aC,.inr aC,.inr aC,.inr aC,.inr aC,.inr aC,.inr aC,.inl ⟨rfl,rfl⟩,trivial⟩)) aC aC
theorem bGD (fr f:Int)(us: (List (Nat×Nat)))(ts: (List (Option XT)))(ix:Nat)(u: (Nat×Nat))(op e:Int)(ks:List XT)(ps:List Pat)(a b:Int)(j: (List (Nat×Nat)))(d: (List (Option XT))){i:Res}{hf:Hp}(l:ks≠ [])(k:∀c,c.length=ks.length→Ends PP 2 (aE5 fr f us ts ix u op e ks ps a b j d c).as i hf) :Ends PP 2 (aRa fr f us ts ix u op e ks ps a b j d).as i hf:=
 mJ (t:=fun c=> (aE5 fr f us ts ix u op e ks ps a b j d c).as) (ok:=fun us=>us.length=ks.length) (yM (h:= (aRa fr f us ts ix u op e ks ps a b j d).as.h) (h':=fun c=> (aE5 fr f us ts ix u op e ks ps a b j d c).as.h) (k:=3) (g:=7) (o:=gh) (ts:=ks) aC rfl aC l (fun _=>le_refl _) (fun c=> (aZ ⟨.inr (.inr ⟨by decide,by kernel_rfl⟩),.inr (.inr ⟨by decide,by kernel_rfl⟩),.inr (.inr ⟨by decide,by kernel_rfl⟩),.inr (.inl ⟨rfl,rfl⟩),.inr (.inr ⟨by decide,by kernel_rfl⟩),.inr (.inr ⟨by decide,by kernel_rfl⟩),.inr (.inr ⟨by decide,by kernel_rfl⟩),.inr (.inr ⟨by decide,by kernel_rfl⟩),.inl ⟨rfl,rfl⟩,trivial⟩))) (fun c=> ⟨by kernel_rfl,by kernel_rfl⟩) k
theorem bGE (fr l:Int)(us: (List (Nat×Nat)))(ts: (List (Option XT)))(ix:Nat)(u: (Nat×Nat))(op j:Int)(ks:List XT)(ps:List Pat)(b:Int)(i:XT)(c: (List (Nat×Nat)))(d:Int)(a: (List (Nat×Nat)))(f: (List (Option XT))){m:Res}{hf:Hp}(k:∀e,Ends PP 2 (aE6 fr l us ts ix u op j ks ps b i c d a f e).as m hf) :Ends PP 2 (aRb fr l us ts ix u op j ks ps b i c d a f).as m hf:=
 mJ (t:= (fun e=> (aE6 fr l us ts ix u op j ks ps b i c d a f e).as)) (ok:=fun _=>True) (aEW (h:= (aRb fr l us ts ix u op j ks ps b i c d a f).as.h) (h':=fun e=> (aE6 fr l us ts ix u op j ks ps b i c d a f e).as.h) (k:=4) (g:=9) (gz:=6) (z:=5) (us:=a) (ts:=f) (t:=i) aC aC aC (by decide) (fun _=>le_refl _) (fun e=> (aZ ⟨.inr (.inr ⟨by decide,by kernel_rfl⟩),.inr (.inr ⟨by decide,by kernel_rfl⟩),.inr (.inr ⟨by decide,by rw [wT];kernel_rfl⟩),.inr (.inr ⟨by decide,by kernel_rfl⟩),.inr (.inl ⟨rfl,rfl⟩),.inr (.inr ⟨by decide,by kernel_rfl⟩),.inr (.inr ⟨by decide,by kernel_rfl⟩),.inr (.inr ⟨by decide,by kernel_rfl⟩),.inl ⟨rfl,rfl⟩,trivial⟩))) (fun e=> ⟨by kernel_rfl,by kernel_rfl⟩) (fun e _=>k e)
theorem bGF (fr i:Int)(us: (List (Nat×Nat)))(ts: (List (Option XT)))(ix:Nat)(u: (Nat×Nat))(op f:Int)(ks:List XT)(ps:List Pat)(b:Int)(d: (List (Nat×Nat)))(a: (List (Nat×Nat)))(e: (List (Option XT)))(c:Int)(j:ks≠ []) :LeadsM PP 2 (aRc fr i us ts ix u op f ks ps b d a e c).as (aK4 fr i us ts ix u op f ks ps b d a e c).as:=
 mK (aDl (h:= (aRc fr i us ts ix u op f ks ps b d a e c).as.h) (h':= (aK4 fr i us ts ix u op f ks ps b d a e c).as.h) (k:=3) (g:=7) (us:=d) (ts:=ks) aC aC j (le_refl _) (aZ ⟨.inr (.inr ⟨by decide,by decide,by kernel_rfl⟩),.inr (.inr ⟨by decide,by decide,by kernel_rfl⟩),.inr (.inr ⟨by decide,by decide,by kernel_rfl⟩),.inl ⟨rfl,rfl⟩,.inr (.inr ⟨by decide,by decide,by kernel_rfl⟩),.inr (.inr ⟨by decide,by decide,by kernel_rfl⟩),.inr (.inr ⟨by decide,by decide,by kernel_rfl⟩),.inr (.inr ⟨by decide,by decide,by kernel_rfl⟩),.inr (.inl ⟨rfl,rfl⟩),trivial⟩)) aC aC
theorem bCg (fr h:Int)(us: (List (Nat×Nat)))(ts: (List (Option XT)))(ix:Nat)(u: (Nat×Nat))(op g:Int)(ks:List XT)(ps:List Pat)(b c:Int)(a: (List (Nat×Nat)))(f: (List (Option XT)))(e: (List (Nat×Nat)))(i: (Nat×Nat))(d:XT)(j:0≤c)(h1:c< ((ks.length:Nat) :Int))(h2: ((e)[c.toNat]?) =some i)(k:aX1 i fr h op b a ps e us ts ix g ks f d)(l:a.length+1≤1000000) :
  LeadsM PP 2 (aE5 fr h us ts ix u op g ks ps b c a f e).as (aRb fr h us ts ix u op g ks ps b d e c a f).as:=
 lK (n1:=15) (ks:=[2,3,14,12,13,5,6,8,11]) (W:=[some (.cells (putCells .leaf 0 [(nI fr)]) 1 [] false),some (.cells (putCells .leaf 0 [(nI h)]) 1 [] false),some (.cells (putCells .leaf 0 [(nI op),(nI b),(.gl 14 1 0 (a.length+1) false),(iP ps)]) 4 [] false),some (.lst 1 (map aU e)),some (.lst 1 (map aU a++ [.ptr 12 0])),some gh,some (.zone true [12] (Z1 d)),some (.zone true [6] (eY us (set ts ix none) ix)),some (.cells (putCells .leaf 0 [(nI op),(nI g),(rR ks),(iP ps)]) 4 [] false),some (.zone true [] (ZV a f)),some (.zone true [] (ZV e (map some ks)))]) (wc aC (wc aC (wc aC (wc aC (wc (aB5 aC) (wc aC (wc aC (wc aC (wc aC (wc aC (wc aC wn))))))))))) (ps:=[0≤c,c< ((ks.length:Nat) :Int),(map aU e)[(0+c.toNat)]?=some (aU i),aX1 i fr h op b a ps e us ts ix g ks f d,0+a.length≤length (map aU a),a.length+1≤1000000,take a.length (drop 0 (map aU a)) ++ [ptr 12 0] = (map aU a++ [.ptr 12 0]),a.length+length [ptr 12 0] =a.length+1,(AV.gl 4 1 0 a.length false) = (AV.gl 4 1 0 a.length false),(AV.gl 4 1 0 a.length false) = (AV.gl 4 1 0 a.length false)]) (is:=[.run 1,.ans (.ix),.ans (.idx (aU i)),.run 2,.reg [.d,.d,.d,.d,.d,.d,.d,.call (.ptr 12 0) (aA ([oC 0 [(nI fr)],oC 1 [(nI h)],aDs 2 op b a ps,oI 3 e]++zZ a us ts ix op g ks ps++[(8,(.zone true [] (ZV a f)),false),(11,(.zone true [] (ZV e (map some ks))),false),(12,gh,false),(13,(.zone true [12] (Z1 d)),false)]) 14),.d,.app (map aU a++ [.ptr 12 0]) (a.length+1),.d,.d,.d],.run 1]) aC aC ⟨(aG _ (fun _=>rfl) _),trivial⟩ ⟨j,h1,(cU h2),k,aGv,l,aPZ,aP0,rfl,rfl⟩
abbrev HL :=List (Nat×AObj×Bool)
abbrev NT (t:XT) :HL:=[(0,gh,false),(1,.zone true [0] (Z1 t),false)]
abbrev NL (o n:Int)(ps:List Pat)(us:List (Nat×Nat))(ts:List (Option XT)) :HL:=[(0,(.cells (putCells .leaf 0 [(.int .i64 o),(.int .i64 n),(.gl 1 1 0 (length us) false),(.ilst 4 (av ps) false)]) 4 [] false),false),(1,(.lst 1 (map aU us)),true),(2,(.zone true [] (ZV us ts)),false)]
theorem bIa (t:XT) :fJ (NT t) :=trivial
def aRd (p:Prog) :Prop:=∀nd∈p.nodes,nd.kids.length<1000000∧aT nd.pats<1000000
theorem aVx {o n:Int}{ps:List Pat}{us:List (Nat×Nat)}{ts:List XT}:kV (aA (NL o n ps us (ts.map some)) 3) (aA [(0,gh,false),(3,.zone true [0] (Z1 (.mk o n ts ps)),false)] 4) :=fun E w r=>by
 have a:us.length=ts.length:=by
  obtain⟨L,_,d⟩ :=r.obj 2 (.zone true [] (ZV us (ts.map some))) aC;obtain⟨_,_,_,c⟩ :=gJ d;have:=c.len;rwa [hJ]at this
 have z:kV (aA (NL o n ps us (ts.map some)) 3) (aA [(0,gh,false),(3,.zone true [0] (Z1 (.mk o n ts ps)),false)] 4) :=
  aB4 (b:=0) (k:=1) (g:=2) (us:=us) (op:=o) (n:=n) (ts:=ts) (ps:=ps) (len:=us.length) (ex:=false) (pv:=.ilst 4 (av ps) false) aC a (fun _ _ h=>h) aC aC (le_refl _)
   (aZ ⟨.inr (.inl ⟨rfl,rfl⟩),.inl ⟨rfl,rfl⟩,trivial⟩)
 exact z E w r
theorem aVy {s:AS}{o n:Int}{ps:List Pat}{us:List (Nat×Nat)}{ts:List XT}(e:Ends PP 0 s (.ret (.ptr 0 0)) (aA (NL o n ps us (ts.map some)) 3)) :Ends PP 0 s (.ret (.ptr 0 0)) (aA (NT (.mk o n ts ps)) 2) :=
 iK (ks:=[0,3]) (rQ e aVx (zero_le _)) aC aC aC (bIa _)
theorem aX4 {d:Prog}{o n:Int}{ps:List Pat}{us:List (Nat×Nat)}{ts:List (Option XT)}{t:XT}{b c a:Int}{ks:List Int}{e:Res}{hf:Hp}(k:∀u,Ends PP 0 (aE3 d b ks c o n ps t a us ts u).as e hf) :Ends PP 0 (aQ8 d b ks c o n ps t a us ts).as e hf:=
 mJ (t:=fun u=> (aE3 d b ks c o n ps t a us ts u).as) (ok:=fun _=>True)
  (aEW (h:= (aQ8 d b ks c o n ps t a us ts).as.h) (h':=fun u=> (aE3 d b ks c o n ps t a us ts u).as.h) (k:=2) (g:=5) (gz:=4) (z:=3) (us:=us) (ts:=ts) (t:=t) aC aC aC (by decide) (fun u=>le_refl _)
   (fun u=>aZ ⟨.inr (.inr ⟨by decide,by kernel_rfl⟩),.inr (.inr ⟨by decide,by rw [wT];kernel_rfl⟩),.inr (.inl ⟨rfl,rfl⟩),.inl ⟨rfl,rfl⟩,trivial⟩))
  (fun u=> ⟨by kernel_rfl,by kernel_rfl⟩) (fun u _=>k u)
theorem nil_turn {c:Prog}{o n b e:Int}{ps d:List Pat}{a:Int}{ks:List Int}:LeadsM PP 0 (aQ7 c a b e ks d o n ps).as (aK1 c a b e ks d o n ps).as:=
 mK (zU (h:= (aQ7 c a b e ks d o n ps).as.h) (h':= (aK1 c a b e ks d o n ps).as.h) (Z:=ZV [] []) (fun _ _=> ⟨nodup_nil,by simp [OsAt]⟩) (le_refl _) (aZ ⟨.inr aC,.inr aC,.inr aC,.inr aC,.inl ⟨rfl,rfl⟩,trivial⟩)) aC aC
section
variable {p :Prog} (hf:aRd p)
mutual
theorem aI3 (c:aRd p) :∀ (t:XT) (a:Int),IsTree p t a→gI PP 0 (.enter 91 [Prog.av p,.int .i64 a]) (aA [] 0) (.ret (.ptr 0 0)) (aA (NT t) 2)
 | .mk o n i j,a,h=>by
  simp only [IsTree]at h;obtain⟨g,nd,b,rfl,rfl,rfl,e⟩ :=h;obtain⟨d,f⟩ :=c nd (iO b);refine⟨(bE9 p a).as.fr,by kernel_rfl,?_⟩;refine((bB2 p a nd nd.pats g b (aOc nd.pats f)).trans (nil_turn.trans (bB3 p a _ _ nd.kids _ _ _ nd.pats))).ends ?_;exact aGR c a nd.kids nd.op nd.n nd.pats d i [] [] 0 (by simpa using e) rfl rfl
theorem aGR (e:aRd p)(c:Int)(ks:List Int)(o n:Int)(ps:List Pat)(hk:ks.length<1000000) :∀ (d b:List XT) (a:List (Nat×Nat)) (i:Nat),aE p d (ks.drop i) →b.length=i→a.length=i →
  Ends PP 0 (aGQ p c ks ((length ks:Nat) :Int) o n ps (i:Int) a (b.map some)).as (.ret (.ptr 0 0)) (aA (NT (.mk o n (b++d) ps)) 2)
 | [],b,a,i,h,g,f=>by
  simp only [aE]at h;have v:=bJ h;rw [oS];exact aVy (bB4 p c ks _ o n ps (i:Int) a (b.map some) sd)
 | t::d,b,a,i,h,g,f=>by
  simp only [aE]at h;obtain⟨k,w,q,r,l⟩ :=h;obtain⟨y,s,x⟩ :=bE q
  have j:=aI2 (m:=0) (ks:=[]) (n2:=5) (n3:=7) (v':=.ptr 5 0) (args':=[Prog.av p,.int .i64 k])
   (lc:=[(0,(.cells (putCells .leaf 0 [(.ilst 4 (map Node.av p.nodes) false),(.ilst 1 (map bU p.funs) false),(.int .i64 p.main),(.ilst 2 (map Con.av p.cons) false)]) 4 [] false),false),(1,(.cells (putCells .leaf 0 [(.int .i64 o),(.int .i64 n),(.gl 2 1 0 (length a) false),(.ilst 4 (av ps) false)]) 4 [] false),false),(2,(.lst 1 (map aU a)),true),(3,(.zone true [] (ZV a (b.map some))),false)])
   (lc':=[(0,(.cells (putCells .leaf 0 [(.ilst 4 (map Node.av p.nodes) false),(.ilst 1 (map bU p.funs) false),(.int .i64 p.main),(.ilst 2 (map Con.av p.cons) false)]) 4 [] false),false),(1,(.cells (putCells .leaf 0 [(.int .i64 o),(.int .i64 n),(.gl 2 1 0 (length a) false),(.ilst 4 (av ps) false)]) 4 [] false),false),(2,(.lst 1 (map aU a)),true),(3,(.zone true [] (ZV a (b.map some))),false),(5,gh,false),(6,(.zone true [5] (Z1 t)),false)])
   (aI3 e t k r) (by rfl) (by rfl) aC (by rfl) (by rfl) aC aC trivial aC trivial
  refine(bB1 p c ks _ o n ps (i:Int) a (b.map some) k t sd sd sd j (by omega)).ends (aX4 fun u=>?_);refine(bB5 p c ks _ o n ps t (i:Int) a (b.map some) u sd).ends ?_;have:=aGR e c ks o n ps hk d (b++ [t]) (a++ [u]) (i+1) (by rw [s];exact l) (by simp [g]) (by simp [f]);rw [zq9,wX]at this;exact this
end
end
abbrev aX5 (a:Nat×Nat)(b:List (Nat×Nat))(c:List (Option XT))(d:XT):=[oC 0 [(nI 7),(nI 0),(.gl 1 1 0 ([a].length+1) false),.nils],(1,(.lst 1 (map aU [a] ++ [.ptr 2 0])),false),(2,gh,false),(3,(.zone true [] (ZV b c)),false),(4,(.zone true [2] (Z1 d)),false)]
abbrev bGG (a:Nat)(b:List (Nat×Nat))(c:Prog)(d:List Con):=oC a [(.gl 2 1 0 b.length false),(nI c.main),(iC d)]
abbrev aK6 (a:List (Nat×Nat))(b:Prog)(c:List Con)(d:List (Option XT)):=[bGG 1 a b c,oL 2 1 (map aU a),(3,(.zone true [] (ZV a d)),false)]
abbrev aX6 (a:Prog)(b:Int)(c:List (Nat×Nat))(d:List Con)(e:List (Option XT))(f:XT):=Spec PP (.enter 91 [(Prog.av a),(nI b)]) (aA ([oC 0 [(iN a.nodes),(iI a.funs),(nI a.main),(iC a.cons)]]++aK6 c a d e) 5) (.ret (.ptr 5 0)) (aA ([oC 0 [(iN a.nodes),(iI a.funs),(nI a.main),(iC a.cons)]]++aK6 c a d e++[(5,gh,false),(6,(.zone true [5] (Z1 f)),false)]) 7)
abbrev aDt (a:Nat)(b:Prog):=oC a [(iN b.nodes),(iI b.funs),(nI b.main),(iC b.cons)]
abbrev aRe:AV:=.gl 2 1 0 ([] :List (Nat×Nat)).length false
def bFb(a:Prog):TS:=cO PP 48 [(Prog.av a)] [] 0
def aRf(a:Prog)(b:List Con):TS:=⟨(tf 48 34 [kp 1 0,(2,.nilp),kp 3 1] [kc f48 28,kc f48 29,kc f48 15]),[],[aDt 0 a,oC 1 [aRe,(nI a.main),(iC b)],oL 2 1 (map aU ([] :List (Nat×Nat)))],3⟩
def aK7(a:Prog)(b:List Con):TS:=⟨(tf 48 34 [kp 1 0,(2,.nilp),kp 3 1] [kc f48 28,kc f48 29,kc f48 15]),[],[aDt 0 a,oC 1 [aRe,(nI a.main),(iC b)],oL 2 1 (map aU ([] :List (Nat×Nat))),(3,(.zone true [] (ZV ([] :List (Nat×Nat)) ([] :List (Option XT)))),false)],4⟩
def aGS(a:Prog)(c:List Con)(d:Int)(b:List (Nat×Nat))(e:List (Option XT)):TS:=⟨(tf 48 34 [kp 1 0,(2,.nilp),kp 3 1,(14,(iI a.funs)),(15,(nI (a.funs.length:Int))),(16,(nI d))] [kc f48 116,kl f48 116,.inBlock 0,kc f48 15]),[],([aDt 0 a]++aK6 b a c e),4⟩
def aRg(a:Prog)(c:List Con)(d:XT)(e:Int)(b:List (Nat×Nat))(f:List (Option XT)):TS:=⟨(tf 48 34 [kp 1 0,(2,.nilp),kp 3 1,(14,(iI a.funs)),(15,(nI (a.funs.length:Int))),(16,(nI e))] [kc f48 935,kl f48 116,.inBlock 0,kc f48 15]),[],[aDt 0 a,oC 1 [(.gl 2 1 0 (b.length+1) false),(nI a.main),(iC c)],(2,(.lst 1 (map aU b++ [.ptr 3 0])),false),(3,gh,false),(4,(.zone true [3] (Z1 d)),false),(5,(.zone true [] (ZV b f)),false)],6⟩
def aE7(a:Prog)(d:List Con)(e:XT)(f:Int)(b:List (Nat×Nat))(g:List (Option XT))(c:Nat×Nat):TS:=⟨(tf 48 34 [kp 1 0,(2,.nilp),kp 3 1,(14,(iI a.funs)),(15,(nI (a.funs.length:Int))),(16,(nI f))] [kc f48 935,kl f48 116,.inBlock 0,kc f48 15]),[],[aDt 0 a,oC 1 [(.gl 2 1 0 (b++ [c]).length false),(nI a.main),(iC d)],oL 2 1 (map aU (b++ [c])),(6,(.zone true [] (ZV (b++ [c]) (g++ [some e]))),false)],7⟩
theorem bGH (p:Prog)(a:List Con) :LeadsM PP 0 (aRf p a).as (aK7 p a).as:=
 mK (zU (h:= (aRf p a).as.h) (h':= (aK7 p a).as.h) (Z:= (ZV ([] :List (Nat×Nat)) ([] :List (Option XT)))) (fun _ _=> ⟨nodup_nil,by simp [OsAt]⟩) (le_refl _) (aZ ⟨.inr aC,.inr aC,.inr aC,.inl ⟨rfl,rfl⟩,trivial⟩)) aC aC
theorem bGI (p:Prog)(b:List Con)(e:XT)(a:Int)(us: (List (Nat×Nat)))(d: (List (Option XT))){f:Res}{hf:Hp}(k:∀c,Ends PP 0 (aE7 p b e a us d c).as f hf) :Ends PP 0 (aRg p b e a us d).as f hf:=
 mJ (t:= (fun c=> (aE7 p b e a us d c).as)) (ok:=fun _=>True) (aEW (h:= (aRg p b e a us d).as.h) (h':=fun c=> (aE7 p b e a us d c).as.h) (k:=2) (g:=5) (gz:=4) (z:=3) (us:=us) (ts:=d) (t:=e) aC aC aC (by decide) (fun _=>le_refl _) (fun c=> (aZ ⟨.inr (.inr ⟨by decide,by kernel_rfl⟩),.inr (.inr ⟨by decide,by rw [wT];kernel_rfl⟩),.inr (.inl ⟨rfl,rfl⟩),.inl ⟨rfl,rfl⟩,trivial⟩))) (fun c=> ⟨by kernel_rfl,by kernel_rfl⟩) (fun c _=>k c)
theorem bCh (p:Prog)(c:List Con)(b:Int)(a: (List (Nat×Nat)))(e: (List (Option XT)))(f:Int)(d:XT)(i:decide (b< (p.funs.length:Int)) =true)(h1:0≤b)(h2: ((p.funs)[b.toNat]?) =some f)(g:aX6 p f a c e d)(h:a.length+1≤1000000) :
  LeadsM PP 0 (aGS p c b a e).as (aRg p c d b a e).as:=
 lK (n1:=8) (ks:=[0,1,7,5,6,3]) (W:=[some (.cells (putCells .leaf 0 [(iN p.nodes),(iI p.funs),(nI p.main),(iC p.cons)]) 4 [] false),some (.cells (putCells .leaf 0 [(.gl 7 1 0 (a.length+1) false),(nI p.main),(iC c)]) 3 [] false),some (.lst 1 (map aU a++ [.ptr 5 0])),some gh,some (.zone true [5] (Z1 d)),some (.zone true [] (ZV a e))]) (wc aC (wc aC (wc (aB5 aC) (wc aC (wc aC (wc aC wn)))))) (ps:=[decide (b< (p.funs.length:Int)) =true,0≤b,(jI p.funs)[b.toNat]?=some (bU f),aX6 p f a c e d,0+a.length≤length (map aU a),a.length+1≤1000000,take a.length (drop 0 (map aU a)) ++ [ptr 5 0] = (map aU a++ [.ptr 5 0]),a.length+length [ptr 5 0] =a.length+1,(AV.gl 2 1 0 a.length false) = (AV.gl 2 1 0 a.length false),(AV.gl 2 1 0 a.length false) = (AV.gl 2 1 0 a.length false)]) (is:=[.run 5,.b 17 true,.run 6,.ans (.idx (bU f)),.run 3,.reg [.d,.d,.d,.d,.d,.d,.d,.call (.ptr 5 0) (aA ([aDt 0 p]++aK6 a p c e++[(5,gh,false),(6,(.zone true [5] (Z1 d)),false)]) 7),.d,.app (map aU a++ [.ptr 5 0]) (a.length+1),.d,.d,.d],.run 1]) aC aC trivial ⟨i,h1,(bP h2),g,aGv,h,aPZ,aP0,rfl,rfl⟩
def bFc(a:List (Nat×Nat))(b:List (Option XT))(f:Nat)(c:Nat×Nat)(d e:Int):TS:=cO PP 249 [(aU c),(nI d),(nI e)] [(0,(.zone true [] (ZV a b)),false)] 1
def bFd(a:List (Nat×Nat))(b:List (Option XT))(e:Nat)(c:Nat×Nat)(d:XT):TS:=cO PP 248 [(aU c),(.ptr 1 0)] [(0,(.zone true [] (ZV a b)),false),(1,gh,false),(2,(.zone true [1] (Z1 d)),false)] 3
theorem bCi (us: (List (Nat×Nat)))(ts: (List (Option XT)))(ix:Nat)(u: (Nat×Nat))(a:XT) :
  Ends PP 0 (bFd us ts ix u a).as (.ret (.ptr 0 0)) (aA (aX5 u us ts a) 5) :=
 aM1 (n1:=5) (ks:=[4,3,1,0,2]) (hp:= (aX5 u us ts a)) (v:= (.ptr 0 0)) (W:=[some (.cells (putCells .leaf 0 [(nI 7),(nI 0),(.gl 3 1 0 ([u].length+1) false),.nils]) 4 [] false),some (.lst 1 (map aU [u] ++ [.ptr 1 0])),some gh,some (.zone true [] (ZV us ts)),some (.zone true [1] (Z1 a))]) (wc aC (wc (aB5 aC) (wc aC (wc aC (wc aC wn))))) (ps:=[getCells (putCells .leaf 0 [(aU u),(.ptr 1 0)]) 0 (2*1) =some [(aU u),(.ptr 1 0)],dF [(aU u),(.ptr 1 0)] =true,[(aU u),(.ptr 1 0)] = (map aU [u] ++ [(.ptr 1 0)]),(AV.gl 3 1 0 2 false) = (.gl 3 1 0 ([u].length+1) false)]) (is:=[.run 28,.ctoL 4 2 false [(aU u),(.ptr 1 0)],.lset 3 (map aU [u] ++ [(.ptr 1 0)]),.cweak 4 2,.cset 4 2 (.gl 3 1 0 ([u].length+1) false)]) aC aC trivial ⟨rfl,rfl,rfl,rfl⟩
def bFe(a:Nat ×Nat)(b:List (Nat×Nat)):TS:=cO PP 254 [(.gl 0 1 0 (a::b).length false)] [oL 0 1 (map aU (a::b))] 1
def bFf(a b:Int):TS:=cO PP 250 [(nI a),(nI b),.nils] [] 0
def bCj (a:Prog):=fun b c=>(tT 0 (bFb a)<|.y fun b:List Con=>.i [rn 6,.reg (rd 4 (.pure (iC b)::rd 3 []))] [hA (aJ PP 90 [(iC a.cons)] (iC b)),hr (nI a.main),hr (nI a.main)]<|.i [rn 2,.cnil 1 0 1] []<|gu 0 2 (map aU ([] :List (Nat×Nat)))<|gv 0 1 0 aRe<|.W 0 3 [0,1,2] (aRf a b)) b c ⟨kk,trivial⟩
def bCk (a:Prog)(b:List Con):=(tT 0 (aK7 a b)<|gl 3 bU a.funs<|.W 4 4 [0,1,2,3] (aGS a b 0 ([] :List (Nat×Nat)) ([] :List (Option XT)))) ⟨kk,trivial⟩
def bCl (b:Prog)(c:List Con)(d:Int)(a:List (Nat×Nat))(e:List (Option XT)):=fun f=>(tT 0 (aGS b c d a e)<|gd 5 17 (d< (b.funs.length:Int)) .x<|.E 8 4 [1,2,3] (.ptr 0 0) [oC 0 [(.gl 1 1 0 a.length false),(nI b.main),(iC c)],oL 1 1 (map aU a),(2,(.zone true [] (ZV a e)),false)] 3)|>.f f ⟨kk,trivial⟩
def bCm (b:Prog)(c:List Con)(d:XT)(a:Int)(e:List (Nat×Nat))(f:List (Option XT))(g:Nat×Nat):=fun i=>(tT 0 (aE7 b c d a e f g)<|gw 2 32 (a+1)<|.W 3 7 [0,1,2,6] (aGS b c (a+1) (e++ [g]) (f++ [some d]))) i ⟨kk,trivial⟩
def bCn (a:List (Nat×Nat))(b:List (Option XT))(g:Nat)(f:Nat×Nat)(d e:Int):=fun c i=>(tT 0 (bFc a b g f d e)<|.y fun c:XT=>gk 10 (.enter 251 [(aU f),(.func 252 [] [(.ptr 1 0),(.ptr 2 0)])]) [(0,(.zone true [] (ZV a b)),false),oC 1 [(nI d)],oC 2 [(nI e)]] 3 (.ptr 4 0) [oC 1 [(nI d)],oC 2 [(nI e)],(3,(.zone true [] (ZV a b)),false),(4,gh,false),(5,(.zone true [4] (Z1 c)),false)] 6<|.E 3 6 [4,3,5] (.ptr 0 0) [(0,gh,false),(1,(.zone true [] (ZV a b)),false),(2,(.zone true [0] (Z1 c)),false)] 3) c i tv
def bCo (a:Nat×Nat)(b:List (Nat×Nat)):=fun c=>(tT 1 (bFe a b)<|.i [rn 16,.toL 5 false []] [.q (p:=getCells (putCells .leaf 0 []) 0 (0*1) =some []) rfl,hr true]<|gu 0 1 (map aU ([] :List (Nat×Nat)))<|gs 0 5 (.gl 1 1 0 ([] :List (Nat×Nat)).length true)<|.i [.weak 5] []<|.i [.app (map aU (a::b)) (a::b).length] [.q (p:=0+ (a::b).length≤length (map aU (a::b))) aGv,.q (p:=0+ ([] :List (Nat×Nat)).length≤length (map aU ([] :List (Nat×Nat)))) aGv,hA ((a::b).length≤1000000),.q (p:=take ([] :List (Nat×Nat)).length (drop 0 (map aU ([] :List (Nat×Nat)))) ++take (a::b).length (drop 0 (map aU (a::b))) = (map aU (a::b))) bGj,.q (p:=([] :List (Nat×Nat)).length+ (a::b).length= (a::b).length) (eX _)]<|.E 3 3 [2] (.gl 1 1 0 (a::b).length false) [oL 0 1 (map aU (a::b)),oL 1 1 (map aU (a::b))] 2) c ⟨kk,⟨kk,trivial⟩⟩
def bCp (a b:Int):=(tT 0 (bFf a b)<|.E 14 1 [0] (.ptr 0 0) [oC 0 [(nI a),(nI b),.nils,.nils]] 1) tv
theorem wP {P:Program}{f:Nat}{b args':List AV}{v v':AV}{l l' lc lc':List (Nat×AObj×Bool)}{m nb a n2 n3:Nat}{ks:List Nat}
  (r:gI P m (.enter f b) (aA l nb) (.ret v) (aA l' a))
  (hb: (ble m nb&&ble m a&&cR 0 ⟨⟨0,0,[],[],[],.run,.normal,none⟩,[],l,nb⟩ ks&&yL l'&&fS a l'&&fS n2 lc&&fS n3 lc'&&ks.all (fun k=>Nat.blt k n2)) =true)
  (he: (a-m+n2,ren (kL m n2 ks) v,renL (fE 0 nb n2 ks) b,tG (aA lc n2) (fE 0 nb n2 ks) l,tG (aA lc' n3) (kL m n2 ks) l',aD5 (namesT (kL m n2 ks) l') (l.map fun p=>ks.getD p.1 0) (aA lc n2) lc',qX l') = (n3,v',args',iE (fE 0 nb n2 ks) l,iE (kL m n2 ks) l',qX lc',(l'.map fun p=> (aA l' a).look p.1)))
  (d:fJ l) (c:fJ l') :Spec P (.enter f args') (aA lc n2) (.ret v') (aA lc' n3) :=by
 simp only [cF]at hb;obtain⟨⟨⟨⟨⟨⟨⟨s,n⟩,g⟩,t⟩,e⟩,o⟩,q⟩,i⟩ :=hb;simp only [Prod.mk.injEq]at he;obtain⟨h,y,w,x,u,z,j⟩ :=he;exact aI2 r h y w s n g x d u c t e o q i z j
theorem bCq {P:Program}{f:Nat}{x y:Int}{a p q:AV}{h h':Hp}{r:Res}(e:x=y)(s:Spec P (.enter f [.agg [a,.int .i64 y,p],q]) h r h') :Spec P (.enter f [.agg [a,.int .i64 x,p],q]) h r h':=by rw [e];exact s
theorem aVz {P:Program}{f:Nat}{x y:Int}{i j b k o:Nat}{a q:AV}{h h':Hp}{r:Res}(e:x=y)(c:i=j)(s:Spec P (.enter f [.agg [a,.int .i64 y,.ep b k j o],q]) h r h') :Spec P (.enter f [.agg [a,.int .i64 x,.ep b k i o],q]) h r h':=by rw [e,c];exact s
def mvN (fr mb o n:Int) :Int:=if o=4∧0≤n∧fr≤n then n+mb else n
mutual
def rS (fr mb:Int) :XT→XT
 | .mk o n ks ps=>.mk o (mvN fr mb o n) (dS fr mb ks) ps
def dS (fr mb:Int) :List XT→List XT
 | [] =>[]
 |t::ts=>rS fr mb t::dS fr mb ts
end
mutual
def OkT :XT→Prop
 | .mk o n ks _=> (o=4→n≤1000000) ∧ks.length<1000000∧aK9 ks
def aK9 :List XT→Prop
 | [] =>True
 |t::ts=>OkT t∧aK9 ts
end
theorem mL (fr b:Int) :∀a,dS fr b a=a.map (rS fr b)
 | [] =>rfl
 |t::a=>by rw [dS,mL fr b a];rfl
theorem okTs_iff :∀ {ts:List XT},aK9 ts↔∀t∈ts,OkT t
 | [] =>by simp [aK9]
 |t::ts=>by simp only [aK9,okTs_iff (ts:=ts),zq7];exact⟨fun h x a=>by rcases a with rfl|a;exact h.1;exact h.2 x a,fun h=> ⟨h t (.inl rfl),fun x a=>h x (.inr a)⟩⟩
abbrev PHl (fr mb:Int)(us:List (Nat×Nat))(ts:List (Option XT)) :HL:=[(0,(.cells (putCells .leaf 0 [(.int .i64 fr)]) 1 [] false),false),(1,(.cells (putCells .leaf 0 [(.int .i64 mb)]) 1 [] false),false),(2,(.zone true [] (ZV us ts)),false)]
abbrev PHr (fr mb:Int)(us:List (Nat×Nat))(ts:List (Option XT))(t:XT) :HL:=[(0,(.cells (putCells .leaf 0 [(.int .i64 fr)]) 1 [] false),false),(1,(.cells (putCells .leaf 0 [(.int .i64 mb)]) 1 [] false),false),(2,(.zone true [] (ZV us ts)),false),(3,gh,false),(4,.zone true [3] (Z1 t),false)]
def bGJ (fr mb:Int)(t:XT) :Prop:=∀ (us:List (Nat×Nat)) (ts:List (Option XT)) (ix:Nat) (u:Nat×Nat),us[ix]?=some u→ts[ix]?=some (some t) →
 gI PP 2 (.enter 251 [aU u,.func 252 [] [.ptr 0 0,.ptr 1 0]]) (aA (PHl fr mb us ts) 3) (.ret (.ptr 3 0)) (aA (PHr fr mb us ts (rS fr mb t)) 5)
abbrev PHe (fr mb:Int)(us:List (Nat×Nat))(ts:List (Option XT))(ix:Nat)(op nn n':Int)(ks:List XT)(ps:List Pat)(w:List (Nat×Nat))(rs:List XT) :HL:=[(0,(.cells (putCells .leaf 0 [(.int .i64 fr)]) 1 [] false),false),(1,(.cells (putCells .leaf 0 [(.int .i64 mb)]) 1 [] false),false),(2,(.cells (putCells .leaf 0 [(.int .i64 op),(.int .i64 n'),(.gl 3 1 0 (length w) false),(.ilst 4 (av ps) false)]) 4 [] false),false),(3,(.lst 1 (map aU w)),true),(4,(.zone true [5] (eY us (set ts ix none) ix)),false),(5,(.cells (putCells .leaf 0 [(.int .i64 op),(.int .i64 nn),(.gl 6 1 0 (length ks) false),(.ilst 4 (av ps) false)]) 4 [] false),false),(6,gh,false),(7,(.zone true [6] (cQ ks)),false),(8,(.zone true [] (ZV w (rs.map some))),false)]
abbrev PHf (fr mb:Int)(us:List (Nat×Nat))(ts:List (Option XT))(op n':Int)(ps:List Pat)(w:List (Nat×Nat))(rs:List XT) :HL:=[(0,(.cells (putCells .leaf 0 [(.int .i64 fr)]) 1 [] false),false),(1,(.cells (putCells .leaf 0 [(.int .i64 mb)]) 1 [] false),false),(2,(.cells (putCells .leaf 0 [(.int .i64 op),(.int .i64 n'),(.gl 3 1 0 (length w) false),(.ilst 4 (av ps) false)]) 4 [] false),false),(3,(.lst 1 (map aU w)),true),(8,(.zone true [] (ZV w (rs.map some))),false),(9,(.zone true [] (ZV us ts)),false)]
abbrev PHg (fr mb:Int)(us:List (Nat×Nat))(ts:List (Option XT))(t:XT) :HL:=[(0,(.cells (putCells .leaf 0 [(.int .i64 fr)]) 1 [] false),false),(1,(.cells (putCells .leaf 0 [(.int .i64 mb)]) 1 [] false),false),(2,gh,false),(9,(.zone true [] (ZV us ts)),false),(10,.zone true [2] (Z1 t),false)]
theorem aX8 {ts:List (Option XT)}{ix:Nat}{x:Option XT}(h:ts[ix]?=some x) : (ts.set ix none).set ix x=ts:=by
 rw [List.set_set];apply List.ext_getElem?;intro j;rw [getElem?_set];split
 · rename_i a;subst a;rw [if_pos (zq0.1 h).1,h]
 ·rfl
theorem aX9 {s:AS}{fr c:Int}{us:List (Nat×Nat)}{ts:List (Option XT)}{ix:Nat}{op d a:Int}{ks:List XT}{ps:List Pat}{w:List (Nat×Nat)}{rs:List XT}(j:ts[ix]?=some (some (.mk op d ks ps)))(l:w.length=rs.length)
  (e:Ends PP 2 s (.ret (.ptr 2 0)) (aA (PHe fr c us ts ix op d a ks ps w rs) 9)) :Ends PP 2 s (.ret (.ptr 3 0)) (aA (PHr fr c us ts (.mk op a rs ps)) 5) :=by
 have f:kV (aA (PHe fr c us ts ix op d a ks ps w rs) 9) (aA (PHf fr c us ts op a ps w rs) 10) :=by
  refine aGr (h:=aA (PHe fr c us ts ix op d a ks ps w rs) 9) (h':=aA (PHf fr c us ts op a ps w rs) 10) (b:=5) (k:=6) (gk:=7) (g:=4) (us:=us) (ts:=ts.set ix none) (i:=ix) (op:=op) (n:=d) (ks:=ks) (ps:=ps) (len:=ks.length) (ex:=false) (pv:=.ilst 4 (av ps) false) aC rfl (fun _ _ h=>h) aC aC (by decide) (le_refl _) ?_;rw [aX8 j];exact aZ ⟨.inr ⟨by decide,by kernel_rfl⟩,.inr ⟨by decide,by kernel_rfl⟩,.inr ⟨by decide,by kernel_rfl⟩,.inr ⟨by decide,by kernel_rfl⟩,.inr ⟨by decide,by kernel_rfl⟩,.inl ⟨rfl,rfl⟩,trivial⟩
 have m:kV (aA (PHf fr c us ts op a ps w rs) 10) (aA (PHg fr c us ts (.mk op a rs ps)) 11) :=
  aB4 (h:=aA (PHf fr c us ts op a ps w rs) 10) (h':=aA (PHg fr c us ts (.mk op a rs ps)) 11) (b:=2) (k:=3) (g:=8) (us:=w) (op:=op) (n:=a) (ts:=rs) (ps:=ps) (len:=w.length) (ex:=false) (pv:=.ilst 4 (av ps) false) aC l (fun _ _ h=>h) aC aC (le_refl _)
   (aZ ⟨.inr (.inr ⟨by decide,by kernel_rfl⟩),.inr (.inr ⟨by decide,by kernel_rfl⟩),.inr (.inl ⟨rfl,rfl⟩),.inr (.inr ⟨by decide,by kernel_rfl⟩),.inl ⟨rfl,rfl⟩,trivial⟩)
 exact iK (ks:=[9,2,10]) (rQ (rQ e f (show 2≤9 by decide)) m (show 2≤10 by decide)) aC aC aC trivial
theorem eK {d c:Type}{a:List d}{b:List c}(h:a.length=b.length){i:Nat}(e:i<b.length) :∃x,a[i]?=some x:= ⟨a[i]'(by omega),kH _⟩
mutual
theorem aSD (fr:Int) :∀ (t:XT),OkT t→bGJ fr 1 t
 | .mk op a b d,h=>fun e c ix u l g=>by
  simp only [OkT]at h;obtain⟨n,m,k⟩ :=h;refine⟨(bFa fr 1 e c ix u op a b d).as.fr,by kernel_rfl,?_⟩;have hc :LeadsM PP 2 (aE4 fr 1 e c ix u op a b d).as (aA8 fr 1 e c ix u op a b d (mvN fr 1 op a)).as:=by
   unfold mvN;by_cases f:op=4
   · by_cases i:0≤a
     · by_cases j:fr≤a
       · rw [if_pos ⟨f,i,j⟩];have:=n f;exact bB7 fr 1 e c ix u op a b d (by rw [f];rfl) sd sd sd
       · rw [if_neg (fun h=>j h.2.2)];exact bB8 fr 1 e c ix u op a b d (by rw [f];rfl) sd sd
     · rw [if_neg (fun h=>i h.2.1)];exact bB9 fr 1 e c ix u op a b d (by rw [f];rfl) sd
   · rw [if_neg (fun h=>f h.1)];exact bCa fr 1 e c ix u op a b d (by simpa using f)
  refine((bB6 fr 1 e c ix u op a b d).trans ((bGB fr 1 e c ix u op a b d l g).trans (hc.trans ((bGC fr 1 e c ix u op a b d _).trans (bCb fr 1 e c ix u op a b d _))))).ends ?_;have:=aSE fr e c ix u op a b d g m b [] [] 0 rfl rfl rfl k;simp only [rS];exact this
theorem aSE (fr:Int)(us:List (Nat×Nat))(ts:List (Option XT))(ix:Nat)(u:Nat×Nat)(op a:Int)(ks:List XT)(ps:List Pat)(r:ts[ix]?=some (some (.mk op a ks ps)))(hk:ks.length<1000000) :∀ (f b:List XT) (w:List (Nat×Nat)) (i:Nat),ks.drop i=f→b.length=i→w.length=i→aK9 f →
  Ends PP 2 (aK3 fr 1 us ts ix u op a ks ps (mvN fr 1 op a) (i:Int) w (b.map some)).as (.ret (.ptr 3 0)) (aA (PHr fr 1 us ts (.mk op (mvN fr 1 op a) (b++dS fr 1 f) ps)) 5)
 | [],b,w,i,h,q,p,_=>by
  have x:=bJ h;simp only [dS,oS];exact aX9 r (by omega) (bCd fr 1 us ts ix u op a ks ps _ (i:Int) w (b.map some) sd)
 | t::f,b,w,i,h,q,p,k=>by
  simp only [aK9]at k;obtain⟨s,v,o⟩ :=bE h;have d:ks≠ [] :=fun e=>by subst e;simp at o
  refine(bCc fr 1 us ts ix u op a ks ps _ (i:Int) w (b.map some) sd).ends (bGD fr 1 us ts ix u op a ks ps _ (i:Int) w (b.map some) d fun c j=>?_);obtain⟨l,g⟩ :=eK j o;refine(bCg fr 1 us ts ix u op a ks ps _ (i:Int) w (b.map some) c l (rS fr 1 t) sd sd sd (wP (m:=2) (ks:=[0,1,9]) (aSD fr t k.1 c (ks.map some) i l g (by rw [mZ,s];rfl)) aC aC trivial trivial) (by omega)).ends ?_;refine bGE fr 1 us ts ix u op a ks ps _ _ c (i:Int) w (b.map some) fun n=>?_;refine((bCe fr 1 us ts ix u op a ks ps _ _ c (i:Int) w (b.map some) n).trans ((bGF fr 1 us ts ix u op a ks ps _ c _ _ (i:Int) d).trans (bCf fr 1 us ts ix u op a ks ps _ c _ _ (i:Int) sd))).ends ?_;have:=aSE fr us ts ix u op a ks ps r hk f (b++ [rS fr 1 t]) (w++ [n]) (i+1) v (by simp [q]) (by simp [p]) k.2;rw [zq9,wX]at this;simp only [dS];exact this
end
theorem aSF (fr:Int)(t:XT)(h:OkT t)(us:List (Nat×Nat))(ts:List (Option XT))(ix:Nat)(u:Nat×Nat)(a:us[ix]?=some u)(b:ts[ix]?=some (some t)) :
  gI PP 0 (.enter 249 [aU u,.int .i64 fr,.int .i64 1]) (aA [(0,(.zone true [] (ZV us ts)),false)] 1) (.ret (.ptr 1 0)) (aA [(0,(.zone true [] (ZV us ts)),false),(1,gh,false),(2,.zone true [1] (Z1 (rS fr 1 t)),false)] 3) :=by
 refine⟨(bFc us ts ix u fr 1).as.fr,by kernel_rfl,?_⟩;have:=bCn us ts ix u fr 1 (rS fr 1 t) (wP (m:=2) (ks:=[1,2,0]) (aSD fr t h us ts ix u a b) aC aC trivial trivial);exact iK (ks:=[1,0,2]) this aC aC aC trivial
section
variable {P :Program}
theorem aI4 {call:bR}(hc:eP P call){m:Nat}:∀ {n:Nat} {s:AS} {v:AV} {b:Hp},aJF P call n s=some (v,b) →Ends P m s (.ret v) b
 |0,s,v,b,a=>by simp [aJF]at a
 | n + 1,s,v,b,a=>by
  simp only [aJF]at a;split at a
  · rename_i x d;cases a;exact nG d
  · split at a
    · rename_i e c;exact(dX hc c).ends (aI4 hc a)
    ·cases a
def aCd :AObj→AObj
 | .cells t n _ _=>.cells t n [] false
 |o=>o
def sO (hp:List (Nat×AObj)) :List (Nat×AObj×Bool) :=hp.map fun p=> (p.1,aCd p.2,false)
def aOd (x:Nat) :List (Nat×AObj) →Bool
 | [] =>false
 |p::r=>Nat.beq p.1 x||aOd x r
def aGT (l:List (Nat×AObj)) :List Nat→Bool
 | [] =>true
 |x::r=> !(aOd x l) &&aGT l r
def aDu (l:List (Nat×AObj)) :List (Nat×AObj) →Bool
 | [] =>true
 |p::r=>aGT l (bW p.2) &&aDu l r
theorem aDv {x:Nat}:∀ {l:List (Nat×AObj)},∀p∈l,p.1=x→aOd x l=true
 | q::r,p,a,e=>by
  simp only [aOd,Bool.or_eq_true];rcases zq7.1 a with rfl|a
  ·exact .inl (by rw [e];exact Nat.beq_refl x)
  ·exact .inr (aDv p a e)
theorem aA9 {l:List (Nat×AObj)}:∀ {k:List Nat},aGT l k=true→∀x∈k,aOd x l=false
 | y::r,h,x,a=>by
  simp only [aGT,cF,Bool.not_eq_true']at h;rcases zq7.1 a with rfl|a
  ·exact h.1
  ·exact aA9 h.2 x a
theorem aBa {l:List (Nat×AObj)}:∀ {k:List (Nat×AObj)},aDu l k=true→∀p∈k,aGT l (bW p.2) =true
 | q::r,h,p,a=>by
  simp only [aDu,cF]at h;rcases zq7.1 a with rfl|a
  ·exact h.1
  ·exact aBa h.2 p a
theorem aI5 {h:Hp}:∀ {a:List (Nat×AObj)},(a.map fun p=>h.look p.1) = (a.map fun p=>some p.2) →∀p∈a,h.look p.1=some p.2
 | q::r,e,p,a=>by
  simp only [dJ,List.cons.injEq]at e;rcases zq7.1 a with rfl|a
  ·exact e.1
  ·exact aI5 e.2 p a
theorem nN {h:Hp}{hp:List (Nat×AObj)}{nb:Nat}(hl: (hp.map fun p=>h.look p.1) = (hp.map fun p=>some p.2)){b:Nat}{o:AObj}(e: (aA (sO hp) nb).look b=some o) :∃o1,(b,o1) ∈hp∧h.look b=some o1∧o=aCd o1:=by
 obtain⟨f,hm⟩ :=hU e;obtain⟨⟨g,d⟩,a,c⟩ :=zq24.1 hm;cases c;exact⟨d,a,aI5 hl _ a,rfl⟩
theorem aAa {o:AObj}{L:Loc}{i:Nat}:Own (aCd o) L i→Own o L i:=by cases o<;>exact id
theorem aYa {E:Emb}{H:Array Obj}{o:AObj}{L:Loc}:OR E H L o→OR E H L (aCd o) :=by cases o<;>exact id
theorem aOe (o:AObj) :lN (aCd o) =lN o:=by cases o<;>rfl
theorem aVA {E:Emb}{h:Hp}{H:Array Obj}(r:Rel E h H){hp:List (Nat×AObj)}{nb:Nat}(hl: (hp.map fun p=>h.look p.1) = (hp.map fun p=>some p.2))(m:aDu hp hp=true)(u:h.nb=nb) :Rel E (aA (sO hp) nb) H:=by
 subst u;refine⟨fun b o e=>?_,fun b v o D L L' e y k A hm f=>?_,r.fresh,r.imm,fun b o L e k i q=>?_,fun b o e=>?_⟩
 · obtain⟨a,d,c,rfl⟩ :=nN hl e;rcases r.obj0 b a c with⟨z,t⟩ | ⟨L,w,s⟩
   ·exact .inl ⟨by rw [aOe];exact z,t⟩
   ·exact .inr ⟨L,w,aYa s⟩
 · obtain⟨a,d,c,rfl⟩ :=nN hl e;obtain⟨l,n,B,rfl⟩ :=nN hl y;exfalso;have j:Meet a l L L':=by
    obtain⟨i,C,x⟩ :=hm;exact⟨i,aAa C,aAa x⟩
   rcases r.kin b v a l L L' c B k A j f with⟨g,_⟩ | ⟨g,_⟩
   · have:=aA9 (aBa m _ d) _ g;rw [aDv _ n rfl]at this;cases this
   · have:=aA9 (aBa m _ n) _ g;rw [aDv _ d rfl]at this;cases this
 · obtain⟨a,d,c,rfl⟩ :=nN hl e;exact r.apart b a L c k i (aAa q)
 · obtain⟨a,d,c,rfl⟩ :=nN hl e;exact r.keys b a c
theorem aEh {fr:AFrame}{cs:List AFrame}{h:Hp}{hp:List (Nat×AObj)}{nb:Nat}(hl: (hp.map fun p=>h.look p.1) = (hp.map fun p=>some p.2))(k:aDu hp hp=true)(l:h.nb=nb) :Leads P ⟨fr,cs,h⟩ ⟨fr,cs,aA (sO hp) nb⟩ :=fun E fr c w d f fs r=>by
 have a:∀ {x o},(aA (sO hp) nb).look x=some o→∃b,h.look x=some b∧∀L i,Own o L i→Own b L i:=fun {x o} e=>by
  obtain⟨n,_,j,rfl⟩ :=nN hl e;exact⟨n,j,fun L i=>aAa⟩
 refine⟨E,fr,c,w,Steps.refl _ _,f,fs,aVA r hl k l,⟨Emb.le.refl E,le_refl _,fun _ _ _=>rfl,fun x o L t m i g _=>by obtain⟨b,e,q⟩ :=a t;exact⟨x,b,L,e,m,q L i g⟩,?_,rfl,rfl,rfl,fun _ _=>rfl,fun _ _=>rfl,fun _ _ e _=>.inl e,fun x o e _=>by obtain⟨b,s,_⟩ :=a e;exact⟨b,s⟩⟩⟩;show h.nb≤nb;omega
theorem aCe {f:Nat}{a:List AV}{g:AFrame}{fr:AFrame}{h:Hp}{hp:List (Nat×AObj)}{nb:Nat}{v:AV}(b:dW P (aA [] 0) (.enter f a) =some g)(e:Leads P ⟨g,[],aA [] 0⟩ ⟨fr,[],h⟩)(hl: (hp.map fun p=>h.look p.1) = (hp.map fun p=>some p.2))(c:aDu hp hp=true)(d:h.nb=nb)
  (i:xC P ⟨fr,[],aA (sO hp) nb⟩ =some (v,aA (sO hp) nb)) :gI P 0 (.enter f a) (aA [] 0) (.ret v) (aA (sO hp) nb) :=
 ⟨g,b,((e.trans (aEh hl c d)).toM).ends (nG i)⟩
theorem aAb {n d k:Nat}{c:AIn}{h:Hp}{v:AV}{l:List (Nat×AObj×Bool)}{nb:Nat}
  (i: (xE P n (d+1) k c h).map (fun r=> (r.1,r.2.nb,l.map fun p=>r.2.look p.1)) =some (v,nb,l.map fun p=>some p.2.1)) (hb:h.nb≤nb) :Spec P c h (.ret v) (aA l nb) :=by
 simp only [xE]at i;split at i
 · rename_i g H;cases hr:aJF P (xE P n d) n ⟨g,[],h⟩with
   |none=>rw [hr]at i;cases i
   | some r=>
    rw [hr]at i;simp only [Option.map_some,Option.some.injEq,Prod.mk.injEq]at i;obtain⟨rfl,rfl,J⟩ :=i;refine⟨g,H,?_⟩;have e:=aI4 (m:=h.nb) (uQ n d) hr
    have x:∀b o,(aA l r.2.nb).look b=some o→r.2.look b=some o:=fun b o e=>by
     obtain⟨M,hm⟩ :=hU e;have:∀ {k:List (Nat×AObj×Bool)},(k.map fun p=>r.2.look p.1) = (k.map fun p=>some p.2.1) →∀p∈k,r.2.look p.1=some p.2.1:=by
      intro k
      induction k with
      |nil=>intro _ p s;cases s
      | cons q k D=>
       intro e p s;simp only [dJ,List.cons.injEq]at e;rcases zq7.1 s with rfl|s
       ·exact e.1
       ·exact D e.2 p s
     exact this J _ hm
    intro hm E fr u w f fs C F j;obtain⟨t,I,A,G,B,L,a⟩ :=e hm E fr u w f fs C F j;exact⟨t,I,A,G,B,L.sub x (le_refl _),⟨a.low,a.imm,a.size,a.keep,fun y z K e=>a.own y z K (x y z e),hb,a.os,a.tape,a.output,a.froz,a.immo,fun b o e=>a.keys b o (x b o e)⟩⟩
 ·cases i
def aYb (τ:Nat→Nat) :List (Nat×AObj×Bool) →List (Nat×AObj×Bool)
 | [] =>[]
 |p::r=> (τ p.1,p.2.1.ren τ,false) ::aYb τ r
theorem bIb {l:List (Nat×AObj×Bool)}(h:fJ l=True) :fJ l:=h.symm ▸ trivial
theorem aEi {f:Nat}{a:List AV}{v v':AV}{l' lc lc':List (Nat×AObj×Bool)}{b n2 n3:Nat}(k:gI P 0 (.enter f a) (aA [] 0) (.ret v) (aA l' b))
  (hb: (cR 0 ⟨⟨0,0,[],[],[],.run,.normal,none⟩,[],[],0⟩ [] &&yL l'&&fS b l'&&fS n2 lc&&fS n3 lc') =true)
  (he: (b-0+n2,ren (kL 0 n2 []) v,renL (fE 0 0 n2 []) a,tG (aA lc' n3) (kL 0 n2 []) l',aD5 (namesT (kL 0 n2 []) l') [] (aA lc n2) lc',qX l') = (n3,v',a,iE (kL 0 n2 []) l',qX lc',(l'.map fun p=> (aA l' b).look p.1)))
  (c:fJ l'=True) :Spec P (.enter f a) (aA lc n2) (.ret v') (aA lc' n3) :=by
 simp only [cF]at hb;obtain⟨⟨⟨⟨e,n⟩,d⟩,i⟩,j⟩ :=hb;simp only [Prod.mk.injEq]at he;obtain⟨g,l,q,o,r,h⟩ :=he;refine wP (m:=0) (ks:=[]) k ?_ ?_ trivial (bIb c)
 · simp only [cF];exact⟨⟨⟨⟨⟨⟨⟨rfl,by cases b<;>rfl⟩,e⟩,n⟩,d⟩,i⟩,j⟩,rfl⟩
 · simp only [Prod.mk.injEq];exact⟨g,l,q,rfl,o,r,h⟩
theorem aLa {s i:AS}{b:Bool}{is:List Ins}{ps:List Prop}(hl:Leads P s i)(d: (rO P is i).map (fun x=> ((xC P x.1).map Prod.fst,x.2)) =some (some (.bool b),ps))(hp:AllP ps) :Ends P 0 s (.ret (.bool b)) (aA [] 0) :=by
 cases hr:rO P is i with
 |none=>rw [hr]at d;cases d
 | some r=>
  obtain⟨s2,qs⟩ :=r;rw [hr]at d;simp only [Option.map_some,Option.some.injEq,Prod.mk.injEq]at d;obtain⟨g,rfl⟩ :=d;cases h:xC P s2 with
  |none=>rw [h]at g;cases g
  | some u=>
   obtain⟨v,F⟩ :=u;rw [h]at g;simp only [Option.map_some,Option.some.injEq]at g;subst g;have z:LeadsM P 0 s s2:= (hl.toM).trans (iD hr (fun p k=>hp.mem p k));intro hm E fr j w f fs r t c;obtain⟨l,y,m,q,⟨A,rfl,B⟩,n,a⟩ := (z.ends (nG h)) hm E fr j w f fs r t c;refine⟨_,y,m.p,q,⟨A,rfl,?_⟩,aF6 n,⟨fun b hb=>absurd hb (Nat.not_lt_zero _),a.imm,a.size,a.keep,fun C D G e=>?_,le_refl _,a.os,a.tape,a.output,a.froz,a.immo,fun b o e=>?_⟩⟩
   ·simpa only [VR]using B
   ·simp [aBV,Hp.look,T.at_leaf]at e
   ·simp [aBV,Hp.look,T.at_leaf]at e
theorem aRh {h h':Hp}{g:Nat}{us:List (Nat×Nat)}{ts:List (Option XT)}{i:Nat}{u:Nat×Nat}{t:XT}(v:h.look g=some (.zone true [] (ZV us ts)))(hu:us[i]?=some u)(ht:ts[i]?=some (some t))(hn:h'.nb=h.nb+2)
  (hl:∀b o,h'.look b=some o→ (b=h.nb∧o= .zone true [] (ZV us (ts.set i none))) ∨ (b=h.nb+1∧o= .zone true [] (ZV [u] [some t])) ∨ (b≠g∧h.look b=some o)) :kV h h':=fun E w r=>by
 obtain⟨F,g1,g2⟩ :=r.obj g _ v;obtain⟨Ls,_,D,A⟩ :=gJ g2;obtain⟨a,F1,f,O,X,V,T⟩ :=A.out ht;rw [hu]at O;cases O;have m:= (T.nodup_iff).2 D;obtain⟨I,B,j⟩ :=List.nodup_append.1 m
 let E':Emb:= ⟨fun b=>if b=h.nb then some ⟨jD f,0,0⟩else if b=h.nb+1 then some ⟨jD F1,0,0⟩else E b,E.imm⟩
 have G:E' h.nb=some ⟨jD f,0,0⟩ :=if_pos rfl;have z:E' (h.nb+1) =some ⟨jD F1,0,0⟩ :=by simp [E']
 have S:∀ {b},b<h.nb∨h.nb+2≤b→E' b=E b:=fun {b} hb=>by
  simp only [E'];rw [if_neg (by omega),if_neg (by omega)]
 have hgb:=r.keys g _ v;have oz:OR E' w.heap ⟨jD f,0,0⟩ (.zone true [] (ZV us (ts.set i none))) :=vF (Ls:=[]) rfl (OsAt.blk _ us f V) (fun l H' c H=> ⟨B,OsAt.go c _ us f V H⟩);have q:OsAt E.imm w.heap [u] [some t] F1:=by
  simp only [OsAt];exact⟨u,[],F1,[],rfl,by simp,X,rfl,rfl⟩
 have oh:OR E' w.heap ⟨jD F1,0,0⟩ (.zone true [] (ZV [u] [some t])) :=vF (Ls:=[]) rfl (OsAt.blk _ _ F1 q) (fun l H' c H=> ⟨I,OsAt.go c _ _ F1 q H⟩);have n:∀ {i},i∈F1∨i∈f→i∈jK F.blk:=fun {i} c=> (T.mem_iff).1 (zq28.2 c);have old:∀i,i∈jK F.blk→∃C U J,¬ (fun b=>b≠g) C∧h.look C=some U∧E C=some J∧Own U J i:=fun i c=> ⟨g,_,F,fun s=>s rfl,v,g1,c⟩
 obtain ⟨Y,q2,Z⟩ :=r.swap (E':=E') (h':=h') (fun b=>b≠g) (by omega) (fun b hb=>S (.inl hb)) rfl (fun b hb=>by rw [S (by omega)];exact r.fresh b (by omega))
  (fun b o e hb=>by
   have h2:b=g:=Classical.not_not.1 hb;subst h2;rw [v]at e;cases e;exact⟨rfl,rfl⟩)
  (fun b o e=>by
   rcases hl b o e with⟨rfl,rfl⟩ | ⟨rfl,rfl⟩ |d
   ·exact .inr ⟨by omega,rfl,rfl,fun s=>absurd s (by omega),_,G,oz,fun i c=>old i (n (.inr (zone_own.1 c)))⟩
   ·exact .inr ⟨by omega,rfl,rfl,fun s=>absurd s (by omega),_,z,oh,fun i c=>old i (n (.inl (zone_own.1 c)))⟩
   ·exact .inl d)
  (fun b K o M L L' n1 Q e R k y p hm=>by
   obtain⟨x,W,N⟩ :=hm;rcases hl b o e with⟨rfl,rfl⟩ | ⟨rfl,rfl⟩ |d
   · rw [G]at k;cases k;rcases hl K M R with⟨rfl,rfl⟩ | ⟨rfl,rfl⟩ |d
     ·exact p rfl
     · rw [z]at y;cases y;exact j x (zone_own.1 N) x (zone_own.1 W) rfl
     ·exact Q d
   · rw [z]at k;cases k;rcases hl K M R with⟨rfl,rfl⟩ | ⟨rfl,rfl⟩ |d
     · rw [G]at y;cases y;exact j x (zone_own.1 W) x (zone_own.1 N) rfl
     ·exact p rfl
     ·exact Q d
   ·exact n1 d)
 exact⟨E',Y,q2,Z⟩
theorem bCr {i:Type}{m:Nat}{s:AS}{v:AV}{h:Hp}{h1:i→Hp}{h2:Hp}{ok:i→Prop}(e:Ends P m s (.ret v) h)(z:aA1 h ok h1)(hm:m≤h.nb)(D:∀x,ok x→kV (h1 x) h2)(g:∀x,m≤ (h1 x).nb) :Ends P m s (.ret v) h2:=fun c E fr b w f fs r F a=>by
 obtain⟨j,d,n,G,⟨B,rfl,C⟩,y,u⟩ :=e c E fr b w f fs r F a;obtain⟨x,t,l,h1,h2,A⟩ :=z n d y;obtain⟨p,o,k,q⟩ :=D x l t d h2;exact⟨_,d,p,G,⟨B,rfl,(C.mono h1).mono o⟩,k,(u.trans (A m hm)).trans (q m (g x))⟩
end
theorem aI6 {E:Emb}{v:Value}(h:VR E .nils v) :VR E (.ilst 4 (av []) false) v:=by
 simp only [VR]at h ⊢;subst h;exact⟨[],by simp [av,VRs],fun _ a=>by(cases a),.inl ⟨rfl,none,0,rfl,fun _=>rfl,fun h=>by(cases h)⟩⟩
theorem bCs (op n:Int) :gI PP 0 (.enter 250 [.int .i64 op,.int .i64 n,.nils]) (aA [] 0) (.ret (.ptr 0 0)) (aA (NT (.mk op n [] [])) 2) :=by
 refine⟨(bFf op n).as.fr,by kernel_rfl,?_⟩;have z:kV (aA [(0,(.cells (putCells .leaf 0 [(.int .i64 op),(.int .i64 n),.nils,.nils]) 4 [] false),false)] 1) (aA (NT (.mk op n [] [])) 2) :=
  aWN (h:=aA [(0,(.cells (putCells .leaf 0 [(.int .i64 op),(.int .i64 n),.nils,.nils]) 4 [] false),false)] 1) (h':=aA (NT (.mk op n [] [])) 2) (b:=0) (op:=op) (n:=n) (ps:=[]) (kv:=.nils) (pv:=.nils) aC (fun _ _ h=> ⟨none,by simpa only [VR]using h⟩) (fun _ _ h=>aI6 h) (le_refl _)
   (aZ ⟨.inr (.inl ⟨rfl,rfl⟩),.inl ⟨rfl,rfl⟩,trivial⟩)
 exact rQ (bCp op n) z (zero_le _)
abbrev LT0 (us:List (Nat×Nat))(ts:List (Option XT))(u:Nat×Nat)(tb:XT) :HL:=[(0,(.cells (putCells .leaf 0 [(.int .i64 7),(.int .i64 0),(.gl 1 1 0 ((length [u]) +1) false),.nils]) 4 [] false),false),(1,(.lst 1 (map aU [u] ++ [.ptr 2 0])),false),(2,gh,false),(3,(.zone true [] (ZV us ts)),false),(4,(.zone true [2] (Z1 tb)),false)]
abbrev LT1 (us:List (Nat×Nat))(ts:List (Option XT))(ix:Nat)(u:Nat×Nat)(ta tb:XT) :HL:=[(0,(.cells (putCells .leaf 0 [(.int .i64 7),(.int .i64 0),(.gl 1 1 0 ((length [u]) +1) false),.nils]) 4 [] false),false),(1,(.lst 1 (map aU [u] ++ [.ptr 2 0])),false),(2,gh,false),(4,(.zone true [2] (Z1 tb)),false),(5,(.zone true [] (ZV us (ts.set ix none))),false),(6,(.zone true [] (ZV [u] [some ta])),false)]
abbrev LT2 (us:List (Nat×Nat))(ts:List (Option XT))(ix:Nat)(u:Nat×Nat)(ta tb:XT)(u9:Nat×Nat) :HL:=[(0,(.cells (putCells .leaf 0 [(.int .i64 7),(.int .i64 0),(.gl 1 1 0 ((length [u]) +1) false),.nils]) 4 [] false),false),(1,(.lst 1 (map aU [u,u9])),true),(5,(.zone true [] (ZV us (ts.set ix none))),false),(7,(.zone true [] (ZV [u,u9] [some ta,some tb])),false)]
abbrev LT3 (us:List (Nat×Nat))(ts:List (Option XT))(ix:Nat)(t:XT) :HL:=[(0,gh,false),(5,(.zone true [] (ZV us (ts.set ix none))),false),(8,(.zone true [0] (Z1 t)),false)]
theorem aLb (us:List (Nat×Nat))(ts:List (Option XT))(ix:Nat)(u:Nat×Nat)(c a:XT)(f:us[ix]?=some u)(j:ts[ix]?=some (some c)) :
  gI PP 0 (.enter 248 [aU u,.ptr 1 0]) (aA [(0,(.zone true [] (ZV us ts)),false),(1,gh,false),(2,.zone true [1] (Z1 a),false)] 3) (.ret (.ptr 1 0)) (aA [(0,(.zone true [] (ZV us (ts.set ix none))),false),(1,gh,false),(2,.zone true [1] (Z1 (.mk 7 0 [c,a] [])),false)] 3) :=by
 refine⟨(bFd us ts ix u a).as.fr,by kernel_rfl,?_⟩;have e:kV (aA (LT0 us ts u a) 5) (aA (LT1 us ts ix u c a) 7) :=
  aRh (h:=aA (LT0 us ts u a) 5) (h':=aA (LT1 us ts ix u c a) 7) (g:=3) (us:=us) (ts:=ts) (i:=ix) (u:=u) (t:=c) aC f j rfl
   (aZ ⟨.inr (.inr ⟨by decide,by kernel_rfl⟩),.inr (.inr ⟨by decide,by kernel_rfl⟩),.inr (.inr ⟨by decide,by kernel_rfl⟩),.inr (.inr ⟨by decide,by kernel_rfl⟩),.inl ⟨rfl,rfl⟩,.inr (.inl ⟨rfl,rfl⟩),trivial⟩)
 have l:aA1 (aA (LT1 us ts ix u c a) 7) (fun _=>True) (fun d=>aA (LT2 us ts ix u c a d) 8) :=
  aEW (h:=aA (LT1 us ts ix u c a) 7) (h':=fun d=>aA (LT2 us ts ix u c a d) 8) (k:=1) (g:=6) (gz:=4) (z:=2) (us:=[u]) (ts:=[some c]) (t:=a) aC aC aC (by decide) (fun _=>le_refl _)
   (fun d=>aZ ⟨.inr (.inr ⟨by decide,by kernel_rfl⟩),.inr (.inl ⟨rfl,rfl⟩),.inr (.inr ⟨by decide,by kernel_rfl⟩),.inl ⟨rfl,rfl⟩,trivial⟩)
 have m:∀d,kV (aA (LT2 us ts ix u c a d) 8) (aA (LT3 us ts ix (.mk 7 0 [c,a] [])) 9) :=fun d=>
  aB4 (h:=aA (LT2 us ts ix u c a d) 8) (h':=aA (LT3 us ts ix (.mk 7 0 [c,a] [])) 9) (b:=0) (k:=1) (g:=7) (us:=[u,d]) (op:=7) (n:=0) (ts:=[c,a]) (ps:=[]) (len:= (length [u]) +1) (ex:=false) (pv:=.nils) aC rfl (fun _ _ h=>aI6 h) aC aC (le_refl _)
   (aZ ⟨.inr (.inl ⟨rfl,rfl⟩),.inr (.inr ⟨by decide,by kernel_rfl⟩),.inl ⟨rfl,rfl⟩,trivial⟩)
 exact iK (ks:=[5,0,8]) (bCr (rQ (bCi us ts ix u a) e (zero_le _)) l (zero_le _) (fun d _=>m d) (fun _=>zero_le _)) aC aC aC trivial
theorem aLc (us:List (Nat×Nat)) :AV.keylessL (map aU us) =true:=aG _ (fun _=>rfl) us
theorem bCt :∀ (a:List (Nat×Nat)),a≠ [] →a.length≤1000000→gI PP 1 (.enter 254 [.gl 0 1 0 (length a) false]) (aA [(0,(.lst 1 (map aU a)),true)] 1) (.ret (.gl 1 1 0 (length a) false)) (aA [(0,(.lst 1 (map aU a)),true),(1,(.lst 1 (map aU a)),true)] 2)
 | [],h,_=>absurd rfl h
 |u::a,_,h=> ⟨(bFe u a).as.fr,by kernel_rfl,bCo u a h⟩
abbrev aRi (a:Nat)(b c:Int)(d:List XT)(e:List Pat):=oC a [(nI b),(nI c),(.gl 2 1 0 d.length false),(iP e)]
abbrev aE8 (a b:Int)(c:List XT)(d:List Pat):=[aRi 1 a b c d,(2,gh,false),(3,(.zone true [2] (cQ c)),false)]
abbrev aSG (a:List (Nat×Nat))(b:List (Option XT))(c:Nat)(d:List (Nat×Nat))(e:List (Option XT))(f:List (Nat×Nat))(g:List XT)(h:XT):List (Nat×AObj×Bool):=[(4,(.zone true [] (ZV a (set b c none))),false),(6,(.zone true [] (ZV d e)),false),(7,(.zone true [] (ZV f (map some g))),false),(8,gh,false),(9,(.zone true [8] (Z1 h)),false)]
abbrev rT (a:List (Nat×Nat))(b:List (Option XT))(c:Nat)(d:List (Nat×Nat))(e:List XT):List (Nat×AObj×Bool):=[(4,(.zone true [] (ZV a (set b c none))),false),(5,(.zone true [] (ZV d (map some e))),false)]
abbrev aAc (a:Nat)(b:List (Nat×Nat)):=oL a 1 (map aU b)
abbrev aLd (a b:Int)(c:List XT)(d:List Pat)(e f:List (Nat×Nat))(g:List (Option XT))(h:Nat)(i j:Int)(k:List XT)(l:List Pat)(m:List (Nat×Nat)):=[oC 0 [(nI a),(nI b),(.gl 1 1 0 c.length false),(iP d)],aAc 1 e,(2,(.zone true [] (ZV f (set g h none))),false),oC 4 [(nI i),(nI j),(.gl 5 1 0 k.length false),(iP l)],aAc 5 m]
abbrev dB (a:Nat)(b:List (Nat×Nat)):=oL a 1 (map aU b)
abbrev aCf (a b:List (Nat×Nat))(c:List (Option XT))(d:Nat):=[dB 1 a,(2,(.zone true [] (ZV b (set c d none))),false)]
abbrev aSH (a b:Int)(c:List (Nat×Nat))(d:List Pat)(e f:List (Nat×Nat))(g:List (Option XT))(h:Nat)(i:List XT)(j:List (Option XT)):=aA ([oC 0 [(nI a),(nI b),(.gl 2 1 0 c.length false),(iP d)],oC 1 [(nI a),(nI b),(.gl 3 1 0 c.length false),(iP d)],oL 2 1 (map aU c),oL 3 1 (map aU e)]++rT f g h c i++[(6,(.zone true [] (ZV e j)),false)]) 7
abbrev aCg (a:List (Nat×Nat)):AV:=.gl 3 1 0 a.length false
abbrev aYc (a b c:Int)(d:List (Nat×Nat))(e:List Pat)(f g:List (Nat×Nat))(h:List (Option XT))(i:Nat)(j:List XT)(k:List (Option XT)):=Spec PP (.enter 250 [(nI 4),(nI a),.nils]) (aSH b c d e f g h i j k) (.ret (.ptr 7 0)) (aA ([oC 0 [(nI b),(nI c),(.gl 2 1 0 d.length false),(iP e)],oC 1 [(nI b),(nI c),(aCg d),(iP e)],aAc 2 d,aAc 3 f]++rT g h i d j++[(6,(.zone true [] (ZV f k)),false),(7,gh,false),(8,(.zone true [7] (Z1 (XT.mk 4 a [] []))),false)]) 9)
abbrev aYd (a:Nat×Nat)(b c d:Int)(e:List (Nat×Nat))(f:List Pat)(g h:List (Nat×Nat))(i:List (Option XT))(j:Nat)(k:List XT)(l:List (Option XT))(m:XT):=Spec PP (.enter 249 [(aU a),(nI b),(nI 1)]) (aSH c d e f g h i j k l) (.ret (.ptr 8 0)) (aA ([oC 0 [(nI c),(nI d),(.gl 2 1 0 e.length false),(iP f)],oC 1 [(nI c),(nI d),(aCg e),(iP f)],aAc 2 e,aAc 3 g]++aSG h i j g l e k m) 10)
abbrev aYe (a b:Int)(c:List XT)(d:List Pat)(e f:List (Nat×Nat))(g:List (Option XT))(h:Nat)(i j:Int)(k:List XT)(l:List Pat)(m:List (Nat×Nat))(n:XT):=aA (aLd a b c d e f g h i j k l m++[(10,(.zone true [] (ZV e (set (map some c) 0 none))),false),(16,(.zone true [] (ZV m (set (set (map some k) 1 none) 0 none))),false),(17,gh,false),(18,(.zone true [17] (Z1 n)),false)]) 19
abbrev aRj (a b:Int)(c:List XT)(d:List Pat)(e f:List (Nat×Nat))(g:List (Option XT))(h:Nat)(i j:Int)(k:List XT)(l:List Pat)(m:List (Nat×Nat))(n:XT):=aA (aLd a b c d e f g h i j k l m++[(10,(.zone true [] (ZV e (set (map some c) 0 none))),false),(13,(.zone true [] (ZV m (set (map some k) 1 none))),false),(14,gh,false),(15,(.zone true [14] (Z1 n)),false)]) 16
abbrev aRk (a b:Int)(c:List XT)(d:List Pat)(e f:List (Nat×Nat))(g:List (Option XT))(h:Nat)(i j:Int)(k:List XT)(l:List Pat)(m:List (Nat×Nat))(n:XT):=aA (aLd a b c d e f g h i j k l m++[(9,(.zone true [] (ZV m (map some k))),false),(10,(.zone true [] (ZV e (set (map some c) 0 none))),false),(11,gh,false),(12,(.zone true [11] (Z1 n)),false)]) 13
abbrev jV (a:Nat)(b c:Int)(d:List (Nat×Nat))(e:List Pat):=oC a [(nI b),(nI c),(.gl 2 1 0 d.length false),(iP e)]
abbrev sP (a:Nat)(b c:Int)(d:List (Nat×Nat))(e:List Pat):=oC a [(nI b),(nI c),(aCg d),(iP e)]
abbrev aGU (a:Nat)(b c:Int)(d:List XT)(e:List Pat):=oC a [(nI b),(nI c),(.gl 1 1 0 d.length false),(iP e)]
abbrev aE9 (a:Nat)(b c:Int)(d:List XT)(e:List Pat):=oC a [(nI b),(nI c),(.gl 5 1 0 d.length false),(iP e)]
abbrev rU (a:List (Nat×Nat)):AV:=.gl 2 1 0 a.length false
def bFg(a:List (Nat×Nat))(b:List (Option XT))(f:Nat)(c:Nat×Nat)(g i:Int)(j:List XT)(k:List Pat)(d e:Int)(l:List (Nat×Nat)):TS:=cO PP 253 [(nI d),(aU c),(nI e)] [(0,(.zone true [] (ZV a b)),false)] 1
def aRl(a:List (Nat×Nat))(b:List (Option XT))(f:Nat)(c:Nat×Nat)(g i:Int)(j:List XT)(k:List Pat)(d e:Int)(l:List (Nat×Nat)):TS:=⟨(tf 253 54 [(0,(nI d)),(1,(aU c)),(2,(nI e)),(6,.nilp)] [kc f253 6,kc f253 7]),[],[(0,(.zone true [] (ZV a b)),false)],1⟩
def aFa(c:List (Nat×Nat))(d:List (Option XT))(e:Nat)(l:Nat×Nat)(f g:Int)(a:List XT)(i:List Pat)(j k:Int)(b:List (Nat×Nat)):TS:=⟨(tf 253 54 [(0,(nI j)),kp 1 1,(2,(nI k)),(6,.nilp)] [kc f253 6,kc f253 7]),[],[aRi 1 f g a i,dB 2 b,(5,(.zone true [] (ZV c (set d e none))),false),(6,(.zone true [] (ZV b (map some a))),false)],7⟩
def aRm(e:List (Nat×Nat))(f:List (Option XT))(g:Nat)(l:Nat×Nat)(b c:Int)(i:List XT)(d:List Pat)(j k:Int)(a:List (Nat×Nat)):TS:=⟨(tf 253 54 [(0,(nI j)),kp 1 0,(2,(nI k)),(6,.nilp),kp 7 1] [kc f253 60,kc f253 61,kc f253 31]),[],([jV 0 b c a d,sP 1 b c a d,dB 2 a,dB 3 a]++rT e f g a i),6⟩
def aLe(e:List (Nat×Nat))(f:List (Option XT))(g:Nat)(l:Nat×Nat)(b c:Int)(i:List XT)(d:List Pat)(j k:Int)(a:List (Nat×Nat)):TS:=⟨(tf 253 54 [(0,(nI j)),kp 1 0,(2,(nI k)),(6,.nilp),kp 7 1] [kc f253 60,kc f253 61,kc f253 31]),[],([jV 0 b c a d,sP 1 b c a d,dB 2 a,dB 3 a]++rT e f g a i++[(6,(.zone true [] (ZV a (map (fun _=>none) a))),false)]),7⟩
def yU(f:List (Nat×Nat))(g:List (Option XT))(i:Nat)(o:Nat×Nat)(b c:Int)(j:List XT)(d:List Pat)(k l:Int)(a:List (Nat×Nat))(m:List (Option XT))(n:Int)(e:List (Nat×Nat)):TS:=⟨(tf 253 54 [(0,(nI k)),kp 1 0,(2,(nI l)),(6,.nilp),kp 7 1,(22,(rU a)),(23,(nI (a.length:Int))),(24,(nI n))] [kc f253 244,kl f253 244,.inBlock 0,kc f253 31]),[],([jV 0 b c a d,sP 1 b c a d,dB 2 a,dB 3 e]++rT f g i a j++[(6,(.zone true [] (ZV e m)),false)]),7⟩
def aRn(f:List (Nat×Nat))(g:List (Option XT))(i:Nat)(q:Nat×Nat)(b c:Int)(j:List XT)(d:List Pat)(k l:Int)(a:List (Nat×Nat))(m:Nat)(n:XT)(o:List (Option XT))(p:Int)(e:List (Nat×Nat)):TS:=⟨(tf 253 54 [(0,(nI k)),kp 1 0,(2,(nI l)),(6,.nilp),kp 7 1,(22,(rU a)),(23,(nI (a.length:Int))),(24,(nI p))] [kc f253 1959,kl f253 244,.inBlock 0,kc f253 31]),[],[jV 0 b c a d,sP 1 b c a d,dB 2 a,(3,(.lst 1 ((map aU e).set m (.ptr 4 0))),false),(4,gh,false),(5,(.zone true [4] (Z1 n)),false),(6,(.zone true [] (ZV f (set g i none))),false),(7,(.zone true [] (ZV e o)),false),(8,(.zone true [] (ZV a (map some j))),false)],9⟩
def aFb(i:List (Nat×Nat))(j:List (Option XT))(k:Nat)(r:Nat×Nat)(c d:Int)(l:List XT)(e:List Pat)(m n:Int)(a:List (Nat×Nat))(b:Nat)(o:XT)(p:List (Option XT))(q:Int)(f:List (Nat×Nat))(g:Nat×Nat):TS:=⟨(tf 253 54 [(0,(nI m)),kp 1 0,(2,(nI n)),(6,.nilp),kp 7 1,(22,(rU a)),(23,(nI (a.length:Int))),(24,(nI q))] [kc f253 1959,kl f253 244,.inBlock 0,kc f253 31]),[],[jV 0 c d a e,sP 1 c d a e,dB 2 a,oL 3 1 (map aU (set f b g)),(6,(.zone true [] (ZV i (set j k none))),false),(8,(.zone true [] (ZV a (map some l))),false),(9,(.zone true [] (ZV (set f b g) (set p b (some o)))),false)],10⟩
def aRo(f:List (Nat×Nat))(g:List (Option XT))(i:Nat)(o:Nat×Nat)(b c:Int)(j:List XT)(d:List Pat)(k p:Int)(a:List (Nat×Nat))(l:Nat)(m:XT)(n:List (Option XT))(e:List (Nat×Nat)):TS:=⟨(tf 253 54 [(0,(nI k)),kp 1 0,(6,.nilp),kp 7 1] [kc f253 63]),[],[jV 0 b c a d,sP 1 b c a d,dB 2 a,(3,(.lst 1 ((map aU e).set l (.ptr 4 0))),false),(4,gh,false),(5,(.zone true [4] (Z1 m)),false),(6,(.zone true [] (ZV f (set g i none))),false),(7,(.zone true [] (ZV a (map some j))),false),(8,(.zone true [] (ZV e n)),false)],9⟩
def aFc(i:List (Nat×Nat))(j:List (Option XT))(k:Nat)(p:Nat×Nat)(c d:Int)(l:List XT)(e:List Pat)(m q:Int)(a:List (Nat×Nat))(b:Nat)(n:XT)(o:List (Option XT))(f:List (Nat×Nat))(g:Nat×Nat):TS:=⟨(tf 253 54 [(0,(nI m)),kp 1 0,(6,.nilp),kp 7 1] [kc f253 63]),[],[jV 0 c d a e,sP 1 c d a e,dB 2 a,oL 3 1 (map aU (set f b g)),(6,(.zone true [] (ZV i (set j k none))),false),(7,(.zone true [] (ZV a (map some l))),false),(9,(.zone true [] (ZV (set f b g) (set o b (some n)))),false)],10⟩
def aRp(f:List (Nat×Nat))(g:List (Option XT))(i:Nat)(m:Nat×Nat)(b c:Int)(j:List XT)(d:List Pat)(k n:Int)(a e:List (Nat×Nat))(l:List (Option XT)):TS:=⟨(tf 253 54 [(0,(nI k)),kp 1 0,(6,.nilp),kp 7 1] [kc f253 126,kc f253 127]),[],([jV 0 b c a d,sP 1 b c a d,dB 2 a,dB 3 e]++rT f g i a j++[(6,(.zone true [] (ZV e l)),false)]),7⟩
def aLf(e:List (Nat×Nat))(f:List (Option XT))(g:Nat)(l:Nat×Nat)(b c:Int)(i:List XT)(d:List Pat)(j m:Int)(a n:List (Nat×Nat))(o:List (Option XT))(k:List XT):TS:=⟨(tf 253 54 [(0,(nI j)),kp 1 0,(6,.nilp),kp 7 1] [kc f253 126,kc f253 127]),[],([jV 0 b c a d,(1,gh,false),dB 2 a]++rT e f g a i++[(7,(.zone true [1] (Z1 (XT.mk b c k d))),false)]),8⟩
def aCh(c:List (Nat×Nat))(d:List (Option XT))(a:Nat)(k:Nat×Nat)(e f:Int)(b:List XT)(g:List Pat)(i j:Int)(l:List (Nat×Nat)):TS:=⟨(tf 253 54 [(0,(nI i)),kp 1 1,(2,(nI j)),(6,.nilp)] [kc f253 6,kc f253 7]),[],(aE8 e f b g++[(4,(.zone true [1] (eY c (set d a none) a)),false)]),5⟩
theorem aYf (us: (List (Nat×Nat)))(ts: (List (Option XT)))(ix:Nat)(u: (Nat×Nat))(op a:Int)(ks:List XT)(ps:List Pat)(c sz:Int)(b: (List (Nat×Nat)))(d:us[ix]?=some u)(e: (ts)[ix]?=some (some (.mk op a ks ps))) :LeadsM PP 0 (aRl us ts ix u op a ks ps c sz b).as (aCh us ts ix u op a ks ps c sz b).as:=
 yT (j:=1) (v:=aU u) (v':=.ptr 1 0) aC (fun hm=>tI (h:= (aRl us ts ix u op a ks ps c sz b).as.h) (h':= (aCh us ts ix u op a ks ps c sz b).as.h) (g:=0) (us:=us) (ts:=ts) (i:=ix) (u:=u) (op:=op) (n:=a) (ks:=ks) (ps:=ps) aC d e rfl (aZ ⟨.inl ⟨rfl,rfl⟩,.inr (.inl ⟨rfl,rfl⟩),.inr (.inr (.inl ⟨rfl,rfl⟩)),.inr (.inr (.inr (.inl ⟨rfl,rfl⟩))),trivial⟩) hm) aC aC
def aCi(b:List (Nat×Nat))(c:List (Option XT))(d:Nat)(k:Nat×Nat)(e f:Int)(a:List XT)(g:List Pat)(i j:Int)(l:List (Nat×Nat)):TS:=⟨(tf 253 54 [(0,(nI i)),kp 1 1,(2,(nI j)),(6,.nilp)] [kc f253 6,kc f253 7]),[],(aE8 e f a g++[(5,(.zone true [] (ZV b (set c d none))),false)]),6⟩
theorem aYg (us: (List (Nat×Nat)))(ts: (List (Option XT)))(ix:Nat)(u: (Nat×Nat))(op a:Int)(ks:List XT)(ps:List Pat)(c sz:Int)(b: (List (Nat×Nat))) :LeadsM PP 0 (aCh us ts ix u op a ks ps c sz b).as (aCi us ts ix u op a ks ps c sz b).as:=
 mK (aDn (h:= (aCh us ts ix u op a ks ps c sz b).as.h) (h':= (aCi us ts ix u op a ks ps c sz b).as.h) (g:=4) (Z:= (eY us (set ts ix none) ix)) (Z':= (ZV us (set ts ix none))) (rs:=[1]) (rs':=[]) aC (.inl rfl) (fun _ _ _ _ h=>by rw [if_pos rfl];exact aKo h) (le_refl _) (aZ ⟨.inr ⟨by decide,by kernel_rfl⟩,.inr ⟨by decide,by kernel_rfl⟩,.inr ⟨by decide,by kernel_rfl⟩,.inl ⟨rfl,rfl⟩,trivial⟩)) aC aC
theorem aYh (us: (List (Nat×Nat)))(ts: (List (Option XT)))(ix:Nat)(u: (Nat×Nat))(op c:Int)(ks:List XT)(ps:List Pat)(d sz:Int)(b: (List (Nat×Nat))){e:Res}{hf:Hp}(f:ks≠ [])(k:∀a,a.length=ks.length→Ends PP 0 (aFa us ts ix u op c ks ps d sz a).as e hf) :Ends PP 0 (aCi us ts ix u op c ks ps d sz b).as e hf:=
 mJ (t:=fun a=> (aFa us ts ix u op c ks ps d sz a).as) (ok:=fun us=>us.length=ks.length) (yM (h:= (aCi us ts ix u op c ks ps d sz b).as.h) (h':=fun a=> (aFa us ts ix u op c ks ps d sz a).as.h) (k:=2) (g:=3) (o:=gh) (ts:=ks) aC rfl aC f (fun _=>le_refl _) (fun a=> (aZ ⟨.inr (.inr ⟨by decide,by kernel_rfl⟩),.inr (.inl ⟨rfl,rfl⟩),.inr (.inr ⟨by decide,by kernel_rfl⟩),.inl ⟨rfl,rfl⟩,trivial⟩))) (fun a=> ⟨by kernel_rfl,by kernel_rfl⟩) k
theorem bGK (us: (List (Nat×Nat)))(ts: (List (Option XT)))(ix:Nat)(u: (Nat×Nat))(op b:Int)(ks:List XT)(ps:List Pat)(c sz:Int)(a: (List (Nat×Nat))) :LeadsM PP 0 (aRm us ts ix u op b ks ps c sz a).as (aLe us ts ix u op b ks ps c sz a).as:=
 mK (zU (h:= (aRm us ts ix u op b ks ps c sz a).as.h) (h':= (aLe us ts ix u op b ks ps c sz a).as.h) (Z:= (ZV a (map (fun _=>none) a))) (fun _ _=>bA7) (le_refl _) (aZ ⟨.inr aC,.inr aC,.inr aC,.inr aC,.inr aC,.inr aC,.inl ⟨rfl,rfl⟩,trivial⟩)) aC aC
theorem bGL (us: (List (Nat×Nat)))(ts: (List (Option XT)))(ix:Nat)(u: (Nat×Nat))(op j:Int)(ks:List XT)(ps:List Pat)(m sz:Int)(l: (List (Nat×Nat)))(e:Nat)(f:XT)(d: (List (Option XT)))(b:Int)(a: (List (Nat×Nat))){n:Res}{hf:Hp}(o: (d)[e]?=some none)(k:∀c,Ends PP 0 (aFb us ts ix u op j ks ps m sz l e f d b a c).as n hf) :Ends PP 0 (aRn us ts ix u op j ks ps m sz l e f d b a).as n hf:=
 mJ (t:= (fun c=> (aFb us ts ix u op j ks ps m sz l e f d b a c).as)) (ok:=fun _=>True) (aKn (h:= (aRn us ts ix u op j ks ps m sz l e f d b a).as.h) (h':=fun c=> (aFb us ts ix u op j ks ps m sz l e f d b a c).as.h) (k:=3) (g:=7) (gz:=5) (z:=4) (us:=a) (ts:=d) (i:=e) (t:=f) aC aC aC o (by decide) (fun _=>le_refl _) (fun c=> (aZ ⟨.inr (.inr ⟨by decide,by kernel_rfl⟩),.inr (.inr ⟨by decide,by kernel_rfl⟩),.inr (.inr ⟨by decide,by kernel_rfl⟩),.inr (.inl ⟨rfl,rfl⟩),.inr (.inr ⟨by decide,by kernel_rfl⟩),.inr (.inr ⟨by decide,by kernel_rfl⟩),.inl ⟨rfl,rfl⟩,trivial⟩))) (fun c=> ⟨by kernel_rfl,by kernel_rfl⟩) (fun c _=>k c)
theorem bGM (us: (List (Nat×Nat)))(ts: (List (Option XT)))(ix:Nat)(u: (Nat×Nat))(op f:Int)(ks:List XT)(ps:List Pat)(l sz:Int)(j: (List (Nat×Nat)))(d:Nat)(e:XT)(c: (List (Option XT)))(a: (List (Nat×Nat))){m:Res}{hf:Hp}(n: (c)[d]?=some none)(k:∀b,Ends PP 0 (aFc us ts ix u op f ks ps l sz j d e c a b).as m hf) :Ends PP 0 (aRo us ts ix u op f ks ps l sz j d e c a).as m hf:=
 mJ (t:= (fun b=> (aFc us ts ix u op f ks ps l sz j d e c a b).as)) (ok:=fun _=>True) (aKn (h:= (aRo us ts ix u op f ks ps l sz j d e c a).as.h) (h':=fun b=> (aFc us ts ix u op f ks ps l sz j d e c a b).as.h) (k:=3) (g:=8) (gz:=5) (z:=4) (us:=a) (ts:=c) (i:=d) (t:=e) aC aC aC n (by decide) (fun _=>le_refl _) (fun b=> (aZ ⟨.inr (.inr ⟨by decide,by kernel_rfl⟩),.inr (.inr ⟨by decide,by kernel_rfl⟩),.inr (.inr ⟨by decide,by kernel_rfl⟩),.inr (.inl ⟨rfl,rfl⟩),.inr (.inr ⟨by decide,by kernel_rfl⟩),.inr (.inr ⟨by decide,by kernel_rfl⟩),.inl ⟨rfl,rfl⟩,trivial⟩))) (fun b=> ⟨by kernel_rfl,by kernel_rfl⟩) (fun b _=>k b)
theorem bGN (us: (List (Nat×Nat)))(ts: (List (Option XT)))(ix:Nat)(u: (Nat×Nat))(op d:Int)(ks:List XT)(ps:List Pat)(f sz:Int)(c: (List (Nat×Nat)))(e: (List (Nat×Nat)))(a:List XT)(hl:c.length=length a) :LeadsM PP 0 (aRp us ts ix u op d ks ps f sz c e (a.map some)).as (aLf us ts ix u op d ks ps f sz c e (a.map some) a).as:=
 mK (aB4 (h:= (aRp us ts ix u op d ks ps f sz c e (a.map some)).as.h) (h':= (aLf us ts ix u op d ks ps f sz c e (a.map some) a).as.h) (b:=1) (k:=3) (g:=6) (us:=e) (op:=op) (n:=d) (ts:=a) (ps:=ps) (len:=c.length) (ex:=false) (pv:=.ilst 4 (av ps) false) aC hl (fun _ _ h=>h) aC aC (le_refl _) (aZ ⟨.inr (.inr ⟨by decide,by kernel_rfl⟩),.inr (.inl ⟨rfl,rfl⟩),.inr (.inr ⟨by decide,by kernel_rfl⟩),.inr (.inr ⟨by decide,by kernel_rfl⟩),.inr (.inr ⟨by decide,by kernel_rfl⟩),.inl ⟨rfl,rfl⟩,trivial⟩)) aC aC
theorem bCu (us: (List (Nat×Nat)))(ts: (List (Option XT)))(ix:Nat)(u: (Nat×Nat))(op e:Int)(ks:List XT)(ps:List Pat)(i sz:Int)(b: (List (Nat×Nat)))(f: (List (Option XT)))(a:Int)(c: (List (Nat×Nat)))(g: (Nat×Nat))(d:XT)(h: (Nat×Nat))(k:decide (a< ((b.length:Nat) :Int)) =true)(h1:0≤a)(h2:a< ((b.length:Nat) :Int))(m: ((b)[a.toNat]?) =some g)(n: (a != i) =true)(j:aYd g sz op e b ps c us ts ix ks f d)(l: ((c)[a.toNat]?) =some h) :
  LeadsM PP 0 (yU us ts ix u op e ks ps i sz b f a c).as (aRn us ts ix u op e ks ps i sz b a.toNat d f a c).as:=
 lK (n1:=10) (ks:=[0,1,2,3,8,9,4,6,7]) (W:=[some (.cells (putCells .leaf 0 [(nI op),(nI e),(rU b),(iP ps)]) 4 [] false),some (.cells (putCells .leaf 0 [(nI op),(nI e),(aCg b),(iP ps)]) 4 [] false),some (.lst 1 (map aU b)),some (.lst 1 ((map aU c).set a.toNat (.ptr 8 0))),some gh,some (.zone true [8] (Z1 d)),some (.zone true [] (ZV us (set ts ix none))),some (.zone true [] (ZV c f)),some (.zone true [] (ZV b (map some ks)))]) (wc aC (wc aC (wc aC (wc (zS aC) (wc aC (wc aC (wc aC (wc aC (wc aC wn))))))))) (ps:=[decide (a< ((b.length:Nat) :Int)) =true,0≤a,a< ((b.length:Nat) :Int),(map aU b)[(0+a.toNat)]?=some (aU g),(a != i) =true,aYd g sz op e b ps c us ts ix ks f d,0≤a,a< ((b.length:Nat) :Int),(map aU c)[(0+a.toNat)]?=some (aU h),kY (aU h) 0 [(.ptr 8 0)] =some (ptr 8 0),(AV.gl 3 1 0 b.length false) = (AV.gl 3 1 0 b.length false),(AV.gl 3 1 0 b.length false) = (AV.gl 3 1 0 b.length false),(map aU c).set (0+a.toNat) (.ptr 8 0) = ((map aU c).set a.toNat (.ptr 8 0))]) (is:=[.run 5,.b 25 true,.run 7,.ans (.ix),.ans (.idx (aU g)),.run 9,.b 31 true,.run 1,.reg [.d,.d,.d,.d,.d,.call (.ptr 8 0) (aA ([jV 0 op e b ps,sP 1 op e b ps,dB 2 b,dB 3 c]++aSG us ts ix c f b ks d) 10),.ans (.ix),.st (aU h) (.ptr 8 0)],.lset 3 ((map aU c).set a.toNat (.ptr 8 0)),.run 1]) aC aC ⟨(aG _ (fun _=>rfl) _),trivial⟩ ⟨k,h1,h2,(cU m),n,j,h1,h2,(cU l),rfl,rfl,rfl,(aWP _ _ _)⟩
theorem bCv (us: (List (Nat×Nat)))(ts: (List (Option XT)))(ix:Nat)(u: (Nat×Nat))(op d:Int)(ks:List XT)(ps:List Pat)(b sz:Int)(a: (List (Nat×Nat)))(f: (List (Option XT)))(e:Int)(c: (List (Nat×Nat)))(g: (Nat×Nat))(h:decide (e< ((a.length:Nat) :Int)) =false)(h1:aYc sz op d a ps c us ts ix ks f)(h2:0≤b)(i:b< ((a.length:Nat) :Int))(j: ((c)[b.toNat]?) =some g) :
  LeadsM PP 0 (yU us ts ix u op d ks ps b sz a f e c).as (aRo us ts ix u op d ks ps b sz a b.toNat (XT.mk 4 sz [] []) f c).as:=
 lK (n1:=9) (ks:=[0,1,2,3,7,8,4,5,6]) (W:=[some (.cells (putCells .leaf 0 [(nI op),(nI d),(rU a),(iP ps)]) 4 [] false),some (.cells (putCells .leaf 0 [(nI op),(nI d),(aCg a),(iP ps)]) 4 [] false),some (.lst 1 (map aU a)),some (.lst 1 ((map aU c).set b.toNat (.ptr 7 0))),some gh,some (.zone true [7] (Z1 (XT.mk 4 sz [] []))),some (.zone true [] (ZV us (set ts ix none))),some (.zone true [] (ZV a (map some ks))),some (.zone true [] (ZV c f))]) (wc aC (wc aC (wc aC (wc (zS aC) (wc aC (wc aC (wc aC (wc aC (wc aC wn))))))))) (ps:=[decide (e< ((a.length:Nat) :Int)) =false,aYc sz op d a ps c us ts ix ks f,0≤b,b< ((a.length:Nat) :Int),(map aU c)[(0+b.toNat)]?=some (aU g),kY (aU g) 0 [(.ptr 7 0)] =some (ptr 7 0),(AV.gl 3 1 0 a.length false) = (AV.gl 3 1 0 a.length false),(AV.gl 3 1 0 a.length false) = (AV.gl 3 1 0 a.length false),(map aU c).set (0+b.toNat) (.ptr 7 0) = ((map aU c).set b.toNat (.ptr 7 0))]) (is:=[.run 5,.b 25 false,.run 3,.reg [.d,.d,.d,.d,.call (.ptr 7 0) (aA ([jV 0 op d a ps,sP 1 op d a ps,dB 2 a,dB 3 c]++rT us ts ix a ks++[(6,(.zone true [] (ZV c f)),false),(7,gh,false),(8,(.zone true [7] (Z1 (XT.mk 4 sz [] []))),false)]) 9),.ans (.ix),.st (aU g) (.ptr 7 0)],.lset 3 ((map aU c).set b.toNat (.ptr 7 0))]) aC aC ⟨(aG _ (fun _=>rfl) _),trivial⟩ ⟨h,h1,h2,i,(cU j),rfl,rfl,rfl,(aWP _ _ _)⟩
def bFh(a:List (Nat×Nat))(b:List (Option XT))(e:Nat)(c:Nat×Nat)(f g:Int)(i:List XT)(j:List Pat)(k l:Int)(m:List XT)(n:List Pat)(d:Int)(o p:List (Nat×Nat)):TS:=cO PP 247 [(.agg []),(aU c),(nI d)] [(0,(.zone true [] (ZV a b)),false)] 1
def aRq(a:List (Nat×Nat))(b:List (Option XT))(e:Nat)(c:Nat×Nat)(f g:Int)(i:List XT)(j:List Pat)(k l:Int)(m:List XT)(n:List Pat)(d:Int)(o p:List (Nat×Nat)):TS:=⟨(tf 247 36 [(1,(aU c)),(2,(nI d)),(6,.nilp)] [kc f247 6,kc f247 7]),[],[(0,(.zone true [] (ZV a b)),false)],1⟩
def aFd(c:List (Nat×Nat))(d:List (Option XT))(e:Nat)(k:Nat×Nat)(f g:Int)(a:List XT)(i:List Pat)(l m:Int)(n:List XT)(o:List Pat)(j:Int)(b p:List (Nat×Nat)):TS:=⟨(tf 247 36 [kp 1 1,(2,(nI j)),(6,.nilp)] [kc f247 6,kc f247 7]),[],[aRi 1 f g a i,dB 2 b,(5,(.zone true [] (ZV c (set d e none))),false),(6,(.zone true [] (ZV b (map some a))),false)],7⟩
def aRr(c:List (Nat×Nat))(d:List (Option XT))(e:Nat)(l:Nat×Nat)(f g:Int)(a:List XT)(i:List Pat)(m n:Int)(o:List XT)(p:List Pat)(j:Int)(b q:List (Nat×Nat))(k:Nat×Nat):TS:=⟨(tf 247 36 [kp 1 0,(2,(nI j)),(6,.nilp),(7,(aU k))] [kc f247 14,kc f247 15]),[],([aGU 0 f g a i]++aCf b c d e++[(3,(.zone true [] (ZV b (map some a))),false)]),4⟩
def aFe(e:List (Nat×Nat))(f:List (Option XT))(g:Nat)(p:Nat×Nat)(i j:Int)(a:List XT)(k:List Pat)(l m:Int)(b:List XT)(n:List Pat)(o:Int)(c d:List (Nat×Nat))(q:Nat×Nat):TS:=⟨(tf 247 36 [kp 1 0,(2,(nI o)),(6,.nilp),kp 7 4] [kc f247 14,kc f247 15]),[],([aGU 0 i j a k]++aCf c e f g++[aE9 4 l m b n,dB 5 d,(8,(.zone true [] (ZV c (set (map some a) 0 none))),false),(9,(.zone true [] (ZV d (map some b))),false)]),10⟩
def aCj(c:List (Nat×Nat))(d:List (Option XT))(a:Nat)(j:Nat×Nat)(e f:Int)(b:List XT)(g:List Pat)(k l:Int)(m:List XT)(n:List Pat)(i:Int)(o p:List (Nat×Nat)):TS:=⟨(tf 247 36 [kp 1 1,(2,(nI i)),(6,.nilp)] [kc f247 6,kc f247 7]),[],(aE8 e f b g++[(4,(.zone true [1] (eY c (set d a none) a)),false)]),5⟩
theorem aYi (us: (List (Nat×Nat)))(ts: (List (Option XT)))(ix:Nat)(u: (Nat×Nat))(op a:Int)(ks:List XT)(ps:List Pat)(b n2:Int)(d:List XT)(e:List Pat)(sz:Int)(c: (List (Nat×Nat)))(f: (List (Nat×Nat)))(k:us[ix]?=some u)(l: (ts)[ix]?=some (some (.mk op a ks ps))) :LeadsM PP 0 (aRq us ts ix u op a ks ps b n2 d e sz c f).as (aCj us ts ix u op a ks ps b n2 d e sz c f).as:=
 yT (j:=1) (v:=aU u) (v':=.ptr 1 0) aC (fun hm=>tI (h:= (aRq us ts ix u op a ks ps b n2 d e sz c f).as.h) (h':= (aCj us ts ix u op a ks ps b n2 d e sz c f).as.h) (g:=0) (us:=us) (ts:=ts) (i:=ix) (u:=u) (op:=op) (n:=a) (ks:=ks) (ps:=ps) aC k l rfl (aZ ⟨.inl ⟨rfl,rfl⟩,.inr (.inl ⟨rfl,rfl⟩),.inr (.inr (.inl ⟨rfl,rfl⟩)),.inr (.inr (.inr (.inl ⟨rfl,rfl⟩))),trivial⟩) hm) aC aC
def aCk(b:List (Nat×Nat))(c:List (Option XT))(d:Nat)(j:Nat×Nat)(e f:Int)(a:List XT)(g:List Pat)(k l:Int)(m:List XT)(n:List Pat)(i:Int)(o p:List (Nat×Nat)):TS:=⟨(tf 247 36 [kp 1 1,(2,(nI i)),(6,.nilp)] [kc f247 6,kc f247 7]),[],(aE8 e f a g++[(5,(.zone true [] (ZV b (set c d none))),false)]),6⟩
theorem aYj (us: (List (Nat×Nat)))(ts: (List (Option XT)))(ix:Nat)(u: (Nat×Nat))(op b:Int)(ks:List XT)(ps:List Pat)(a n2:Int)(d:List XT)(e:List Pat)(sz:Int)(c: (List (Nat×Nat)))(f: (List (Nat×Nat))) :LeadsM PP 0 (aCj us ts ix u op b ks ps a n2 d e sz c f).as (aCk us ts ix u op b ks ps a n2 d e sz c f).as:=
 mK (aDn (h:= (aCj us ts ix u op b ks ps a n2 d e sz c f).as.h) (h':= (aCk us ts ix u op b ks ps a n2 d e sz c f).as.h) (g:=4) (Z:= (eY us (set ts ix none) ix)) (Z':= (ZV us (set ts ix none))) (rs:=[1]) (rs':=[]) aC (.inl rfl) (fun _ _ _ _ h=>by rw [if_pos rfl];exact aKo h) (le_refl _) (aZ ⟨.inr ⟨by decide,by kernel_rfl⟩,.inr ⟨by decide,by kernel_rfl⟩,.inr ⟨by decide,by kernel_rfl⟩,.inl ⟨rfl,rfl⟩,trivial⟩)) aC aC
theorem aYk (us: (List (Nat×Nat)))(ts: (List (Option XT)))(ix:Nat)(u: (Nat×Nat))(op f:Int)(ks:List XT)(ps:List Pat)(d n2:Int)(b:List XT)(i:List Pat)(sz:Int)(e: (List (Nat×Nat)))(c: (List (Nat×Nat))){j:Res}{hf:Hp}(l:ks≠ [])(k:∀a,a.length=ks.length→Ends PP 0 (aFd us ts ix u op f ks ps d n2 b i sz a c).as j hf) :Ends PP 0 (aCk us ts ix u op f ks ps d n2 b i sz e c).as j hf:=
 mJ (t:=fun a=> (aFd us ts ix u op f ks ps d n2 b i sz a c).as) (ok:=fun us=>us.length=ks.length) (yM (h:= (aCk us ts ix u op f ks ps d n2 b i sz e c).as.h) (h':=fun a=> (aFd us ts ix u op f ks ps d n2 b i sz a c).as.h) (k:=2) (g:=3) (o:=gh) (ts:=ks) aC rfl aC l (fun _=>le_refl _) (fun a=> (aZ ⟨.inr (.inr ⟨by decide,by kernel_rfl⟩),.inr (.inl ⟨rfl,rfl⟩),.inr (.inr ⟨by decide,by kernel_rfl⟩),.inl ⟨rfl,rfl⟩,trivial⟩))) (fun a=> ⟨by kernel_rfl,by kernel_rfl⟩) k
def aCl(d:List (Nat×Nat))(e:List (Option XT))(f:Nat)(o:Nat×Nat)(g i:Int)(a:List XT)(j:List Pat)(k l:Int)(b:List XT)(m:List Pat)(n:Int)(c p:List (Nat×Nat))(q:Nat×Nat):TS:=⟨(tf 247 36 [kp 1 0,(2,(nI n)),(6,.nilp),kp 7 4] [kc f247 14,kc f247 15]),[],([aGU 0 g i a j]++aCf c d e f++[aE9 4 k l b m,(5,gh,false),(6,(.zone true [5] (cQ b)),false),(7,(.zone true [4] (eY c (set (map some a) 0 none) 0)),false)]),8⟩
theorem aYl (us: (List (Nat×Nat)))(ts: (List (Option XT)))(ix:Nat)(u: (Nat×Nat))(op f:Int)(ks:List XT)(ps:List Pat)(e n2:Int)(c:List XT)(d:List Pat)(sz:Int)(b: (List (Nat×Nat)))(k: (List (Nat×Nat)))(a: (Nat×Nat))(m:b[0]?=some a)(l: ((map some ks))[0]?=some (some (.mk e n2 c d))) :LeadsM PP 0 (aRr us ts ix u op f ks ps e n2 c d sz b k a).as (aCl us ts ix u op f ks ps e n2 c d sz b k a).as:=
 yT (j:=7) (v:=aU a) (v':=.ptr 4 0) aC (fun hm=>tI (h:= (aRr us ts ix u op f ks ps e n2 c d sz b k a).as.h) (h':= (aCl us ts ix u op f ks ps e n2 c d sz b k a).as.h) (g:=3) (us:=b) (ts:= (map some ks)) (i:=0) (u:=a) (op:=e) (n:=n2) (ks:=c) (ps:=d) aC m l rfl (aZ ⟨.inr (.inr (.inr (.inr ⟨by decide,by kernel_rfl⟩))),.inr (.inr (.inr (.inr ⟨by decide,by kernel_rfl⟩))),.inr (.inr (.inr (.inr ⟨by decide,by kernel_rfl⟩))),.inl ⟨rfl,rfl⟩,.inr (.inl ⟨rfl,rfl⟩),.inr (.inr (.inl ⟨rfl,rfl⟩)),.inr (.inr (.inr (.inl ⟨rfl,rfl⟩))),trivial⟩) hm) aC aC
def aCm(d:List (Nat×Nat))(e:List (Option XT))(f:Nat)(o:Nat×Nat)(g i:Int)(a:List XT)(j:List Pat)(k l:Int)(b:List XT)(m:List Pat)(n:Int)(c p:List (Nat×Nat))(q:Nat×Nat):TS:=⟨(tf 247 36 [kp 1 0,(2,(nI n)),(6,.nilp),kp 7 4] [kc f247 14,kc f247 15]),[],([aGU 0 g i a j]++aCf c d e f++[aE9 4 k l b m,(5,gh,false),(6,(.zone true [5] (cQ b)),false),(8,(.zone true [] (ZV c (set (map some a) 0 none))),false)]),9⟩
def bCw (a:List (Nat×Nat))(b:List (Option XT))(c:Nat)(d:Nat×Nat)(e f:Int)(g:List XT)(i:List Pat)(j k:Int)(l:List (Nat×Nat)):=(tT 0 (bFg a b c d e f g i j k l)<|.W 5 1 [0] (aRl a b c d e f g i j k l)) tv
def bCx (f:List (Nat×Nat))(g:List (Option XT))(i:Nat)(j:Nat×Nat)(b c:Int)(d:List XT)(e:List Pat)(k l:Int)(a:List (Nat×Nat)):=fun m n=>(tT 0 (aFa f g i j b c d e k l a)<|.i [rn 3,.cset 1 2 (rU a)] [.a (a.length=d.length) (p':=(AV.gl 2 1 0 d.length false) = (rU a)) (fun h=>(bT h.symm))]<|gk 10 (.enter 254 [(rU a)]) [jV 1 b c a e,dB 2 a,(5,(.zone true [] (ZV f (set g i none))),false),(6,(.zone true [] (ZV a (map some d))),false),jV 7 b c a e] 8 (.gl 8 1 0 a.length false) [jV 1 b c a e,dB 2 a,(5,(.zone true [] (ZV f (set g i none))),false),(6,(.zone true [] (ZV a (map some d))),false),jV 7 b c a e,dB 8 a] 9<|.W 5 9 [1,7,2,8,5,6] (aRm f g i j b c d e k l a)) m n ⟨kk,⟨kk,trivial⟩⟩
def bCy (b:List (Nat×Nat))(c:List (Option XT))(d:Nat)(e:Nat×Nat)(f g:Int)(i:List XT)(j:List Pat)(k l:Int)(a:List (Nat×Nat)):=(tT 0 (aLe b c d e f g i j k l a)<|.W 10 7 [0,1,2,3,4,5,6] (yU b c d e f g i j k l a (map (fun _=>none) a) 0 a)) ⟨kk,⟨kk,trivial⟩⟩
def bCz (e:List (Nat×Nat))(f:List (Option XT))(g:Nat)(i:Nat×Nat)(j k:Int)(l:List XT)(m:List Pat)(c n:Int)(b:List (Nat×Nat))(o:List (Option XT))(a:Int)(p:List (Nat×Nat)):=fun d q r s t u v=>(tT 0 (yU e f g i j k l m c n b o a p)<|gd 5 25 (a< (b.length:Int)) (.i [rn 7,.ans (.ix)] [hA (0≤a),hA (a< (b.length:Int))]<|.y fun d:Nat×Nat=>gj aU 0 b a.toNat d<|.b 9 31 (a != c) .x<|gw 5 39 (a+1)<|.W 3 7 [0,1,2,3,4,5,6] (yU e f g i j k l m c n b o (a+1) p)) .x)|>.t q r s d t|>.f u v ⟨kk,⟨kk,trivial⟩⟩
def bCA (c:List (Nat×Nat))(d:List (Option XT))(e:Nat)(f:Nat×Nat)(g i:Int)(j:List XT)(k:List Pat)(l m:Int)(n:List (Nat×Nat))(a:Nat)(o:XT)(p:List (Option XT))(b:Int)(q:List (Nat×Nat))(r:Nat×Nat):=fun s=>(tT 0 (aFb c d e f g i j k l m n a o p b q r)<|gw 2 39 (b+1)<|.W 3 10 [0,1,2,3,6,8,9] (yU c d e f g i j k l m n (set p a (some o)) (b+1) (set q a r))) s ⟨kk,⟨kk,trivial⟩⟩
def bCB (b:List (Nat×Nat))(c:List (Option XT))(d:Nat)(e:Nat×Nat)(f g:Int)(i:List XT)(j:List Pat)(k l:Int)(m:List (Nat×Nat))(a:Nat)(n:XT)(o:List (Option XT))(p:List (Nat×Nat))(q:Nat×Nat):=(tT 0 (aFc b c d e f g i j k l m a n o p q)<|.W 1 10 [0,1,2,3,6,7,9] (aRp b c d e f g i j k l m (set p a q) (set o a (some n)))) ⟨kk,⟨kk,trivial⟩⟩
def bCC (c:List (Nat×Nat))(d:List (Option XT))(e:Nat)(n:Nat×Nat)(f g:Int)(i:List XT)(j:List Pat)(b o:Int)(a p:List (Nat×Nat))(q:List (Option XT))(m:List XT):=fun k l r s t u=>(tT 0 (aLf c d e n f g i j b o a p q m)<|.i [rn 6,.ans (.ix)] [hA (0≤b),hA (b< (a.length:Int))]<|.y fun k:Nat×Nat=>gj aU 0 a b.toNat k<|.y fun l:XT=>gk 0 (.enter 248 [(aU k),(.ptr 1 0)]) [jV 0 f g a j,(1,gh,false),dB 2 a,(4,(.zone true [] (ZV c (set d e none))),false),(5,(.zone true [] (ZV a (map some i))),false),(7,(.zone true [1] (Z1 (XT.mk f g m j))),false)] 8 (.ptr 9 0) [jV 0 f g a j,dB 2 a,(4,(.zone true [] (ZV c (set d e none))),false),(8,(.zone true [] (ZV a (set (map some i) (Int.toNat b) none))),false),(9,gh,false),(10,(.zone true [9] (Z1 l)),false)] 11<|.E 3 11 [9,4,8,10] (.ptr 0 0) [(0,gh,false),(1,(.zone true [] (ZV c (set d e none))),false),(2,(.zone true [] (ZV a (set (map some i) (Int.toNat b) none))),false),(3,(.zone true [0] (Z1 l)),false)] 4) r s k t l u tv
def bCD (a:List (Nat×Nat))(b:List (Option XT))(c:Nat)(d:Nat×Nat)(e f:Int)(g:List XT)(i:List Pat)(j k:Int)(l:List XT)(m:List Pat)(n:Int)(o p:List (Nat×Nat)):=(tT 0 (bFh a b c d e f g i j k l m n o p)<|.W 6 2 [0] (aRq a b c d e f g i j k l m n o p)) tv
def bCE (d:List (Nat×Nat))(e:List (Option XT))(f:Nat)(g:Nat×Nat)(i j:Int)(b:List XT)(k:List Pat)(l m:Int)(n:List XT)(o:List Pat)(p:Int)(c q:List (Nat×Nat)):=fun a r s t=>(tT 0 (aFd d e f g i j b k l m n o p c q)<|.i [rn 5,.ans (.ix)] [hA (0≤ (0:Int)),hA ((0:Int) < ((b.length:Nat) :Int))]<|.y fun a:Nat×Nat=>gj aU 0 c ((0:Int).toNat) a<|.W 3 7 [1,2,5,6] (aRr d e f g i j b k l m n o p c q a)) r s a t ⟨kk,trivial⟩
def bCF (f:List (Nat×Nat))(g:List (Option XT))(i:Nat)(y:Nat×Nat)(j k:Int)(c:List XT)(l:List Pat)(m n:Int)(a:List XT)(o:List Pat)(w:Int)(d b:List (Nat×Nat))(z:Nat×Nat):=fun e p q r s t A B u x C v D F G H I=>(tT 0 (aFe f g i y j k c l m n a o w d b z)<|.y fun e:Nat×Nat=>.y fun p:Nat×Nat=>.y fun q:Nat×Nat=>.y fun r:XT=>.y fun s:XT=>.y fun t:XT=>.i [.regA (rd 4 (.ans (.ix)::.ans (.idx (aU e))::rd 4 (.ans (.ix)::.ans (.idx (aU p))::rd 4 [.ans (.ix),.ans (.idx (aU q)),.d,.call (.ptr 11 0) (aRk j k c l d f g i m n a o b r),.call (.ptr 14 0) (aRj j k c l d f g i m n a o b s),.call (.ptr 17 0) (aYe j k c l d f g i m n a o b t),.d]))) [(some (.idx (aU p))),none,(some (.idx (aU e))),none]] [hA (0≤ (0:Int)),hA ((0:Int) < ((a.length:Nat) :Int)),.a (((b)[(0:Int).toNat]?) =some e) (cU (f:=aU)),hA (0≤ (1:Int)),hA ((1:Int) < ((a.length:Nat) :Int)),.a (((b)[(1:Int).toNat]?) =some p) (cU (f:=aU)),hA (0≤ (1:Int)),hA ((1:Int) < ((c.length:Nat) :Int)),.a (((d)[(1:Int).toNat]?) =some q) (cU (f:=aU)),hA (Spec PP (.enter 249 [(aU q),(nI w),(nI 1)]) (aA ([aGU 0 j k c l]++aCf d f g i++[aE9 4 m n a o,dB 5 b,(8,(.zone true [] (ZV d (set (map some c) 0 none))),false),(9,(.zone true [] (ZV b (map some a))),false)]) 10) (.ret (.ptr 11 0)) (aRk j k c l d f g i m n a o b r)),hA (Spec PP (.enter 248 [(aU p),(.ptr 11 0)]) (aRk j k c l d f g i m n a o b r) (.ret (.ptr 14 0)) (aRj j k c l d f g i m n a o b s)),hA (Spec PP (.enter 248 [(aU e),(.ptr 14 0)]) (aRj j k c l d f g i m n a o b s) (.ret (.ptr 17 0)) (aYe j k c l d f g i m n a o b t)),hr (aU p),.a (((b)[(1:Int).toNat]?) =some p) (cU (f:=aU)),hr (aU p),.a (((b)[(1:Int).toNat]?) =some p) (cU (f:=aU)),hr (AV.gl 5 1 0 a.length false),hr (AV.gl 5 1 0 a.length false),hr (aU e),.a (((b)[(0:Int).toNat]?) =some e) (cU (f:=aU)),hr (aU e),.a (((b)[(0:Int).toNat]?) =some e) (cU (f:=aU)),hr (aU e),.a (((b)[(0:Int).toNat]?) =some e) (cU (f:=aU)),hr (AV.gl 5 1 0 a.length false),hr (AV.gl 5 1 0 a.length false),hr (AV.gl 5 1 0 a.length false)]<|.E 1 19 [17,2,10,16,18] (.ptr 0 0) [(0,gh,false),(1,(.zone true [] (ZV f (set g i none))),false),(2,(.zone true [] (ZV d (set (map some c) 0 none))),false),(3,(.zone true [] (ZV b (set (set (map some a) 1 none) 0 none))),false),(4,(.zone true [0] (Z1 t)),false)] 5) e p q r s t A B u x C v x D F G H I v v u u u tv
theorem aYm (us: (List (Nat×Nat)))(ts: (List (Option XT)))(ix:Nat)(u: (Nat×Nat))(op c:Int)(ks:List XT)(ps:List Pat)(b n2:Int)(d:List XT)(e:List Pat)(sz:Int)(a: (List (Nat×Nat)))(f: (List (Nat×Nat)))(i: (Nat×Nat)) :LeadsM PP 0 (aCl us ts ix u op c ks ps b n2 d e sz a f i).as (aCm us ts ix u op c ks ps b n2 d e sz a f i).as:=
 mK (aDn (h:= (aCl us ts ix u op c ks ps b n2 d e sz a f i).as.h) (h':= (aCm us ts ix u op c ks ps b n2 d e sz a f i).as.h) (g:=7) (Z:= (eY a (set (map some ks) 0 none) 0)) (Z':= (ZV a (set (map some ks) 0 none))) (rs:=[4]) (rs':=[]) aC (.inl rfl) (fun _ _ _ _ h=>by rw [if_pos rfl];exact aKo h) (le_refl _) (aZ ⟨.inr ⟨by decide,by kernel_rfl⟩,.inr ⟨by decide,by kernel_rfl⟩,.inr ⟨by decide,by kernel_rfl⟩,.inr ⟨by decide,by kernel_rfl⟩,.inr ⟨by decide,by kernel_rfl⟩,.inr ⟨by decide,by kernel_rfl⟩,.inl ⟨rfl,rfl⟩,trivial⟩)) aC aC
theorem aYn (us: (List (Nat×Nat)))(ts: (List (Option XT)))(ix:Nat)(u: (Nat×Nat))(op d:Int)(ks:List XT)(ps:List Pat)(c n2:Int)(a:List XT)(f:List Pat)(sz:Int)(e: (List (Nat×Nat)))(i: (List (Nat×Nat)))(l: (Nat×Nat)){j:Res}{hf:Hp}(m:a≠ [])(k:∀b,b.length=a.length→Ends PP 0 (aFe us ts ix u op d ks ps c n2 a f sz e b l).as j hf) :Ends PP 0 (aCm us ts ix u op d ks ps c n2 a f sz e i l).as j hf:=
 mJ (t:=fun b=> (aFe us ts ix u op d ks ps c n2 a f sz e b l).as) (ok:=fun us=>us.length=a.length) (yM (h:= (aCm us ts ix u op d ks ps c n2 a f sz e i l).as.h) (h':=fun b=> (aFe us ts ix u op d ks ps c n2 a f sz e b l).as.h) (k:=5) (g:=6) (o:=gh) (ts:=a) aC rfl aC m (fun _=>le_refl _) (fun b=> (aZ ⟨.inr (.inr ⟨by decide,by kernel_rfl⟩),.inr (.inr ⟨by decide,by kernel_rfl⟩),.inr (.inr ⟨by decide,by kernel_rfl⟩),.inr (.inr ⟨by decide,by kernel_rfl⟩),.inr (.inl ⟨rfl,rfl⟩),.inr (.inr ⟨by decide,by kernel_rfl⟩),.inl ⟨rfl,rfl⟩,trivial⟩))) (fun b=> ⟨by kernel_rfl,by kernel_rfl⟩) k
def dnT (sz:Int)(k:Nat)(o n:Int)(ks:List XT)(ps:List Pat)(x:XT) :XT:=.mk 7 0 [x,.mk o n ((ks.map (rS sz 1)).set k (.mk 4 sz [] [])) ps] []
abbrev DNr (us:List (Nat×Nat))(ts:List (Option XT))(ix:Nat)(t:XT) :HL:=[(0,(.zone true [] (ZV us (ts.set ix none))),false),(1,gh,false),(2,.zone true [1] (Z1 t),false)]
section
variable (us :List (Nat×Nat)) (ts:List (Option XT)) (ix:Nat) (u:Nat×Nat) (op nn:Int) (ks:List XT) (ps:List Pat) (k:Nat) (sz:Int)
theorem bGO (x:XT)(d:ks[k]?=some x)(a:List (Nat×Nat))(b:a.length=ks.length)(hl:ks.length<1000000)(w:List (Nat×Nat))(rs:List (Option XT))(q:w.length=ks.length)(hr:rs.length=ks.length)
  (g:∀j t,ks[j]?=some t→rs[j]?=some (if j≠k then some (rS sz 1 t)else none)) :
  Ends PP 0 (yU us ts ix u op nn ks ps (k:Int) sz a rs ((ks.length:Nat) :Int) w).as (.ret (.ptr 1 0)) (aA (DNr us ts ix (dnT sz k op nn ks ps x)) 3) :=by
 have hk:k<ks.length:= (zq0.1 d).1;obtain⟨p,r⟩ :=eK q hk;obtain⟨n,f⟩ :=eK b hk;have i: ((k:Nat) :Int).toNat=k:=oM k;refine(bCv us ts ix u op nn ks ps (k:Int) sz a rs _ w p sd (wP (m:=0) (ks:=[]) (bCs 4 sz) aC aC trivial trivial) sd sd sd).ends ?_;refine bGM us ts ix u op nn ks ps (k:Int) sz a _ _ rs w (by rw [i,g k x d];simp) fun l=>?_;refine(bCB us ts ix u op nn ks ps (k:Int) sz a _ _ rs w l).ends ?_;rw [i];have c:rs.set k (some (.mk 4 sz [] [])) =map some ((ks.map (rS sz 1)).set k (.mk 4 sz [] [])) :=by
  apply List.ext_getElem?;intro j;rw [mZ,getElem?_set,getElem?_set,hJ];by_cases h:k=j
  ·subst h;simp [hk,hr]
  · rw [if_neg h,if_neg h,mZ];cases o:ks[j]? with
    |none=>rw [aBt (by rw [List.getElem?_eq_none_iff]at o;omega)];rfl
    |some t=>rw [g j t o,if_pos (fun e=>h e.symm)];rfl
 rw [c];refine(bGN us ts ix u op nn ks ps (k:Int) sz a _ _ (by simp [b])).ends ?_
 have:=bCC us ts ix u op nn ks ps (k:Int) sz a (w.set k l) (((ks.map (rS sz 1)).set k (.mk 4 sz [] [])).map some) ((ks.map (rS sz 1)).set k (.mk 4 sz [] [])) n (dnT sz k op nn ks ps x) sd sd sd
  (wP (m:=0) (ks:=[5,1,7]) (aLb a (ks.map some) k n x (.mk op nn ((ks.map (rS sz 1)).set k (.mk 4 sz [] [])) ps) f (by rw [mZ,d];rfl)) aC aC trivial trivial)
 exact iK (ks:=[1,0,3]) this aC aC aC trivial
theorem aLg (x:XT)(s:ks[k]?=some x)(b:List (Nat×Nat))(c:b.length=ks.length)(hl:ks.length<1000000)(f:aK9 ks) :∀ (o:List XT) (i:Nat) (w:List (Nat×Nat)) (a:List (Option XT)),ks.drop i=o→i≤ks.length→w.length=ks.length→a.length=ks.length →
  (∀j t,ks[j]?=some t→a[j]?=some (if j<i∧j≠k then some (rS sz 1 t)else none)) →
  Ends PP 0 (yU us ts ix u op nn ks ps (k:Int) sz b a (i:Int) w).as (.ret (.ptr 1 0)) (aA (DNr us ts ix (dnT sz k op nn ks ps x)) 3)
 | [],i,w,a,h,B,l,hr,g=>by
  have:=bJ h;have e:i=ks.length:=by omega
  subst e;exact bGO us ts ix u op nn ks ps k sz x s b c hl w a l hr (fun j t d=>by rw [g j t d];have:= (zq0.1 d).1;simp [this])
 | t ::o,i,w,a,h,B,l,hr,g=>by
  obtain⟨n,A,y⟩ :=bE h;obtain⟨p,q⟩ :=eK c y;obtain⟨D,C⟩ :=eK l y;by_cases hk:i=k
  · refine(bCz us ts ix u op nn ks ps (k:Int) sz b a (i:Int) w p sd sd sd sd (by simp [hk]) sd).ends ?_;refine aLg x s b c hl f o (i+1) w a A (by omega) l hr (fun j r d=>?_);rw [g j r d];have: (j<i∧j≠k) ↔ (j<i+1∧j≠k) :=by omega
    simp only [this]
  · have hm:OkT t:=okTs_iff.1 f t (iO n)
    refine(bCu us ts ix u op nn ks ps (k:Int) sz b a (i:Int) w p (rS sz 1 t) D sd sd sd sd (by simp;omega)
     (wP (m:=0) (ks:=[5]) (aSF sz t hm b (ks.map some) i p q (by rw [mZ,n];rfl)) aC aC trivial trivial) sd).ends ?_
    have z: ((i:Nat) :Int).toNat=i:=oM i;refine bGL us ts ix u op nn ks ps (k:Int) sz b _ _ a (i:Int) w (by rw [z,g i t n];simp) fun v=>?_;refine(bCA us ts ix u op nn ks ps (k:Int) sz b _ _ a (i:Int) w v sd).ends ?_;rw [z];refine aLg x s b c hl f o (i+1) (w.set i v) (a.set i (some (rS sz 1 t))) A (by omega) (by simp [l]) (by simp [hr]) (fun j r d=>?_);rw [getElem?_set];by_cases e:i=j
    · subst e;rw [n]at d;cases d;rw [if_pos rfl,if_pos (by omega),if_pos ⟨by omega,hk⟩]
    · rw [if_neg e,g j r d];have: (j<i∧j≠k) ↔ (j<i+1∧j≠k) :=by omega
      simp only [this]
theorem bCG (x:XT)(g:ks[k]?=some x)(h:us[ix]?=some u)(n:ts[ix]?=some (some (.mk op nn ks ps)))(d:OkT (.mk op nn ks ps)) :
  gI PP 0 (.enter 253 [.int .i64 (k:Int),aU u,.int .i64 sz]) (aA [(0,(.zone true [] (ZV us ts)),false)] 1) (.ret (.ptr 1 0)) (aA (DNr us ts ix (dnT sz k op nn ks ps x)) 3) :=by
 simp only [OkT]at d;obtain⟨_,hl,c⟩ :=d;have hk:k<ks.length:= (zq0.1 g).1;have f:ks≠ [] :=fun e=>by subst e;simp at hk
 refine⟨(bFg us ts ix u op nn ks ps (k:Int) sz []).as.fr,by kernel_rfl,?_⟩;refine((bCw us ts ix u op nn ks ps (k:Int) sz []).trans ((aYf us ts ix u op nn ks ps (k:Int) sz [] h n).trans (aYg us ts ix u op nn ks ps (k:Int) sz []))).ends (aYh us ts ix u op nn ks ps (k:Int) sz [] f fun b a=>?_);refine((bCx us ts ix u op nn ks ps (k:Int) sz b a (wP (m:=1) (ks:=[2]) (bCt b (fun e=>by subst e;simp at a;omega) (by omega)) aC aC ⟨aLc _,trivial⟩ ⟨aLc _,aLc _,trivial⟩)).trans ((bGK us ts ix u op nn ks ps (k:Int) sz b).trans (bCy us ts ix u op nn ks ps (k:Int) sz b))).ends ?_;refine aLg us ts ix u op nn ks ps k sz x g b a hl c ks 0 b _ rfl (zero_le _) a (by simp [a]) (fun j t i=>?_);obtain⟨y,l⟩ :=eK a (zq0.1 i).1;rw [mZ,l];simp
end
def neT (sz:Int)(a b c:XT) :XT:=.mk 7 0 [a,.mk 7 0 [b,rS sz 1 c] []] []
theorem bCH (us:List (Nat×Nat))(ts:List (Option XT))(ix:Nat)(u:Nat×Nat)(op g:Int)(ks:List XT)(ps:List Pat)(f n2:Int)(d:List XT)(h:List Pat)(sz:Int)(a b c:XT)(H:ks[0]?=some (.mk f n2 d h))(hc:ks[1]?=some c)(F:d[0]?=some a)(hb:d[1]?=some b)(hm:OkT c)(G:us[ix]?=some u)(D:ts[ix]?=some (some (.mk op g ks ps))) :
  gI PP 0 (.enter 247 [.agg [],aU u,.int .i64 sz]) (aA [(0,(.zone true [] (ZV us ts)),false)] 1) (.ret (.ptr 1 0)) (aA (DNr us ts ix (neT sz a b c)) 3) :=by
 have s:1<ks.length:= (zq0.1 hc).1;have t:1<d.length:= (zq0.1 hb).1;have v:ks≠ [] :=fun e=>by subst e;simp at s
 have k:d≠ [] :=fun e=>by subst e;simp at t
 refine⟨(bFh us ts ix u op g ks ps f n2 d h sz [] []).as.fr,by kernel_rfl,?_⟩;refine((bCD us ts ix u op g ks ps f n2 d h sz [] []).trans ((aYi us ts ix u op g ks ps f n2 d h sz [] [] G D).trans (aYj us ts ix u op g ks ps f n2 d h sz [] []))).ends (aYk us ts ix u op g ks ps f n2 d h sz [] [] v fun i r=>?_);obtain⟨j,q⟩ :=eK r (show 0<ks.length by omega);obtain⟨C,p⟩ :=eK r s;refine((bCE us ts ix u op g ks ps f n2 d h sz i [] j (by omega) (by omega) q).trans ((aYl us ts ix u op g ks ps f n2 d h sz i [] j q (by rw [mZ,H];rfl)).trans (aYm us ts ix u op g ks ps f n2 d h sz i [] j))).ends (aYn us ts ix u op g ks ps f n2 d h sz i [] j k fun w o=>?_);obtain⟨A,n⟩ :=eK o (show 0<d.length by omega);obtain⟨B,l⟩ :=eK o t;have x: ((ks.map some).set 0 none)[1]?=some (some c) :=by rw [getElem?_set,if_neg (by omega),mZ,hc];rfl
 have y: (d.map some)[1]?=some (some b) :=by rw [mZ,hb];rfl
 have z: ((d.map some).set 1 none)[0]?=some (some a) :=by rw [getElem?_set,if_neg (by omega),mZ,F];rfl
 have:=bCF us ts ix u op g ks ps f n2 d h sz i w j A B C (rS sz 1 c) (.mk 7 0 [b,rS sz 1 c] []) (neT sz a b c) (by omega) (by omega) n (by omega) (by omega) l (by omega) p
  (wP (m:=0) (ks:=[8]) (aSF sz c hm i ((ks.map some).set 0 none) 1 C p x) aC aC trivial trivial)
  (wP (m:=0) (ks:=[9,11,12]) (aLb w (d.map some) 1 B b (rS sz 1 c) l y) aC aC trivial trivial)
  (wP (m:=0) (ks:=[13,14,15]) (aLb w ((d.map some).set 1 none) 0 A a (.mk 7 0 [b,rS sz 1 c] []) n z) aC aC trivial trivial)
 exact iK (ks:=[1,0,4]) this aC aC aC trivial
end
end Go.Hb
