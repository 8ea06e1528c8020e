/- A machine on abstract values, its soundness, ways, plain laws. -/
import Derived.Test.YtnljmgihoioocaaGreatHF
import Derived.Test.YtnljmgihoioocaaGreatHG
import Derived.Test.YtnljmgihoioocaaGreatHH
set_option linter.defProp false
set_option linter.unusedVariables false
set_option linter.unusedSimpArgs false
set_option linter.unusedSectionVars false
set_option maxRecDepth 100000
namespace Go.Hb
open AV (ptr ren renL)
open List (drop getElem?_set length map nodup_nil set take)
open Nat (ble le_refl zero_le)
open Pats (av)
open Go.Proofs Tryz
noncomputable section
abbrev nT (a:Nat)(b:List (Nat×Nat)):=oL a 1 (map aR b)
abbrev aPY (a:Nat)(b c:Int)(d:List XT)(e:List Pat):=oC a [(nI b),(nI c),(.gl 3 1 0 d.length false),(iP e)]
abbrev zG (a b:List (Nat×Nat))(c:List (Option XT))(d:Nat)(e f:Int)(g:List XT)(h:List Pat):=[nT 4 a,(5,(.zone true [6] (dK b (set c d none) d)),false),aPY 6 e f g h]
abbrev aRv (a b c d:Int)(e:List (Nat×Nat))(f:List Pat)(g h:List (Nat×Nat))(i:List (Option XT))(j:Nat)(k:Int)(l:List XT)(m:List (Option XT)):=[oC 0 [(nI a)],oC 1 [(nI b)],oC 2 [(nI c),(nI d),(.gl 4 1 0 e.length false),(iP f)],oL 3 1 (map aR g),oL 4 1 (map aR e),(5,(.zone true [6] (dK h (set i j none) j)),false),oC 6 [(nI c),(nI k),(.gl 3 1 0 l.length false),(iP f)],(8,(.zone true [] (ZV e m)),false)]
abbrev aPZ (a:Nat):=oL a 1 (map aR ([] :List (Nat×Nat)))
abbrev bE5:AV:=.gl 5 1 0 ([] :List (Nat×Nat)).length false
abbrev aRw (a b c d:Int)(e:List XT)(f:List Pat)(g:Int)(h:List (Nat×Nat))(i:List (Option XT))(j:Nat):=[oC 0 [(nI a)],oC 1 [(nI b)],oC 2 [(nI c),(nI d),(.gl 4 1 0 e.length false),(iP f)],oC 3 [(nI c),(nI g),bE5,(iP f)],(4,gh,false),aPZ 5,(6,(.zone true [2] (dK h (set i j none) j)),false),(7,(.zone true [4] (bH e)),false)]
abbrev aEo (a:Nat)(b c:Int)(d:List (Nat×Nat))(e:List Pat):=oC a [(nI b),(nI c),(.gl 2 1 0 d.length false),(iP e)]
abbrev aW4 (a:Nat×Nat)(b c d e:Int)(f:List (Nat×Nat))(g:List Pat)(h i:List (Nat×Nat))(j:List (Option XT))(k:Nat)(l:Int)(m:List XT)(n:List (Option XT))(o:XT):=Spec PP (.enter 251 [(aR a),(.func 252 [] [(.ptr 0 0),(.ptr 1 0)])]) (aA (aRv b c d e f g h i j k l m n++[(9,(.zone true [] (ZV h (map some m))),false)]) 11) (.ret (.ptr 12 0)) (aA (aRv b c d e f g h i j k l m n++[(11,(.zone true [] (ZV h (map some m))),false),(12,gh,false),(13,(.zone true [12] (Z1 o)),false)]) 14)
abbrev aW5 (a:Prog)(b c d:Int)(e:List (Nat×Nat))(f:List Pat)(g:List (Option XT))(h:XT):=Spec PP (.enter 91 [(Prog.av a),(nI b)]) (aA [oC 0 [(iN a.nodes),(iI a.funs),(nI a.main),(iC a.cons)],aEo 1 c d e f,oL 2 1 (map aR e),(3,(.zone true [] (ZV e g)),false)] 5) (.ret (.ptr 5 0)) (aA [oC 0 [(iN a.nodes),(iI a.funs),(nI a.main),(iC a.cons)],aEo 1 c d e f,oL 2 1 (map aR e),(3,(.zone true [] (ZV e g)),false),(5,gh,false),(6,(.zone true [5] (Z1 h)),false)] 7)
abbrev aC1 (a:Nat)(b:Prog):=oC a [(iN b.nodes),(iI b.funs),(nI b.main),(iC b.cons)]
abbrev aC2 (a:Nat)(b c:Int)(d:List (Nat×Nat))(e:List Pat):=oC a [(nI b),(nI c),(.gl 4 1 0 d.length false),(iP e)]
abbrev aP0:AV:=.gl 3 1 0 ([] :List (Nat×Nat)).length false
abbrev aKa:AV:=.gl 8 1 0 ([] :List (Nat×Nat)).length false
abbrev rF (a:List XT):AV:=.gl 3 1 0 a.length false
def bDH(a:Prog)(b:Int):TS:=cH PP 91 [(Prog.av a),(nI b)] [] 0
def aP1(a:Prog)(j b c:Int)(d:List Int)(e:List Pat)(f g:Int)(i:List Pat):TS:=⟨(tf 91 44 [kp 2 0,(4,.nilp),kp 5 1,kp 6 2] [kc f91 60,kc f91 61,kc f91 31]),[],[aC1 0 a,oC 1 [(nI b),(nI c),(iI d),(iP e)],oC 2 [(nI f),(nI g),aP0,(iP i)],aPZ 3],4⟩
def aKb(a:Prog)(j b c:Int)(d:List Int)(e:List Pat)(f g:Int)(i:List Pat):TS:=⟨(tf 91 44 [kp 2 0,(4,.nilp),kp 5 1,kp 6 2] [kc f91 60,kc f91 61,kc f91 31]),[],[aC1 0 a,oC 1 [(nI b),(nI c),(iI d),(iP e)],oC 2 [(nI f),(nI g),aP0,(iP i)],aPZ 3,(4,(.zone true [] (ZV ([] :List (Nat×Nat)) ([] :List (Option XT)))),false)],5⟩
def aGc(a:Prog)(k:Int)(c:List Int)(d e f:Int)(g:List Pat)(i:Int)(b:List (Nat×Nat))(j:List (Option XT)):TS:=⟨(tf 91 44 [kp 2 0,(4,.nilp),kp 6 1,(24,(iI c)),(25,(nI d)),(26,(nI i))] [kc f91 244,kl f91 244,.inBlock 0,kc f91 31]),[],[aC1 0 a,aEo 1 e f b g,nT 2 b,(3,(.zone true [] (ZV b j)),false)],4⟩
def aP2(a:Prog)(l:Int)(c:List Int)(d e f:Int)(g:List Pat)(i:XT)(j:Int)(b:List (Nat×Nat))(k:List (Option XT)):TS:=⟨(tf 91 44 [kp 2 0,(4,.nilp),kp 6 1,(24,(iI c)),(25,(nI d)),(26,(nI j))] [kc f91 1959,kl f91 244,.inBlock 0,kc f91 31]),[],[aC1 0 a,oC 1 [(nI e),(nI f),(.gl 2 1 0 (b.length+1) false),(iP g)],(2,(.lst 1 (map aR b++ [.ptr 3 0])),false),(3,gh,false),(4,(.zone true [3] (Z1 i)),false),(5,(.zone true [] (ZV b k)),false)],6⟩
def aEp(a:Prog)(m:Int)(d:List Int)(e f g:Int)(i:List Pat)(j:XT)(k:Int)(b:List (Nat×Nat))(l:List (Option XT))(c:Nat×Nat):TS:=⟨(tf 91 44 [kp 2 0,(4,.nilp),kp 6 1,(24,(iI d)),(25,(nI e)),(26,(nI k))] [kc f91 1959,kl f91 244,.inBlock 0,kc f91 31]),[],[aC1 0 a,oC 1 [(nI f),(nI g),(.gl 2 1 0 (b++ [c]).length false),(iP i)],oL 2 1 (map aR (b++ [c])),(6,(.zone true [] (ZV (b++ [c]) (l++ [some j]))),false)],7⟩
theorem bAS (p:Prog)(j:Int)(e:List Int)(h b c:Int)(f:List Pat)(d:Int)(a: (List (Nat×Nat)))(i: (List (Option XT)))(k:Int)(g:XT)(m:decide (d<h) =true)(h1:0≤d)(h2: ((e)[d.toNat]?) =some k)(n:aW5 p k b c a f i g)(l:a.length+1≤1000000) :
  LeadsM PP 0 (aGc p j e h b c f d a i).as (aP2 p j e h b c f g d a i).as:=
 kZ (n1:=8) (ks:=[0,1,7,5,6,3]) (W:=[some (.cells (putCells .leaf 0 [(iN p.nodes),(iI p.funs),(nI p.main),(iC p.cons)]) 4 [] false),some (.cells (putCells .leaf 0 [(nI b),(nI c),(.gl 7 1 0 (a.length+1) false),(iP f)]) 4 [] false),some (.lst 1 (map aR a++ [.ptr 5 0])),some gh,some (.zone true [5] (Z1 g)),some (.zone true [] (ZV a i))]) (wc aC (wc aC (wc (aBQ aC) (wc aC (wc aC (wc aC wn)))))) (ps:=[decide (d<h) =true,0≤d,(jI e)[d.toNat]?=some (cA k),aW5 p k b c a f i g,0+a.length≤length (map aR a),a.length+1≤1000000,take a.length (drop 0 (map aR a)) ++ [ptr 5 0] = (map aR a++ [.ptr 5 0]),a.length+length [ptr 5 0] =a.length+1,(AV.gl 2 1 0 a.length false) = (AV.gl 2 1 0 a.length false),(AV.gl 2 1 0 a.length false) = (AV.gl 2 1 0 a.length false)]) (is:=[.run 5,.b 27 true,.run 6,.ans (.idx (cA k)),.run 3,.reg [.d,.d,.d,.d,.d,.d,.d,.call (.ptr 5 0) (aA [aC1 0 p,aEo 1 b c a f,nT 2 a,(3,(.zone true [] (ZV a i)),false),(5,gh,false),(6,(.zone true [5] (Z1 g)),false)] 7),.d,.app (map aR a++ [.ptr 5 0]) (a.length+1),.d,.d,.d],.run 1]) aC aC trivial ⟨m,h1,(aZ h2),n,aFQ,l,aOO,aOP,rfl,rfl⟩
def bDI(a b:Int)(c:List (Nat×Nat))(d:List (Option XT))(f:Nat)(e:Nat×Nat)(g i:Int)(j:List XT)(k:List Pat):TS:=cH PP 251 [(aR e),(.func 252 [] [(.ptr 0 0),(.ptr 1 0)])] [oC 0 [(nI a)],oC 1 [(nI b)],(2,(.zone true [] (ZV c d)),false)] 3
def aP3(a b:Int)(c:List (Nat×Nat))(d:List (Option XT))(f:Nat)(e:Nat×Nat)(g i:Int)(j:List XT)(k:List Pat):TS:=⟨(tf 251 66 [(0,(aR e)),(1,(.func 252 [] [(.ptr 0 0),(.ptr 1 0)]))] [kc f251 2,kc f251 3]),[],[oC 0 [(nI a)],oC 1 [(nI b)],(2,(.zone true [] (ZV c d)),false)],3⟩
def aEq(c d:Int)(e:List (Nat×Nat))(f:List (Option XT))(a:Nat)(k:Nat×Nat)(g i:Int)(b:List XT)(j:List Pat):TS:=⟨(tf 251 66 [kp 0 3,(1,(.func 252 [] [(.ptr 0 0),(.ptr 1 0)]))] [kc f251 2,kc f251 3]),[],[oC 0 [(nI c)],oC 1 [(nI d)],oC 3 [(nI g),(nI i),(.gl 4 1 0 b.length false),(iP j)],(4,gh,false),(5,(.zone true [4] (bH b)),false),(6,(.zone true [3] (dK e (set f a none) a)),false)],7⟩
def aA0(e f:Int)(g:List (Nat×Nat))(i:List (Option XT))(a:Nat)(l:Nat×Nat)(b j:Int)(c:List XT)(d:List Pat)(k:Int):TS:=⟨(tf 251 66 [kp 0 2,(1,(.func 252 [] [(.ptr 0 0),(.ptr 1 0)])),(4,.nilp),kp 5 3] [kc f251 60,kc f251 61,kc f251 31]),[],(aRw e f b j c d k g i a),8⟩
def aKc(e f:Int)(g:List (Nat×Nat))(i:List (Option XT))(a:Nat)(l:Nat×Nat)(b j:Int)(c:List XT)(d:List Pat)(k:Int):TS:=⟨(tf 251 66 [kp 0 2,(1,(.func 252 [] [(.ptr 0 0),(.ptr 1 0)])),(4,.nilp),kp 5 3] [kc f251 60,kc f251 61,kc f251 31]),[],(aRw e f b j c d k g i a++[(8,(.zone true [] (ZV ([] :List (Nat×Nat)) ([] :List (Option XT)))),false)]),9⟩
def aKd(f g:Int)(i:List (Nat×Nat))(j:List (Option XT))(c:Nat)(o:Nat×Nat)(d k:Int)(a:List XT)(e:List Pat)(l m:Int)(b:List (Nat×Nat))(n:List (Option XT)):TS:=⟨(tf 251 66 [(1,(.func 252 [] [(.ptr 0 0),(.ptr 1 0)])),(4,.nilp),kp 5 2,(46,(rF a)),(47,(nI (a.length:Int))),(48,(nI m))] [kc f251 244,kl f251 244,.inBlock 0,kc f251 31]),[],([oC 0 [(nI f)],oC 1 [(nI g)],aC2 2 d l b e,(3,gh,false)]++zG b i j c d k a e++[(7,(.zone true [3] (bH a)),false),(8,(.zone true [] (ZV b n)),false)]),9⟩
def aP4(f g:Int)(i:List (Nat×Nat))(j:List (Option XT))(c:Nat)(o:Nat×Nat)(d k:Int)(a:List XT)(e:List Pat)(l m:Int)(b:List (Nat×Nat))(n:List (Option XT)):TS:=⟨(tf 251 66 [(1,(.func 252 [] [(.ptr 0 0),(.ptr 1 0)])),(4,.nilp),kp 5 2,(46,(rF a)),(47,(nI (a.length:Int))),(48,(nI m))] [kc f251 7832,kc f251 7833,.inBlock 1,kc f251 1959,kl f251 244,.inBlock 0,kc f251 31]),[],([oC 0 [(nI f)],oC 1 [(nI g)],aC2 2 d l b e,(3,gh,false)]++zG b i j c d k a e++[(7,(.zone true [3] (bH a)),false),(8,(.zone true [] (ZV b n)),false)]),9⟩
def aEr(g i:Int)(j:List (Nat×Nat))(k:List (Option XT))(c:Nat)(p:Nat×Nat)(d l:Int)(a:List XT)(e:List Pat)(m n:Int)(b:List (Nat×Nat))(o:List (Option XT))(f:List (Nat×Nat)):TS:=⟨(tf 251 66 [(1,(.func 252 [] [(.ptr 0 0),(.ptr 1 0)])),(4,.nilp),kp 5 2,(46,(rF a)),(47,(nI (a.length:Int))),(48,(nI n))] [kc f251 7832,kc f251 7833,.inBlock 1,kc f251 1959,kl f251 244,.inBlock 0,kc f251 31]),[],([oC 0 [(nI g)],oC 1 [(nI i)],aC2 2 d m b e,nT 3 f]++zG b j k c d l a e++[(8,(.zone true [] (ZV b o)),false),(9,(.zone true [] (ZV f (map some a))),false)]),10⟩
def aP5(g i:Int)(j:List (Nat×Nat))(k:List (Option XT))(c:Nat)(q:Nat×Nat)(d l:Int)(a:List XT)(e:List Pat)(m:Int)(n:XT)(f:List (Nat×Nat))(o:Int)(b:List (Nat×Nat))(p:List (Option XT)):TS:=⟨(tf 251 66 [(1,(.func 252 [] [(.ptr 0 0),(.ptr 1 0)])),(4,.nilp),kp 5 2,(46,(rF a)),(47,(nI (a.length:Int))),(48,(nI o))] [kc f251 1959,kl f251 244,.inBlock 0,kc f251 31]),[],[oC 0 [(nI g)],oC 1 [(nI i)],oC 2 [(nI d),(nI m),(.gl 4 1 0 (b.length+1) false),(iP e)],nT 3 f,(4,(.lst 1 (map aR b++ [.ptr 5 0])),false),(5,gh,false),(6,(.zone true [5] (Z1 n)),false),(7,(.zone true [8] (dK j (set k c none) c)),false),aPY 8 d l a e,(9,(.zone true [] (ZV b p)),false),(10,(.zone true [] (ZV f (map some a))),false)],11⟩
def aEs(i j:Int)(k:List (Nat×Nat))(l:List (Option XT))(d:Nat)(r:Nat×Nat)(e m:Int)(a:List XT)(f:List Pat)(n:Int)(o:XT)(g:List (Nat×Nat))(p:Int)(b:List (Nat×Nat))(q:List (Option XT))(c:Nat×Nat):TS:=⟨(tf 251 66 [(1,(.func 252 [] [(.ptr 0 0),(.ptr 1 0)])),(4,.nilp),kp 5 2,(46,(rF a)),(47,(nI (a.length:Int))),(48,(nI p))] [kc f251 1959,kl f251 244,.inBlock 0,kc f251 31]),[],[oC 0 [(nI i)],oC 1 [(nI j)],oC 2 [(nI e),(nI n),(.gl 4 1 0 (b++ [c]).length false),(iP f)],nT 3 g,oL 4 1 (map aR (b++ [c])),(7,(.zone true [8] (dK k (set l d none) d)),false),aPY 8 e m a f,(10,(.zone true [] (ZV g (map some a))),false),(11,(.zone true [] (ZV (b++ [c]) (q++ [some o]))),false)],12⟩
def aP6(g i:Int)(j:List (Nat×Nat))(k:List (Option XT))(c:Nat)(p:Nat×Nat)(d l:Int)(a:List XT)(e:List Pat)(m:Int)(f b:List (Nat×Nat))(n:List (Option XT))(o:Int):TS:=⟨(tf 251 66 [(1,(.func 252 [] [(.ptr 0 0),(.ptr 1 0)])),(4,.nilp),kp 5 2,(46,(rF a)),(47,(nI (a.length:Int))),(48,(nI o))] [kc f251 1959,kl f251 244,.inBlock 0,kc f251 31]),[],([oC 0 [(nI g)],oC 1 [(nI i)],aC2 2 d m b e,nT 3 f]++zG b j k c d l a e++[(7,(.zone true [] (ZV f (map some a))),false),(8,(.zone true [] (ZV b n)),false)]),9⟩
def aKe(f g:Int)(i:List (Nat×Nat))(j:List (Option XT))(c:Nat)(o:Nat×Nat)(d k:Int)(a:List XT)(e:List Pat)(l:Int)(p b:List (Nat×Nat))(m:List (Option XT))(n:Int):TS:=⟨(tf 251 66 [(1,(.func 252 [] [(.ptr 0 0),(.ptr 1 0)])),(4,.nilp),kp 5 2,(46,(rF a)),(47,(nI (a.length:Int))),(48,(nI n))] [kc f251 1959,kl f251 244,.inBlock 0,kc f251 31]),[],([oC 0 [(nI f)],oC 1 [(nI g)],aC2 2 d l b e,(3,gh,false)]++zG b i j c d k a e++[(8,(.zone true [] (ZV b m)),false),(9,(.zone true [3] (bH a)),false)]),10⟩
def bAT (c:Prog)(d:Int):=fun a b e f g=>(tT 0 (bDH c d)<|gX Node.av 10 c.nodes d<|fun a=>.y fun b:List Pat=>.i [rn 5,.reg (rd 6 (.pure (iP b)::rd 3 []))] [hA (aM PP 120 [(iP a.pats)] (iP b)),hr (nI a.n),hr (nI a.n),hr (nI a.op),hr (nI a.op)]<|.i [rn 2,.cnil 2 2 1] []<|gu 0 3 (map aR ([] :List (Nat×Nat)))<|gv 0 2 2 aP0<|.W 0 4 [0,1,2,3] (aP1 c d a.op a.n a.kids a.pats a.op a.n b)) a e f b g ⟨kk,trivial⟩
def bAU (b:Prog)(c g i:Int)(a:List Int)(j:List Pat)(d e:Int)(f:List Pat):=(tT 0 (aKb b c g i a j d e f)<|gl 3 cA a<|.W 4 5 [0,2,3,4] (aGc b c a (a.length:Int) d e f 0 ([] :List (Nat×Nat)) ([] :List (Option XT)))) ⟨kk,trivial⟩
def bAV (i:Prog)(j:Int)(k:List Int)(b c d:Int)(e:List Pat)(f:Int)(a:List (Nat×Nat))(g:List (Option XT)):=fun l=>(tT 0 (aGc i j k b c d e f a g)<|gd 5 27 (f<b) .x<|.E 8 4 [1,2,3] (.ptr 0 0) [oC 0 [(nI c),(nI d),(.gl 1 1 0 a.length false),(iP e)],nT 1 a,(2,(.zone true [] (ZV a g)),false)] 3)|>.f l ⟨kk,trivial⟩
def bAW (b:Prog)(c:Int)(d:List Int)(e f g:Int)(i:List Pat)(j:XT)(a:Int)(k:List (Nat×Nat))(l:List (Option XT))(m:Nat×Nat):=fun n=>(tT 0 (aEp b c d e f g i j a k l m)<|gw 2 42 (a+1)<|.W 3 7 [0,1,2,6] (aGc b c d e f g i (a+1) (k++ [m]) (l++ [some j]))) n ⟨kk,trivial⟩
def bAX (a b:Int)(c:List (Nat×Nat))(d:List (Option XT))(e:Nat)(f:Nat×Nat)(g i:Int)(j:List XT)(k:List Pat):=(tT 2 (bDI a b c d e f g i j k)<|.W 1 3 [2] (aP3 a b c d e f g i j k)) tv
def aKf(c b:Int)(e:List (Nat×Nat))(f:List (Option XT))(g:Nat)(i:Nat×Nat)(d a:Int)(j:List XT)(k:List Pat):=tT 2 (aEq c b e f g i d a j k)<|.i [rn 4,.reg (rd 15 [])] []<|.b 9 27 (d==4) (gd 7 33 (a≥0) (gd 20 7 (a≥c) (gw 6 10 (a+b)<|.i [rn 10,.cnil 7 2 1] []<|gu 0 8 (map aR ([] :List (Nat×Nat)))<|gv 0 7 2 aKa<|.W 0 9 [3,7,4,8,6,5] (aA0 c b e f g i d a j k (a+b)))<|.i [rn 15,.cnil 7 2 1] []<|gu 0 8 (map aR ([] :List (Nat×Nat)))<|gv 0 7 2 aKa<|.W 0 9 [3,7,4,8,6,5] (aA0 c b e f g i d a j k a))<|.i [rn 4,.cnil 7 2 1] []<|gu 0 8 (map aR ([] :List (Nat×Nat)))<|gv 0 7 2 aKa<|.W 0 9 [3,7,4,8,6,5] (aA0 c b e f g i d a j k a))<|.i [rn 11,.cnil 7 2 1] []<|gu 0 8 (map aR ([] :List (Nat×Nat)))<|gv 0 7 2 aKa<|.W 0 9 [3,7,4,8,6,5] (aA0 c b e f g i d a j k a)
def bAY:=fun a b c d e f g i j k l m n o=>aKf a b c d e f g i j k|>.t l|>.t m|>.t n o ⟨kk,trivial⟩
def bAZ:=fun a b c d e f g i j k l m n=>aKf a b c d e f g i j k|>.t l|>.t m|>.f n ⟨kk,trivial⟩
def bA0:=fun a b c d e f g i j k l m=>aKf a b c d e f g i j k|>.t l|>.f m ⟨kk,trivial⟩
def bA1:=fun a b c d e f g i j k l=>aKf a b c d e f g i j k|>.f l ⟨kk,trivial⟩
def bA2 (a b:Int)(c:List (Nat×Nat))(d:List (Option XT))(e:Nat)(f:Nat×Nat)(g i:Int)(j:List XT)(k:List Pat)(l:Int):=(tT 2 (aKc a b c d e f g i j k l)<|.W 10 9 [3,4,5,6,2,7,8] (aKd a b c d e f g i j k l 0 ([] :List (Nat×Nat)) ([] :List (Option XT)))) ⟨kk,trivial⟩
def aW6(f g:Int)(i:List (Nat×Nat))(j:List (Option XT))(c:Nat)(o:Nat×Nat)(d k:Int)(a:List XT)(e:List Pat)(l m:Int)(b:List (Nat×Nat))(n:List (Option XT)):=tT 2 (aKd f g i j c o d k a e l m b n)<|gd 5 49 (m< (a.length:Int)) (.W 5 9 [2,3,4,5,6,7,8] (aP4 f g i j c o d k a e l m b n))<|.E 8 9 [2,4,5,6,3,7,8] (.ptr 2 0) [oC 0 [(nI f)],oC 1 [(nI g)],oC 2 [(nI d),(nI l),(.gl 3 1 0 b.length false),(iP e)],nT 3 b,(4,(.zone true [5] (dK i (set j c none) c)),false),oC 5 [(nI d),(nI k),(.gl 6 1 0 a.length false),(iP e)],(6,gh,false),(7,(.zone true [6] (bH a)),false),(8,(.zone true [] (ZV b n)),false)] 9
def bA3:=fun a b c d e f g i j k l m n o p=>aW6 a b c d e f g i j k l m n o|>.t p ⟨kk,trivial⟩
def bA4:=fun a b c d e f g i j k l m n o p=>aW6 a b c d e f g i j k l m n o|>.f p ⟨kk,trivial⟩
def bA5 (a b:Int)(c:List (Nat×Nat))(d:List (Option XT))(e:Nat)(f:Nat×Nat)(g i:Int)(j:List XT)(k:List Pat)(l:Int)(m:XT)(n:List (Nat×Nat))(o:Int)(p:List (Nat×Nat))(q:List (Option XT))(r:Nat×Nat):=(tT 2 (aEs a b c d e f g i j k l m n o p q r)<|.W 0 12 [2,3,4,7,8,10,11] (aP6 a b c d e f g i j k l n (p++ [r]) (q++ [some m]) o)) ⟨kk,⟨kk,trivial⟩⟩
def bA6 (b c:Int)(d:List (Nat×Nat))(e:List (Option XT))(f:Nat)(g:Nat×Nat)(i j:Int)(k:List XT)(l:List Pat)(m:Int)(p n:List (Nat×Nat))(o:List (Option XT))(a:Int):=fun q=>(tT 2 (aKe b c d e f g i j k l m p n o a)<|gw 2 64 (a+1)<|.W 3 10 [2,3,4,5,6,9,8] (aKd b c d e f g i j k l m (a+1) n o)) q ⟨kk,trivial⟩
theorem bE6 (fr b:Int)(us: (List (Nat×Nat)))(ts: (List (Option XT)))(ix:Nat)(u: (Nat×Nat))(op a:Int)(ks:List XT)(ps:List Pat)(c:us[ix]?=some u)(d: (ts)[ix]?=some (some (.mk op a ks ps))) :LeadsM PP 2 (aP3 fr b us ts ix u op a ks ps).as (aEq fr b us ts ix u op a ks ps).as:=
 sZ (j:=0) (v:=aR u) (v':=.ptr 3 0) aC (fun hm=>pM (h:= (aP3 fr b us ts ix u op a ks ps).as.h) (h':= (aEq fr b us ts ix u op a ks ps).as.h) (g:=2) (us:=us) (ts:=ts) (i:=ix) (u:=u) (op:=op) (n:=a) (ks:=ks) (ps:=ps) aC c d rfl (aU ⟨.inr (.inr (.inr (.inr ⟨by decide,by kernel_rfl⟩))),.inr (.inr (.inr (.inr ⟨by decide,by kernel_rfl⟩))),.inl ⟨rfl,rfl⟩,.inr (.inl ⟨rfl,rfl⟩),.inr (.inr (.inl ⟨rfl,rfl⟩)),.inr (.inr (.inr (.inl ⟨rfl,rfl⟩))),trivial⟩) hm) aC aC
theorem bE7 (fr c:Int)(us: (List (Nat×Nat)))(ts: (List (Option XT)))(ix:Nat)(u: (Nat×Nat))(op b:Int)(ks:List XT)(ps:List Pat)(a:Int) :LeadsM PP 2 (aA0 fr c us ts ix u op b ks ps a).as (aKc fr c us ts ix u op b ks ps a).as:=
 mA (zA (h:= (aA0 fr c us ts ix u op b ks ps a).as.h) (h':= (aKc fr c us ts ix u op b ks ps a).as.h) (Z:= (ZV ([] :List (Nat×Nat)) ([] :List (Option XT)))) (fun _ _=> ⟨nodup_nil,by simp [OsAt]⟩) (le_refl _) (aU ⟨.inr aC,.inr aC,.inr aC,.inr aC,.inr aC,.inr aC,.inr aC,.inr aC,.inl ⟨rfl,rfl⟩,trivial⟩)) aC aC
theorem bE8 (fr i:Int)(us: (List (Nat×Nat)))(ts: (List (Option XT)))(ix:Nat)(u: (Nat×Nat))(op j:Int)(ks:List XT)(ps:List Pat)(a b:Int)(d: (List (Nat×Nat)))(e: (List (Option XT))){f:Res}{hf:Hp}(l:ks≠ [])(k:∀c,c.length=ks.length→Ends PP 2 (aEr fr i us ts ix u op j ks ps a b d e c).as f hf) :Ends PP 2 (aP4 fr i us ts ix u op j ks ps a b d e).as f hf:=
 kS (t:=fun c=> (aEr fr i us ts ix u op j ks ps a b d e c).as) (ok:=fun us=>us.length=ks.length) (sV (h:= (aP4 fr i us ts ix u op j ks ps a b d e).as.h) (h':=fun c=> (aEr fr i us ts ix u op j ks ps a b d e c).as.h) (k:=3) (g:=7) (o:=gh) (ts:=ks) aC rfl aC l (fun _=>le_refl _) (fun c=> (aU ⟨.inr (.inr ⟨by decide,by kernel_rfl⟩),.inr (.inr ⟨by decide,by kernel_rfl⟩),.inr (.inr ⟨by decide,by kernel_rfl⟩),.inr (.inl ⟨rfl,rfl⟩),.inr (.inr ⟨by decide,by kernel_rfl⟩),.inr (.inr ⟨by decide,by kernel_rfl⟩),.inr (.inr ⟨by decide,by kernel_rfl⟩),.inr (.inr ⟨by decide,by kernel_rfl⟩),.inl ⟨rfl,rfl⟩,trivial⟩))) (fun c=> ⟨by kernel_rfl,by kernel_rfl⟩) k
theorem bE9 (fr l:Int)(us: (List (Nat×Nat)))(ts: (List (Option XT)))(ix:Nat)(u: (Nat×Nat))(op m:Int)(ks:List XT)(ps:List Pat)(c:Int)(f:XT)(b: (List (Nat×Nat)))(d:Int)(a: (List (Nat×Nat)))(i: (List (Option XT))){j:Res}{hf:Hp}(k:∀e,Ends PP 2 (aEs fr l us ts ix u op m ks ps c f b d a i e).as j hf) :Ends PP 2 (aP5 fr l us ts ix u op m ks ps c f b d a i).as j hf:=
 kS (t:= (fun e=> (aEs fr l us ts ix u op m ks ps c f b d a i e).as)) (ok:=fun _=>True) (aEh (h:= (aP5 fr l us ts ix u op m ks ps c f b d a i).as.h) (h':=fun e=> (aEs fr l us ts ix u op m ks ps c f b d a i e).as.h) (k:=4) (g:=9) (gz:=6) (z:=5) (us:=a) (ts:=i) (t:=f) aC aC aC (by decide) (fun _=>le_refl _) (fun e=> (aU ⟨.inr (.inr ⟨by decide,by kernel_rfl⟩),.inr (.inr ⟨by decide,by kernel_rfl⟩),.inr (.inr ⟨by decide,by rw [tI];kernel_rfl⟩),.inr (.inr ⟨by decide,by kernel_rfl⟩),.inr (.inl ⟨rfl,rfl⟩),.inr (.inr ⟨by decide,by kernel_rfl⟩),.inr (.inr ⟨by decide,by kernel_rfl⟩),.inr (.inr ⟨by decide,by kernel_rfl⟩),.inl ⟨rfl,rfl⟩,trivial⟩))) (fun e=> ⟨by kernel_rfl,by kernel_rfl⟩) (fun e _=>k e)
theorem bFa (fr f:Int)(us: (List (Nat×Nat)))(ts: (List (Option XT)))(ix:Nat)(u: (Nat×Nat))(op e:Int)(ks:List XT)(ps:List Pat)(a:Int)(d: (List (Nat×Nat)))(b: (List (Nat×Nat)))(i: (List (Option XT)))(c:Int)(j:ks≠ []) :LeadsM PP 2 (aP6 fr f us ts ix u op e ks ps a d b i c).as (aKe fr f us ts ix u op e ks ps a d b i c).as:=
 mA (yY (h:= (aP6 fr f us ts ix u op e ks ps a d b i c).as.h) (h':= (aKe fr f us ts ix u op e ks ps a d b i c).as.h) (k:=3) (g:=7) (us:=d) (ts:=ks) aC aC j (le_refl _) (aU ⟨.inr (.inr ⟨by decide,by decide,by kernel_rfl⟩),.inr (.inr ⟨by decide,by decide,by kernel_rfl⟩),.inr (.inr ⟨by decide,by decide,by kernel_rfl⟩),.inl ⟨rfl,rfl⟩,.inr (.inr ⟨by decide,by decide,by kernel_rfl⟩),.inr (.inr ⟨by decide,by decide,by kernel_rfl⟩),.inr (.inr ⟨by decide,by decide,by kernel_rfl⟩),.inr (.inr ⟨by decide,by decide,by kernel_rfl⟩),.inr (.inl ⟨rfl,rfl⟩),trivial⟩)) aC aC
theorem bA7 (fr g:Int)(us: (List (Nat×Nat)))(ts: (List (Option XT)))(ix:Nat)(u: (Nat×Nat))(op h:Int)(ks:List XT)(ps:List Pat)(b c:Int)(a: (List (Nat×Nat)))(f: (List (Option XT)))(e: (List (Nat×Nat)))(i: (Nat×Nat))(d:XT)(k:0≤c)(h1:c< ((ks.length:Nat) :Int))(h2: ((e)[c.toNat]?) =some i)(l:aW4 i fr g op b a ps e us ts ix h ks f d)(j:a.length+1≤1000000) :
  LeadsM PP 2 (aEr fr g us ts ix u op h ks ps b c a f e).as (aP5 fr g us ts ix u op h ks ps b d e c a f).as:=
 kZ (n1:=15) (ks:=[2,3,14,12,13,5,6,8,11]) (W:=[some (.cells (putCells .leaf 0 [(nI fr)]) 1 [] false),some (.cells (putCells .leaf 0 [(nI g)]) 1 [] false),some (.cells (putCells .leaf 0 [(nI op),(nI b),(.gl 14 1 0 (a.length+1) false),(iP ps)]) 4 [] false),some (.lst 1 (map aR e)),some (.lst 1 (map aR a++ [.ptr 12 0])),some gh,some (.zone true [12] (Z1 d)),some (.zone true [6] (dK us (set ts ix none) ix)),some (.cells (putCells .leaf 0 [(nI op),(nI h),(rF ks),(iP ps)]) 4 [] false),some (.zone true [] (ZV a f)),some (.zone true [] (ZV e (map some ks)))]) (wc aC (wc aC (wc aC (wc aC (wc (aBQ aC) (wc aC (wc aC (wc aC (wc aC (wc aC (wc aC wn))))))))))) (ps:=[0≤c,c< ((ks.length:Nat) :Int),(map aR e)[(0+c.toNat)]?=some (aR i),aW4 i fr g op b a ps e us ts ix h ks f d,0+a.length≤length (map aR a),a.length+1≤1000000,take a.length (drop 0 (map aR a)) ++ [ptr 12 0] = (map aR a++ [.ptr 12 0]),a.length+length [ptr 12 0] =a.length+1,(AV.gl 4 1 0 a.length false) = (AV.gl 4 1 0 a.length false),(AV.gl 4 1 0 a.length false) = (AV.gl 4 1 0 a.length false)]) (is:=[.run 1,.ans (.ix),.ans (.idx (aR i)),.run 2,.reg [.d,.d,.d,.d,.d,.d,.d,.call (.ptr 12 0) (aA ([oC 0 [(nI fr)],oC 1 [(nI g)],aC2 2 op b a ps,nT 3 e]++zG a us ts ix op h ks ps++[(8,(.zone true [] (ZV a f)),false),(11,(.zone true [] (ZV e (map some ks))),false),(12,gh,false),(13,(.zone true [12] (Z1 d)),false)]) 14),.d,.app (map aR a++ [.ptr 12 0]) (a.length+1),.d,.d,.d],.run 1]) aC aC ⟨(aH _ (fun _=>rfl) _),trivial⟩ ⟨k,h1,(cS h2),l,aFQ,j,aOO,aOP,rfl,rfl⟩
abbrev HL :=List (Nat×AObj×Bool)
abbrev NT (t:XT) :HL:=[(0,gh,false),(1,.zone true [0] (Z1 t),false)]
abbrev NL (o n:Int)(ps:List Pat)(us:List (Nat×Nat))(ts:List (Option XT)) :HL:=[(0,(.cells (putCells .leaf 0 [(.int .i64 o),(.int .i64 n),(.gl 1 1 0 (length us) false),(.ilst 4 (av ps) false)]) 4 [] false),false),(1,(.lst 1 (map aR us)),true),(2,(.zone true [] (ZV us ts)),false)]
theorem bGy (t:XT) :eX (NT t) :=trivial
def aP7 (p:Prog) :Prop:=∀nd∈p.nodes,nd.kids.length<1000000∧bD nd.pats<1000000
theorem aUn {o n:Int}{ps:List Pat}{us:List (Nat×Nat)}{ts:List XT}:jJ (aA (NL o n ps us (ts.map some)) 3) (aA [(0,gh,false),(3,.zone true [0] (Z1 (.mk o n ts ps)),false)] 4) :=fun E w r=>by
 have a:us.length=ts.length:=by
  obtain⟨L,_,d⟩ :=r.obj 2 (.zone true [] (ZV us (ts.map some))) aC;obtain⟨_,_,_,c⟩ :=gC d;have:=c.len;rwa [lN]at this
 have z:jJ (aA (NL o n ps us (ts.map some)) 3) (aA [(0,gh,false),(3,.zone true [0] (Z1 (.mk o n ts ps)),false)] 4) :=
  aBP (b:=0) (k:=1) (g:=2) (us:=us) (op:=o) (n:=n) (ts:=ts) (ps:=ps) (len:=us.length) (ex:=false) (pv:=.ilst 4 (av ps) false) aC a (fun _ _ h=>h) aC aC (le_refl _)
   (aU ⟨.inr (.inl ⟨rfl,rfl⟩),.inl ⟨rfl,rfl⟩,trivial⟩)
 exact z E w r
theorem aUo {s:AS}{o n:Int}{ps:List Pat}{us:List (Nat×Nat)}{ts:List XT}(e:Ends PP 0 s (.ret (.ptr 0 0)) (aA (NL o n ps us (ts.map some)) 3)) :Ends PP 0 s (.ret (.ptr 0 0)) (aA (NT (.mk o n ts ps)) 2) :=
 eE (ks:=[0,3]) (nS e aUn (zero_le _)) aC aC aC (bGy _)
theorem aW7 {e:Prog}{o n:Int}{ps:List Pat}{us:List (Nat×Nat)}{ts:List (Option XT)}{t:XT}{a c b:Int}{ks:List Int}{d:Res}{hf:Hp}(k:∀u,Ends PP 0 (aEp e a ks c o n ps t b us ts u).as d hf) :Ends PP 0 (aP2 e a ks c o n ps t b us ts).as d hf:=
 kS (t:=fun u=> (aEp e a ks c o n ps t b us ts u).as) (ok:=fun _=>True)
  (aEh (h:= (aP2 e a ks c o n ps t b us ts).as.h) (h':=fun u=> (aEp e a ks c o n ps t b us ts u).as.h) (k:=2) (g:=5) (gz:=4) (z:=3) (us:=us) (ts:=ts) (t:=t) aC aC aC (by decide) (fun u=>le_refl _)
   (fun u=>aU ⟨.inr (.inr ⟨by decide,by kernel_rfl⟩),.inr (.inr ⟨by decide,by rw [tI];kernel_rfl⟩),.inr (.inl ⟨rfl,rfl⟩),.inl ⟨rfl,rfl⟩,trivial⟩))
  (fun u=> ⟨by kernel_rfl,by kernel_rfl⟩) (fun u _=>k u)
theorem nil_turn {e:Prog}{o n b d:Int}{ps c:List Pat}{a:Int}{ks:List Int}:LeadsM PP 0 (aP1 e a b d ks c o n ps).as (aKb e a b d ks c o n ps).as:=
 mA (zA (h:= (aP1 e a b d ks c o n ps).as.h) (h':= (aKb e a b d ks c o n ps).as.h) (Z:=ZV [] []) (fun _ _=> ⟨nodup_nil,by simp [OsAt]⟩) (le_refl _) (aU ⟨.inr aC,.inr aC,.inr aC,.inr aC,.inl ⟨rfl,rfl⟩,trivial⟩)) aC aC
section
variable {p :Prog} (hf:aP7 p)
mutual
theorem aIf (b:aP7 p) :∀ (t:XT) (a:Int),IsTree p t a→fC PP 0 (.enter 91 [Prog.av p,.int .i64 a]) (aA [] 0) (.ret (.ptr 0 0)) (aA (NT t) 2)
 | .mk o n i j,a,h=>by
  simp only [IsTree]at h;obtain⟨d,nd,c,rfl,rfl,rfl,g⟩ :=h;obtain⟨f,e⟩ :=b nd (kN c);refine⟨(bDH p a).as.fr,by kernel_rfl,?_⟩;refine((bAT p a nd nd.pats d c (aM8 nd.pats e)).trans (nil_turn.trans (bAU p a _ _ nd.kids _ _ _ nd.pats))).ends ?_;exact aGd b a nd.kids nd.op nd.n nd.pats f i [] [] 0 (by simpa using g) rfl rfl
theorem aGd (e:aP7 p)(b:Int)(ks:List Int)(o n:Int)(ps:List Pat)(hk:ks.length<1000000) :∀ (d c:List XT) (a:List (Nat×Nat)) (i:Nat),aQ p d (ks.drop i) →c.length=i→a.length=i →
  Ends PP 0 (aGc p b ks ((length ks:Nat) :Int) o n ps (i:Int) a (c.map some)).as (.ret (.ptr 0 0)) (aA (NT (.mk o n (c++d) ps)) 2)
 | [],c,a,i,h,f,g=>by
  simp only [aQ]at h;have x:=bL h;rw [tK];exact aUo (bAV p b ks _ o n ps (i:Int) a (c.map some) sd)
 | t::d,c,a,i,h,f,g=>by
  simp only [aQ]at h;obtain⟨k,w,q,l,s⟩ :=h;obtain⟨v,r,y⟩ :=bI q
  have j:=aIe (m:=0) (ks:=[]) (n2:=5) (n3:=7) (v':=.ptr 5 0) (args':=[Prog.av p,.int .i64 k])
   (lc:=[(0,(.cells (putCells .leaf 0 [(.ilst 4 (map Node.av p.nodes) false),(.ilst 1 (map cA p.funs) false),(.int .i64 p.main),(.ilst 2 (map Con.av p.cons) false)]) 4 [] false),false),(1,(.cells (putCells .leaf 0 [(.int .i64 o),(.int .i64 n),(.gl 2 1 0 (length a) false),(.ilst 4 (av ps) false)]) 4 [] false),false),(2,(.lst 1 (map aR a)),true),(3,(.zone true [] (ZV a (c.map some))),false)])
   (lc':=[(0,(.cells (putCells .leaf 0 [(.ilst 4 (map Node.av p.nodes) false),(.ilst 1 (map cA p.funs) false),(.int .i64 p.main),(.ilst 2 (map Con.av p.cons) false)]) 4 [] false),false),(1,(.cells (putCells .leaf 0 [(.int .i64 o),(.int .i64 n),(.gl 2 1 0 (length a) false),(.ilst 4 (av ps) false)]) 4 [] false),false),(2,(.lst 1 (map aR a)),true),(3,(.zone true [] (ZV a (c.map some))),false),(5,gh,false),(6,(.zone true [5] (Z1 t)),false)])
   (aIf e t k l) (by rfl) (by rfl) aC (by rfl) (by rfl) aC aC trivial aC trivial
  refine(bAS p b ks _ o n ps (i:Int) a (c.map some) k t sd sd sd j (by omega)).ends (aW7 fun u=>?_);refine(bAW p b ks _ o n ps t (i:Int) a (c.map some) u sd).ends ?_;have:=aGd e b ks o n ps hk d (c++ [t]) (a++ [u]) (i+1) (by rw [r];exact s) (by simp [f]) (by simp [g]);rw [zq9,aG4]at this;exact this
end
end
abbrev aW8 (a:Nat×Nat)(b:List (Nat×Nat))(c:List (Option XT))(d:XT):=[oC 0 [(nI 7),(nI 0),(.gl 1 1 0 ([a].length+1) false),.nils],(1,(.lst 1 (map aR [a] ++ [.ptr 2 0])),false),(2,gh,false),(3,(.zone true [] (ZV b c)),false),(4,(.zone true [2] (Z1 d)),false)]
abbrev bFb (a:Nat)(b:List (Nat×Nat))(c:Prog)(d:List Con):=oC a [(.gl 2 1 0 b.length false),(nI c.main),(iC d)]
abbrev aKg (a:List (Nat×Nat))(b:Prog)(c:List Con)(d:List (Option XT)):=[bFb 1 a b c,oL 2 1 (map aR a),(3,(.zone true [] (ZV a d)),false)]
abbrev aW9 (a:Prog)(b:Int)(c:List (Nat×Nat))(d:List Con)(e:List (Option XT))(f:XT):=Spec PP (.enter 91 [(Prog.av a),(nI b)]) (aA ([oC 0 [(iN a.nodes),(iI a.funs),(nI a.main),(iC a.cons)]]++aKg c a d e) 5) (.ret (.ptr 5 0)) (aA ([oC 0 [(iN a.nodes),(iI a.funs),(nI a.main),(iC a.cons)]]++aKg c a d e++[(5,gh,false),(6,(.zone true [5] (Z1 f)),false)]) 7)
abbrev aC3 (a:Nat)(b:Prog):=oC a [(iN b.nodes),(iI b.funs),(nI b.main),(iC b.cons)]
abbrev aP8:AV:=.gl 2 1 0 ([] :List (Nat×Nat)).length false
def bDJ(a:Prog):TS:=cH PP 48 [(Prog.av a)] [] 0
def aP9(a:Prog)(b:List Con):TS:=⟨(tf 48 34 [kp 1 0,(2,.nilp),kp 3 1] [kc f48 28,kc f48 29,kc f48 15]),[],[aC3 0 a,oC 1 [aP8,(nI a.main),(iC b)],oL 2 1 (map aR ([] :List (Nat×Nat)))],3⟩
def aKh(a:Prog)(b:List Con):TS:=⟨(tf 48 34 [kp 1 0,(2,.nilp),kp 3 1] [kc f48 28,kc f48 29,kc f48 15]),[],[aC3 0 a,oC 1 [aP8,(nI a.main),(iC b)],oL 2 1 (map aR ([] :List (Nat×Nat))),(3,(.zone true [] (ZV ([] :List (Nat×Nat)) ([] :List (Option XT)))),false)],4⟩
def aGe(a:Prog)(c:List Con)(d:Int)(b:List (Nat×Nat))(e:List (Option XT)):TS:=⟨(tf 48 34 [kp 1 0,(2,.nilp),kp 3 1,(14,(iI a.funs)),(15,(nI (a.funs.length:Int))),(16,(nI d))] [kc f48 116,kl f48 116,.inBlock 0,kc f48 15]),[],([aC3 0 a]++aKg b a c e),4⟩
def aQa(a:Prog)(c:List Con)(d:XT)(e:Int)(b:List (Nat×Nat))(f:List (Option XT)):TS:=⟨(tf 48 34 [kp 1 0,(2,.nilp),kp 3 1,(14,(iI a.funs)),(15,(nI (a.funs.length:Int))),(16,(nI e))] [kc f48 935,kl f48 116,.inBlock 0,kc f48 15]),[],[aC3 0 a,oC 1 [(.gl 2 1 0 (b.length+1) false),(nI a.main),(iC c)],(2,(.lst 1 (map aR b++ [.ptr 3 0])),false),(3,gh,false),(4,(.zone true [3] (Z1 d)),false),(5,(.zone true [] (ZV b f)),false)],6⟩
def aEt(a:Prog)(d:List Con)(e:XT)(f:Int)(b:List (Nat×Nat))(g:List (Option XT))(c:Nat×Nat):TS:=⟨(tf 48 34 [kp 1 0,(2,.nilp),kp 3 1,(14,(iI a.funs)),(15,(nI (a.funs.length:Int))),(16,(nI f))] [kc f48 935,kl f48 116,.inBlock 0,kc f48 15]),[],[aC3 0 a,oC 1 [(.gl 2 1 0 (b++ [c]).length false),(nI a.main),(iC d)],oL 2 1 (map aR (b++ [c])),(6,(.zone true [] (ZV (b++ [c]) (g++ [some e]))),false)],7⟩
theorem bFc (p:Prog)(a:List Con) :LeadsM PP 0 (aP9 p a).as (aKh p a).as:=
 mA (zA (h:= (aP9 p a).as.h) (h':= (aKh p a).as.h) (Z:= (ZV ([] :List (Nat×Nat)) ([] :List (Option XT)))) (fun _ _=> ⟨nodup_nil,by simp [OsAt]⟩) (le_refl _) (aU ⟨.inr aC,.inr aC,.inr aC,.inl ⟨rfl,rfl⟩,trivial⟩)) aC aC
theorem bFd (p:Prog)(a:List Con)(d:XT)(b:Int)(us: (List (Nat×Nat)))(e: (List (Option XT))){f:Res}{hf:Hp}(k:∀c,Ends PP 0 (aEt p a d b us e c).as f hf) :Ends PP 0 (aQa p a d b us e).as f hf:=
 kS (t:= (fun c=> (aEt p a d b us e c).as)) (ok:=fun _=>True) (aEh (h:= (aQa p a d b us e).as.h) (h':=fun c=> (aEt p a d b us e c).as.h) (k:=2) (g:=5) (gz:=4) (z:=3) (us:=us) (ts:=e) (t:=d) aC aC aC (by decide) (fun _=>le_refl _) (fun c=> (aU ⟨.inr (.inr ⟨by decide,by kernel_rfl⟩),.inr (.inr ⟨by decide,by rw [tI];kernel_rfl⟩),.inr (.inl ⟨rfl,rfl⟩),.inl ⟨rfl,rfl⟩,trivial⟩))) (fun c=> ⟨by kernel_rfl,by kernel_rfl⟩) (fun c _=>k c)
theorem bA8 (p:Prog)(c:List Con)(b:Int)(a: (List (Nat×Nat)))(e: (List (Option XT)))(f:Int)(d:XT)(h:decide (b< (p.funs.length:Int)) =true)(h1:0≤b)(h2: ((p.funs)[b.toNat]?) =some f)(i:aW9 p f a c e d)(g:a.length+1≤1000000) :
  LeadsM PP 0 (aGe p c b a e).as (aQa p c d b a e).as:=
 kZ (n1:=8) (ks:=[0,1,7,5,6,3]) (W:=[some (.cells (putCells .leaf 0 [(iN p.nodes),(iI p.funs),(nI p.main),(iC p.cons)]) 4 [] false),some (.cells (putCells .leaf 0 [(.gl 7 1 0 (a.length+1) false),(nI p.main),(iC c)]) 3 [] false),some (.lst 1 (map aR a++ [.ptr 5 0])),some gh,some (.zone true [5] (Z1 d)),some (.zone true [] (ZV a e))]) (wc aC (wc aC (wc (aBQ aC) (wc aC (wc aC (wc aC wn)))))) (ps:=[decide (b< (p.funs.length:Int)) =true,0≤b,(jI p.funs)[b.toNat]?=some (cA f),aW9 p f a c e d,0+a.length≤length (map aR a),a.length+1≤1000000,take a.length (drop 0 (map aR a)) ++ [ptr 5 0] = (map aR a++ [.ptr 5 0]),a.length+length [ptr 5 0] =a.length+1,(AV.gl 2 1 0 a.length false) = (AV.gl 2 1 0 a.length false),(AV.gl 2 1 0 a.length false) = (AV.gl 2 1 0 a.length false)]) (is:=[.run 5,.b 17 true,.run 6,.ans (.idx (cA f)),.run 3,.reg [.d,.d,.d,.d,.d,.d,.d,.call (.ptr 5 0) (aA ([aC3 0 p]++aKg a p c e++[(5,gh,false),(6,(.zone true [5] (Z1 d)),false)]) 7),.d,.app (map aR a++ [.ptr 5 0]) (a.length+1),.d,.d,.d],.run 1]) aC aC trivial ⟨h,h1,(aZ h2),i,aFQ,g,aOO,aOP,rfl,rfl⟩
def bDK(a:List (Nat×Nat))(b:List (Option XT))(f:Nat)(c:Nat×Nat)(d e:Int):TS:=cH PP 249 [(aR c),(nI d),(nI e)] [(0,(.zone true [] (ZV a b)),false)] 1
def bDL(a:List (Nat×Nat))(b:List (Option XT))(e:Nat)(c:Nat×Nat)(d:XT):TS:=cH PP 248 [(aR c),(.ptr 1 0)] [(0,(.zone true [] (ZV a b)),false),(1,gh,false),(2,(.zone true [1] (Z1 d)),false)] 3
theorem bA9 (us: (List (Nat×Nat)))(ts: (List (Option XT)))(ix:Nat)(u: (Nat×Nat))(a:XT) :
  Ends PP 0 (bDL us ts ix u a).as (.ret (.ptr 0 0)) (aA (aW8 u us ts a) 5) :=
 aLX (n1:=5) (ks:=[4,3,1,0,2]) (hp:= (aW8 u us ts a)) (v:= (.ptr 0 0)) (W:=[some (.cells (putCells .leaf 0 [(nI 7),(nI 0),(.gl 3 1 0 ([u].length+1) false),.nils]) 4 [] false),some (.lst 1 (map aR [u] ++ [.ptr 1 0])),some gh,some (.zone true [] (ZV us ts)),some (.zone true [1] (Z1 a))]) (wc aC (wc (aBQ aC) (wc aC (wc aC (wc aC wn))))) (ps:=[getCells (putCells .leaf 0 [(aR u),(.ptr 1 0)]) 0 (2*1) =some [(aR u),(.ptr 1 0)],dD [(aR u),(.ptr 1 0)] =true,[(aR u),(.ptr 1 0)] = (map aR [u] ++ [(.ptr 1 0)]),(AV.gl 3 1 0 2 false) = (.gl 3 1 0 ([u].length+1) false)]) (is:=[.run 28,.ctoL 4 2 false [(aR u),(.ptr 1 0)],.lset 3 (map aR [u] ++ [(.ptr 1 0)]),.cweak 4 2,.cset 4 2 (.gl 3 1 0 ([u].length+1) false)]) aC aC trivial ⟨rfl,rfl,rfl,rfl⟩
def bDM(a:Nat ×Nat)(b:List (Nat×Nat)):TS:=cH PP 254 [(.gl 0 1 0 (a::b).length false)] [oL 0 1 (map aR (a::b))] 1
def bDN(a b:Int):TS:=cH PP 250 [(nI a),(nI b),.nils] [] 0
def bBa (a:Prog):=fun b c=>(tT 0 (bDJ a)<|.y fun b:List Con=>.i [rn 6,.reg (rd 4 (.pure (iC b)::rd 3 []))] [hA (aM PP 90 [(iC a.cons)] (iC b)),hr (nI a.main),hr (nI a.main)]<|.i [rn 2,.cnil 1 0 1] []<|gu 0 2 (map aR ([] :List (Nat×Nat)))<|gv 0 1 0 aP8<|.W 0 3 [0,1,2] (aP9 a b)) b c ⟨kk,trivial⟩
def bBb (a:Prog)(b:List Con):=(tT 0 (aKh a b)<|gl 3 cA a.funs<|.W 4 4 [0,1,2,3] (aGe a b 0 ([] :List (Nat×Nat)) ([] :List (Option XT)))) ⟨kk,trivial⟩
def bBc (b:Prog)(c:List Con)(d:Int)(a:List (Nat×Nat))(e:List (Option XT)):=fun f=>(tT 0 (aGe b c d a e)<|gd 5 17 (d< (b.funs.length:Int)) .x<|.E 8 4 [1,2,3] (.ptr 0 0) [oC 0 [(.gl 1 1 0 a.length false),(nI b.main),(iC c)],oL 1 1 (map aR a),(2,(.zone true [] (ZV a e)),false)] 3)|>.f f ⟨kk,trivial⟩
def bBd (b:Prog)(c:List Con)(d:XT)(a:Int)(e:List (Nat×Nat))(f:List (Option XT))(g:Nat×Nat):=fun i=>(tT 0 (aEt b c d a e f g)<|gw 2 32 (a+1)<|.W 3 7 [0,1,2,6] (aGe b c (a+1) (e++ [g]) (f++ [some d]))) i ⟨kk,trivial⟩
def bBe (a:List (Nat×Nat))(b:List (Option XT))(g:Nat)(f:Nat×Nat)(d e:Int):=fun c i=>(tT 0 (bDK a b g f d e)<|.y fun c:XT=>gk 10 (.enter 251 [(aR f),(.func 252 [] [(.ptr 1 0),(.ptr 2 0)])]) [(0,(.zone true [] (ZV a b)),false),oC 1 [(nI d)],oC 2 [(nI e)]] 3 (.ptr 4 0) [oC 1 [(nI d)],oC 2 [(nI e)],(3,(.zone true [] (ZV a b)),false),(4,gh,false),(5,(.zone true [4] (Z1 c)),false)] 6<|.E 3 6 [4,3,5] (.ptr 0 0) [(0,gh,false),(1,(.zone true [] (ZV a b)),false),(2,(.zone true [0] (Z1 c)),false)] 3) c i tv
def bBf (a:Nat×Nat)(b:List (Nat×Nat)):=fun c=>(tT 1 (bDM a b)<|.i [rn 16,.toL 5 false []] [.q (p:=getCells (putCells .leaf 0 []) 0 (0*1) =some []) rfl,hr true]<|gu 0 1 (map aR ([] :List (Nat×Nat)))<|gs 0 5 (.gl 1 1 0 ([] :List (Nat×Nat)).length true)<|.i [.weak 5] []<|.i [.app (map aR (a::b)) (a::b).length] [.q (p:=0+ (a::b).length≤length (map aR (a::b))) aFQ,.q (p:=0+ ([] :List (Nat×Nat)).length≤length (map aR ([] :List (Nat×Nat)))) aFQ,hA ((a::b).length≤1000000),.q (p:=take ([] :List (Nat×Nat)).length (drop 0 (map aR ([] :List (Nat×Nat)))) ++take (a::b).length (drop 0 (map aR (a::b))) = (map aR (a::b))) bEO,.q (p:=([] :List (Nat×Nat)).length+ (a::b).length= (a::b).length) (eS _)]<|.E 3 3 [2] (.gl 1 1 0 (a::b).length false) [oL 0 1 (map aR (a::b)),oL 1 1 (map aR (a::b))] 2) c ⟨kk,⟨kk,trivial⟩⟩
def bBg (a b:Int):=(tT 0 (bDN a b)<|.E 14 1 [0] (.ptr 0 0) [oC 0 [(nI a),(nI b),.nils,.nils]] 1) tv
theorem oQ {P:Program}{f:Nat}{b args':List AV}{v v':AV}{l l' lc lc':List (Nat×AObj×Bool)}{m nb a n2 n3:Nat}{ks:List Nat}
  (g:fC P m (.enter f b) (aA l nb) (.ret v) (aA l' a))
  (hb: (ble m nb&&ble m a&&cP 0 ⟨⟨0,0,[],[],[],.run,.normal,none⟩,[],l,nb⟩ ks&&xK l'&&fQ a l'&&fQ n2 lc&&fQ n3 lc'&&ks.all (fun k=>Nat.blt k n2)) =true)
  (he: (a-m+n2,ren (jX m n2 ks) v,renL (eW 0 nb n2 ks) b,sS (aA lc n2) (eW 0 nb n2 ks) l,sS (aA lc' n3) (jX m n2 ks) l',aDz (namesT (jX m n2 ks) l') (l.map fun p=>ks.getD p.1 0) (aA lc n2) lc',qP l') = (n3,v',args',hP (eW 0 nb n2 ks) l,hP (jX m n2 ks) l',qP lc',(l'.map fun p=> (aA l' a).look p.1)))
  (d:eX l) (c:eX l') :Spec P (.enter f args') (aA lc n2) (.ret v') (aA lc' n3) :=by
 simp only [cM]at hb;obtain⟨⟨⟨⟨⟨⟨⟨q,h⟩,o⟩,z⟩,w⟩,x⟩,e⟩,s⟩ :=hb;simp only [Prod.mk.injEq]at he;obtain⟨r,j,y,i,n,t,u⟩ :=he;exact aIe g r j y q h o i d n c z w x e s t u
theorem bBh {P:Program}{f:Nat}{x y:Int}{a p q:AV}{h h':Hp}{r:Res}(e:x=y)(s:Spec P (.enter f [.agg [a,.int .i64 y,p],q]) h r h') :Spec P (.enter f [.agg [a,.int .i64 x,p],q]) h r h':=by rw [e];exact s
theorem aM9 {P:Program}{f:Nat}{x y:Int}{i j b k o:Nat}{a q:AV}{h h':Hp}{r:Res}(e:x=y)(c:i=j)(s:Spec P (.enter f [.agg [a,.int .i64 y,.ep b k j o],q]) h r h') :Spec P (.enter f [.agg [a,.int .i64 x,.ep b k i o],q]) h r h':=by rw [e,c];exact s
def mvN (fr mb o n:Int) :Int:=if o=4∧0≤n∧fr≤n then n+mb else n
mutual
def rG (fr mb:Int) :XT→XT
 | .mk o n ks ps=>.mk o (mvN fr mb o n) (dR fr mb ks) ps
def dR (fr mb:Int) :List XT→List XT
 | [] =>[]
 |t::ts=>rG fr mb t::dR fr mb ts
end
mutual
def OkT :XT→Prop
 | .mk o n ks _=> (o=4→n≤1000000) ∧ks.length<1000000∧aKj ks
def aKj :List XT→Prop
 | [] =>True
 |t::ts=>OkT t∧aKj ts
end
theorem mB (fr b:Int) :∀a,dR fr b a=a.map (rG fr b)
 | [] =>rfl
 |t::a=>by rw [dR,mB fr b a];rfl
theorem okTs_iff :∀ {ts:List XT},aKj ts↔∀t∈ts,OkT t
 | [] =>by simp [aKj]
 |t::ts=>by simp only [aKj,okTs_iff (ts:=ts),zq7];exact⟨fun h x a=>by rcases a with rfl|a;exact h.1;exact h.2 x a,fun h=> ⟨h t (.inl rfl),fun x a=>h x (.inr a)⟩⟩
abbrev PHl (fr mb:Int)(us:List (Nat×Nat))(ts:List (Option XT)) :HL:=[(0,(.cells (putCells .leaf 0 [(.int .i64 fr)]) 1 [] false),false),(1,(.cells (putCells .leaf 0 [(.int .i64 mb)]) 1 [] false),false),(2,(.zone true [] (ZV us ts)),false)]
abbrev PHr (fr mb:Int)(us:List (Nat×Nat))(ts:List (Option XT))(t:XT) :HL:=[(0,(.cells (putCells .leaf 0 [(.int .i64 fr)]) 1 [] false),false),(1,(.cells (putCells .leaf 0 [(.int .i64 mb)]) 1 [] false),false),(2,(.zone true [] (ZV us ts)),false),(3,gh,false),(4,.zone true [3] (Z1 t),false)]
def bFe (fr mb:Int)(t:XT) :Prop:=∀ (us:List (Nat×Nat)) (ts:List (Option XT)) (ix:Nat) (u:Nat×Nat),us[ix]?=some u→ts[ix]?=some (some t) →
 fC PP 2 (.enter 251 [aR u,.func 252 [] [.ptr 0 0,.ptr 1 0]]) (aA (PHl fr mb us ts) 3) (.ret (.ptr 3 0)) (aA (PHr fr mb us ts (rG fr mb t)) 5)
abbrev PHe (fr mb:Int)(us:List (Nat×Nat))(ts:List (Option XT))(ix:Nat)(op nn n':Int)(ks:List XT)(ps:List Pat)(w:List (Nat×Nat))(rs:List XT) :HL:=[(0,(.cells (putCells .leaf 0 [(.int .i64 fr)]) 1 [] false),false),(1,(.cells (putCells .leaf 0 [(.int .i64 mb)]) 1 [] false),false),(2,(.cells (putCells .leaf 0 [(.int .i64 op),(.int .i64 n'),(.gl 3 1 0 (length w) false),(.ilst 4 (av ps) false)]) 4 [] false),false),(3,(.lst 1 (map aR w)),true),(4,(.zone true [5] (dK us (set ts ix none) ix)),false),(5,(.cells (putCells .leaf 0 [(.int .i64 op),(.int .i64 nn),(.gl 6 1 0 (length ks) false),(.ilst 4 (av ps) false)]) 4 [] false),false),(6,gh,false),(7,(.zone true [6] (bH ks)),false),(8,(.zone true [] (ZV w (rs.map some))),false)]
abbrev PHf (fr mb:Int)(us:List (Nat×Nat))(ts:List (Option XT))(op n':Int)(ps:List Pat)(w:List (Nat×Nat))(rs:List XT) :HL:=[(0,(.cells (putCells .leaf 0 [(.int .i64 fr)]) 1 [] false),false),(1,(.cells (putCells .leaf 0 [(.int .i64 mb)]) 1 [] false),false),(2,(.cells (putCells .leaf 0 [(.int .i64 op),(.int .i64 n'),(.gl 3 1 0 (length w) false),(.ilst 4 (av ps) false)]) 4 [] false),false),(3,(.lst 1 (map aR w)),true),(8,(.zone true [] (ZV w (rs.map some))),false),(9,(.zone true [] (ZV us ts)),false)]
abbrev PHg (fr mb:Int)(us:List (Nat×Nat))(ts:List (Option XT))(t:XT) :HL:=[(0,(.cells (putCells .leaf 0 [(.int .i64 fr)]) 1 [] false),false),(1,(.cells (putCells .leaf 0 [(.int .i64 mb)]) 1 [] false),false),(2,gh,false),(9,(.zone true [] (ZV us ts)),false),(10,.zone true [2] (Z1 t),false)]
theorem aNa {ts:List (Option XT)}{ix:Nat}{x:Option XT}(h:ts[ix]?=some x) : (ts.set ix none).set ix x=ts:=by
 rw [List.set_set];apply List.ext_getElem?;intro j;rw [getElem?_set];split
 · rename_i a;subst a;rw [if_pos (zq0.1 h).1,h]
 ·rfl
theorem aXb {s:AS}{fr c:Int}{us:List (Nat×Nat)}{ts:List (Option XT)}{ix:Nat}{op d a:Int}{ks:List XT}{ps:List Pat}{w:List (Nat×Nat)}{rs:List XT}(l:ts[ix]?=some (some (.mk op d ks ps)))(j:w.length=rs.length)
  (e:Ends PP 2 s (.ret (.ptr 2 0)) (aA (PHe fr c us ts ix op d a ks ps w rs) 9)) :Ends PP 2 s (.ret (.ptr 3 0)) (aA (PHr fr c us ts (.mk op a rs ps)) 5) :=by
 have f:jJ (aA (PHe fr c us ts ix op d a ks ps w rs) 9) (aA (PHf fr c us ts op a ps w rs) 10) :=by
  refine aAS (h:=aA (PHe fr c us ts ix op d a ks ps w rs) 9) (h':=aA (PHf fr c us ts op a ps w rs) 10) (b:=5) (k:=6) (gk:=7) (g:=4) (us:=us) (ts:=ts.set ix none) (i:=ix) (op:=op) (n:=d) (ks:=ks) (ps:=ps) (len:=ks.length) (ex:=false) (pv:=.ilst 4 (av ps) false) aC rfl (fun _ _ h=>h) aC aC (by decide) (le_refl _) ?_;rw [aNa l];exact aU ⟨.inr ⟨by decide,by kernel_rfl⟩,.inr ⟨by decide,by kernel_rfl⟩,.inr ⟨by decide,by kernel_rfl⟩,.inr ⟨by decide,by kernel_rfl⟩,.inr ⟨by decide,by kernel_rfl⟩,.inl ⟨rfl,rfl⟩,trivial⟩
 have m:jJ (aA (PHf fr c us ts op a ps w rs) 10) (aA (PHg fr c us ts (.mk op a rs ps)) 11) :=
  aBP (h:=aA (PHf fr c us ts op a ps w rs) 10) (h':=aA (PHg fr c us ts (.mk op a rs ps)) 11) (b:=2) (k:=3) (g:=8) (us:=w) (op:=op) (n:=a) (ts:=rs) (ps:=ps) (len:=w.length) (ex:=false) (pv:=.ilst 4 (av ps) false) aC j (fun _ _ h=>h) aC aC (le_refl _)
   (aU ⟨.inr (.inr ⟨by decide,by kernel_rfl⟩),.inr (.inr ⟨by decide,by kernel_rfl⟩),.inr (.inl ⟨rfl,rfl⟩),.inr (.inr ⟨by decide,by kernel_rfl⟩),.inl ⟨rfl,rfl⟩,trivial⟩)
 exact eE (ks:=[9,2,10]) (nS (nS e f (show 2≤9 by decide)) m (show 2≤10 by decide)) aC aC aC trivial
theorem eA {c d:Type}{a:List c}{b:List d}(h:a.length=b.length){i:Nat}(e:i<b.length) :∃x,a[i]?=some x:= ⟨a[i]'(by omega),kF _⟩
mutual
theorem aRx (fr:Int) :∀ (t:XT),OkT t→bFe fr 1 t
 | .mk op a b c,h=>fun e d ix u n i=>by
  simp only [OkT]at h;obtain⟨l,m,k⟩ :=h;refine⟨(bDI fr 1 e d ix u op a b c).as.fr,by kernel_rfl,?_⟩;have hc :LeadsM PP 2 (aEq fr 1 e d ix u op a b c).as (aA0 fr 1 e d ix u op a b c (mvN fr 1 op a)).as:=by
   unfold mvN;by_cases f:op=4
   · by_cases g:0≤a
     · by_cases j:fr≤a
       · rw [if_pos ⟨f,g,j⟩];have:=l f;exact bAY fr 1 e d ix u op a b c (by rw [f];rfl) sd sd sd
       · rw [if_neg (fun h=>j h.2.2)];exact bAZ fr 1 e d ix u op a b c (by rw [f];rfl) sd sd
     · rw [if_neg (fun h=>g h.2.1)];exact bA0 fr 1 e d ix u op a b c (by rw [f];rfl) sd
   · rw [if_neg (fun h=>f h.1)];exact bA1 fr 1 e d ix u op a b c (by simpa using f)
  refine((bAX fr 1 e d ix u op a b c).trans ((bE6 fr 1 e d ix u op a b c n i).trans (hc.trans ((bE7 fr 1 e d ix u op a b c _).trans (bA2 fr 1 e d ix u op a b c _))))).ends ?_;have:=aRy fr e d ix u op a b c i m b [] [] 0 rfl rfl rfl k;simp only [rG];exact this
theorem aRy (fr:Int)(us:List (Nat×Nat))(ts:List (Option XT))(ix:Nat)(u:Nat×Nat)(op a:Int)(ks:List XT)(ps:List Pat)(l:ts[ix]?=some (some (.mk op a ks ps)))(hk:ks.length<1000000) :∀ (d b:List XT) (w:List (Nat×Nat)) (i:Nat),ks.drop i=d→b.length=i→w.length=i→aKj d →
  Ends PP 2 (aKd fr 1 us ts ix u op a ks ps (mvN fr 1 op a) (i:Int) w (b.map some)).as (.ret (.ptr 3 0)) (aA (PHr fr 1 us ts (.mk op (mvN fr 1 op a) (b++dR fr 1 d) ps)) 5)
 | [],b,w,i,h,o,q,_=>by
  have x:=bL h;simp only [dR,tK];exact aXb l (by omega) (bA4 fr 1 us ts ix u op a ks ps _ (i:Int) w (b.map some) sd)
 | t::d,b,w,i,h,o,q,g=>by
  simp only [aKj]at g;obtain⟨s,v,r⟩ :=bI h;have f:ks≠ [] :=fun e=>by subst e;simp at r
  refine(bA3 fr 1 us ts ix u op a ks ps _ (i:Int) w (b.map some) sd).ends (bE8 fr 1 us ts ix u op a ks ps _ (i:Int) w (b.map some) f fun c k=>?_);obtain⟨p,j⟩ :=eA k r;refine(bA7 fr 1 us ts ix u op a ks ps _ (i:Int) w (b.map some) c p (rG fr 1 t) sd sd sd (oQ (m:=2) (ks:=[0,1,9]) (aRx fr t g.1 c (ks.map some) i p j (by rw [pT,s];rfl)) aC aC trivial trivial) (by omega)).ends ?_;refine bE9 fr 1 us ts ix u op a ks ps _ _ c (i:Int) w (b.map some) fun n=>?_;refine((bA5 fr 1 us ts ix u op a ks ps _ _ c (i:Int) w (b.map some) n).trans ((bFa fr 1 us ts ix u op a ks ps _ c _ _ (i:Int) f).trans (bA6 fr 1 us ts ix u op a ks ps _ c _ _ (i:Int) sd))).ends ?_;have:=aRy fr us ts ix u op a ks ps l hk d (b++ [rG fr 1 t]) (w++ [n]) (i+1) v (by simp [o]) (by simp [q]) g.2;rw [zq9,aG4]at this;simp only [dR];exact this
end
theorem aRz (fr:Int)(t:XT)(h:OkT t)(us:List (Nat×Nat))(ts:List (Option XT))(ix:Nat)(u:Nat×Nat)(a:us[ix]?=some u)(b:ts[ix]?=some (some t)) :
  fC PP 0 (.enter 249 [aR u,.int .i64 fr,.int .i64 1]) (aA [(0,(.zone true [] (ZV us ts)),false)] 1) (.ret (.ptr 1 0)) (aA [(0,(.zone true [] (ZV us ts)),false),(1,gh,false),(2,.zone true [1] (Z1 (rG fr 1 t)),false)] 3) :=by
 refine⟨(bDK us ts ix u fr 1).as.fr,by kernel_rfl,?_⟩;have:=bBe us ts ix u fr 1 (rG fr 1 t) (oQ (m:=2) (ks:=[1,2,0]) (aRx fr t h us ts ix u a b) aC aC trivial trivial);exact eE (ks:=[1,0,2]) this aC aC aC trivial
section
variable {P :Program}
theorem aIg {call:bQ}(hc:eJ P call){m:Nat}:∀ {n:Nat} {s:AS} {v:AV} {b:Hp},aIF P call n s=some (v,b) →Ends P m s (.ret v) b
 |0,s,v,b,a=>by simp [aIF]at a
 | n + 1,s,v,b,a=>by
  simp only [aIF]at a;split at a
  · rename_i x d;cases a;exact mU d
  · split at a
    · rename_i e c;exact(dL hc c).ends (aIg hc a)
    ·cases a
def aBX :AObj→AObj
 | .cells t n _ _=>.cells t n [] false
 |o=>o
def sA (hp:List (Nat×AObj)) :List (Nat×AObj×Bool) :=hp.map fun p=> (p.1,aBX p.2,false)
def aNb (x:Nat) :List (Nat×AObj) →Bool
 | [] =>false
 |p::r=>Nat.beq p.1 x||aNb x r
def aGf (l:List (Nat×AObj)) :List Nat→Bool
 | [] =>true
 |x::r=> !(aNb x l) &&aGf l r
def aC4 (l:List (Nat×AObj)) :List (Nat×AObj) →Bool
 | [] =>true
 |p::r=>aGf l (bS p.2) &&aC4 l r
theorem aC5 {x:Nat}:∀ {l:List (Nat×AObj)},∀p∈l,p.1=x→aNb x l=true
 | q::r,p,a,e=>by
  simp only [aNb,Bool.or_eq_true];rcases zq7.1 a with rfl|a
  ·exact .inl (by rw [e];exact Nat.beq_refl x)
  ·exact .inr (aC5 p a e)
theorem aA1 {l:List (Nat×AObj)}:∀ {k:List Nat},aGf l k=true→∀x∈k,aNb x l=false
 | y::r,h,x,a=>by
  simp only [aGf,cM,Bool.not_eq_true']at h;rcases zq7.1 a with rfl|a
  ·exact h.1
  ·exact aA1 h.2 x a
theorem aA2 {l:List (Nat×AObj)}:∀ {k:List (Nat×AObj)},aC4 l k=true→∀p∈k,aGf l (bS p.2) =true
 | q::r,h,p,a=>by
  simp only [aC4,cM]at h;rcases zq7.1 a with rfl|a
  ·exact h.1
  ·exact aA2 h.2 p a
theorem aIh {h:Hp}:∀ {a:List (Nat×AObj)},(a.map fun p=>h.look p.1) = (a.map fun p=>some p.2) →∀p∈a,h.look p.1=some p.2
 | q::r,e,p,a=>by
  simp only [eK,List.cons.injEq]at e;rcases zq7.1 a with rfl|a
  ·exact e.1
  ·exact aIh e.2 p a
theorem nC {h:Hp}{hp:List (Nat×AObj)}{nb:Nat}(hl: (hp.map fun p=>h.look p.1) = (hp.map fun p=>some p.2)){b:Nat}{o:AObj}(e: (aA (sA hp) nb).look b=some o) :∃o1,(b,o1) ∈hp∧h.look b=some o1∧o=aBX o1:=by
 obtain⟨g,hm⟩ :=hJ e;obtain⟨⟨f,d⟩,a,c⟩ :=zq24.1 hm;cases c;exact⟨d,a,aIh hl _ a,rfl⟩
theorem zH {o:AObj}{L:Loc}{i:Nat}:Own (aBX o) L i→Own o L i:=by cases o<;>exact id
theorem aXc {E:Emb}{H:Array Obj}{o:AObj}{L:Loc}:OR E H L o→OR E H L (aBX o) :=by cases o<;>exact id
theorem aNc (o:AObj) :kH (aBX o) =kH o:=by cases o<;>rfl
theorem aUp {E:Emb}{h:Hp}{H:Array Obj}(r:Rel E h H){hp:List (Nat×AObj)}{nb:Nat}(hl: (hp.map fun p=>h.look p.1) = (hp.map fun p=>some p.2))(m:aC4 hp hp=true)(s:h.nb=nb) :Rel E (aA (sA hp) nb) H:=by
 subst s;refine⟨fun b o e=>?_,fun b z o D L L' e t k w hm j=>?_,r.fresh,r.imm,fun b o L e k i C=>?_,fun b o e=>?_⟩
 · obtain⟨a,d,c,rfl⟩ :=nC hl e;rcases r.obj0 b a c with⟨x,y⟩ | ⟨L,q,B⟩
   ·exact .inl ⟨by rw [aNc];exact x,y⟩
   ·exact .inr ⟨L,q,aXc B⟩
 · obtain⟨a,d,c,rfl⟩ :=nC hl e;obtain⟨l,n,v,rfl⟩ :=nC hl t;exfalso;have f:Meet a l L L':=by
    obtain⟨i,A,u⟩ :=hm;exact⟨i,zH A,zH u⟩
   rcases r.kin b z a l L L' c v k w f j with⟨g,_⟩ | ⟨g,_⟩
   · have:=aA1 (aA2 m _ d) _ g;rw [aC5 _ n rfl]at this;cases this
   · have:=aA1 (aA2 m _ n) _ g;rw [aC5 _ d rfl]at this;cases this
 · obtain⟨a,d,c,rfl⟩ :=nC hl e;exact r.apart b a L c k i (zH C)
 · obtain⟨a,d,c,rfl⟩ :=nC hl e;exact r.keys b a c
theorem aDM {fr:AFrame}{cs:List AFrame}{h:Hp}{hp:List (Nat×AObj)}{nb:Nat}(hl: (hp.map fun p=>h.look p.1) = (hp.map fun p=>some p.2))(l:aC4 hp hp=true)(j:h.nb=nb) :Leads P ⟨fr,cs,h⟩ ⟨fr,cs,aA (sA hp) nb⟩ :=fun E fr c w d f fs r=>by
 have a:∀ {x o},(aA (sA hp) nb).look x=some o→∃b,h.look x=some b∧∀L i,Own o L i→Own b L i:=fun {x o} e=>by
  obtain⟨k,_,n,rfl⟩ :=nC hl e;exact⟨k,n,fun L i=>zH⟩
 refine⟨E,fr,c,w,Steps.refl _ _,f,fs,aUp r hl l j,⟨Emb.le.refl E,le_refl _,fun _ _ _=>rfl,fun x o L m q i t _=>by obtain⟨b,e,g⟩ :=a m;exact⟨x,b,L,e,q,g L i t⟩,?_,rfl,rfl,rfl,fun _ _=>rfl,fun _ _=>rfl,fun _ _ e _=>.inl e,fun x o e _=>by obtain⟨b,s,_⟩ :=a e;exact⟨b,s⟩⟩⟩;show h.nb≤nb;omega
theorem aBY {f:Nat}{a:List AV}{g:AFrame}{fr:AFrame}{h:Hp}{hp:List (Nat×AObj)}{nb:Nat}{v:AV}(b:dT P (aA [] 0) (.enter f a) =some g)(i:Leads P ⟨g,[],aA [] 0⟩ ⟨fr,[],h⟩)(hl: (hp.map fun p=>h.look p.1) = (hp.map fun p=>some p.2))(e:aC4 hp hp=true)(d:h.nb=nb)
  (c:wC P ⟨fr,[],aA (sA hp) nb⟩ =some (v,aA (sA hp) nb)) :fC P 0 (.enter f a) (aA [] 0) (.ret v) (aA (sA hp) nb) :=
 ⟨g,b,((i.trans (aDM hl e d)).toM).ends (mU c)⟩
theorem zI {n d k:Nat}{c:AIn}{h:Hp}{v:AV}{l:List (Nat×AObj×Bool)}{nb:Nat}
  (i: (wE P n (d+1) k c h).map (fun r=> (r.1,r.2.nb,l.map fun p=>r.2.look p.1)) =some (v,nb,l.map fun p=>some p.2.1)) (hb:h.nb≤nb) :Spec P c h (.ret v) (aA l nb) :=by
 simp only [wE]at i;split at i
 · rename_i g G;cases hr:aIF P (wE P n d) n ⟨g,[],h⟩with
   |none=>rw [hr]at i;cases i
   | some r=>
    rw [hr]at i;simp only [Option.map_some,Option.some.injEq,Prod.mk.injEq]at i;obtain⟨rfl,rfl,K⟩ :=i;refine⟨g,G,?_⟩;have e:=aIg (m:=h.nb) (uF n d) hr
    have u:∀b o,(aA l r.2.nb).look b=some o→r.2.look b=some o:=fun b o e=>by
     obtain⟨M,hm⟩ :=hJ e;have:∀ {k:List (Nat×AObj×Bool)},(k.map fun p=>r.2.look p.1) = (k.map fun p=>some p.2.1) →∀p∈k,r.2.look p.1=some p.2.1:=by
      intro k
      induction k with
      |nil=>intro _ p s;cases s
      | cons q k F=>
       intro e p s;simp only [eK,List.cons.injEq]at e;rcases zq7.1 s with rfl|s
       ·exact e.1
       ·exact F e.2 p s
     exact this K _ hm
    intro hm E fr t w f fs A L j;obtain⟨x,C,H,D,I,J,a⟩ :=e hm E fr t w f fs A L j;exact⟨x,C,H,D,I,J.sub u (le_refl _),⟨a.low,a.imm,a.size,a.keep,fun y z B e=>a.own y z B (u y z e),hb,a.os,a.tape,a.output,a.froz,a.immo,fun b o e=>a.keys b o (u b o e)⟩⟩
 ·cases i
def aXd (τ:Nat→Nat) :List (Nat×AObj×Bool) →List (Nat×AObj×Bool)
 | [] =>[]
 |p::r=> (τ p.1,p.2.1.ren τ,false) ::aXd τ r
theorem bGz {l:List (Nat×AObj×Bool)}(h:eX l=True) :eX l:=h.symm ▸ trivial
theorem aDN {f:Nat}{a:List AV}{v v':AV}{l' lc lc':List (Nat×AObj×Bool)}{b n2 n3:Nat}(h:fC P 0 (.enter f a) (aA [] 0) (.ret v) (aA l' b))
  (hb: (cP 0 ⟨⟨0,0,[],[],[],.run,.normal,none⟩,[],[],0⟩ [] &&xK l'&&fQ b l'&&fQ n2 lc&&fQ n3 lc') =true)
  (he: (b-0+n2,ren (jX 0 n2 []) v,renL (eW 0 0 n2 []) a,sS (aA lc' n3) (jX 0 n2 []) l',aDz (namesT (jX 0 n2 []) l') [] (aA lc n2) lc',qP l') = (n3,v',a,hP (jX 0 n2 []) l',qP lc',(l'.map fun p=> (aA l' b).look p.1)))
  (c:eX l'=True) :Spec P (.enter f a) (aA lc n2) (.ret v') (aA lc' n3) :=by
 simp only [cM]at hb;obtain⟨⟨⟨⟨i,r⟩,n⟩,o⟩,d⟩ :=hb;simp only [Prod.mk.injEq]at he;obtain⟨j,e,q,g,k,l⟩ :=he;refine oQ (m:=0) (ks:=[]) h ?_ ?_ trivial (bGz c)
 · simp only [cM];exact⟨⟨⟨⟨⟨⟨⟨rfl,by cases b<;>rfl⟩,i⟩,r⟩,n⟩,o⟩,d⟩,rfl⟩
 · simp only [Prod.mk.injEq];exact⟨j,e,q,rfl,g,k,l⟩
theorem aKk {s j:AS}{b:Bool}{is:List Ins}{ps:List Prop}(hl:Leads P s j)(d: (rD P is j).map (fun x=> ((wC P x.1).map Prod.fst,x.2)) =some (some (.bool b),ps))(hp:AllP ps) :Ends P 0 s (.ret (.bool b)) (aA [] 0) :=by
 cases hr:rD P is j with
 |none=>rw [hr]at d;cases d
 | some r=>
  obtain⟨s2,qs⟩ :=r;rw [hr]at d;simp only [Option.map_some,Option.some.injEq,Prod.mk.injEq]at d;obtain⟨c,rfl⟩ :=d;cases h:wC P s2 with
  |none=>rw [h]at c;cases c
  | some u=>
   obtain⟨v,D⟩ :=u;rw [h]at c;simp only [Option.map_some,Option.some.injEq]at c;subst c;have y:LeadsM P 0 s s2:= (hl.toM).trans (fZ hr (fun p k=>hp.mem p k));intro hm E fr i w f fs r z g;obtain⟨A,l,m,n,⟨t,rfl,q⟩,B,a⟩ := (y.ends (mU h)) hm E fr i w f fs r z g;refine⟨_,l,m.p,n,⟨t,rfl,?_⟩,aFp B,⟨fun b hb=>absurd hb (Nat.not_lt_zero _),a.imm,a.size,a.keep,fun F G C e=>?_,le_refl _,a.os,a.tape,a.output,a.froz,a.immo,fun b o e=>?_⟩⟩
   ·simpa only [VR]using q
   ·simp [aBG,Hp.look,T.at_leaf]at e
   ·simp [aBG,Hp.look,T.at_leaf]at e
theorem aQb {h h':Hp}{g:Nat}{us:List (Nat×Nat)}{ts:List (Option XT)}{i:Nat}{u:Nat×Nat}{t:XT}(y:h.look g=some (.zone true [] (ZV us ts)))(hu:us[i]?=some u)(ht:ts[i]?=some (some t))(hn:h'.nb=h.nb+2)
  (hl:∀b o,h'.look b=some o→ (b=h.nb∧o= .zone true [] (ZV us (ts.set i none))) ∨ (b=h.nb+1∧o= .zone true [] (ZV [u] [some t])) ∨ (b≠g∧h.look b=some o)) :jJ h h':=fun E w r=>by
 obtain⟨I,X,g2⟩ :=r.obj g _ y;obtain⟨Ls,_,C,B⟩ :=gC g2;obtain⟨a,F1,f,N,Y,W,K⟩ :=B.out ht;rw [hu]at N;cases N;have m:= (K.nodup_iff).2 C;obtain⟨G,H,p⟩ :=List.nodup_append.1 m
 let E':Emb:= ⟨fun b=>if b=h.nb then some ⟨iV f,0,0⟩else if b=h.nb+1 then some ⟨iV F1,0,0⟩else E b,E.imm⟩
 have z:E' h.nb=some ⟨iV f,0,0⟩ :=if_pos rfl;have D:E' (h.nb+1) =some ⟨iV F1,0,0⟩ :=by simp [E']
 have S:∀ {b},b<h.nb∨h.nb+2≤b→E' b=E b:=fun {b} hb=>by
  simp only [E'];rw [if_neg (by omega),if_neg (by omega)]
 have hgb:=r.keys g _ y;have oz:OR E' w.heap ⟨iV f,0,0⟩ (.zone true [] (ZV us (ts.set i none))) :=uT (Ls:=[]) rfl (OsAt.blk _ us f W) (fun q H' c F=> ⟨H,OsAt.go c _ us f W F⟩);have j:OsAt E.imm w.heap [u] [some t] F1:=by
  simp only [OsAt];exact⟨u,[],F1,[],rfl,by simp,Y,rfl,rfl⟩
 have oh:OR E' w.heap ⟨iV F1,0,0⟩ (.zone true [] (ZV [u] [some t])) :=uT (Ls:=[]) rfl (OsAt.blk _ _ F1 j) (fun q H' c F=> ⟨G,OsAt.go c _ _ F1 j F⟩);have l:∀ {i},i∈F1∨i∈f→i∈jB I.blk:=fun {i} c=> (K.mem_iff).1 (zq28.2 c);have old:∀i,i∈jB I.blk→∃A V O,¬ (fun b=>b≠g) A∧h.look A=some V∧E A=some O∧Own V O i:=fun i c=> ⟨g,_,I,fun n=>n rfl,y,X,c⟩
 obtain ⟨q1,q2,q3⟩ :=r.swap (E':=E') (h':=h') (fun b=>b≠g) (by omega) (fun b hb=>S (.inl hb)) rfl (fun b hb=>by rw [S (by omega)];exact r.fresh b (by omega))
  (fun b o e hb=>by
   have h2:b=g:=Classical.not_not.1 hb;subst h2;rw [y]at e;cases e;exact⟨rfl,rfl⟩)
  (fun b o e=>by
   rcases hl b o e with⟨rfl,rfl⟩ | ⟨rfl,rfl⟩ |d
   ·exact .inr ⟨by omega,rfl,rfl,fun n=>absurd n (by omega),_,z,oz,fun i c=>old i (l (.inr (zone_own.1 c)))⟩
   ·exact .inr ⟨by omega,rfl,rfl,fun n=>absurd n (by omega),_,D,oh,fun i c=>old i (l (.inl (zone_own.1 c)))⟩
   ·exact .inl d)
  (fun b T o M L L' Z J e Q k v s hm=>by
   obtain⟨x,U,R⟩ :=hm;rcases hl b o e with⟨rfl,rfl⟩ | ⟨rfl,rfl⟩ |d
   · rw [z]at k;cases k;rcases hl T M Q with⟨rfl,rfl⟩ | ⟨rfl,rfl⟩ |d
     ·exact s rfl
     · rw [D]at v;cases v;exact p x (zone_own.1 R) x (zone_own.1 U) rfl
     ·exact J d
   · rw [D]at k;cases k;rcases hl T M Q with⟨rfl,rfl⟩ | ⟨rfl,rfl⟩ |d
     · rw [z]at v;cases v;exact p x (zone_own.1 U) x (zone_own.1 R) rfl
     ·exact s rfl
     ·exact J d
   ·exact Z d)
 exact⟨E',q1,q2,q3⟩
theorem bBi {i:Type}{m:Nat}{s:AS}{v:AV}{h:Hp}{h1:i→Hp}{h2:Hp}{ok:i→Prop}(e:Ends P m s (.ret v) h)(z:aAR h ok h1)(hm:m≤h.nb)(p:∀x,ok x→jJ (h1 x) h2)(g:∀x,m≤ (h1 x).nb) :Ends P m s (.ret v) h2:=fun c E fr b w f fs r y a=>by
 obtain⟨A,d,C,B,⟨q,rfl,l⟩,G,n⟩ :=e c E fr b w f fs r y a;obtain⟨x,F,k,h1,h2,u⟩ :=z C d G;obtain⟨t,j,D,o⟩ :=p x k F d h2;exact⟨_,d,t,B,⟨q,rfl,(l.mono h1).mono j⟩,D,(n.trans (u m hm)).trans (o m (g x))⟩
end
theorem aIi {E:Emb}{v:Value}(h:VR E .nils v) :VR E (.ilst 4 (av []) false) v:=by
 simp only [VR]at h ⊢;subst h;exact⟨[],by simp [av,VRs],fun _ a=>by(cases a),.inl ⟨rfl,none,0,rfl,fun _=>rfl,fun h=>by(cases h)⟩⟩
theorem bBj (op n:Int) :fC PP 0 (.enter 250 [.int .i64 op,.int .i64 n,.nils]) (aA [] 0) (.ret (.ptr 0 0)) (aA (NT (.mk op n [] [])) 2) :=by
 refine⟨(bDN op n).as.fr,by kernel_rfl,?_⟩;have z:jJ (aA [(0,(.cells (putCells .leaf 0 [(.int .i64 op),(.int .i64 n),.nils,.nils]) 4 [] false),false)] 1) (aA (NT (.mk op n [] [])) 2) :=
  aVN (h:=aA [(0,(.cells (putCells .leaf 0 [(.int .i64 op),(.int .i64 n),.nils,.nils]) 4 [] false),false)] 1) (h':=aA (NT (.mk op n [] [])) 2) (b:=0) (op:=op) (n:=n) (ps:=[]) (kv:=.nils) (pv:=.nils) aC (fun _ _ h=> ⟨none,by simpa only [VR]using h⟩) (fun _ _ h=>aIi h) (le_refl _)
   (aU ⟨.inr (.inl ⟨rfl,rfl⟩),.inl ⟨rfl,rfl⟩,trivial⟩)
 exact nS (bBg op n) z (zero_le _)
abbrev LT0 (us:List (Nat×Nat))(ts:List (Option XT))(u:Nat×Nat)(tb:XT) :HL:=[(0,(.cells (putCells .leaf 0 [(.int .i64 7),(.int .i64 0),(.gl 1 1 0 ((length [u]) +1) false),.nils]) 4 [] false),false),(1,(.lst 1 (map aR [u] ++ [.ptr 2 0])),false),(2,gh,false),(3,(.zone true [] (ZV us ts)),false),(4,(.zone true [2] (Z1 tb)),false)]
abbrev LT1 (us:List (Nat×Nat))(ts:List (Option XT))(ix:Nat)(u:Nat×Nat)(ta tb:XT) :HL:=[(0,(.cells (putCells .leaf 0 [(.int .i64 7),(.int .i64 0),(.gl 1 1 0 ((length [u]) +1) false),.nils]) 4 [] false),false),(1,(.lst 1 (map aR [u] ++ [.ptr 2 0])),false),(2,gh,false),(4,(.zone true [2] (Z1 tb)),false),(5,(.zone true [] (ZV us (ts.set ix none))),false),(6,(.zone true [] (ZV [u] [some ta])),false)]
abbrev LT2 (us:List (Nat×Nat))(ts:List (Option XT))(ix:Nat)(u:Nat×Nat)(ta tb:XT)(u9:Nat×Nat) :HL:=[(0,(.cells (putCells .leaf 0 [(.int .i64 7),(.int .i64 0),(.gl 1 1 0 ((length [u]) +1) false),.nils]) 4 [] false),false),(1,(.lst 1 (map aR [u,u9])),true),(5,(.zone true [] (ZV us (ts.set ix none))),false),(7,(.zone true [] (ZV [u,u9] [some ta,some tb])),false)]
abbrev LT3 (us:List (Nat×Nat))(ts:List (Option XT))(ix:Nat)(t:XT) :HL:=[(0,gh,false),(5,(.zone true [] (ZV us (ts.set ix none))),false),(8,(.zone true [0] (Z1 t)),false)]
theorem aKl (us:List (Nat×Nat))(ts:List (Option XT))(ix:Nat)(u:Nat×Nat)(c a:XT)(j:us[ix]?=some u)(m:ts[ix]?=some (some c)) :
  fC PP 0 (.enter 248 [aR u,.ptr 1 0]) (aA [(0,(.zone true [] (ZV us ts)),false),(1,gh,false),(2,.zone true [1] (Z1 a),false)] 3) (.ret (.ptr 1 0)) (aA [(0,(.zone true [] (ZV us (ts.set ix none))),false),(1,gh,false),(2,.zone true [1] (Z1 (.mk 7 0 [c,a] [])),false)] 3) :=by
 refine⟨(bDL us ts ix u a).as.fr,by kernel_rfl,?_⟩;have e:jJ (aA (LT0 us ts u a) 5) (aA (LT1 us ts ix u c a) 7) :=
  aQb (h:=aA (LT0 us ts u a) 5) (h':=aA (LT1 us ts ix u c a) 7) (g:=3) (us:=us) (ts:=ts) (i:=ix) (u:=u) (t:=c) aC j m rfl
   (aU ⟨.inr (.inr ⟨by decide,by kernel_rfl⟩),.inr (.inr ⟨by decide,by kernel_rfl⟩),.inr (.inr ⟨by decide,by kernel_rfl⟩),.inr (.inr ⟨by decide,by kernel_rfl⟩),.inl ⟨rfl,rfl⟩,.inr (.inl ⟨rfl,rfl⟩),trivial⟩)
 have f:aAR (aA (LT1 us ts ix u c a) 7) (fun _=>True) (fun d=>aA (LT2 us ts ix u c a d) 8) :=
  aEh (h:=aA (LT1 us ts ix u c a) 7) (h':=fun d=>aA (LT2 us ts ix u c a d) 8) (k:=1) (g:=6) (gz:=4) (z:=2) (us:=[u]) (ts:=[some c]) (t:=a) aC aC aC (by decide) (fun _=>le_refl _)
   (fun d=>aU ⟨.inr (.inr ⟨by decide,by kernel_rfl⟩),.inr (.inl ⟨rfl,rfl⟩),.inr (.inr ⟨by decide,by kernel_rfl⟩),.inl ⟨rfl,rfl⟩,trivial⟩)
 have l:∀d,jJ (aA (LT2 us ts ix u c a d) 8) (aA (LT3 us ts ix (.mk 7 0 [c,a] [])) 9) :=fun d=>
  aBP (h:=aA (LT2 us ts ix u c a d) 8) (h':=aA (LT3 us ts ix (.mk 7 0 [c,a] [])) 9) (b:=0) (k:=1) (g:=7) (us:=[u,d]) (op:=7) (n:=0) (ts:=[c,a]) (ps:=[]) (len:= (length [u]) +1) (ex:=false) (pv:=.nils) aC rfl (fun _ _ h=>aIi h) aC aC (le_refl _)
   (aU ⟨.inr (.inl ⟨rfl,rfl⟩),.inr (.inr ⟨by decide,by kernel_rfl⟩),.inl ⟨rfl,rfl⟩,trivial⟩)
 exact eE (ks:=[5,0,8]) (bBi (nS (bA9 us ts ix u a) e (zero_le _)) f (zero_le _) (fun d _=>l d) (fun _=>zero_le _)) aC aC aC trivial
theorem aKm (us:List (Nat×Nat)) :AV.keylessL (map aR us) =true:=aH _ (fun _=>rfl) us
theorem bBk :∀ (a:List (Nat×Nat)),a≠ [] →a.length≤1000000→fC PP 1 (.enter 254 [.gl 0 1 0 (length a) false]) (aA [(0,(.lst 1 (map aR a)),true)] 1) (.ret (.gl 1 1 0 (length a) false)) (aA [(0,(.lst 1 (map aR a)),true),(1,(.lst 1 (map aR a)),true)] 2)
 | [],h,_=>absurd rfl h
 |u::a,_,h=> ⟨(bDM u a).as.fr,by kernel_rfl,bBf u a h⟩
abbrev aQc (a:Nat)(b c:Int)(d:List XT)(e:List Pat):=oC a [(nI b),(nI c),(.gl 2 1 0 d.length false),(iP e)]
abbrev aEu (a b:Int)(c:List XT)(d:List Pat):=[aQc 1 a b c d,(2,gh,false),(3,(.zone true [2] (bH c)),false)]
abbrev aRA (a:List (Nat×Nat))(b:List (Option XT))(c:Nat)(d:List (Nat×Nat))(e:List (Option XT))(f:List (Nat×Nat))(g:List XT)(h:XT):List (Nat×AObj×Bool):=[(4,(.zone true [] (ZV a (set b c none))),false),(6,(.zone true [] (ZV d e)),false),(7,(.zone true [] (ZV f (map some g))),false),(8,gh,false),(9,(.zone true [8] (Z1 h)),false)]
abbrev rH (a:List (Nat×Nat))(b:List (Option XT))(c:Nat)(d:List (Nat×Nat))(e:List XT):List (Nat×AObj×Bool):=[(4,(.zone true [] (ZV a (set b c none))),false),(5,(.zone true [] (ZV d (map some e))),false)]
abbrev zJ (a:Nat)(b:List (Nat×Nat)):=oL a 1 (map aR b)
abbrev aKn (a b:Int)(c:List XT)(d:List Pat)(e f:List (Nat×Nat))(g:List (Option XT))(h:Nat)(i j:Int)(k:List XT)(l:List Pat)(m:List (Nat×Nat)):=[oC 0 [(nI a),(nI b),(.gl 1 1 0 c.length false),(iP d)],zJ 1 e,(2,(.zone true [] (ZV f (set g h none))),false),oC 4 [(nI i),(nI j),(.gl 5 1 0 k.length false),(iP l)],zJ 5 m]
abbrev dA (a:Nat)(b:List (Nat×Nat)):=oL a 1 (map aR b)
abbrev aBZ (a b:List (Nat×Nat))(c:List (Option XT))(d:Nat):=[dA 1 a,(2,(.zone true [] (ZV b (set c d none))),false)]
abbrev aRB (a b:Int)(c:List (Nat×Nat))(d:List Pat)(e f:List (Nat×Nat))(g:List (Option XT))(h:Nat)(i:List XT)(j:List (Option XT)):=aA ([oC 0 [(nI a),(nI b),(.gl 2 1 0 c.length false),(iP d)],oC 1 [(nI a),(nI b),(.gl 3 1 0 c.length false),(iP d)],oL 2 1 (map aR c),oL 3 1 (map aR e)]++rH f g h c i++[(6,(.zone true [] (ZV e j)),false)]) 7
abbrev aB0 (a:List (Nat×Nat)):AV:=.gl 3 1 0 a.length false
abbrev aXe (a b c:Int)(d:List (Nat×Nat))(e:List Pat)(f g:List (Nat×Nat))(h:List (Option XT))(i:Nat)(j:List XT)(k:List (Option XT)):=Spec PP (.enter 250 [(nI 4),(nI a),.nils]) (aRB b c d e f g h i j k) (.ret (.ptr 7 0)) (aA ([oC 0 [(nI b),(nI c),(.gl 2 1 0 d.length false),(iP e)],oC 1 [(nI b),(nI c),(aB0 d),(iP e)],zJ 2 d,zJ 3 f]++rH g h i d j++[(6,(.zone true [] (ZV f k)),false),(7,gh,false),(8,(.zone true [7] (Z1 (XT.mk 4 a [] []))),false)]) 9)
abbrev aXf (a:Nat×Nat)(b c d:Int)(e:List (Nat×Nat))(f:List Pat)(g h:List (Nat×Nat))(i:List (Option XT))(j:Nat)(k:List XT)(l:List (Option XT))(m:XT):=Spec PP (.enter 249 [(aR a),(nI b),(nI 1)]) (aRB c d e f g h i j k l) (.ret (.ptr 8 0)) (aA ([oC 0 [(nI c),(nI d),(.gl 2 1 0 e.length false),(iP f)],oC 1 [(nI c),(nI d),(aB0 e),(iP f)],zJ 2 e,zJ 3 g]++aRA h i j g l e k m) 10)
abbrev aXg (a b:Int)(c:List XT)(d:List Pat)(e f:List (Nat×Nat))(g:List (Option XT))(h:Nat)(i j:Int)(k:List XT)(l:List Pat)(m:List (Nat×Nat))(n:XT):=aA (aKn a b c d e f g h i j k l m++[(10,(.zone true [] (ZV e (set (map some c) 0 none))),false),(16,(.zone true [] (ZV m (set (set (map some k) 1 none) 0 none))),false),(17,gh,false),(18,(.zone true [17] (Z1 n)),false)]) 19
abbrev aQd (a b:Int)(c:List XT)(d:List Pat)(e f:List (Nat×Nat))(g:List (Option XT))(h:Nat)(i j:Int)(k:List XT)(l:List Pat)(m:List (Nat×Nat))(n:XT):=aA (aKn a b c d e f g h i j k l m++[(10,(.zone true [] (ZV e (set (map some c) 0 none))),false),(13,(.zone true [] (ZV m (set (map some k) 1 none))),false),(14,gh,false),(15,(.zone true [14] (Z1 n)),false)]) 16
abbrev aQe (a b:Int)(c:List XT)(d:List Pat)(e f:List (Nat×Nat))(g:List (Option XT))(h:Nat)(i j:Int)(k:List XT)(l:List Pat)(m:List (Nat×Nat))(n:XT):=aA (aKn a b c d e f g h i j k l m++[(9,(.zone true [] (ZV m (map some k))),false),(10,(.zone true [] (ZV e (set (map some c) 0 none))),false),(11,gh,false),(12,(.zone true [11] (Z1 n)),false)]) 13
abbrev jK (a:Nat)(b c:Int)(d:List (Nat×Nat))(e:List Pat):=oC a [(nI b),(nI c),(.gl 2 1 0 d.length false),(iP e)]
abbrev sB (a:Nat)(b c:Int)(d:List (Nat×Nat))(e:List Pat):=oC a [(nI b),(nI c),(aB0 d),(iP e)]
abbrev aGg (a:Nat)(b c:Int)(d:List XT)(e:List Pat):=oC a [(nI b),(nI c),(.gl 1 1 0 d.length false),(iP e)]
abbrev aEv (a:Nat)(b c:Int)(d:List XT)(e:List Pat):=oC a [(nI b),(nI c),(.gl 5 1 0 d.length false),(iP e)]
abbrev rI (a:List (Nat×Nat)):AV:=.gl 2 1 0 a.length false
def bDO(a:List (Nat×Nat))(b:List (Option XT))(f:Nat)(c:Nat×Nat)(g i:Int)(j:List XT)(k:List Pat)(d e:Int)(l:List (Nat×Nat)):TS:=cH PP 253 [(nI d),(aR c),(nI e)] [(0,(.zone true [] (ZV a b)),false)] 1
def aQf(a:List (Nat×Nat))(b:List (Option XT))(f:Nat)(c:Nat×Nat)(g i:Int)(j:List XT)(k:List Pat)(d e:Int)(l:List (Nat×Nat)):TS:=⟨(tf 253 54 [(0,(nI d)),(1,(aR c)),(2,(nI e)),(6,.nilp)] [kc f253 6,kc f253 7]),[],[(0,(.zone true [] (ZV a b)),false)],1⟩
def aEw(c:List (Nat×Nat))(d:List (Option XT))(e:Nat)(l:Nat×Nat)(f g:Int)(a:List XT)(i:List Pat)(j k:Int)(b:List (Nat×Nat)):TS:=⟨(tf 253 54 [(0,(nI j)),kp 1 1,(2,(nI k)),(6,.nilp)] [kc f253 6,kc f253 7]),[],[aQc 1 f g a i,dA 2 b,(5,(.zone true [] (ZV c (set d e none))),false),(6,(.zone true [] (ZV b (map some a))),false)],7⟩
def aQg(e:List (Nat×Nat))(f:List (Option XT))(g:Nat)(l:Nat×Nat)(b c:Int)(i:List XT)(d:List Pat)(j k:Int)(a:List (Nat×Nat)):TS:=⟨(tf 253 54 [(0,(nI j)),kp 1 0,(2,(nI k)),(6,.nilp),kp 7 1] [kc f253 60,kc f253 61,kc f253 31]),[],([jK 0 b c a d,sB 1 b c a d,dA 2 a,dA 3 a]++rH e f g a i),6⟩
def aKo(e:List (Nat×Nat))(f:List (Option XT))(g:Nat)(l:Nat×Nat)(b c:Int)(i:List XT)(d:List Pat)(j k:Int)(a:List (Nat×Nat)):TS:=⟨(tf 253 54 [(0,(nI j)),kp 1 0,(2,(nI k)),(6,.nilp),kp 7 1] [kc f253 60,kc f253 61,kc f253 31]),[],([jK 0 b c a d,sB 1 b c a d,dA 2 a,dA 3 a]++rH e f g a i++[(6,(.zone true [] (ZV a (map (fun _=>none) a))),false)]),7⟩
def xX(f:List (Nat×Nat))(g:List (Option XT))(i:Nat)(o:Nat×Nat)(b c:Int)(j:List XT)(d:List Pat)(k l:Int)(a:List (Nat×Nat))(m:List (Option XT))(n:Int)(e:List (Nat×Nat)):TS:=⟨(tf 253 54 [(0,(nI k)),kp 1 0,(2,(nI l)),(6,.nilp),kp 7 1,(22,(rI a)),(23,(nI (a.length:Int))),(24,(nI n))] [kc f253 244,kl f253 244,.inBlock 0,kc f253 31]),[],([jK 0 b c a d,sB 1 b c a d,dA 2 a,dA 3 e]++rH f g i a j++[(6,(.zone true [] (ZV e m)),false)]),7⟩
def aQh(f:List (Nat×Nat))(g:List (Option XT))(i:Nat)(q:Nat×Nat)(b c:Int)(j:List XT)(d:List Pat)(k l:Int)(a:List (Nat×Nat))(m:Nat)(n:XT)(o:List (Option XT))(p:Int)(e:List (Nat×Nat)):TS:=⟨(tf 253 54 [(0,(nI k)),kp 1 0,(2,(nI l)),(6,.nilp),kp 7 1,(22,(rI a)),(23,(nI (a.length:Int))),(24,(nI p))] [kc f253 1959,kl f253 244,.inBlock 0,kc f253 31]),[],[jK 0 b c a d,sB 1 b c a d,dA 2 a,(3,(.lst 1 ((map aR e).set m (.ptr 4 0))),false),(4,gh,false),(5,(.zone true [4] (Z1 n)),false),(6,(.zone true [] (ZV f (set g i none))),false),(7,(.zone true [] (ZV e o)),false),(8,(.zone true [] (ZV a (map some j))),false)],9⟩
def aEx(i:List (Nat×Nat))(j:List (Option XT))(k:Nat)(r:Nat×Nat)(c d:Int)(l:List XT)(e:List Pat)(m n:Int)(a:List (Nat×Nat))(b:Nat)(o:XT)(p:List (Option XT))(q:Int)(f:List (Nat×Nat))(g:Nat×Nat):TS:=⟨(tf 253 54 [(0,(nI m)),kp 1 0,(2,(nI n)),(6,.nilp),kp 7 1,(22,(rI a)),(23,(nI (a.length:Int))),(24,(nI q))] [kc f253 1959,kl f253 244,.inBlock 0,kc f253 31]),[],[jK 0 c d a e,sB 1 c d a e,dA 2 a,oL 3 1 (map aR (set f b g)),(6,(.zone true [] (ZV i (set j k none))),false),(8,(.zone true [] (ZV a (map some l))),false),(9,(.zone true [] (ZV (set f b g) (set p b (some o)))),false)],10⟩
def aQi(f:List (Nat×Nat))(g:List (Option XT))(i:Nat)(o:Nat×Nat)(b c:Int)(j:List XT)(d:List Pat)(k p:Int)(a:List (Nat×Nat))(l:Nat)(m:XT)(n:List (Option XT))(e:List (Nat×Nat)):TS:=⟨(tf 253 54 [(0,(nI k)),kp 1 0,(6,.nilp),kp 7 1] [kc f253 63]),[],[jK 0 b c a d,sB 1 b c a d,dA 2 a,(3,(.lst 1 ((map aR e).set l (.ptr 4 0))),false),(4,gh,false),(5,(.zone true [4] (Z1 m)),false),(6,(.zone true [] (ZV f (set g i none))),false),(7,(.zone true [] (ZV a (map some j))),false),(8,(.zone true [] (ZV e n)),false)],9⟩
def aEy(i:List (Nat×Nat))(j:List (Option XT))(k:Nat)(p:Nat×Nat)(c d:Int)(l:List XT)(e:List Pat)(m q:Int)(a:List (Nat×Nat))(b:Nat)(n:XT)(o:List (Option XT))(f:List (Nat×Nat))(g:Nat×Nat):TS:=⟨(tf 253 54 [(0,(nI m)),kp 1 0,(6,.nilp),kp 7 1] [kc f253 63]),[],[jK 0 c d a e,sB 1 c d a e,dA 2 a,oL 3 1 (map aR (set f b g)),(6,(.zone true [] (ZV i (set j k none))),false),(7,(.zone true [] (ZV a (map some l))),false),(9,(.zone true [] (ZV (set f b g) (set o b (some n)))),false)],10⟩
def aQj(f:List (Nat×Nat))(g:List (Option XT))(i:Nat)(m:Nat×Nat)(b c:Int)(j:List XT)(d:List Pat)(k n:Int)(a e:List (Nat×Nat))(l:List (Option XT)):TS:=⟨(tf 253 54 [(0,(nI k)),kp 1 0,(6,.nilp),kp 7 1] [kc f253 126,kc f253 127]),[],([jK 0 b c a d,sB 1 b c a d,dA 2 a,dA 3 e]++rH f g i a j++[(6,(.zone true [] (ZV e l)),false)]),7⟩
def aKp(e:List (Nat×Nat))(f:List (Option XT))(g:Nat)(l:Nat×Nat)(b c:Int)(i:List XT)(d:List Pat)(j m:Int)(a n:List (Nat×Nat))(o:List (Option XT))(k:List XT):TS:=⟨(tf 253 54 [(0,(nI j)),kp 1 0,(6,.nilp),kp 7 1] [kc f253 126,kc f253 127]),[],([jK 0 b c a d,(1,gh,false),dA 2 a]++rH e f g a i++[(7,(.zone true [1] (Z1 (XT.mk b c k d))),false)]),8⟩
def aB1(c:List (Nat×Nat))(d:List (Option XT))(a:Nat)(k:Nat×Nat)(e f:Int)(b:List XT)(g:List Pat)(i j:Int)(l:List (Nat×Nat)):TS:=⟨(tf 253 54 [(0,(nI i)),kp 1 1,(2,(nI j)),(6,.nilp)] [kc f253 6,kc f253 7]),[],(aEu e f b g++[(4,(.zone true [1] (dK c (set d a none) a)),false)]),5⟩
theorem aXh (us: (List (Nat×Nat)))(ts: (List (Option XT)))(ix:Nat)(u: (Nat×Nat))(op a:Int)(ks:List XT)(ps:List Pat)(c sz:Int)(b: (List (Nat×Nat)))(d:us[ix]?=some u)(e: (ts)[ix]?=some (some (.mk op a ks ps))) :LeadsM PP 0 (aQf us ts ix u op a ks ps c sz b).as (aB1 us ts ix u op a ks ps c sz b).as:=
 sZ (j:=1) (v:=aR u) (v':=.ptr 1 0) aC (fun hm=>pM (h:= (aQf us ts ix u op a ks ps c sz b).as.h) (h':= (aB1 us ts ix u op a ks ps c sz b).as.h) (g:=0) (us:=us) (ts:=ts) (i:=ix) (u:=u) (op:=op) (n:=a) (ks:=ks) (ps:=ps) aC d e rfl (aU ⟨.inl ⟨rfl,rfl⟩,.inr (.inl ⟨rfl,rfl⟩),.inr (.inr (.inl ⟨rfl,rfl⟩)),.inr (.inr (.inr (.inl ⟨rfl,rfl⟩))),trivial⟩) hm) aC aC
def aB2(b:List (Nat×Nat))(c:List (Option XT))(d:Nat)(k:Nat×Nat)(e f:Int)(a:List XT)(g:List Pat)(i j:Int)(l:List (Nat×Nat)):TS:=⟨(tf 253 54 [(0,(nI i)),kp 1 1,(2,(nI j)),(6,.nilp)] [kc f253 6,kc f253 7]),[],(aEu e f a g++[(5,(.zone true [] (ZV b (set c d none))),false)]),6⟩
theorem aXi (us: (List (Nat×Nat)))(ts: (List (Option XT)))(ix:Nat)(u: (Nat×Nat))(op a:Int)(ks:List XT)(ps:List Pat)(c sz:Int)(b: (List (Nat×Nat))) :LeadsM PP 0 (aB1 us ts ix u op a ks ps c sz b).as (aB2 us ts ix u op a ks ps c sz b).as:=
 mA (aCW (h:= (aB1 us ts ix u op a ks ps c sz b).as.h) (h':= (aB2 us ts ix u op a ks ps c sz b).as.h) (g:=4) (Z:= (dK us (set ts ix none) ix)) (Z':= (ZV us (set ts ix none))) (rs:=[1]) (rs':=[]) aC (.inl rfl) (fun _ _ _ _ h=>by rw [if_pos rfl];exact aJy h) (le_refl _) (aU ⟨.inr ⟨by decide,by kernel_rfl⟩,.inr ⟨by decide,by kernel_rfl⟩,.inr ⟨by decide,by kernel_rfl⟩,.inl ⟨rfl,rfl⟩,trivial⟩)) aC aC
theorem aXj (us: (List (Nat×Nat)))(ts: (List (Option XT)))(ix:Nat)(u: (Nat×Nat))(op b:Int)(ks:List XT)(ps:List Pat)(d sz:Int)(e: (List (Nat×Nat))){c:Res}{hf:Hp}(f:ks≠ [])(k:∀a,a.length=ks.length→Ends PP 0 (aEw us ts ix u op b ks ps d sz a).as c hf) :Ends PP 0 (aB2 us ts ix u op b ks ps d sz e).as c hf:=
 kS (t:=fun a=> (aEw us ts ix u op b ks ps d sz a).as) (ok:=fun us=>us.length=ks.length) (sV (h:= (aB2 us ts ix u op b ks ps d sz e).as.h) (h':=fun a=> (aEw us ts ix u op b ks ps d sz a).as.h) (k:=2) (g:=3) (o:=gh) (ts:=ks) aC rfl aC f (fun _=>le_refl _) (fun a=> (aU ⟨.inr (.inr ⟨by decide,by kernel_rfl⟩),.inr (.inl ⟨rfl,rfl⟩),.inr (.inr ⟨by decide,by kernel_rfl⟩),.inl ⟨rfl,rfl⟩,trivial⟩))) (fun a=> ⟨by kernel_rfl,by kernel_rfl⟩) k
theorem bFf (us: (List (Nat×Nat)))(ts: (List (Option XT)))(ix:Nat)(u: (Nat×Nat))(op b:Int)(ks:List XT)(ps:List Pat)(c sz:Int)(a: (List (Nat×Nat))) :LeadsM PP 0 (aQg us ts ix u op b ks ps c sz a).as (aKo us ts ix u op b ks ps c sz a).as:=
 mA (zA (h:= (aQg us ts ix u op b ks ps c sz a).as.h) (h':= (aKo us ts ix u op b ks ps c sz a).as.h) (Z:= (ZV a (map (fun _=>none) a))) (fun _ _=>aZY) (le_refl _) (aU ⟨.inr aC,.inr aC,.inr aC,.inr aC,.inr aC,.inr aC,.inl ⟨rfl,rfl⟩,trivial⟩)) aC aC
theorem bFg (us: (List (Nat×Nat)))(ts: (List (Option XT)))(ix:Nat)(u: (Nat×Nat))(op m:Int)(ks:List XT)(ps:List Pat)(j sz:Int)(n: (List (Nat×Nat)))(e:Nat)(f:XT)(d: (List (Option XT)))(b:Int)(a: (List (Nat×Nat))){l:Res}{hf:Hp}(o: (d)[e]?=some none)(k:∀c,Ends PP 0 (aEx us ts ix u op m ks ps j sz n e f d b a c).as l hf) :Ends PP 0 (aQh us ts ix u op m ks ps j sz n e f d b a).as l hf:=
 kS (t:= (fun c=> (aEx us ts ix u op m ks ps j sz n e f d b a c).as)) (ok:=fun _=>True) (aJx (h:= (aQh us ts ix u op m ks ps j sz n e f d b a).as.h) (h':=fun c=> (aEx us ts ix u op m ks ps j sz n e f d b a c).as.h) (k:=3) (g:=7) (gz:=5) (z:=4) (us:=a) (ts:=d) (i:=e) (t:=f) aC aC aC o (by decide) (fun _=>le_refl _) (fun c=> (aU ⟨.inr (.inr ⟨by decide,by kernel_rfl⟩),.inr (.inr ⟨by decide,by kernel_rfl⟩),.inr (.inr ⟨by decide,by kernel_rfl⟩),.inr (.inl ⟨rfl,rfl⟩),.inr (.inr ⟨by decide,by kernel_rfl⟩),.inr (.inr ⟨by decide,by kernel_rfl⟩),.inl ⟨rfl,rfl⟩,trivial⟩))) (fun c=> ⟨by kernel_rfl,by kernel_rfl⟩) (fun c _=>k c)
theorem bFh (us: (List (Nat×Nat)))(ts: (List (Option XT)))(ix:Nat)(u: (Nat×Nat))(op l:Int)(ks:List XT)(ps:List Pat)(f sz:Int)(m: (List (Nat×Nat)))(d:Nat)(e:XT)(c: (List (Option XT)))(a: (List (Nat×Nat))){j:Res}{hf:Hp}(n: (c)[d]?=some none)(k:∀b,Ends PP 0 (aEy us ts ix u op l ks ps f sz m d e c a b).as j hf) :Ends PP 0 (aQi us ts ix u op l ks ps f sz m d e c a).as j hf:=
 kS (t:= (fun b=> (aEy us ts ix u op l ks ps f sz m d e c a b).as)) (ok:=fun _=>True) (aJx (h:= (aQi us ts ix u op l ks ps f sz m d e c a).as.h) (h':=fun b=> (aEy us ts ix u op l ks ps f sz m d e c a b).as.h) (k:=3) (g:=8) (gz:=5) (z:=4) (us:=a) (ts:=c) (i:=d) (t:=e) aC aC aC n (by decide) (fun _=>le_refl _) (fun b=> (aU ⟨.inr (.inr ⟨by decide,by kernel_rfl⟩),.inr (.inr ⟨by decide,by kernel_rfl⟩),.inr (.inr ⟨by decide,by kernel_rfl⟩),.inr (.inl ⟨rfl,rfl⟩),.inr (.inr ⟨by decide,by kernel_rfl⟩),.inr (.inr ⟨by decide,by kernel_rfl⟩),.inl ⟨rfl,rfl⟩,trivial⟩))) (fun b=> ⟨by kernel_rfl,by kernel_rfl⟩) (fun b _=>k b)
theorem bFi (us: (List (Nat×Nat)))(ts: (List (Option XT)))(ix:Nat)(u: (Nat×Nat))(op d:Int)(ks:List XT)(ps:List Pat)(f sz:Int)(c: (List (Nat×Nat)))(e: (List (Nat×Nat)))(a:List XT)(hl:c.length=length a) :LeadsM PP 0 (aQj us ts ix u op d ks ps f sz c e (a.map some)).as (aKp us ts ix u op d ks ps f sz c e (a.map some) a).as:=
 mA (aBP (h:= (aQj us ts ix u op d ks ps f sz c e (a.map some)).as.h) (h':= (aKp us ts ix u op d ks ps f sz c e (a.map some) a).as.h) (b:=1) (k:=3) (g:=6) (us:=e) (op:=op) (n:=d) (ts:=a) (ps:=ps) (len:=c.length) (ex:=false) (pv:=.ilst 4 (av ps) false) aC hl (fun _ _ h=>h) aC aC (le_refl _) (aU ⟨.inr (.inr ⟨by decide,by kernel_rfl⟩),.inr (.inl ⟨rfl,rfl⟩),.inr (.inr ⟨by decide,by kernel_rfl⟩),.inr (.inr ⟨by decide,by kernel_rfl⟩),.inr (.inr ⟨by decide,by kernel_rfl⟩),.inl ⟨rfl,rfl⟩,trivial⟩)) aC aC
theorem bBl (us: (List (Nat×Nat)))(ts: (List (Option XT)))(ix:Nat)(u: (Nat×Nat))(op e:Int)(ks:List XT)(ps:List Pat)(i sz:Int)(b: (List (Nat×Nat)))(f: (List (Option XT)))(a:Int)(c: (List (Nat×Nat)))(g: (Nat×Nat))(d:XT)(h: (Nat×Nat))(k:decide (a< ((b.length:Nat) :Int)) =true)(h1:0≤a)(h2:a< ((b.length:Nat) :Int))(n: ((b)[a.toNat]?) =some g)(j: (a != i) =true)(m:aXf g sz op e b ps c us ts ix ks f d)(l: ((c)[a.toNat]?) =some h) :
  LeadsM PP 0 (xX us ts ix u op e ks ps i sz b f a c).as (aQh us ts ix u op e ks ps i sz b a.toNat d f a c).as:=
 kZ (n1:=10) (ks:=[0,1,2,3,8,9,4,6,7]) (W:=[some (.cells (putCells .leaf 0 [(nI op),(nI e),(rI b),(iP ps)]) 4 [] false),some (.cells (putCells .leaf 0 [(nI op),(nI e),(aB0 b),(iP ps)]) 4 [] false),some (.lst 1 (map aR b)),some (.lst 1 ((map aR c).set a.toNat (.ptr 8 0))),some gh,some (.zone true [8] (Z1 d)),some (.zone true [] (ZV us (set ts ix none))),some (.zone true [] (ZV c f)),some (.zone true [] (ZV b (map some ks)))]) (wc aC (wc aC (wc aC (wc (yZ aC) (wc aC (wc aC (wc aC (wc aC (wc aC wn))))))))) (ps:=[decide (a< ((b.length:Nat) :Int)) =true,0≤a,a< ((b.length:Nat) :Int),(map aR b)[(0+a.toNat)]?=some (aR g),(a != i) =true,aXf g sz op e b ps c us ts ix ks f d,0≤a,a< ((b.length:Nat) :Int),(map aR c)[(0+a.toNat)]?=some (aR h),kO (aR h) 0 [(.ptr 8 0)] =some (ptr 8 0),(AV.gl 3 1 0 b.length false) = (AV.gl 3 1 0 b.length false),(AV.gl 3 1 0 b.length false) = (AV.gl 3 1 0 b.length false),(map aR c).set (0+a.toNat) (.ptr 8 0) = ((map aR c).set a.toNat (.ptr 8 0))]) (is:=[.run 5,.b 25 true,.run 7,.ans (.ix),.ans (.idx (aR g)),.run 9,.b 31 true,.run 1,.reg [.d,.d,.d,.d,.d,.call (.ptr 8 0) (aA ([jK 0 op e b ps,sB 1 op e b ps,dA 2 b,dA 3 c]++aRA us ts ix c f b ks d) 10),.ans (.ix),.st (aR h) (.ptr 8 0)],.lset 3 ((map aR c).set a.toNat (.ptr 8 0)),.run 1]) aC aC ⟨(aH _ (fun _=>rfl) _),trivial⟩ ⟨k,h1,h2,(cS n),j,m,h1,h2,(cS l),rfl,rfl,rfl,(aVP _ _ _)⟩
theorem bBm (us: (List (Nat×Nat)))(ts: (List (Option XT)))(ix:Nat)(u: (Nat×Nat))(op d:Int)(ks:List XT)(ps:List Pat)(c sz:Int)(a: (List (Nat×Nat)))(f: (List (Option XT)))(e:Int)(b: (List (Nat×Nat)))(g: (Nat×Nat))(i:decide (e< ((a.length:Nat) :Int)) =false)(h1:aXe sz op d a ps b us ts ix ks f)(h2:0≤c)(j:c< ((a.length:Nat) :Int))(h: ((b)[c.toNat]?) =some g) :
  LeadsM PP 0 (xX us ts ix u op d ks ps c sz a f e b).as (aQi us ts ix u op d ks ps c sz a c.toNat (XT.mk 4 sz [] []) f b).as:=
 kZ (n1:=9) (ks:=[0,1,2,3,7,8,4,5,6]) (W:=[some (.cells (putCells .leaf 0 [(nI op),(nI d),(rI a),(iP ps)]) 4 [] false),some (.cells (putCells .leaf 0 [(nI op),(nI d),(aB0 a),(iP ps)]) 4 [] false),some (.lst 1 (map aR a)),some (.lst 1 ((map aR b).set c.toNat (.ptr 7 0))),some gh,some (.zone true [7] (Z1 (XT.mk 4 sz [] []))),some (.zone true [] (ZV us (set ts ix none))),some (.zone true [] (ZV a (map some ks))),some (.zone true [] (ZV b f))]) (wc aC (wc aC (wc aC (wc (yZ aC) (wc aC (wc aC (wc aC (wc aC (wc aC wn))))))))) (ps:=[decide (e< ((a.length:Nat) :Int)) =false,aXe sz op d a ps b us ts ix ks f,0≤c,c< ((a.length:Nat) :Int),(map aR b)[(0+c.toNat)]?=some (aR g),kO (aR g) 0 [(.ptr 7 0)] =some (ptr 7 0),(AV.gl 3 1 0 a.length false) = (AV.gl 3 1 0 a.length false),(AV.gl 3 1 0 a.length false) = (AV.gl 3 1 0 a.length false),(map aR b).set (0+c.toNat) (.ptr 7 0) = ((map aR b).set c.toNat (.ptr 7 0))]) (is:=[.run 5,.b 25 false,.run 3,.reg [.d,.d,.d,.d,.call (.ptr 7 0) (aA ([jK 0 op d a ps,sB 1 op d a ps,dA 2 a,dA 3 b]++rH us ts ix a ks++[(6,(.zone true [] (ZV b f)),false),(7,gh,false),(8,(.zone true [7] (Z1 (XT.mk 4 sz [] []))),false)]) 9),.ans (.ix),.st (aR g) (.ptr 7 0)],.lset 3 ((map aR b).set c.toNat (.ptr 7 0))]) aC aC ⟨(aH _ (fun _=>rfl) _),trivial⟩ ⟨i,h1,h2,j,(cS h),rfl,rfl,rfl,(aVP _ _ _)⟩
def bDP(a:List (Nat×Nat))(b:List (Option XT))(e:Nat)(c:Nat×Nat)(f g:Int)(i:List XT)(j:List Pat)(k l:Int)(m:List XT)(n:List Pat)(d:Int)(o p:List (Nat×Nat)):TS:=cH PP 247 [(.agg []),(aR c),(nI d)] [(0,(.zone true [] (ZV a b)),false)] 1
def aQk(a:List (Nat×Nat))(b:List (Option XT))(e:Nat)(c:Nat×Nat)(f g:Int)(i:List XT)(j:List Pat)(k l:Int)(m:List XT)(n:List Pat)(d:Int)(o p:List (Nat×Nat)):TS:=⟨(tf 247 36 [(1,(aR c)),(2,(nI d)),(6,.nilp)] [kc f247 6,kc f247 7]),[],[(0,(.zone true [] (ZV a b)),false)],1⟩
def aEz(c:List (Nat×Nat))(d:List (Option XT))(e:Nat)(k:Nat×Nat)(f g:Int)(a:List XT)(i:List Pat)(l m:Int)(n:List XT)(o:List Pat)(j:Int)(b p:List (Nat×Nat)):TS:=⟨(tf 247 36 [kp 1 1,(2,(nI j)),(6,.nilp)] [kc f247 6,kc f247 7]),[],[aQc 1 f g a i,dA 2 b,(5,(.zone true [] (ZV c (set d e none))),false),(6,(.zone true [] (ZV b (map some a))),false)],7⟩
def aQl(c:List (Nat×Nat))(d:List (Option XT))(e:Nat)(l:Nat×Nat)(f g:Int)(a:List XT)(i:List Pat)(m n:Int)(o:List XT)(p:List Pat)(j:Int)(b q:List (Nat×Nat))(k:Nat×Nat):TS:=⟨(tf 247 36 [kp 1 0,(2,(nI j)),(6,.nilp),(7,(aR k))] [kc f247 14,kc f247 15]),[],([aGg 0 f g a i]++aBZ b c d e++[(3,(.zone true [] (ZV b (map some a))),false)]),4⟩
def aEA(e:List (Nat×Nat))(f:List (Option XT))(g:Nat)(p:Nat×Nat)(i j:Int)(a:List XT)(k:List Pat)(l m:Int)(b:List XT)(n:List Pat)(o:Int)(c d:List (Nat×Nat))(q:Nat×Nat):TS:=⟨(tf 247 36 [kp 1 0,(2,(nI o)),(6,.nilp),kp 7 4] [kc f247 14,kc f247 15]),[],([aGg 0 i j a k]++aBZ c e f g++[aEv 4 l m b n,dA 5 d,(8,(.zone true [] (ZV c (set (map some a) 0 none))),false),(9,(.zone true [] (ZV d (map some b))),false)]),10⟩
def aB3(c:List (Nat×Nat))(d:List (Option XT))(a:Nat)(j:Nat×Nat)(e f:Int)(b:List XT)(g:List Pat)(k l:Int)(m:List XT)(n:List Pat)(i:Int)(o p:List (Nat×Nat)):TS:=⟨(tf 247 36 [kp 1 1,(2,(nI i)),(6,.nilp)] [kc f247 6,kc f247 7]),[],(aEu e f b g++[(4,(.zone true [1] (dK c (set d a none) a)),false)]),5⟩
theorem aXk (us: (List (Nat×Nat)))(ts: (List (Option XT)))(ix:Nat)(u: (Nat×Nat))(op a:Int)(ks:List XT)(ps:List Pat)(d n2:Int)(c:List XT)(f:List Pat)(sz:Int)(e: (List (Nat×Nat)))(b: (List (Nat×Nat)))(k:us[ix]?=some u)(l: (ts)[ix]?=some (some (.mk op a ks ps))) :LeadsM PP 0 (aQk us ts ix u op a ks ps d n2 c f sz e b).as (aB3 us ts ix u op a ks ps d n2 c f sz e b).as:=
 sZ (j:=1) (v:=aR u) (v':=.ptr 1 0) aC (fun hm=>pM (h:= (aQk us ts ix u op a ks ps d n2 c f sz e b).as.h) (h':= (aB3 us ts ix u op a ks ps d n2 c f sz e b).as.h) (g:=0) (us:=us) (ts:=ts) (i:=ix) (u:=u) (op:=op) (n:=a) (ks:=ks) (ps:=ps) aC k l rfl (aU ⟨.inl ⟨rfl,rfl⟩,.inr (.inl ⟨rfl,rfl⟩),.inr (.inr (.inl ⟨rfl,rfl⟩)),.inr (.inr (.inr (.inl ⟨rfl,rfl⟩))),trivial⟩) hm) aC aC
def aB4(b:List (Nat×Nat))(c:List (Option XT))(d:Nat)(j:Nat×Nat)(e f:Int)(a:List XT)(g:List Pat)(k l:Int)(m:List XT)(n:List Pat)(i:Int)(o p:List (Nat×Nat)):TS:=⟨(tf 247 36 [kp 1 1,(2,(nI i)),(6,.nilp)] [kc f247 6,kc f247 7]),[],(aEu e f a g++[(5,(.zone true [] (ZV b (set c d none))),false)]),6⟩
theorem aXl (us: (List (Nat×Nat)))(ts: (List (Option XT)))(ix:Nat)(u: (Nat×Nat))(op a:Int)(ks:List XT)(ps:List Pat)(d n2:Int)(c:List XT)(f:List Pat)(sz:Int)(e: (List (Nat×Nat)))(b: (List (Nat×Nat))) :LeadsM PP 0 (aB3 us ts ix u op a ks ps d n2 c f sz e b).as (aB4 us ts ix u op a ks ps d n2 c f sz e b).as:=
 mA (aCW (h:= (aB3 us ts ix u op a ks ps d n2 c f sz e b).as.h) (h':= (aB4 us ts ix u op a ks ps d n2 c f sz e b).as.h) (g:=4) (Z:= (dK us (set ts ix none) ix)) (Z':= (ZV us (set ts ix none))) (rs:=[1]) (rs':=[]) aC (.inl rfl) (fun _ _ _ _ h=>by rw [if_pos rfl];exact aJy h) (le_refl _) (aU ⟨.inr ⟨by decide,by kernel_rfl⟩,.inr ⟨by decide,by kernel_rfl⟩,.inr ⟨by decide,by kernel_rfl⟩,.inl ⟨rfl,rfl⟩,trivial⟩)) aC aC
theorem aXm (us: (List (Nat×Nat)))(ts: (List (Option XT)))(ix:Nat)(u: (Nat×Nat))(op f:Int)(ks:List XT)(ps:List Pat)(b n2:Int)(j:List XT)(c:List Pat)(sz:Int)(e: (List (Nat×Nat)))(i: (List (Nat×Nat))){d:Res}{hf:Hp}(l:ks≠ [])(k:∀a,a.length=ks.length→Ends PP 0 (aEz us ts ix u op f ks ps b n2 j c sz a i).as d hf) :Ends PP 0 (aB4 us ts ix u op f ks ps b n2 j c sz e i).as d hf:=
 kS (t:=fun a=> (aEz us ts ix u op f ks ps b n2 j c sz a i).as) (ok:=fun us=>us.length=ks.length) (sV (h:= (aB4 us ts ix u op f ks ps b n2 j c sz e i).as.h) (h':=fun a=> (aEz us ts ix u op f ks ps b n2 j c sz a i).as.h) (k:=2) (g:=3) (o:=gh) (ts:=ks) aC rfl aC l (fun _=>le_refl _) (fun a=> (aU ⟨.inr (.inr ⟨by decide,by kernel_rfl⟩),.inr (.inl ⟨rfl,rfl⟩),.inr (.inr ⟨by decide,by kernel_rfl⟩),.inl ⟨rfl,rfl⟩,trivial⟩))) (fun a=> ⟨by kernel_rfl,by kernel_rfl⟩) k
def aB5(d:List (Nat×Nat))(e:List (Option XT))(f:Nat)(o:Nat×Nat)(g i:Int)(a:List XT)(j:List Pat)(k l:Int)(b:List XT)(m:List Pat)(n:Int)(c p:List (Nat×Nat))(q:Nat×Nat):TS:=⟨(tf 247 36 [kp 1 0,(2,(nI n)),(6,.nilp),kp 7 4] [kc f247 14,kc f247 15]),[],([aGg 0 g i a j]++aBZ c d e f++[aEv 4 k l b m,(5,gh,false),(6,(.zone true [5] (bH b)),false),(7,(.zone true [4] (dK c (set (map some a) 0 none) 0)),false)]),8⟩
theorem aXn (us: (List (Nat×Nat)))(ts: (List (Option XT)))(ix:Nat)(u: (Nat×Nat))(op f:Int)(ks:List XT)(ps:List Pat)(b n2:Int)(d:List XT)(c:List Pat)(sz:Int)(e: (List (Nat×Nat)))(k: (List (Nat×Nat)))(a: (Nat×Nat))(m:e[0]?=some a)(l: ((map some ks))[0]?=some (some (.mk b n2 d c))) :LeadsM PP 0 (aQl us ts ix u op f ks ps b n2 d c sz e k a).as (aB5 us ts ix u op f ks ps b n2 d c sz e k a).as:=
 sZ (j:=7) (v:=aR a) (v':=.ptr 4 0) aC (fun hm=>pM (h:= (aQl us ts ix u op f ks ps b n2 d c sz e k a).as.h) (h':= (aB5 us ts ix u op f ks ps b n2 d c sz e k a).as.h) (g:=3) (us:=e) (ts:= (map some ks)) (i:=0) (u:=a) (op:=b) (n:=n2) (ks:=d) (ps:=c) aC m l rfl (aU ⟨.inr (.inr (.inr (.inr ⟨by decide,by kernel_rfl⟩))),.inr (.inr (.inr (.inr ⟨by decide,by kernel_rfl⟩))),.inr (.inr (.inr (.inr ⟨by decide,by kernel_rfl⟩))),.inl ⟨rfl,rfl⟩,.inr (.inl ⟨rfl,rfl⟩),.inr (.inr (.inl ⟨rfl,rfl⟩)),.inr (.inr (.inr (.inl ⟨rfl,rfl⟩))),trivial⟩) hm) aC aC
def aB6(d:List (Nat×Nat))(e:List (Option XT))(f:Nat)(o:Nat×Nat)(g i:Int)(a:List XT)(j:List Pat)(k l:Int)(b:List XT)(m:List Pat)(n:Int)(c p:List (Nat×Nat))(q:Nat×Nat):TS:=⟨(tf 247 36 [kp 1 0,(2,(nI n)),(6,.nilp),kp 7 4] [kc f247 14,kc f247 15]),[],([aGg 0 g i a j]++aBZ c d e f++[aEv 4 k l b m,(5,gh,false),(6,(.zone true [5] (bH b)),false),(8,(.zone true [] (ZV c (set (map some a) 0 none))),false)]),9⟩
def bBn (a:List (Nat×Nat))(b:List (Option XT))(c:Nat)(d:Nat×Nat)(e f:Int)(g:List XT)(i:List Pat)(j k:Int)(l:List (Nat×Nat)):=(tT 0 (bDO a b c d e f g i j k l)<|.W 5 1 [0] (aQf a b c d e f g i j k l)) tv
def bBo (f:List (Nat×Nat))(g:List (Option XT))(i:Nat)(j:Nat×Nat)(b c:Int)(d:List XT)(e:List Pat)(k l:Int)(a:List (Nat×Nat)):=fun m n=>(tT 0 (aEw f g i j b c d e k l a)<|.i [rn 3,.cset 1 2 (rI a)] [.a (a.length=d.length) (p':=(AV.gl 2 1 0 d.length false) = (rI a)) (fun h=>(cI h.symm))]<|gk 10 (.enter 254 [(rI a)]) [jK 1 b c a e,dA 2 a,(5,(.zone true [] (ZV f (set g i none))),false),(6,(.zone true [] (ZV a (map some d))),false),jK 7 b c a e] 8 (.gl 8 1 0 a.length false) [jK 1 b c a e,dA 2 a,(5,(.zone true [] (ZV f (set g i none))),false),(6,(.zone true [] (ZV a (map some d))),false),jK 7 b c a e,dA 8 a] 9<|.W 5 9 [1,7,2,8,5,6] (aQg f g i j b c d e k l a)) m n ⟨kk,⟨kk,trivial⟩⟩
def bBp (b:List (Nat×Nat))(c:List (Option XT))(d:Nat)(e:Nat×Nat)(f g:Int)(i:List XT)(j:List Pat)(k l:Int)(a:List (Nat×Nat)):=(tT 0 (aKo b c d e f g i j k l a)<|.W 10 7 [0,1,2,3,4,5,6] (xX b c d e f g i j k l a (map (fun _=>none) a) 0 a)) ⟨kk,⟨kk,trivial⟩⟩
def bBq (e:List (Nat×Nat))(f:List (Option XT))(g:Nat)(i:Nat×Nat)(j k:Int)(l:List XT)(m:List Pat)(c n:Int)(b:List (Nat×Nat))(o:List (Option XT))(a:Int)(p:List (Nat×Nat)):=fun d q r s t u v=>(tT 0 (xX e f g i j k l m c n b o a p)<|gd 5 25 (a< (b.length:Int)) (.i [rn 7,.ans (.ix)] [hA (0≤a),hA (a< (b.length:Int))]<|.y fun d:Nat×Nat=>gj aR 0 b a.toNat d<|.b 9 31 (a != c) .x<|gw 5 39 (a+1)<|.W 3 7 [0,1,2,3,4,5,6] (xX e f g i j k l m c n b o (a+1) p)) .x)|>.t q r s d t|>.f u v ⟨kk,⟨kk,trivial⟩⟩
def bBr (c:List (Nat×Nat))(d:List (Option XT))(e:Nat)(f:Nat×Nat)(g i:Int)(j:List XT)(k:List Pat)(l m:Int)(n:List (Nat×Nat))(a:Nat)(o:XT)(p:List (Option XT))(b:Int)(q:List (Nat×Nat))(r:Nat×Nat):=fun s=>(tT 0 (aEx c d e f g i j k l m n a o p b q r)<|gw 2 39 (b+1)<|.W 3 10 [0,1,2,3,6,8,9] (xX c d e f g i j k l m n (set p a (some o)) (b+1) (set q a r))) s ⟨kk,⟨kk,trivial⟩⟩
def bBs (b:List (Nat×Nat))(c:List (Option XT))(d:Nat)(e:Nat×Nat)(f g:Int)(i:List XT)(j:List Pat)(k l:Int)(m:List (Nat×Nat))(a:Nat)(n:XT)(o:List (Option XT))(p:List (Nat×Nat))(q:Nat×Nat):=(tT 0 (aEy b c d e f g i j k l m a n o p q)<|.W 1 10 [0,1,2,3,6,7,9] (aQj b c d e f g i j k l m (set p a q) (set o a (some n)))) ⟨kk,⟨kk,trivial⟩⟩
def bBt (c:List (Nat×Nat))(d:List (Option XT))(e:Nat)(n:Nat×Nat)(f g:Int)(i:List XT)(j:List Pat)(b o:Int)(a p:List (Nat×Nat))(q:List (Option XT))(m:List XT):=fun k l r s t u=>(tT 0 (aKp c d e n f g i j b o a p q m)<|.i [rn 6,.ans (.ix)] [hA (0≤b),hA (b< (a.length:Int))]<|.y fun k:Nat×Nat=>gj aR 0 a b.toNat k<|.y fun l:XT=>gk 0 (.enter 248 [(aR k),(.ptr 1 0)]) [jK 0 f g a j,(1,gh,false),dA 2 a,(4,(.zone true [] (ZV c (set d e none))),false),(5,(.zone true [] (ZV a (map some i))),false),(7,(.zone true [1] (Z1 (XT.mk f g m j))),false)] 8 (.ptr 9 0) [jK 0 f g a j,dA 2 a,(4,(.zone true [] (ZV c (set d e none))),false),(8,(.zone true [] (ZV a (set (map some i) (Int.toNat b) none))),false),(9,gh,false),(10,(.zone true [9] (Z1 l)),false)] 11<|.E 3 11 [9,4,8,10] (.ptr 0 0) [(0,gh,false),(1,(.zone true [] (ZV c (set d e none))),false),(2,(.zone true [] (ZV a (set (map some i) (Int.toNat b) none))),false),(3,(.zone true [0] (Z1 l)),false)] 4) r s k t l u tv
def bBu (a:List (Nat×Nat))(b:List (Option XT))(c:Nat)(d:Nat×Nat)(e f:Int)(g:List XT)(i:List Pat)(j k:Int)(l:List XT)(m:List Pat)(n:Int)(o p:List (Nat×Nat)):=(tT 0 (bDP a b c d e f g i j k l m n o p)<|.W 6 2 [0] (aQk a b c d e f g i j k l m n o p)) tv
def bBv (d:List (Nat×Nat))(e:List (Option XT))(f:Nat)(g:Nat×Nat)(i j:Int)(b:List XT)(k:List Pat)(l m:Int)(n:List XT)(o:List Pat)(p:Int)(c q:List (Nat×Nat)):=fun a r s t=>(tT 0 (aEz d e f g i j b k l m n o p c q)<|.i [rn 5,.ans (.ix)] [hA (0≤ (0:Int)),hA ((0:Int) < ((b.length:Nat) :Int))]<|.y fun a:Nat×Nat=>gj aR 0 c ((0:Int).toNat) a<|.W 3 7 [1,2,5,6] (aQl d e f g i j b k l m n o p c q a)) r s a t ⟨kk,trivial⟩
def bBw (f:List (Nat×Nat))(g:List (Option XT))(i:Nat)(y:Nat×Nat)(j k:Int)(c:List XT)(l:List Pat)(m n:Int)(a:List XT)(o:List Pat)(w:Int)(d b:List (Nat×Nat))(z:Nat×Nat):=fun e p q r s t A B u x C v D F G H I=>(tT 0 (aEA f g i y j k c l m n a o w d b z)<|.y fun e:Nat×Nat=>.y fun p:Nat×Nat=>.y fun q:Nat×Nat=>.y fun r:XT=>.y fun s:XT=>.y fun t:XT=>.i [.regA (rd 4 (.ans (.ix)::.ans (.idx (aR e))::rd 4 (.ans (.ix)::.ans (.idx (aR p))::rd 4 [.ans (.ix),.ans (.idx (aR q)),.d,.call (.ptr 11 0) (aQe j k c l d f g i m n a o b r),.call (.ptr 14 0) (aQd j k c l d f g i m n a o b s),.call (.ptr 17 0) (aXg j k c l d f g i m n a o b t),.d]))) [(some (.idx (aR p))),none,(some (.idx (aR e))),none]] [hA (0≤ (0:Int)),hA ((0:Int) < ((a.length:Nat) :Int)),.a (((b)[(0:Int).toNat]?) =some e) (cS (f:=aR)),hA (0≤ (1:Int)),hA ((1:Int) < ((a.length:Nat) :Int)),.a (((b)[(1:Int).toNat]?) =some p) (cS (f:=aR)),hA (0≤ (1:Int)),hA ((1:Int) < ((c.length:Nat) :Int)),.a (((d)[(1:Int).toNat]?) =some q) (cS (f:=aR)),hA (Spec PP (.enter 249 [(aR q),(nI w),(nI 1)]) (aA ([aGg 0 j k c l]++aBZ d f g i++[aEv 4 m n a o,dA 5 b,(8,(.zone true [] (ZV d (set (map some c) 0 none))),false),(9,(.zone true [] (ZV b (map some a))),false)]) 10) (.ret (.ptr 11 0)) (aQe j k c l d f g i m n a o b r)),hA (Spec PP (.enter 248 [(aR p),(.ptr 11 0)]) (aQe j k c l d f g i m n a o b r) (.ret (.ptr 14 0)) (aQd j k c l d f g i m n a o b s)),hA (Spec PP (.enter 248 [(aR e),(.ptr 14 0)]) (aQd j k c l d f g i m n a o b s) (.ret (.ptr 17 0)) (aXg j k c l d f g i m n a o b t)),hr (aR p),.a (((b)[(1:Int).toNat]?) =some p) (cS (f:=aR)),hr (aR p),.a (((b)[(1:Int).toNat]?) =some p) (cS (f:=aR)),hr (AV.gl 5 1 0 a.length false),hr (AV.gl 5 1 0 a.length false),hr (aR e),.a (((b)[(0:Int).toNat]?) =some e) (cS (f:=aR)),hr (aR e),.a (((b)[(0:Int).toNat]?) =some e) (cS (f:=aR)),hr (aR e),.a (((b)[(0:Int).toNat]?) =some e) (cS (f:=aR)),hr (AV.gl 5 1 0 a.length false),hr (AV.gl 5 1 0 a.length false),hr (AV.gl 5 1 0 a.length false)]<|.E 1 19 [17,2,10,16,18] (.ptr 0 0) [(0,gh,false),(1,(.zone true [] (ZV f (set g i none))),false),(2,(.zone true [] (ZV d (set (map some c) 0 none))),false),(3,(.zone true [] (ZV b (set (set (map some a) 1 none) 0 none))),false),(4,(.zone true [0] (Z1 t)),false)] 5) e p q r s t A B u x C v x D F G H I v v u u u tv
theorem aXo (us: (List (Nat×Nat)))(ts: (List (Option XT)))(ix:Nat)(u: (Nat×Nat))(op b:Int)(ks:List XT)(ps:List Pat)(e n2:Int)(d:List XT)(f:List Pat)(sz:Int)(a: (List (Nat×Nat)))(c: (List (Nat×Nat)))(i: (Nat×Nat)) :LeadsM PP 0 (aB5 us ts ix u op b ks ps e n2 d f sz a c i).as (aB6 us ts ix u op b ks ps e n2 d f sz a c i).as:=
 mA (aCW (h:= (aB5 us ts ix u op b ks ps e n2 d f sz a c i).as.h) (h':= (aB6 us ts ix u op b ks ps e n2 d f sz a c i).as.h) (g:=7) (Z:= (dK a (set (map some ks) 0 none) 0)) (Z':= (ZV a (set (map some ks) 0 none))) (rs:=[4]) (rs':=[]) aC (.inl rfl) (fun _ _ _ _ h=>by rw [if_pos rfl];exact aJy h) (le_refl _) (aU ⟨.inr ⟨by decide,by kernel_rfl⟩,.inr ⟨by decide,by kernel_rfl⟩,.inr ⟨by decide,by kernel_rfl⟩,.inr ⟨by decide,by kernel_rfl⟩,.inr ⟨by decide,by kernel_rfl⟩,.inr ⟨by decide,by kernel_rfl⟩,.inl ⟨rfl,rfl⟩,trivial⟩)) aC aC
theorem aXp (us: (List (Nat×Nat)))(ts: (List (Option XT)))(ix:Nat)(u: (Nat×Nat))(op i:Int)(ks:List XT)(ps:List Pat)(c n2:Int)(a:List XT)(d:List Pat)(sz:Int)(j: (List (Nat×Nat)))(e: (List (Nat×Nat)))(l: (Nat×Nat)){f:Res}{hf:Hp}(m:a≠ [])(k:∀b,b.length=a.length→Ends PP 0 (aEA us ts ix u op i ks ps c n2 a d sz j b l).as f hf) :Ends PP 0 (aB6 us ts ix u op i ks ps c n2 a d sz j e l).as f hf:=
 kS (t:=fun b=> (aEA us ts ix u op i ks ps c n2 a d sz j b l).as) (ok:=fun us=>us.length=a.length) (sV (h:= (aB6 us ts ix u op i ks ps c n2 a d sz j e l).as.h) (h':=fun b=> (aEA us ts ix u op i ks ps c n2 a d sz j b l).as.h) (k:=5) (g:=6) (o:=gh) (ts:=a) aC rfl aC m (fun _=>le_refl _) (fun b=> (aU ⟨.inr (.inr ⟨by decide,by kernel_rfl⟩),.inr (.inr ⟨by decide,by kernel_rfl⟩),.inr (.inr ⟨by decide,by kernel_rfl⟩),.inr (.inr ⟨by decide,by kernel_rfl⟩),.inr (.inl ⟨rfl,rfl⟩),.inr (.inr ⟨by decide,by kernel_rfl⟩),.inl ⟨rfl,rfl⟩,trivial⟩))) (fun b=> ⟨by kernel_rfl,by kernel_rfl⟩) k
def dnT (sz:Int)(k:Nat)(o n:Int)(ks:List XT)(ps:List Pat)(x:XT) :XT:=.mk 7 0 [x,.mk o n ((ks.map (rG sz 1)).set k (.mk 4 sz [] [])) ps] []
abbrev DNr (us:List (Nat×Nat))(ts:List (Option XT))(ix:Nat)(t:XT) :HL:=[(0,(.zone true [] (ZV us (ts.set ix none))),false),(1,gh,false),(2,.zone true [1] (Z1 t),false)]
section
variable (us :List (Nat×Nat)) (ts:List (Option XT)) (ix:Nat) (u:Nat×Nat) (op nn:Int) (ks:List XT) (ps:List Pat) (k:Nat) (sz:Int)
theorem bFj (x:XT)(c:ks[k]?=some x)(a:List (Nat×Nat))(b:a.length=ks.length)(hl:ks.length<1000000)(w:List (Nat×Nat))(rs:List (Option XT))(p:w.length=ks.length)(hr:rs.length=ks.length)
  (n:∀j t,ks[j]?=some t→rs[j]?=some (if j≠k then some (rG sz 1 t)else none)) :
  Ends PP 0 (xX us ts ix u op nn ks ps (k:Int) sz a rs ((ks.length:Nat) :Int) w).as (.ret (.ptr 1 0)) (aA (DNr us ts ix (dnT sz k op nn ks ps x)) 3) :=by
 have hk:k<ks.length:= (zq0.1 c).1;obtain⟨q,r⟩ :=eA p hk;obtain⟨g,f⟩ :=eA b hk;have l: ((k:Nat) :Int).toNat=k:=oY k;refine(bBm us ts ix u op nn ks ps (k:Int) sz a rs _ w q sd (oQ (m:=0) (ks:=[]) (bBj 4 sz) aC aC trivial trivial) sd sd sd).ends ?_;refine bFh us ts ix u op nn ks ps (k:Int) sz a _ _ rs w (by rw [l,n k x c];simp) fun o=>?_;refine(bBs us ts ix u op nn ks ps (k:Int) sz a _ _ rs w o).ends ?_;rw [l];have d:rs.set k (some (.mk 4 sz [] [])) =map some ((ks.map (rG sz 1)).set k (.mk 4 sz [] [])) :=by
  apply List.ext_getElem?;intro j;rw [pT,getElem?_set,getElem?_set,lN];by_cases h:k=j
  ·subst h;simp [hk,hr]
  · rw [if_neg h,if_neg h,pT];cases i:ks[j]? with
    |none=>rw [aEP (by rw [List.getElem?_eq_none_iff]at i;omega)];rfl
    |some t=>rw [n j t i,if_pos (fun e=>h e.symm)];rfl
 rw [d];refine(bFi us ts ix u op nn ks ps (k:Int) sz a _ _ (by simp [b])).ends ?_
 have:=bBt us ts ix u op nn ks ps (k:Int) sz a (w.set k o) (((ks.map (rG sz 1)).set k (.mk 4 sz [] [])).map some) ((ks.map (rG sz 1)).set k (.mk 4 sz [] [])) g (dnT sz k op nn ks ps x) sd sd sd
  (oQ (m:=0) (ks:=[5,1,7]) (aKl a (ks.map some) k g x (.mk op nn ((ks.map (rG sz 1)).set k (.mk 4 sz [] [])) ps) f (by rw [pT,c];rfl)) aC aC trivial trivial)
 exact eE (ks:=[1,0,3]) this aC aC aC trivial
theorem aKq (x:XT)(p:ks[k]?=some x)(b:List (Nat×Nat))(c:b.length=ks.length)(hl:ks.length<1000000)(f:aKj ks) :∀ (o:List XT) (i:Nat) (w:List (Nat×Nat)) (a:List (Option XT)),ks.drop i=o→i≤ks.length→w.length=ks.length→a.length=ks.length →
  (∀j t,ks[j]?=some t→a[j]?=some (if j<i∧j≠k then some (rG sz 1 t)else none)) →
  Ends PP 0 (xX us ts ix u op nn ks ps (k:Int) sz b a (i:Int) w).as (.ret (.ptr 1 0)) (aA (DNr us ts ix (dnT sz k op nn ks ps x)) 3)
 | [],i,w,a,h,B,g,hr,l=>by
  have:=bL h;have e:i=ks.length:=by omega
  subst e;exact bFj us ts ix u op nn ks ps k sz x p b c hl w a g hr (fun j t d=>by rw [l j t d];have:= (zq0.1 d).1;simp [this])
 | t ::o,i,w,a,h,B,g,hr,l=>by
  obtain⟨n,v,A⟩ :=bI h;obtain⟨r,s⟩ :=eA c A;obtain⟨C,D⟩ :=eA g A;by_cases hk:i=k
  · refine(bBq us ts ix u op nn ks ps (k:Int) sz b a (i:Int) w r sd sd sd sd (by simp [hk]) sd).ends ?_;refine aKq x p b c hl f o (i+1) w a v (by omega) g hr (fun j q d=>?_);rw [l j q d];have: (j<i∧j≠k) ↔ (j<i+1∧j≠k) :=by omega
    simp only [this]
  · have hm:OkT t:=okTs_iff.1 f t (kN n)
    refine(bBl us ts ix u op nn ks ps (k:Int) sz b a (i:Int) w r (rG sz 1 t) C sd sd sd sd (by simp;omega)
     (oQ (m:=0) (ks:=[5]) (aRz sz t hm b (ks.map some) i r s (by rw [pT,n];rfl)) aC aC trivial trivial) sd).ends ?_
    have z: ((i:Nat) :Int).toNat=i:=oY i;refine bFg us ts ix u op nn ks ps (k:Int) sz b _ _ a (i:Int) w (by rw [z,l i t n];simp) fun y=>?_;refine(bBr us ts ix u op nn ks ps (k:Int) sz b _ _ a (i:Int) w y sd).ends ?_;rw [z];refine aKq x p b c hl f o (i+1) (w.set i y) (a.set i (some (rG sz 1 t))) v (by omega) (by simp [g]) (by simp [hr]) (fun j q d=>?_);rw [getElem?_set];by_cases e:i=j
    · subst e;rw [n]at d;cases d;rw [if_pos rfl,if_pos (by omega),if_pos ⟨by omega,hk⟩]
    · rw [if_neg e,l j q d];have: (j<i∧j≠k) ↔ (j<i+1∧j≠k) :=by omega
      simp only [this]
theorem bBx (x:XT)(g:ks[k]?=some x)(i:us[ix]?=some u)(n:ts[ix]?=some (some (.mk op nn ks ps)))(c:OkT (.mk op nn ks ps)) :
  fC PP 0 (.enter 253 [.int .i64 (k:Int),aR u,.int .i64 sz]) (aA [(0,(.zone true [] (ZV us ts)),false)] 1) (.ret (.ptr 1 0)) (aA (DNr us ts ix (dnT sz k op nn ks ps x)) 3) :=by
 simp only [OkT]at c;obtain⟨_,hl,d⟩ :=c;have hk:k<ks.length:= (zq0.1 g).1;have f:ks≠ [] :=fun e=>by subst e;simp at hk
 refine⟨(bDO us ts ix u op nn ks ps (k:Int) sz []).as.fr,by kernel_rfl,?_⟩;refine((bBn us ts ix u op nn ks ps (k:Int) sz []).trans ((aXh us ts ix u op nn ks ps (k:Int) sz [] i n).trans (aXi us ts ix u op nn ks ps (k:Int) sz []))).ends (aXj us ts ix u op nn ks ps (k:Int) sz [] f fun b a=>?_);refine((bBo us ts ix u op nn ks ps (k:Int) sz b a (oQ (m:=1) (ks:=[2]) (bBk b (fun e=>by subst e;simp at a;omega) (by omega)) aC aC ⟨aKm _,trivial⟩ ⟨aKm _,aKm _,trivial⟩)).trans ((bFf us ts ix u op nn ks ps (k:Int) sz b).trans (bBp us ts ix u op nn ks ps (k:Int) sz b))).ends ?_;refine aKq us ts ix u op nn ks ps k sz x g b a hl d ks 0 b _ rfl (zero_le _) a (by simp [a]) (fun j t h=>?_);obtain⟨y,l⟩ :=eA a (zq0.1 h).1;rw [pT,l];simp
end
def neT (sz:Int)(a b c:XT) :XT:=.mk 7 0 [a,.mk 7 0 [b,rG sz 1 c] []] []
theorem bBy (us:List (Nat×Nat))(ts:List (Option XT))(ix:Nat)(u:Nat×Nat)(op h:Int)(ks:List XT)(ps:List Pat)(f n2:Int)(d:List XT)(g:List Pat)(sz:Int)(a b c:XT)(G:ks[0]?=some (.mk f n2 d g))(hc:ks[1]?=some c)(D:d[0]?=some a)(hb:d[1]?=some b)(hm:OkT c)(H:us[ix]?=some u)(F:ts[ix]?=some (some (.mk op h ks ps))) :
  fC PP 0 (.enter 247 [.agg [],aR u,.int .i64 sz]) (aA [(0,(.zone true [] (ZV us ts)),false)] 1) (.ret (.ptr 1 0)) (aA (DNr us ts ix (neT sz a b c)) 3) :=by
 have q:1<ks.length:= (zq0.1 hc).1;have n:1<d.length:= (zq0.1 hb).1;have x:ks≠ [] :=fun e=>by subst e;simp at q
 have j:d≠ [] :=fun e=>by subst e;simp at n
 refine⟨(bDP us ts ix u op h ks ps f n2 d g sz [] []).as.fr,by kernel_rfl,?_⟩;refine((bBu us ts ix u op h ks ps f n2 d g sz [] []).trans ((aXk us ts ix u op h ks ps f n2 d g sz [] [] H F).trans (aXl us ts ix u op h ks ps f n2 d g sz [] []))).ends (aXm us ts ix u op h ks ps f n2 d g sz [] [] x fun i r=>?_);obtain⟨p,s⟩ :=eA r (show 0<ks.length by omega);obtain⟨C,t⟩ :=eA r q;refine((bBv us ts ix u op h ks ps f n2 d g sz i [] p (by omega) (by omega) s).trans ((aXn us ts ix u op h ks ps f n2 d g sz i [] p s (by rw [pT,G];rfl)).trans (aXo us ts ix u op h ks ps f n2 d g sz i [] p))).ends (aXp us ts ix u op h ks ps f n2 d g sz i [] p j fun z k=>?_);obtain⟨A,l⟩ :=eA k (show 0<d.length by omega);obtain⟨B,o⟩ :=eA k n;have v: ((ks.map some).set 0 none)[1]?=some (some c) :=by rw [getElem?_set,if_neg (by omega),pT,hc];rfl
 have y: (d.map some)[1]?=some (some b) :=by rw [pT,hb];rfl
 have w: ((d.map some).set 1 none)[0]?=some (some a) :=by rw [getElem?_set,if_neg (by omega),pT,D];rfl
 have:=bBw us ts ix u op h ks ps f n2 d g sz i z p A B C (rG sz 1 c) (.mk 7 0 [b,rG sz 1 c] []) (neT sz a b c) (by omega) (by omega) l (by omega) (by omega) o (by omega) t
  (oQ (m:=0) (ks:=[8]) (aRz sz c hm i ((ks.map some).set 0 none) 1 C t v) aC aC trivial trivial)
  (oQ (m:=0) (ks:=[9,11,12]) (aKl z (d.map some) 1 B b (rG sz 1 c) o y) aC aC trivial trivial)
  (oQ (m:=0) (ks:=[13,14,15]) (aKl z ((d.map some).set 1 none) 0 A a (.mk 7 0 [b,rG sz 1 c] []) l w) aC aC trivial trivial)
 exact eE (ks:=[1,0,4]) this aC aC aC trivial
end
end Go.Hb
