/- A machine on abstract values, its soundness, ways, plain laws. -/
import Derived.Test.YtnljmgihoioocaaGreatHF
import Derived.Test.YtnljmgihoioocaaGreatHG
import Derived.Test.YtnljmgihoioocaaGreatHH
import Derived.Test.YtnljmgihoioocaaGreatHI
set_option linter.defProp false
set_option linter.unusedVariables false
set_option linter.unusedSimpArgs false
set_option linter.unusedSectionVars false
set_option maxRecDepth 100000
set_option maxHeartbeats 1000000
namespace Go.Hb
open AV (ep keylessL ptr ren)
open List (getElem?_set_ne getElem?_set_self length map_set set set_set)
open Pats (av)
open Go.Proofs Tryz
noncomputable section
abbrev mM (a:Nat)(b c:Int)(d:Nat):=oC a [(nI b),(nI c),(.ep 1 1 d 0)]
abbrev aLh (a:Nat)(b c:Int)(d:List XT)(e:List Pat):=oC a [(nI b),(nI c),(.gl 12 1 0 d.length false),(iP e)]
abbrev aSI (a b c:Int)(d:Nat)(e f:Int)(g:List XT)(h:List Pat)(i:List (Nat×Nat))(j:List XT):List (Nat×AObj×Bool):=[(6,(.loop .done (some (.exit 0)) 74 (dO [kp 3 9,kp 5 5]) 41 [10] (kd f74 436) (kd f74 437) 7),false),(7,(.defd false),false),oC 8 [(.yield 6)],oC 9 [(nI a)],mM 10 b c d,aLh 11 e f g h,(12,gh,false),(13,(.zone true [11] (eY i (set (List.map some j) d none) d)),false)]
abbrev aAd (a:Int):List (Nat×AObj×Bool):=[(2,(.loop .ready none 93 (dO [kp 2 8]) 19 [6] (kd f93 28) (kd f93 29) 4),false),oC 3 [(.ptr 0 0)],(4,(.defd false),false),oC 5 [(bV false)],(6,(.loop .ready none 74 (dO [kp 3 9,kp 5 5]) 41 [10] (kd f74 436) (kd f74 437) 7),false),(7,(.defd false),false),oC 8 [(.yield 6)],oC 9 [(nI a)]]
abbrev aSJ (a:Int):=[oC 3 [(.ptr 0 0)],(4,(.defd false),false),oC 5 [(bV false)],(6,(.loop .ready none 74 (dO [kp 3 9,kp 5 5]) 41 [10] (kd f74 436) (kd f74 437) 7),false),(7,(.defd false),false),oC 8 [(.yield 6)],oC 9 [(nI a)]]
abbrev aFf (a:Int):List (Nat×AObj×Bool):=[(2,(.loop .busy none 93 (dO [kp 2 8]) 19 [6] (kd f93 28) (kd f93 29) 4),false),oC 3 [(.ptr 0 0)],(4,(.defd false),false),oC 5 [(bV false)],(6,(.loop .busy none 74 (dO [kp 3 9,kp 5 5]) 41 [10] (kd f74 436) (kd f74 437) 7),false),(7,(.defd false),false),oC 8 [(.yield 6)],oC 9 [(nI a)]]
abbrev pN (a:Nat)(b c:Int)(d:Nat):=oC a [(nI b),(nI c),(.ep 1 1 d 0)]
abbrev aSK (a:List (Nat×Nat))(b c d:Int)(e:Nat)(f:List XT)(g:XT):=aA ([oL 1 1 (List.map aU a)]++aFf b++[pN 10 c d e,pN 11 c d e,pN 14 c d e,(15,(.zone true [] (ZV a (set (List.map some f) e none))),false),(16,gh,false),(17,(.zone true [16] (Z1 g)),false)]) 18
abbrev aSL (a:List (Nat×Nat))(b c d:Int)(e:Nat)(f g:Int)(h:List XT)(i:List Pat)(j:List XT):=aA ([oL 1 1 (List.map aU a)]++aAd b++[pN 10 c d e,oC 11 [(nI f),(nI g),(.gl 12 1 0 h.length false),(iP i)],(12,gh,false),(13,(.zone true [11] (eY a (set (List.map some j) e none) e)),false),(14,(.zone true [12] (cQ h)),false)]) 15
abbrev aAe (a:List (Nat×Nat))(b c d:Int)(e:Nat)(f:List XT):=aA ([oL 1 1 (List.map aU a)]++aFf b++[pN 10 c d e,pN 11 c d e,(13,(.zone true [] (ZV a (List.map some f))),false),pN 14 c d e]) 15
abbrev aFg (a:List (Nat×Nat))(b c d:Int)(e:Nat)(f:List XT):=aA ([oL 1 1 (List.map aU a),(2,(.loop .busy none 93 (dO [kp 2 8]) 19 [6] (kd f93 28) (kd f93 29) 4),false)]++aSJ b++[pN 10 c d e,pN 11 c d e,(13,(.zone true [] (ZV a (List.map some f))),false)]) 14
abbrev vS (a:Nat)(b:List (Nat×Nat)):=oL a 1 (List.map aU b)
abbrev aRt (a:Int)(b:List (Nat×Nat))(c d e:Int)(f:Nat)(g h:Int)(i:List XT)(j:List Pat)(k:List XT)(l:Int):=Spec PP (.enter 178 [(.ptr 11 0),(nI a)]) (aSL b c d e f g h i j k) (.ret (nI l)) (aSL b c d e f g h i j k)
abbrev aYp (a:Nat×Nat)(b:Int)(c:List (Nat×Nat))(d e:Int)(f:Nat)(g:List XT)(h:XT):=Spec PP (.enter 247 [(.agg []),(aU a),(nI b)]) (aAe c d e b f g) (.ret (.ptr 16 0)) (aSK c d e b f g h)
abbrev aYq (a:Int)(b:Nat×Nat)(c:Int)(d:List (Nat×Nat))(e f:Int)(g:Nat)(h:List XT)(i:XT):=Spec PP (.enter 253 [(nI a),(aU b),(nI c)]) (aAe d e f c g h) (.ret (.ptr 16 0)) (aSK d e f c g h i)
abbrev aYr (a:Nat×Nat)(b:List (Nat×Nat))(c d e:Int)(f:Nat)(g:List XT):=Spec PP (.enter 95 [(aU a)]) (aAe b c d e f g) (.ret (.iface 191 (.agg []))) (aAe b c d e f g)
abbrev aYs (a:Nat×Nat)(b:List (Nat×Nat))(c d e:Int)(f:Nat)(g:List XT)(h:Int):=Spec PP (.enter 95 [(aU a)]) (aAe b c d e f g) (.ret (.iface 193 (nI h))) (aAe b c d e f g)
abbrev aYt (a:Nat×Nat)(b:List (Nat×Nat))(c d e:Int)(f:Nat)(g:List XT):=Spec PP (.enter 95 [(aU a)]) (aFg b c d e f g) (.ret (.iface 191 (.agg []))) (aFg b c d e f g)
abbrev aYu (a:Nat×Nat)(b:List (Nat×Nat))(c d e:Int)(f:Nat)(g:List XT)(h:Int):=Spec PP (.enter 95 [(aU a)]) (aFg b c d e f g) (.ret (.iface 193 (nI h))) (aFg b c d e f g)
abbrev aYv (a:List (Nat×Nat))(b c d:Int)(e:Nat)(f g:Int)(h:List XT)(i:List Pat)(j:List XT):=aA ([vS 1 a,(2,(.loop .done (some .ret) 93 (dO [kp 2 8]) 19 [6] (kd f93 28) (kd f93 29) 4),false),oC 3 [(.ptr 0 0)],(4,(.defd false),false),oC 5 [(bV false)]]++aSI b c d e f g h i a j++[(15,(.zone true [12] (cQ h)),false)]) 16
abbrev aYw (a:List (Nat×Nat))(b c d:Int)(e:Nat)(f g:Int)(h:List XT)(i:List Pat)(j k:List XT):=aA ([vS 1 a,(2,(.loop .done (some .ret) 93 (dO [kp 2 8]) 19 [6] (kd f93 28) (kd f93 29) 4),false),oC 3 [(.ptr 0 0)],(4,(.defd false),false),oC 5 [(bV true)]]++aSI b c d e f g h i a j++[(15,(.zone true [12] (cQ k)),false)]) 16
abbrev aSM (a:List (Nat×Nat))(b c d:Int)(e:Nat)(f:List XT)(g:XT):=aA ([vS 1 a]++aFf b++[mM 10 c d e,mM 11 c d e,mM 14 c d e,(15,(.zone true [] (ZV a (set (List.map some f) e none))),false),(16,gh,false),(17,(.zone true [16] (Z1 g)),false)]) 18
abbrev aAf (a:List (Nat×Nat))(b c d:Int)(e:Nat)(f g:Int)(h:List XT)(i:List Pat)(j:List XT):=aA ([vS 1 a]++aAd b++[mM 10 c d e,aLh 11 f g h i,(12,gh,false),(13,(.zone true [11] (eY a (set (List.map some j) e none) e)),false),(14,(.zone true [12] (cQ h)),false)]) 15
abbrev aSN (a:List (Nat×Nat))(b c d:Int)(e:Nat)(f g:Int)(h:List XT)(i:List Pat)(j:List XT):=aA ([vS 1 a]++aAd b++[mM 10 c d e,aLh 11 f g h i,(12,gh,false),(13,(.zone true [11] (eY a (set (List.map some j) e none) e)),false),(15,(.zone true [12] (cQ h)),false)]) 16
abbrev aSO (a:List (Nat×Nat))(b c d:Int)(e:Nat)(f:List XT):=aA ([vS 1 a]++aFf b++[mM 10 c d e,mM 11 c d e,(13,(.zone true [] (ZV a (List.map some f))),false),mM 14 c d e]) 15
abbrev aCn (a:List (Nat×Nat))(b c d:Int)(e:Nat)(f:List XT):=aA ([vS 1 a,(2,(.loop .busy none 93 (dO [kp 2 8]) 19 [6] (kd f93 28) (kd f93 29) 4),false)]++aSJ b++[mM 10 c d e,mM 11 c d e,(13,(.zone true [] (ZV a (List.map some f))),false)]) 14
abbrev aLi (a b c d:Int):AV:=.agg [(nI a),(nI (IntKind.i64.wrap (b+c))),(.ep 12 1 (0+d.toNat) 0)]
abbrev aCo (a:Nat)(b c:Int)(d:List XT)(e:List Pat):=oC a [(nI b),(nI c),(.gl 12 1 0 d.length false),(iP e)]
abbrev oJ (a:Nat)(b c:Int)(d:List XT)(e:List Pat):=oC a [(nI b),(nI c),(.gl 1 1 0 d.length false),(iP e)]
abbrev aLj (a b:Int):AV:=.agg [(nI a),(nI 1),(.ep 1 1 (0+b.toNat) 0)]
abbrev lC (a:Nat)(b:List XT)(c:Int)(d:List Con):=oC a [(.gl 1 1 0 b.length false),(nI c),(iC d)]
abbrev vT (a b:Int)(c:Nat):AV:=.agg [(nI a),(nI b),(.ep 1 1 c 0)]
abbrev gP (a:Nat)(b c:Int)(d:Nat):=oC a [(nI b),(nI c),(.ep 1 1 d 0)]
abbrev jH (a:Nat)(b:List (Nat×Nat)):=oL a 1 (List.map aU b)
abbrev aLk:AV:=.iface 191 (.agg [])
def bFi(a b:Int)(c:List XT)(d:List Pat)(e:Int):TS:=cO PP 178 [(.ptr 0 0),(nI e)] [oJ 0 a b c d,(1,gh,false)] 2
def bFj(a:List XT)(b:Int)(c:List Con)(d:Int):TS:=cO PP 74 [(.ptr 0 0),(nI d)] [lC 0 a b c,(1,gh,false),(2,(.zone true [1] (cQ a)),false)] 3
def aLl(a:List XT)(b:Int)(c:List Con)(d e f:Int):TS:=⟨(tf 135 26 [(0,(.yield 2)),kp 1 3,(3,(nI e)),(9,(nI (a.length:Int))),(10,(nI f))] [kc f135 28,kl f135 28,.inBlock 0]),[(tf 93 19 [] [.inRF 2,.inBlock 0] (defers:=[.col 4])),(tf 74 41 [(4,(bV false)),kp 5 5] [.inRF 6,.inBlock 0,kc f74 55,.inScope (kd f74 6)] (defers:=[.col 7]))],[lC 0 a b c,(1,gh,false),(2,(.loop .ready none 93 (dO [kp 2 8]) 19 [6] (kd f93 28) (kd f93 29) 4),false),oC 3 [(.ptr 0 0)],(4,(.defd false),false),oC 5 [(bV false)],(6,(.loop .ready none 74 (dO [kp 3 9,kp 5 5]) 41 [10] (kd f74 436) (kd f74 437) 7),false),(7,(.defd false),false),oC 8 [(.yield 6)],oC 9 [(nI d)],(10,(.zone true [1] (cQ a)),false)],11⟩
def aYx(a b c:Int)(d:List XT)(e:Nat)(f:List (Nat×Nat))(g i:Int)(j:List XT)(k:List Pat):TS:=cO PP 136 [(vT b c e),(.yield 2)] [(1,gh,false),(2,(.loop .ready none 93 (dO [kp 2 8]) 19 [6] (kd f93 28) (kd f93 29) 4),false),oC 3 [(.ptr 0 0)],(4,(.defd false),false),oC 5 [(bV false)],(6,(.loop .ready none 74 (dO [kp 3 9,kp 5 5]) 41 [10] (kd f74 436) (kd f74 437) 7),false),(7,(.defd false),false),oC 8 [(.yield 6)],oC 9 [(nI a)],(10,(.zone true [1] (cQ d)),false)] 11
def aLm(d a b:Int)(e:List XT)(c:Nat)(f:List (Nat×Nat))(g i:Int)(j:List XT)(k:List Pat):TS:=⟨(tf 93 19 [kp 2 8,kp 3 10] [kc f93 116,kc f93 117,.inBlock 1] (roundOf:=some 2)),[(tf 136 48 [(1,(.yield 2)),kp 2 11,(4,(nI 0)),(8,(.yield 2)),(9,(vT a b c))] [ko f136 12 2,kc f136 13,kc f136 7])],[(1,gh,false),(2,(.loop .busy none 93 (dO [kp 2 8]) 19 [6] (kd f93 28) (kd f93 29) 4),false),oC 3 [(.ptr 0 0)],(4,(.defd false),false),oC 5 [(bV false)],(6,(.loop .ready none 74 (dO [kp 3 9,kp 5 5]) 41 [10] (kd f74 436) (kd f74 437) 7),false),(7,(.defd false),false),oC 8 [(.yield 6)],oC 9 [(nI d)],gP 10 a b c,gP 11 a b c,(12,(.zone true [1] (cQ e)),false)],13⟩
def iW(e a b:Int)(f:List XT)(c:Nat)(d:List (Nat×Nat))(g i:Int)(j:List XT)(k:List Pat):TS:=⟨(tf 93 19 [kp 2 8,kp 3 10] [kc f93 116,kc f93 117,.inBlock 1] (roundOf:=some 2)),[(tf 136 48 [(1,(.yield 2)),kp 2 11,(4,(nI 0)),(8,(.yield 2)),(9,(vT a b c))] [ko f136 12 2,kc f136 13,kc f136 7])],[jH 1 d,(2,(.loop .busy none 93 (dO [kp 2 8]) 19 [6] (kd f93 28) (kd f93 29) 4),false),oC 3 [(.ptr 0 0)],(4,(.defd false),false),oC 5 [(bV false)],(6,(.loop .ready none 74 (dO [kp 3 9,kp 5 5]) 41 [10] (kd f74 436) (kd f74 437) 7),false),(7,(.defd false),false),oC 8 [(.yield 6)],oC 9 [(nI e)],gP 10 a b c,gP 11 a b c,(13,(.zone true [] (ZV d (List.map some f))),false)],14⟩
def aCp(e b c:Int)(f:List XT)(a:Nat)(d:List (Nat×Nat))(i j:Int)(k:List XT)(l:List Pat)(g:XT):TS:=⟨(tf 74 41 [kp 5 5] [kc f74 27979,.inBlock 2,.inBlock 1] (roundOf:=some 6)),[(tf 93 19 [(13,(bV true)),(14,(.yield 6)),(15,(vT b c a))] [ko f93 116 9,kc f93 117,.inBlock 1] (roundOf:=some 2)),(tf 136 48 [(1,(.yield 2)),kp 2 10,(4,(nI 0)),(8,(.yield 2)),(9,(vT b c a))] [ko f136 12 2,kc f136 13,kc f136 7])],[(1,(.lst 1 ((List.map aU d).set a (.ptr 11 0))),false),(2,(.loop .busy none 93 (dO [kp 2 8]) 19 [6] (kd f93 28) (kd f93 29) 4),false),oC 3 [(.ptr 0 0)],(4,(.defd false),false),oC 5 [(bV false)],(6,(.loop .busy none 74 (dO [kp 3 9,kp 5 5]) 41 [10] (kd f74 436) (kd f74 437) 7),false),(7,(.defd false),false),oC 8 [(.yield 6)],oC 9 [(nI e)],gP 10 b c a,(11,gh,false),(12,(.zone true [11] (Z1 g)),false),(13,(.zone true [] (ZV d (set (List.map some f) a none))),false)],14⟩
def aCq(f b c:Int)(g:List XT)(a:Nat)(d:List (Nat×Nat))(j k:Int)(l:List XT)(m:List Pat)(i:XT)(e:Nat×Nat):TS:=⟨(tf 74 41 [kp 5 5] [kc f74 27979,.inBlock 2,.inBlock 1] (roundOf:=some 6)),[(tf 93 19 [(13,(bV true)),(14,(.yield 6)),(15,(vT b c a))] [ko f93 116 9,kc f93 117,.inBlock 1] (roundOf:=some 2)),(tf 136 48 [(1,(.yield 2)),kp 2 10,(4,(nI 0)),(8,(.yield 2)),(9,(vT b c a))] [ko f136 12 2,kc f136 13,kc f136 7])],[oL 1 1 (List.map aU (set d a e)),(2,(.loop .busy none 93 (dO [kp 2 8]) 19 [6] (kd f93 28) (kd f93 29) 4),false),oC 3 [(.ptr 0 0)],(4,(.defd false),false),oC 5 [(bV false)],(6,(.loop .busy none 74 (dO [kp 3 9,kp 5 5]) 41 [10] (kd f74 436) (kd f74 437) 7),false),(7,(.defd false),false),oC 8 [(.yield 6)],oC 9 [(nI f)],gP 10 b c a,(14,(.zone true [] (ZV (set d a e) (set (set (List.map some g) a none) a (some i)))),false)],15⟩
def aAg(c a d:Int)(e:List XT)(f:Nat)(b:List (Nat×Nat))(i j:Int)(k:List XT)(l:List Pat)(g:Nat×Nat):TS:=⟨(tf 136 48 [(1,(.yield 2)),kp 2 10,(4,(nI 0)),(5,(nI (a+1))),(6,(aU g))] [kc f136 124,kc f136 125,kc f136 63]),[],([jH 1 b]++aAd c++[gP 10 a d f,(11,(.zone true [] (ZV b (List.map some e))),false)]),12⟩
def aGV(e b f:Int)(g:List XT)(a:Nat)(c:List (Nat×Nat))(i j:Int)(d:List XT)(k:List Pat)(l:Nat×Nat):TS:=⟨(tf 136 48 [(1,(.yield 2)),kp 2 10,(4,(nI 0)),(5,(nI (b+1))),kp 6 12] [kc f136 124,kc f136 125,kc f136 63]),[],([jH 1 c]++aAd e++[gP 10 b f a,oC 12 [(nI i),(nI j),(.gl 13 1 0 d.length false),(iP k)],(13,gh,false),(14,(.zone true [13] (cQ d)),false),(15,(.zone true [12] (eY c (set (List.map some g) a none) a)),false)]),16⟩
def aFh(d e f:Int)(g:List XT)(a:Nat)(c:List (Nat×Nat))(i j:Int)(b:List XT)(k:List Pat)(l m:Int):TS:=⟨(tf 136 48 [(1,(.yield 2)),kp 2 10,(4,(nI 0)),(5,(nI l)),kp 6 11,(23,(nI (b.length:Int))),(24,(nI m))] [kc f136 500,kl f136 500,.inBlock 0,kc f136 63]),[],([jH 1 c]++aAd d++[gP 10 e f a,aCo 11 i j b k,(12,gh,false),(13,(.zone true [11] (eY c (set (List.map some g) a none) a)),false),(14,(.zone true [12] (cQ b)),false)]),15⟩
def aBb(a c:Int)(d:List XT)(b:List Pat)(e:Int):=tT 2 (bFi a c d b e)<|.b 14 11 (a==5) (.E 25 2 [] (nI 1) [oJ 0 a c d b,(1,gh,false)] 2)<|.b 7 18 (a==27) (.E 18 2 [] (nI 1) [oJ 0 a c d b,(1,gh,false)] 2)<|.b 6 24 (a==7) (.b 6 5 (e==1) (.E 6 2 [] (nI 1) [oJ 0 a c d b,(1,gh,false)] 2)<|.b 9 35 (a==15) (gd 5 29 (e>0) (gw 9 44 (e-1)<|vA 0 b (e-1)<|fun f g i j=>gpI 1 201 [(.agg [(nI f),(nI g),(dP i),(iP j)])]<|fun k=>.E 3 2 [] (nI k) [oJ 0 a c d b,(1,gh,false)] 2)<|.E 8 2 [] (nI 0) [oJ 0 a c d b,(1,gh,false)] 2)<|.E 13 2 [] (nI 0) [oJ 0 a c d b,(1,gh,false)] 2)<|.b 15 35 (a==15) (gd 5 29 (e>0) (gw 9 44 (e-1)<|vA 0 b (e-1)<|fun f g i j=>gpI 1 201 [(.agg [(nI f),(nI g),(dP i),(iP j)])]<|fun k=>.E 3 2 [] (nI k) [oJ 0 a c d b,(1,gh,false)] 2)<|.E 8 2 [] (nI 0) [oJ 0 a c d b,(1,gh,false)] 2)<|.E 13 2 [] (nI 0) [oJ 0 a c d b,(1,gh,false)] 2
def bCI:=fun a b c d e f=>aBb a b c d e|>.t f tv
def bCJ:=fun a b c d e f g=>aBb a b c d e|>.f f|>.t g tv
def bCK:=fun a b c d e f g i j=>aBb a b c d e|>.f f|>.f g|>.t i|>.t j tv
def bCL:=fun a b c d e f g i j k=>aBb a b c d e|>.f f|>.f g|>.t i|>.f j|>.f k tv
def bCM:=fun a b c d e f g i j k l m n o p q r s t=>aBb a b c d e|>.f l|>.f m|>.f n|>.t o|>.t p q f g i j r s k t tv
def bCN:=fun a b c d e f g i j k=>aBb a b c d e|>.f f|>.f g|>.f i|>.t j|>.f k tv
def bCO:=fun a b c d e f g i j=>aBb a b c d e|>.f f|>.f g|>.f i|>.f j tv
def bCP (a:List XT)(b:Int)(c:List Con)(d:Int):=(tT 2 (bFj a b c d)<|.i [rn 33,.lkeep 7 [3,5]] []<|.i [rn 23,.lkeep 11 [2]] []<|.W 15 12 [11,9,10,4,7,6,8,3,2] (aLl a b c d 0 0)) tv
def aLn(a:List XT)(b:Int)(c:List Con)(e f d:Int):=tT 2 (aLl a b c e f d)<|gd 5 11 (d< (a.length:Int)) (.i [rn 17,.ans (.ix)] [hA (0≤d),hA (d< (a.length:Int))]<|.o (gk 2 (.enter 136 [(aLj f d),(.yield 2)]) [lC 0 a b c,(1,gh,false),(2,(.loop .ready none 93 (dO [kp 2 8]) 19 [6] (kd f93 28) (kd f93 29) 4),false),oC 3 [(.ptr 0 0)],(4,(.defd false),false),oC 5 [(bV false)],(6,(.loop .ready none 74 (dO [kp 3 9,kp 5 5]) 41 [10] (kd f74 436) (kd f74 437) 7),false),(7,(.defd false),false),oC 8 [(.yield 6)],oC 9 [(nI e)],(10,(.zone true [1] (cQ a)),false)] 11 (nI (-1)) [lC 0 a b c,(1,gh,false),(2,(.loop .done (some .ret) 93 (dO [kp 2 8]) 19 [6] (kd f93 28) (kd f93 29) 4),false),oC 3 [(.ptr 0 0)],(4,(.defd false),false),oC 5 [(bV false)],(6,(.loop .done (some (.exit 0)) 74 (dO [kp 3 9,kp 5 5]) 41 [10] (kd f74 436) (kd f74 437) 7),false),(7,(.defd false),false),oC 8 [(.yield 6)],oC 9 [(nI e)],(11,(.zone true [1] (cQ a)),false)] 12<|.E 23 12 [11] (bV false) [lC 0 a b c,(1,gh,false),(2,(.zone true [1] (cQ a)),false)] 3)<|.o (.y fun i:List XT=>gk 2 (.enter 136 [(aLj f d),(.yield 2)]) [lC 0 a b c,(1,gh,false),(2,(.loop .ready none 93 (dO [kp 2 8]) 19 [6] (kd f93 28) (kd f93 29) 4),false),oC 3 [(.ptr 0 0)],(4,(.defd false),false),oC 5 [(bV false)],(6,(.loop .ready none 74 (dO [kp 3 9,kp 5 5]) 41 [10] (kd f74 436) (kd f74 437) 7),false),(7,(.defd false),false),oC 8 [(.yield 6)],oC 9 [(nI e)],(10,(.zone true [1] (cQ a)),false)] 11 (nI (-1)) [lC 0 a b c,(1,gh,false),(2,(.loop .done (some .ret) 93 (dO [kp 2 8]) 19 [6] (kd f93 28) (kd f93 29) 4),false),oC 3 [(.ptr 0 0)],(4,(.defd false),false),oC 5 [(bV true)],(6,(.loop .done (some (.exit 0)) 74 (dO [kp 3 9,kp 5 5]) 41 [10] (kd f74 436) (kd f74 437) 7),false),(7,(.defd false),false),oC 8 [(.yield 6)],oC 9 [(nI e)],(11,(.zone true [1] (cQ i)),false)] 12<|.E 23 12 [11] (bV true) [lC 0 a b c,(1,gh,false),(2,(.zone true [1] (cQ i)),false)] 3)<|.y fun g:Int=>gk 2 (.enter 136 [(aLj f d),(.yield 2)]) [lC 0 a b c,(1,gh,false),(2,(.loop .ready none 93 (dO [kp 2 8]) 19 [6] (kd f93 28) (kd f93 29) 4),false),oC 3 [(.ptr 0 0)],(4,(.defd false),false),oC 5 [(bV false)],(6,(.loop .ready none 74 (dO [kp 3 9,kp 5 5]) 41 [10] (kd f74 436) (kd f74 437) 7),false),(7,(.defd false),false),oC 8 [(.yield 6)],oC 9 [(nI e)],(10,(.zone true [1] (cQ a)),false)] 11 (nI g) [lC 0 a b c,(1,gh,false),(2,(.loop .ready none 93 (dO [kp 2 8]) 19 [6] (kd f93 28) (kd f93 29) 4),false),oC 3 [(.ptr 0 0)],(4,(.defd false),false),oC 5 [(bV false)],(6,(.loop .ready none 74 (dO [kp 3 9,kp 5 5]) 41 [10] (kd f74 436) (kd f74 437) 7),false),(7,(.defd false),false),oC 8 [(.yield 6)],oC 9 [(nI e)],(11,(.zone true [1] (cQ a)),false)] 12<|gd 7 24 (g<0) (.E 17 12 [11] (bV false) [lC 0 a b c,(1,gh,false),(2,(.zone true [1] (cQ a)),false)] 3)<|gw 5 25 (d+1)<|.W 3 12 [2,3,4,5,6,7,8,9,11] (aLl a b c e g (d+1)))<|.E 18 11 [10] (bV false) [lC 0 a b c,(1,gh,false),(2,(.zone true [1] (cQ a)),false)] 3
def bCQ:=fun a b c d e f g i j k=>aLn a b c d e f|>.t g i j|>.1 k tv
def bCR:=fun a b c d e f g i j k l=>aLn a b c d e f|>.t i j k|>.2|>.1 g l tv
def bCS:=fun a b c d e f g i j k l m n=>aLn a b c d e f|>.t i j k|>.2|>.2 g l|>.f m n tv
def bCT:=fun a b c d e f g=>aLn a b c d e f|>.f g tv
def aYy (a b c:Int)(d:List XT)(e:Nat)(f:List (Nat×Nat))(g i:Int)(j:List XT)(k:List Pat):=(tT 10 (aYx a b c d e f g i j k)<|.W 18 13 [12,11,10] (aLm a b c d e f g i j k)) tv
def aGW(e b d:Int)(g:List XT)(c:Nat)(a:List (Nat×Nat))(i j:Int)(k:List XT)(l:List Pat):=tT 10 (iW e b d g c a i j k l)<|.y fun f:Nat×Nat=>.i [rn 4,aI (aU f)] [.a (((a)[c]?) =some f) (bP (f:=aU))]<|.o (.y fun m:Int=>gk 0 (.enter 95 [(aU f)]) [jH 1 a,(2,(.loop .busy none 93 (dO [kp 2 8]) 19 [6] (kd f93 28) (kd f93 29) 4),false),oC 3 [(.ptr 0 0)],(4,(.defd false),false),oC 5 [(bV false)],(6,(.loop .ready none 74 (dO [kp 3 9,kp 5 5]) 41 [10] (kd f74 436) (kd f74 437) 7),false),(7,(.defd false),false),oC 8 [(.yield 6)],oC 9 [(nI e)],gP 10 b d c,gP 11 b d c,(13,(.zone true [] (ZV a (List.map some g))),false)] 14 (.iface 193 (nI m)) [jH 1 a,(2,(.loop .busy none 93 (dO [kp 2 8]) 19 [6] (kd f93 28) (kd f93 29) 4),false),oC 3 [(.ptr 0 0)],(4,(.defd false),false),oC 5 [(bV false)],(6,(.loop .ready none 74 (dO [kp 3 9,kp 5 5]) 41 [10] (kd f74 436) (kd f74 437) 7),false),(7,(.defd false),false),oC 8 [(.yield 6)],oC 9 [(nI e)],gP 10 b d c,gP 11 b d c,(13,(.zone true [] (ZV a (List.map some g))),false)] 14<|.b 20 11 (b==e) .x<|gd 9 35 (b>e) (.E 15 15 [13] (nI (-1)) [jH 1 a,(2,(.loop .done (some .ret) 93 (dO [kp 2 8]) 19 [6] (kd f93 28) (kd f93 29) 4),false),oC 3 [(.ptr 0 0)],(4,(.defd false),false),oC 5 [(bV false)],(6,(.loop .done (some (.exit 0)) 74 (dO [kp 3 9,kp 5 5]) 41 [10] (kd f74 436) (kd f74 437) 7),false),(7,(.defd false),false),oC 8 [(.yield 6)],oC 9 [(nI e)],(10,(.zone true [] (ZV a (List.map some g))),false)] 11)<|gw 21 14 (b+1)<|.i [rn 7,aI (aU f)] [.a (((a)[c]?) =some f) (bP (f:=aU))]<|.W 4 15 [11,13] (aAg e b d g c a i j k l f))<|.o (gk 0 (.enter 95 [(aU f)]) [jH 1 a,(2,(.loop .busy none 93 (dO [kp 2 8]) 19 [6] (kd f93 28) (kd f93 29) 4),false),oC 3 [(.ptr 0 0)],(4,(.defd false),false),oC 5 [(bV false)],(6,(.loop .ready none 74 (dO [kp 3 9,kp 5 5]) 41 [10] (kd f74 436) (kd f74 437) 7),false),(7,(.defd false),false),oC 8 [(.yield 6)],oC 9 [(nI e)],gP 10 b d c,gP 11 b d c,(13,(.zone true [] (ZV a (List.map some g))),false)] 14 aLk [jH 1 a,(2,(.loop .busy none 93 (dO [kp 2 8]) 19 [6] (kd f93 28) (kd f93 29) 4),false),oC 3 [(.ptr 0 0)],(4,(.defd false),false),oC 5 [(bV false)],(6,(.loop .ready none 74 (dO [kp 3 9,kp 5 5]) 41 [10] (kd f74 436) (kd f74 437) 7),false),(7,(.defd false),false),oC 8 [(.yield 6)],oC 9 [(nI e)],gP 10 b d c,gP 11 b d c,(13,(.zone true [] (ZV a (List.map some g))),false)] 14<|.b 20 11 (b==e) .x<|gd 9 35 (b>e) (.E 15 15 [13] (nI (-1)) [jH 1 a,(2,(.loop .done (some .ret) 93 (dO [kp 2 8]) 19 [6] (kd f93 28) (kd f93 29) 4),false),oC 3 [(.ptr 0 0)],(4,(.defd false),false),oC 5 [(bV false)],(6,(.loop .done (some (.exit 0)) 74 (dO [kp 3 9,kp 5 5]) 41 [10] (kd f74 436) (kd f74 437) 7),false),(7,(.defd false),false),oC 8 [(.yield 6)],oC 9 [(nI e)],(10,(.zone true [] (ZV a (List.map some g))),false)] 11)<|gw 21 14 (b+1)<|.i [rn 7,aI (aU f)] [.a (((a)[c]?) =some f) (bP (f:=aU))]<|.W 4 15 [11,13] (aAg e b d g c a i j k l f))<|.i [.call .nili (aCn a e b d c g)] [hA (Spec PP (.enter 95 [(aU f)]) (aCn a e b d c g) (.ret .nili) (aCn a e b d c g))]<|gw 21 14 (b+1)<|.i [rn 7,aI (aU f)] [.a (((a)[c]?) =some f) (bP (f:=aU))]<|.W 4 14 [11,13] (aAg e b d g c a i j k l f)
def aYz:=fun a b c d e f g i j k l m n o p q=>aGW a b c d e f g i j k l n|>.1 m o|>.f p|>.t q ⟨kk,trivial⟩
def aYA:=fun b c d e f g i j k l m n a o p q r=>aGW b c d e f g i j k l m a|>.1 n o|>.f p|>.f q r a ⟨kk,trivial⟩
def aYB:=fun a b c d e f g i j k l m n o p=>aGW a b c d e f g i j k l m|>.2|>.1 n|>.f o|>.t p ⟨kk,trivial⟩
def aYC:=fun b c d e f g i j k l m a n o p q=>aGW b c d e f g i j k l m a|>.2|>.1 n|>.f o|>.f p q a ⟨kk,trivial⟩
def aYD:=fun b c d e f g i j k l m a n o=>aGW b c d e f g i j k l m a|>.2|>.2 n o a ⟨kk,trivial⟩
def aYE (d g i:Int)(e:List XT)(a:Nat)(b:List (Nat×Nat))(j k:Int)(l:List XT)(m:List Pat)(f:XT)(c:Nat×Nat):=(tT 10 (aCq d g i e a b j k l m f c)<|.E 18 15 [14] (nI (-1)) [oL 1 1 (List.map aU (set b a c)),(2,(.loop .done (some .ret) 93 (dO [kp 2 8]) 19 [6] (kd f93 28) (kd f93 29) 4),false),oC 3 [(.ptr 0 0)],(4,(.defd false),false),oC 5 [(bV true)],(6,(.loop .done (some (.exit 0)) 74 (dO [kp 3 9,kp 5 5]) 41 [10] (kd f74 436) (kd f74 437) 7),false),(7,(.defd false),false),oC 8 [(.yield 6)],oC 9 [(nI d)],(10,(.zone true [] (ZV (set b a c) (set (set (List.map some e) a none) a (some f)))),false)] 11) ⟨kk,trivial⟩
def aYF (b a c:Int)(d:List XT)(e:Nat)(f:List (Nat×Nat))(g i:Int)(j:List XT)(k:List Pat)(l:Nat×Nat):=(tT 10 (aGV b a c d e f g i j k l)<|.W 10 16 [10,12,13,15,14] (aFh b a c d e f g i j k (a+1) 0)) ⟨kk,trivial⟩
def aLo(e k d:Int)(f:List XT)(a:Nat)(c:List (Nat×Nat))(g i:Int)(b:List XT)(j:List Pat)(n l:Int):=tT 10 (aFh e k d f a c g i b j n l)<|gd 5 25 (l< (b.length:Int)) (.o (.y fun m:Int=>.i [rn 10,.reg (rd 5 (.call (nI m) (aAf c e k d a g i b j f)::rd 6 [.ans (.ix),.d,.d,.call (nI (-1)) (aYv c e k d a g i b j f),.d]))] [hA (aRt l c e k d a g i b j f m),hA (0≤l),hA (l< (b.length:Int)),hA (Spec PP (.enter 136 [(aLi n d m l),(.yield 2)]) (aAf c e k d a g i b j f) (.ret (nI (-1))) (aYv c e k d a g i b j f)),hr (AV.gl 12 1 0 b.length false),hr (AV.gl 12 1 0 b.length false),hr (nI d),hr (nI d)]<|.E 12 16 [13,11,12,15] (nI (-1)) [jH 1 c,(2,(.loop .done (some .ret) 93 (dO [kp 2 8]) 19 [6] (kd f93 28) (kd f93 29) 4),false),oC 3 [(.ptr 0 0)],(4,(.defd false),false),oC 5 [(bV false)],(6,(.loop .done (some (.exit 0)) 74 (dO [kp 3 9,kp 5 5]) 41 [10] (kd f74 436) (kd f74 437) 7),false),(7,(.defd false),false),oC 8 [(.yield 6)],oC 9 [(nI e)],(10,(.zone true [11] (eY c (set (List.map some f) a none) a)),false),aCo 11 g i b j,(12,gh,false),(13,(.zone true [12] (cQ b)),false)] 14)<|.o (.y fun m:Int=>.y fun p:List XT=>.i [rn 10,.reg (rd 5 (.call (nI m) (aAf c e k d a g i b j f)::rd 6 [.ans (.ix),.d,.d,.call (nI (-1)) (aYw c e k d a g i b j f p),.d]))] [hA (aRt l c e k d a g i b j f m),hA (0≤l),hA (l< (b.length:Int)),hA (Spec PP (.enter 136 [(aLi n d m l),(.yield 2)]) (aAf c e k d a g i b j f) (.ret (nI (-1))) (aYw c e k d a g i b j f p)),hr (AV.gl 12 1 0 b.length false),hr (AV.gl 12 1 0 b.length false),hr (nI d),hr (nI d)]<|.E 12 16 [13,11,12,15] (nI (-1)) [jH 1 c,(2,(.loop .done (some .ret) 93 (dO [kp 2 8]) 19 [6] (kd f93 28) (kd f93 29) 4),false),oC 3 [(.ptr 0 0)],(4,(.defd false),false),oC 5 [(bV true)],(6,(.loop .done (some (.exit 0)) 74 (dO [kp 3 9,kp 5 5]) 41 [10] (kd f74 436) (kd f74 437) 7),false),(7,(.defd false),false),oC 8 [(.yield 6)],oC 9 [(nI e)],(10,(.zone true [11] (eY c (set (List.map some f) a none) a)),false),aCo 11 g i b j,(12,gh,false),(13,(.zone true [12] (cQ p)),false)] 14)<|.y fun m:Int=>.y fun o:Int=>.i [rn 10,.reg (rd 5 (.call (nI m) (aAf c e k d a g i b j f)::rd 6 [.ans (.ix),.d,.d,.call (nI o) (aSN c e k d a g i b j f),.d]))] [hA (aRt l c e k d a g i b j f m),hA (0≤l),hA (l< (b.length:Int)),hA (Spec PP (.enter 136 [(aLi n d m l),(.yield 2)]) (aAf c e k d a g i b j f) (.ret (nI o)) (aSN c e k d a g i b j f)),hr (AV.gl 12 1 0 b.length false),hr (AV.gl 12 1 0 b.length false),hr (nI d),hr (nI d)]<|gd 5 44 (o<0) (.E 7 16 [13,11,12,15] (nI o) [jH 1 c,(2,(.loop .ready none 93 (dO [kp 2 8]) 19 [6] (kd f93 28) (kd f93 29) 4),false),oC 3 [(.ptr 0 0)],(4,(.defd false),false),oC 5 [(bV false)],(6,(.loop .ready none 74 (dO [kp 3 9,kp 5 5]) 41 [10] (kd f74 436) (kd f74 437) 7),false),(7,(.defd false),false),oC 8 [(.yield 6)],oC 9 [(nI e)],(10,(.zone true [11] (eY c (set (List.map some f) a none) a)),false),aCo 11 g i b j,(12,gh,false),(13,(.zone true [12] (cQ b)),false)] 14)<|gw 5 46 (l+1)<|.W 3 16 [10,11,12,13,15] (aFh e k d f a c g i b j o (l+1)))<|.E 8 15 [13,11,12,14] (nI n) [jH 1 c,(2,(.loop .ready none 93 (dO [kp 2 8]) 19 [6] (kd f93 28) (kd f93 29) 4),false),oC 3 [(.ptr 0 0)],(4,(.defd false),false),oC 5 [(bV false)],(6,(.loop .ready none 74 (dO [kp 3 9,kp 5 5]) 41 [10] (kd f74 436) (kd f74 437) 7),false),(7,(.defd false),false),oC 8 [(.yield 6)],oC 9 [(nI e)],(10,(.zone true [11] (eY c (set (List.map some f) a none) a)),false),aCo 11 g i b j,(12,gh,false),(13,(.zone true [12] (cQ b)),false)] 14
def aYG:=fun a b c d e f g i j k l m n o p q r s=>aLo a b c d e f g i j k l m|>.t o|>.1 n p q r s ⟨kk,trivial⟩
def aYH:=fun a b c d e f g i j k l m n o p q r s t=>aLo a b c d e f g i j k l m|>.t p|>.2|>.1 n o q r s t ⟨kk,trivial⟩
def aYI:=fun a b c d e f g i j k l m n o p q r s t u v=>aLo a b c d e f g i j k l m|>.t p|>.2|>.2 n o q r s t|>.f u v ⟨kk,trivial⟩
def aYJ:=fun a b c d e f g i j k l m n=>aLo a b c d e f g i j k l m|>.f n ⟨kk,trivial⟩
theorem bCU (node b f:Int)(xs:List XT)(ix:Nat)(d: (List (Nat×Nat)))(op c:Int)(ks:List XT)(ps:List Pat){e:Res}{hf:Hp}(i:xs≠ [])(k:∀a,a.length=xs.length→Ends PP 10 (iW node b f xs ix a op c ks ps).as e hf) :Ends PP 10 (aLm node b f xs ix d op c ks ps).as e hf:=
 mJ (t:=fun a=> (iW node b f xs ix a op c ks ps).as) (ok:=fun j=>j.length=xs.length) (yM (h:= (aLm node b f xs ix d op c ks ps).as.h) (h':=fun a=> (iW node b f xs ix a op c ks ps).as.h) (k:=1) (g:=12) (o:=gh) (ts:=xs) aC rfl aC i (fun _=>Nat.le_refl _) (fun a=> (aZ ⟨.inr (.inl ⟨rfl,rfl⟩),.inr (.inr ⟨by decide,by kernel_rfl⟩),.inr (.inr ⟨by decide,by kernel_rfl⟩),.inr (.inr ⟨by decide,by kernel_rfl⟩),.inr (.inr ⟨by decide,by kernel_rfl⟩),.inr (.inr ⟨by decide,by kernel_rfl⟩),.inr (.inr ⟨by decide,by kernel_rfl⟩),.inr (.inr ⟨by decide,by kernel_rfl⟩),.inr (.inr ⟨by decide,by kernel_rfl⟩),.inr (.inr ⟨by decide,by kernel_rfl⟩),.inr (.inr ⟨by decide,by kernel_rfl⟩),.inl ⟨rfl,rfl⟩,trivial⟩))) (fun a=> ⟨by kernel_rfl,by kernel_rfl⟩) k
theorem bCV (node f e:Int)(xs:List XT)(ix:Nat)(b: (List (Nat×Nat)))(op d:Int)(ks:List XT)(ps:List Pat)(c:XT){j:Res}{hf:Hp}(l: ((set (List.map some xs) ix none))[ix]?=some none)(k:∀a,Ends PP 10 (aCq node f e xs ix b op d ks ps c a).as j hf) :Ends PP 10 (aCp node f e xs ix b op d ks ps c).as j hf:=
 mJ (t:= (fun a=> (aCq node f e xs ix b op d ks ps c a).as)) (ok:=fun _=>True) (aKn (h:= (aCp node f e xs ix b op d ks ps c).as.h) (h':=fun a=> (aCq node f e xs ix b op d ks ps c a).as.h) (k:=1) (g:=13) (gz:=12) (z:=11) (us:=b) (ts:= (set (List.map some xs) ix none)) (i:=ix) (t:=c) aC aC aC l (by decide) (fun _=>Nat.le_refl _) (fun a=> (aZ ⟨.inr (.inl ⟨rfl,rfl⟩),.inr (.inr ⟨by decide,by kernel_rfl⟩),.inr (.inr ⟨by decide,by kernel_rfl⟩),.inr (.inr ⟨by decide,by kernel_rfl⟩),.inr (.inr ⟨by decide,by kernel_rfl⟩),.inr (.inr ⟨by decide,by kernel_rfl⟩),.inr (.inr ⟨by decide,by kernel_rfl⟩),.inr (.inr ⟨by decide,by kernel_rfl⟩),.inr (.inr ⟨by decide,by kernel_rfl⟩),.inr (.inr ⟨by decide,by kernel_rfl⟩),.inl ⟨rfl,rfl⟩,trivial⟩))) (fun a=> ⟨by kernel_rfl,by kernel_rfl⟩) (fun a _=>k a)
theorem bCW (node d e:Int)(xs:List XT)(ix:Nat)(c: (List (Nat×Nat)))(op b:Int)(ks:List XT)(ps:List Pat)(a: (Nat×Nat))(f:c[ix]?=some a)(k: ((List.map some xs))[ix]?=some (some (.mk op b ks ps))) :LeadsM PP 10 (aAg node d e xs ix c op b ks ps a).as (aGV node d e xs ix c op b ks ps a).as:=
 yT (j:=6) (v:=aU a) (v':=.ptr 12 0) aC (fun hm=>tI (h:= (aAg node d e xs ix c op b ks ps a).as.h) (h':= (aGV node d e xs ix c op b ks ps a).as.h) (g:=11) (us:=c) (ts:= (List.map some xs)) (i:=ix) (u:=a) (op:=op) (n:=b) (ks:=ks) (ps:=ps) aC f k rfl (aZ ⟨.inr (.inr (.inr (.inr ⟨by decide,by kernel_rfl⟩))),.inr (.inr (.inr (.inr ⟨by decide,by kernel_rfl⟩))),.inr (.inr (.inr (.inr ⟨by decide,by kernel_rfl⟩))),.inr (.inr (.inr (.inr ⟨by decide,by kernel_rfl⟩))),.inr (.inr (.inr (.inr ⟨by decide,by kernel_rfl⟩))),.inr (.inr (.inr (.inr ⟨by decide,by kernel_rfl⟩))),.inr (.inr (.inr (.inr ⟨by decide,by kernel_rfl⟩))),.inr (.inr (.inr (.inr ⟨by decide,by kernel_rfl⟩))),.inr (.inr (.inr (.inr ⟨by decide,by kernel_rfl⟩))),.inr (.inr (.inr (.inr ⟨by decide,by kernel_rfl⟩))),.inl ⟨rfl,rfl⟩,.inr (.inl ⟨rfl,rfl⟩),.inr (.inr (.inl ⟨rfl,rfl⟩)),.inr (.inr (.inr (.inl ⟨rfl,rfl⟩))),trivial⟩) hm) aC aC
theorem aYK (node c d:Int)(xs:List XT)(ix:Nat)(a: (List (Nat×Nat)))(op i:Int)(ks:List XT)(ps:List Pat)(b: (Nat×Nat))(g e:Int)(f:XT)(h: ((a)[ix]?) =some b)(h1:aYu b a node c d ix xs g)(h2: (c==node) =true)(j:aYs b a node c d ix xs e)(k:aYq e b d a node c ix xs f) :
  LeadsM PP 10 (iW node c d xs ix a op i ks ps).as (aCp node c d xs ix a op i ks ps f).as:=
 lK (n1:=18) (ks:=[11,16,17,15]) (W:=[some (.lst 1 ((List.map aU a).set ix (.ptr 16 0))),some (.loop .busy none 93 (dO [kp 2 8]) 19 [6] (kd f93 28) (kd f93 29) 4),some (.cells (putCells .leaf 0 [(.ptr 0 0)]) 1 [] false),some (.defd false),some (.cells (putCells .leaf 0 [(bV false)]) 1 [] false),some (.loop .busy none 74 (dO [kp 3 9,kp 5 5]) 41 [10] (kd f74 436) (kd f74 437) 7),some (.defd false),some (.cells (putCells .leaf 0 [(.yield 6)]) 1 [] false),some (.cells (putCells .leaf 0 [(nI node)]) 1 [] false),some (.cells (putCells .leaf 0 [(nI c),(nI d),(.ep 1 1 ix 0)]) 3 [] false),some gh,some (.zone true [16] (Z1 f)),some (.zone true [] (ZV a (set (List.map some xs) ix none)))]) (wc (zS aC) (wc aC (wc aC (wc aC (wc aC (wc aC (wc aC (wc aC (wc aC (wc aC (wc aC (wc aC (wc aC wn))))))))))))) (ps:=[(List.map aU a)[ix]?=some (aU b),aYu b a node c d ix xs g,(c==node) =true,(List.map aU a)[ix]?=some (aU b),aYs b a node c d ix xs e,(List.map aU a)[ix]?=some (aU b),aYq e b d a node c ix xs f,(List.map aU a)[ix]?=some (aU b),kY (aU b) 0 [(.ptr 16 0)] =some (ptr 16 0),(ep 1 1 ix 0) = (ep 1 1 ix 0),(ep 1 1 ix 0) = (ep 1 1 ix 0)]) (is:=[.run 4,.ans (.idx (aU b)),.call (.iface 193 (nI g)) (aCn a node c d ix xs),.run 20,.b 11 true,.run 6,.ans (.idx (aU b)),.call (.iface 193 (nI e)) (aSO a node c d ix xs),.run 3,.reg [.d,.d,.d,.d,.d,.d,.ans (.idx (aU b)),.d,.d,.d,.d,.d,.call (.ptr 16 0) (aSM a node c d ix xs f),.d,.st (aU b) (.ptr 16 0)]]) aC aC trivial ⟨(bP h),h1,h2,(bP h),j,(bP h),k,(bP h),rfl,rfl,rfl⟩
theorem aYL (node c d:Int)(xs:List XT)(ix:Nat)(a: (List (Nat×Nat)))(op g:Int)(ks:List XT)(ps:List Pat)(b: (Nat×Nat))(e:XT)(f: ((a)[ix]?) =some b)(h1:aYt b a node c d ix xs)(h2: (c==node) =true)(i:aYr b a node c d ix xs)(h:aYp b d a node c ix xs e) :
  LeadsM PP 10 (iW node c d xs ix a op g ks ps).as (aCp node c d xs ix a op g ks ps e).as:=
 lK (n1:=18) (ks:=[11,16,17,15]) (W:=[some (.lst 1 ((List.map aU a).set ix (.ptr 16 0))),some (.loop .busy none 93 (dO [kp 2 8]) 19 [6] (kd f93 28) (kd f93 29) 4),some (.cells (putCells .leaf 0 [(.ptr 0 0)]) 1 [] false),some (.defd false),some (.cells (putCells .leaf 0 [(bV false)]) 1 [] false),some (.loop .busy none 74 (dO [kp 3 9,kp 5 5]) 41 [10] (kd f74 436) (kd f74 437) 7),some (.defd false),some (.cells (putCells .leaf 0 [(.yield 6)]) 1 [] false),some (.cells (putCells .leaf 0 [(nI node)]) 1 [] false),some (.cells (putCells .leaf 0 [(nI c),(nI d),(.ep 1 1 ix 0)]) 3 [] false),some gh,some (.zone true [16] (Z1 e)),some (.zone true [] (ZV a (set (List.map some xs) ix none)))]) (wc (zS aC) (wc aC (wc aC (wc aC (wc aC (wc aC (wc aC (wc aC (wc aC (wc aC (wc aC (wc aC (wc aC wn))))))))))))) (ps:=[(List.map aU a)[ix]?=some (aU b),aYt b a node c d ix xs,(c==node) =true,(List.map aU a)[ix]?=some (aU b),aYr b a node c d ix xs,(List.map aU a)[ix]?=some (aU b),aYp b d a node c ix xs e,(List.map aU a)[ix]?=some (aU b),kY (aU b) 0 [(.ptr 16 0)] =some (ptr 16 0),(ep 1 1 ix 0) = (ep 1 1 ix 0),(ep 1 1 ix 0) = (ep 1 1 ix 0)]) (is:=[.run 4,.ans (.idx (aU b)),.call aLk (aCn a node c d ix xs),.run 20,.b 11 true,.run 6,.ans (.idx (aU b)),.call aLk (aSO a node c d ix xs),.run 3,.reg [.d,.d,.d,.d,.d,.d,.ans (.idx (aU b)),.d,.d,.d,.d,.d,.call (.ptr 16 0) (aSM a node c d ix xs e),.d,.st (aU b) (.ptr 16 0)]]) aC aC trivial ⟨(bP f),h1,h2,(bP f),i,(bP f),h,(bP f),rfl,rfl,rfl⟩
theorem aOf (f n:Int)(s:cA)(ps:List Pat)(hl:ps.length<1000000)(j:∀p∈ps,aJ PP 201 [Pat.av p] (.int .i64 (bnm p))) :
  ∀ (t:List Pat) (i:Nat) (a:Int),0≤a→a+qY t≤1000000→ps.drop i=t→Ends PP 0 (aKV f n s ps a (i:Int)).as (.ret (.int .i64 (a+qY t))) (aA [] 0)
 | [],i,a,_,_,h=>by
  have:=bJ h;exact Ends.eqv (bBs f n s ps a i sd) (by simp [qY])
 | .mk e d c b::t,i,a,q,hb,h=>by
  obtain⟨k,l,r⟩ :=bE h;have g:=j _ (iO k);have o:=aGL (.mk e d c b);have m:=zY t;rw [qY]at hb ⊢;refine(bBr f n s ps a i e d c b _ sd sd sd g sd sd).ends ?_;exact Ends.eqv (aOf f n s ps hl j t (i+1) (a+bnm (.mk e d c b)) (by omega) (by omega) l) (by rw [Int.add_assoc])
mutual
theorem aGX :∀ (p:Pat),cB p<100000→aJ PP 201 [Pat.av p] (.int .i64 (bnm p))
 | .mk f n s a,h=>by
  refine aO aC (by simp [keylessL,mF]) rfl ?_;simp only [cB]at h;have:=eT a;have b:=zY a;by_cases g:f=2
  · subst g;exact Ends.eqv (bBp 2 n s a rfl) (by simp [bnm])
  · refine(bBq f n s a (by simpa using g)).ends ?_;exact Ends.eqv (aOf f n s a (by omega) (aSP a (by omega)) a 0 0 (by omega) (by omega) rfl) (by simp [bnm,g])
theorem aSP :∀ (b:List Pat),aT b<100000→∀p∈b,aJ PP 201 [Pat.av p] (.int .i64 (bnm p))
 | [],_,p,a=>by cases a
 | q::b,h,p,a=>by
  simp only [aT]at h;rcases zq7.1 a with e|a
  ·rw [e];exact aGX q (by omega)
  ·exact aSP b (by omega) p a
end
def bI (o:Int)(ps:List Pat)(k:Int) :Int:=eR ⟨o,0,[],ps⟩ k
def fK (o:Int) :Bool:=decide (o=8) ||decide (o=15) ||decide (o=16) ||decide (o=17) ||decide (o=19) ||decide (o=20) ||decide (o=23) ||decide (o=24)
def kP (o:Int) :Bool:=decide (o=6) ||decide (o=9) ||decide (o=10) ||decide (o=11) ||decide (o=12) ||decide (o=13) ||decide (o=18) ||decide (o=22) ||decide (o=14)
def bL (o:Int)(l:Nat) :Nat:=if fK o then 1 else if kP o then l else 0
def bK (t:XT) :Bool:=decide (t.op=1) ||decide (t.op=2) ||decide (t.op=3) ||decide (t.op=4)
mutual
def FineX (B:Int) :XT→Prop
 | .mk o n ks ps=> (o=4→n≤B) ∧ks.length≤1000∧ (∀q∈ps,cB q≤1000) ∧ (o=15→ks.length=1+ps.length) ∧ (o=7→ks.length=2) ∧ (bL o ks.length≤ks.length∧ps.length≤900∧ (kP o=true→o≠14→ks.length=2) ∧ (∀q∈ps,bnm q=rnm q)) ∧FineXs B ks
def FineXs (B:Int) :List XT→Prop
 | [] =>True
 |t::ts=>FineX B t∧FineXs B ts
end
theorem fineXs_iff {B:Int}:∀ {ts:List XT},FineXs B ts↔∀t∈ts,FineX B t
 | [] =>by simp [FineXs]
 |t::ts=>by simp only [FineXs,fineXs_iff (ts:=ts),zq7];exact⟨fun h x a=>by rcases a with rfl|a;exact h.1;exact h.2 x a,fun h=> ⟨h t (.inl rfl),fun x a=>h x (.inr a)⟩⟩
mutual
theorem FineX.ok {B:Int}(hB:B≤1000000) :∀ {t:XT},FineX B t→OkT t
 | .mk o n b a,h=>by
  simp only [FineX]at h;simp only [OkT];exact⟨fun e=>Int.le_trans (h.1 e) hB,by omega,FineXs.ok hB h.2.2.2.2.2.2⟩
theorem FineXs.ok {B:Int}(hB:B≤1000000) :∀ {a:List XT},FineXs B a→aK9 a
 | [],_=>trivial
 |t::a,h=> ⟨FineX.ok hB h.1,FineXs.ok hB h.2⟩
end
theorem qL {o:Int}{ps:List Pat}(h:∀q∈ps,cB q≤1000)(k:Int) :0≤bI o ps k∧bI o ps k≤1000:=by
 unfold bI eR;simp only;split
 ·omega
 · split
   · split
     · rename_i q a;have:=h q (iO a);have:=aGL q;omega
     ·omega
   ·omega
section
variable (o n:Int) (ks:List XT) (ps:List Pat)
theorem aGY (k:Int)(R:Int→Prop)(h1:o=5∨o=27∨ (o=7∧k=1) →R 1)(h2:¬ (o=5∨o=27∨ (o=7∧k=1)) →o=15→0<k→∀q,ps[(k-1).toNat]?=some q→R (bnm q))(hp:o=15→0<k→∃q,ps[(k-1).toNat]?=some q)
  (d:¬ (o=5∨o=27∨ (o=7∧k=1)) →¬ (o=15∧0<k) →R 0) :R (bI o ps k) :=by
 unfold bI eR;simp only;by_cases a:o=5∨o=27∨ (o=7∧k=1)
 ·rw [if_pos a];exact h1 a
 · rw [if_neg a];by_cases b:o=15∧k>0
   · rw [if_pos b];obtain⟨q,c⟩ :=hp b.1 b.2;rw [c];exact h2 a b.1 b.2 q c
   ·rw [if_neg b];exact d a b
theorem bCX (j:∀q∈ps,cB q≤1000)(k:Int)(hk:0≤k∧k≤1000)(hp:o=15→0<k→∃q,ps[(k-1).toNat]?=some q) :
  gI PP 2 (.enter 178 [.ptr 0 0,.int .i64 k]) (aA [(0,(.cells (putCells .leaf 0 [(.int .i64 o),(.int .i64 n),(.gl 1 1 0 (length ks) false),(.ilst 4 (av ps) false)]) 4 [] false),false),(1,gh,false)] 2) (.ret (.int .i64 (bI o ps k))) (aA [(0,(.cells (putCells .leaf 0 [(.int .i64 o),(.int .i64 n),(.gl 1 1 0 (length ks) false),(.ilst 4 (av ps) false)]) 4 [] false),false),(1,gh,false)] 2) :=by
 refine⟨(bFi o n ks ps k).as.fr,by kernel_rfl,?_⟩;refine aGY o ps k (fun z=>Ends PP 2 _ (.ret (.int .i64 z)) _) (fun h=>?_) (fun h g i q f=>?_) hp (fun h l=>?_)
 · by_cases a:o=5
   ·exact bCI o n ks ps k (by simpa using a)
   · by_cases b:o=27
     ·exact bCJ o n ks ps k (by simpa using a) (by simpa using b)
     · have c:o=7∧k=1:=by omega
       exact bCK o n ks ps k (by simpa using a) (by simpa using b) (by simpa using c.1) (by simpa using c.2)
 · obtain⟨a,b,c,d⟩ :=q;have:=j _ (iO f);exact bCM o n ks ps k a b c d _ (by simp;omega) (by simp;omega) (by simp;omega) (by simpa using g) sd sd (by omega) f (aGX (.mk a b c d) (by omega))
 · have a:¬o=5:=fun e=>h (.inl e);have b:¬o=27:=fun e=>h (.inr (.inl e));by_cases c:o=7
   · have d:¬k=1:=fun e=>h (.inr (.inr ⟨c,e⟩));exact bCL o n ks ps k (by simpa using a) (by simpa using b) (by simpa using c) (by simpa using d) (by simp;omega)
   · by_cases e:o=15
     ·exact bCN o n ks ps k (by simpa using a) (by simpa using b) (by simpa using c) (by simpa using e) (by simp;omega)
     ·exact bCO o n ks ps k (by simpa using a) (by simpa using b) (by simpa using c) (by simpa using e)
theorem aOg :aJ PP 138 [XT.av (.mk o n ks ps)] (.bool (bK (.mk o n ks ps))) :=by
 refine aO aC (by simp [keylessL,aMU]) rfl ?_;show Ends PP 0 _ (.ret (.bool (decide (o=1) ||decide (o=2) ||decide (o=3) ||decide (o=4)))) _;by_cases a:o=1
 · rw [show(decide (o=1) ||decide (o=2) ||decide (o=3) ||decide (o=4)) =true by simp [a]];exact bBA o n ks ps (by simpa using a)
 by_cases b:o=2
 · rw [show(decide (o=1) ||decide (o=2) ||decide (o=3) ||decide (o=4)) =true by simp [b]];exact bBB o n ks ps (by simpa using a) (by simpa using b)
 by_cases c:o=3
 · rw [show(decide (o=1) ||decide (o=2) ||decide (o=3) ||decide (o=4)) =true by simp [c]];exact bBC o n ks ps (by simpa using a) (by simpa using b) (by simpa using c)
 by_cases d:o=4
 · rw [show(decide (o=1) ||decide (o=2) ||decide (o=3) ||decide (o=4)) =true by simp [d]];exact bBD o n ks ps (by simpa using a) (by simpa using b) (by simpa using c) (by simpa using d)
 rw [show(decide (o=1) ||decide (o=2) ||decide (o=3) ||decide (o=4)) =false by simp [a,b,c,d]];exact bBE o n ks ps (by simpa using a) (by simpa using b) (by simpa using c) (by simpa using d)
theorem aYM :aJ PP 137 [XT.av (.mk o n ks ps)] (.int .i64 ((bL o ks.length:Nat) :Int)) :=by
 refine aO aC (by simp [keylessL,aMU]) rfl ?_;by_cases b:o=8
 · have e:bL o ks.length=1:=by unfold bL fK;simp [b]
   rw [e];exact bBF o n ks ps (by simpa using b)
 by_cases d:o=15
 · have e:bL o ks.length=1:=by unfold bL fK;simp [d]
   rw [e];exact bBG o n ks ps (by simpa using b) (by simpa using d)
 by_cases f:o=16
 · have e:bL o ks.length=1:=by unfold bL fK;simp [f]
   rw [e];exact bBH o n ks ps (by simpa using b) (by simpa using d) (by simpa using f)
 by_cases h:o=17
 · have e:bL o ks.length=1:=by unfold bL fK;simp [h]
   rw [e];exact bBI o n ks ps (by simpa using b) (by simpa using d) (by simpa using f) (by simpa using h)
 by_cases i:o=19
 · have e:bL o ks.length=1:=by unfold bL fK;simp [i]
   rw [e];exact bBJ o n ks ps (by simpa using b) (by simpa using d) (by simpa using f) (by simpa using h) (by simpa using i)
 by_cases k:o=20
 · have e:bL o ks.length=1:=by unfold bL fK;simp [k]
   rw [e];exact bBK o n ks ps (by simpa using b) (by simpa using d) (by simpa using f) (by simpa using h) (by simpa using i) (by simpa using k)
 by_cases l:o=23
 · have e:bL o ks.length=1:=by unfold bL fK;simp [l]
   rw [e];exact bBL o n ks ps (by simpa using b) (by simpa using d) (by simpa using f) (by simpa using h) (by simpa using i) (by simpa using k) (by simpa using l)
 by_cases m:o=24
 · have e:bL o ks.length=1:=by unfold bL fK;simp [m]
   rw [e];exact bBM o n ks ps (by simpa using b) (by simpa using d) (by simpa using f) (by simpa using h) (by simpa using i) (by simpa using k) (by simpa using l) (by simpa using m)
 by_cases q:o=6
 · have e:bL o ks.length=ks.length:=by unfold bL fK kP;simp [q]
   rw [e];exact bBN o n ks ps (by simpa using b) (by simpa using d) (by simpa using f) (by simpa using h) (by simpa using i) (by simpa using k) (by simpa using l) (by simpa using m) (by simpa using q)
 by_cases s:o=9
 · have e:bL o ks.length=ks.length:=by unfold bL fK kP;simp [s]
   rw [e];exact bBO o n ks ps (by simpa using b) (by simpa using d) (by simpa using f) (by simpa using h) (by simpa using i) (by simpa using k) (by simpa using l) (by simpa using m) (by simpa using q) (by simpa using s)
 by_cases a:o=10
 · have e:bL o ks.length=ks.length:=by unfold bL fK kP;simp [a]
   rw [e];exact aXQ o n ks ps (by simpa using b) (by simpa using d) (by simpa using f) (by simpa using h) (by simpa using i) (by simpa using k) (by simpa using l) (by simpa using m) (by simpa using q) (by simpa using s) (by simpa using a)
 by_cases c:o=11
 · have e:bL o ks.length=ks.length:=by unfold bL fK kP;simp [c]
   rw [e];exact aXR o n ks ps (by simpa using b) (by simpa using d) (by simpa using f) (by simpa using h) (by simpa using i) (by simpa using k) (by simpa using l) (by simpa using m) (by simpa using q) (by simpa using s) (by simpa using a) (by simpa using c)
 by_cases g:o=12
 · have e:bL o ks.length=ks.length:=by unfold bL fK kP;simp [g]
   rw [e];exact aXS o n ks ps (by simpa using b) (by simpa using d) (by simpa using f) (by simpa using h) (by simpa using i) (by simpa using k) (by simpa using l) (by simpa using m) (by simpa using q) (by simpa using s) (by simpa using a) (by simpa using c) (by simpa using g)
 by_cases j:o=13
 · have e:bL o ks.length=ks.length:=by unfold bL fK kP;simp [j]
   rw [e];exact aXT o n ks ps (by simpa using b) (by simpa using d) (by simpa using f) (by simpa using h) (by simpa using i) (by simpa using k) (by simpa using l) (by simpa using m) (by simpa using q) (by simpa using s) (by simpa using a) (by simpa using c) (by simpa using g) (by simpa using j)
 by_cases p:o=18
 · have e:bL o ks.length=ks.length:=by unfold bL fK kP;simp [p]
   rw [e];exact aXU o n ks ps (by simpa using b) (by simpa using d) (by simpa using f) (by simpa using h) (by simpa using i) (by simpa using k) (by simpa using l) (by simpa using m) (by simpa using q) (by simpa using s) (by simpa using a) (by simpa using c) (by simpa using g) (by simpa using j) (by simpa using p)
 by_cases r:o=22
 · have e:bL o ks.length=ks.length:=by unfold bL fK kP;simp [r]
   rw [e];exact aXV o n ks ps (by simpa using b) (by simpa using d) (by simpa using f) (by simpa using h) (by simpa using i) (by simpa using k) (by simpa using l) (by simpa using m) (by simpa using q) (by simpa using s) (by simpa using a) (by simpa using c) (by simpa using g) (by simpa using j) (by simpa using p) (by simpa using r)
 by_cases t:o=14
 · have e:bL o ks.length=ks.length:=by unfold bL fK kP;simp [t]
   rw [e];exact aXW o n ks ps (by simpa using b) (by simpa using d) (by simpa using f) (by simpa using h) (by simpa using i) (by simpa using k) (by simpa using l) (by simpa using m) (by simpa using q) (by simpa using s) (by simpa using a) (by simpa using c) (by simpa using g) (by simpa using j) (by simpa using p) (by simpa using r) (by simpa using t)
 have e:bL o ks.length=0:=by unfold bL fK kP;simp [b,d,f,h,i,k,l,m,q,s,a,c,g,j,p,r,t]
 rw [e];exact aXX o n ks ps (by simpa using b) (by simpa using d) (by simpa using f) (by simpa using h) (by simpa using i) (by simpa using k) (by simpa using l) (by simpa using m) (by simpa using q) (by simpa using s) (by simpa using a) (by simpa using c) (by simpa using g) (by simpa using j) (by simpa using p) (by simpa using r) (by simpa using t)
def cX :List XT→Nat→Nat→Option Nat
 | [],_,_=>none
 |_::_,_,0=>none
 |t::ts,i,m+1=>if bK t then cX ts (i+1) m else some i
def cY :XT→Option (Option Nat)
 | .mk o _ ks _=>if o=7 then(match ks[0]? with|some t=>if t.op=7 then some none else none|none=>none)else(cX ks 0 (bL o ks.length)).map some
noncomputable def aSQ:Option (Option Nat) →AV
 |none=>.nili
 |some none=>.iface 191 (.agg [])
 |some (some k) =>.iface 193 (.int .i64 (k:Int))
theorem aOh (hl:ks.length≤1000)(l:bL o ks.length≤ks.length) :∀ (g:List XT) (i m:Nat),ks.drop i=g→i+m=bL o ks.length →
  Ends PP 0 (aKW o n ks ps ((bL o ks.length:Nat) :Int) (i:Int)).as (.ret (aSQ ((cX g i m).map some))) (aA [] 0)
 | g,i,0,h,hm=>by
  have e:cX g i 0=none:=by cases g<;>rfl
  rw [e];exact bBU o n ks ps _ (i:Int) sd
 | [],i,m+1,h,hm=>by have:=bJ h;omega
 | .mk a b c d::g,i,m+1,h,hm=>by
  obtain⟨q,k,p⟩ :=bE h;cases j:bK (.mk a b c d)
  case false=>
   have e:cX (.mk a b c d::g) i (m+1) =some i:=by simp [cX,j]
   rw [e];have f:=aOg a b c d;rw [j]at f;exact bBS o n ks ps _ (i:Int) a b c d false sd sd sd f rfl
  have e:cX (.mk a b c d::g) i (m+1) =cX g (i+1) m:=by simp [cX,j]
  rw [e];have f:=aOg a b c d;rw [j]at f;refine(bBT o n ks ps _ (i:Int) a b c d true sd sd sd f rfl sd).ends ?_;exact aOh hl l g (i+1) m k (by omega)
end
theorem aOi {B:Int}:∀ {t:XT},FineX B t→aJ PP 95 [XT.av t] (aSQ (cY t))
 | .mk o n f i,h=>by
  simp only [FineX]at h;obtain⟨_,m,_,_,l,p,_⟩ :=h;refine aO aC (by simp [keylessL,aMU]) ?_ ?_
  · generalize cY (.mk o n f i) =s
    match s with
    |none=>rfl
    |some none=>rfl
    |some (some k) =>rfl
  · by_cases e:o=7
    · have hl:=l e;obtain⟨⟨a,b,c,d⟩,hk⟩ :∃t0,f[0]?=some t0:= ⟨_,kH (by omega)⟩
      · by_cases g:a=7
        · have j:cY (.mk o n f i) =some none:=by simp [cY,e,hk,XT.op,g]
          rw [j];exact bBP o n f i a b c d (by simpa using e) (by omega) hk (by simpa using g)
        · have j:cY (.mk o n f i) =none:=by simp [cY,e,hk,XT.op,g]
          rw [j];exact bBQ o n f i a b c d (by simpa using e) (by omega) hk (by simpa using g)
    · have j:cY (.mk o n f i) = (cX f 0 (bL o f.length)).map some:=by simp [cY,e]
      rw [j];refine(bBR o n f i _ (by simpa using e) (aYM o n f i)).ends ?_;exact aOh o n f i m p.1 f 0 _ rfl (by omega)
theorem aRu (s:Option (Option Nat)) :aGs (aSQ s) :=by
 match s with
 |none=>exact aUb
 |some none=>exact aGt aUc
 |some (some k) =>exact aGt aMZ
def dXT :XT:=.mk 0 0 [] []
def gW (sz:Int) :Option Nat→XT→XT
 |some k,.mk o n ks ps=>dnT sz k o n ks ps (ks.getD k dXT)
 |none,.mk _ _ ks _=>neT sz ((ks.getD 0 dXT).kids.getD 0 dXT) ((ks.getD 0 dXT).kids.getD 1 dXT) (ks.getD 1 dXT)
inductive AtR (α:Type) where
 |go (n:Int)
 |past
 |did (x:α)
mutual
def atT (node:Int) :XT→Int→Int→AtR XT
 | .mk o n ks ps,n0,z0=>
  match cY (.mk o n ks ps)with
  | some s=>if n0=node then .did (gW z0 s (.mk o n ks ps))else if n0>node then .past else
   (match iL node o ps ks 0 (n0+1) z0 with
   | .go m=>.go m
   | .past=>.past
   | .did ks'=>.did (.mk o n ks' ps))
  | none=> (match iL node o ps ks 0 (n0+1) z0 with
   | .go m=>.go m
   | .past=>.past
   | .did ks'=>.did (.mk o n ks' ps))
def iL (node:Int)(o:Int)(ps:List Pat) :List XT→Nat→Int→Int→AtR (List XT)
 | [],_,n,_=>.go n
 | t::ts,i,n,z=>
  match atT node t n (z+bI o ps (i:Int))with
  | .go m=> (match iL node o ps ts (i+1) m z with
   | .go m'=>.go m'
   | .past=>.past
   | .did ts'=>.did (t::ts'))
  | .past=>.past
  | .did t'=>.did (t'::ts)
end
mutual
def cK :XT→Nat
 | .mk _ _ ks _=>aD ks+1
def aD :List XT→Nat
 | [] =>0
 |t::ts=>cK t+aD ts
end
mutual
theorem aRv (node:Int) :∀ (t:XT) (a b m:Int),atT node t a b= .go m→m=a+ (cK t:Nat)
 | .mk o n d f,a,b,m,h=>by
  have hk:∀c,iL node o f d 0 (a+1) b= .go c→c=a+ ((aD d+1:Nat) :Int) :=fun c e=>by
   have:=aSR node o f d 0 (a+1) b c e;omega
  simp only [atT]at h;simp only [cK];split at h
  · split at h
    ·cases h
    · split at h
      ·cases h
      · split at h
        ·rename_i e;cases h;exact hk _ e
        ·cases h
        ·cases h
  · split at h
    ·rename_i e;cases h;exact hk _ e
    ·cases h
    ·cases h
theorem aSR (node o:Int)(ps:List Pat) :∀ (a:List XT) (i:Nat) (n z m:Int),iL node o ps a i n z= .go m→m=n+ (aD a:Nat)
 | [],i,n,z,m,h=>by simp only [iL]at h;cases h;simp [aD]
 | t ::a,i,n,z,m,h=>by
  simp only [iL]at h;split at h
  · rename_i b e;have g:=aRv node t n _ b e;split at h
    · rename_i f c;cases h;have d:=aSR node o ps a (i+1) b z _ c;simp only [aD];omega
    ·cases h
    ·cases h
  ·cases h
  ·cases h
end
abbrev ATH (o1:AObj)(f1:Bool)(s1:LoopState)(p1:Option Code)(s2:LoopState)(p2:Option Code)(b:Bool)(node:Int)(tl:HL) :HL:= (1,o1,f1) :: (2,(.loop s1 p1 93 (dO [(2,(.ptr 8 0))]) 19 [6] (cd Tryz.f93 [1,1,0,0]) (cd Tryz.f93 [1,1,0,1]) 4),false) :: (3,(.cells (putCells .leaf 0 [(.ptr 0 0)]) 1 [] false),false) :: (4,(.defd false),false) :: (5,(.cells (putCells .leaf 0 [(.bool b)]) 1 [] false),false) :: (6,(.loop s2 p2 74 (dO [(3,(.ptr 9 0)),(5,(.ptr 5 0))]) 41 [10] (cd Tryz.f74 [1,0,1,1,0,1,0,0]) (cd Tryz.f74 [1,0,1,1,0,1,0,1]) 7),false) :: (7,(.defd false),false) :: (8,(.cells (putCells .leaf 0 [(.yield 6)]) 1 [] false),false) :: (9,(.cells (putCells .leaf 0 [(.int .i64 node)]) 1 [] false),false) ::tl
abbrev ATr (node:Int)(xs:List XT) :HL:=ATH gh false .ready none .ready none false node [(10,(.zone true [1] (cQ xs)),false)]
abbrev ATd (b:Bool)(node:Int)(xs:List XT) :HL:=ATH gh false .done (some .ret) .done (some (.exit 0)) b node [(10,(.zone true [1] (cQ xs)),false)]
def btV :AtR XT→AV
 | .go n=>.int .i64 n
 |_=>.int .i64 (-1)
def btH (node:Int)(xs:List XT)(ix:Nat) :AtR XT→HL
 | .go _=>ATr node xs
 | .past=>ATd false node xs
 | .did t'=>ATd true node (xs.set ix t')
def BtS (node:Int)(xs:List XT)(ix:Nat)(n0 z0:Int)(r:AtR XT) :Prop:=gI PP 10 (.enter 136 [.agg [.int .i64 n0,.int .i64 z0,.ep 1 1 ix 0],.yield 2]) (aA (ATr node xs) 11) (.ret (btV r)) (aA (btH node xs ix r) 11)
def BtE (s:AS)(node:Int)(xs:List XT)(ix:Nat)(r:AtR XT) :Prop:=Ends PP 10 s (.ret (btV r)) (aA (btH node xs ix r) 11)
def qM (o n:Int)(ps:List Pat)(pre:List XT) :AtR (List XT) →AtR XT
 | .go m=>.go m
 | .past=>.past
 | .did ks'=>.did (.mk o n (pre++ks') ps)
section
variable {s :AS} {v:AV} {s1 s2:LoopState} {p1 p2:Option Code} {b:Bool} {node:Int}
theorem aG0 {a:List (Nat×Nat)}{xs:List XT}(c:xs≠ [])(d:∀f,ren f v=v)(e:Ends PP 10 s (.ret v) (aA (ATH (.lst 1 (List.map aU a)) true s1 p1 s2 p2 b node [(10,(.zone true [] (ZV a (xs.map some))),false)]) 11)) :
  Ends PP 10 s (.ret v) (aA (ATH gh false s1 p1 s2 p2 b node [(10,(.zone true [1] (cQ xs)),false)]) 11) :=by
 have z:kV (aA (ATH (.lst 1 (List.map aU a)) true s1 p1 s2 p2 b node [(10,(.zone true [] (ZV a (xs.map some))),false)]) 11) (aA (ATH gh false s1 p1 s2 p2 b node [(11,(.zone true [1] (cQ xs)),false)]) 12) :=
  aDl (h:=aA (ATH (.lst 1 (List.map aU a)) true s1 p1 s2 p2 b node [(10,(.zone true [] (ZV a (xs.map some))),false)]) 11) (h':=aA (ATH gh false s1 p1 s2 p2 b node [(11,(.zone true [1] (cQ xs)),false)]) 12) (k:=1) (g:=10) (us:=a) (ts:=xs) aC aC c (Nat.le_refl _)
   (aZ ⟨.inl ⟨rfl,rfl⟩,.inr (.inr ⟨by decide,by decide,by kernel_rfl⟩),.inr (.inr ⟨by decide,by decide,by kernel_rfl⟩),.inr (.inr ⟨by decide,by decide,by kernel_rfl⟩),.inr (.inr ⟨by decide,by decide,by kernel_rfl⟩),.inr (.inr ⟨by decide,by decide,by kernel_rfl⟩),.inr (.inr ⟨by decide,by decide,by kernel_rfl⟩),.inr (.inr ⟨by decide,by decide,by kernel_rfl⟩),.inr (.inr ⟨by decide,by decide,by kernel_rfl⟩),.inr (.inl ⟨rfl,rfl⟩),trivial⟩)
 exact iK (ks:=[11]) (rQ e z (show 10≤11 by decide)) (d _) aC aC trivial
theorem aDw {a:List (Nat×Nat)}{xs:List XT}{ix:Nat}{op c:Int}{ks ks':List XT}{ps:List Pat}(r:xs[ix]?=some (.mk op c ks ps))(hl:ks.length=ks'.length)(f:∀q,ren q v=v)
  (e:Ends PP 10 s (.ret v) (aA (ATH (.lst 1 (List.map aU a)) true s1 p1 s2 p2 b node [(10,(.zone true [11] (eY a (set (List.map some xs) ix none) ix)),false),(11,(.cells (putCells .leaf 0 [(.int .i64 op),(.int .i64 c),(.gl 12 1 0 (length ks) false),(.ilst 4 (av ps) false)]) 4 [] false),false),(12,gh,false),(13,(.zone true [12] (cQ ks')),false)]) 14)) :
  Ends PP 10 s (.ret v) (aA (ATH gh false s1 p1 s2 p2 b node [(10,(.zone true [1] (cQ (xs.set ix (.mk op c ks' ps)))),false)]) 11) :=by
 have d:xs.set ix (.mk op c ks' ps) ≠ [] :=fun h=>by
  have t:= (zq0.1 r).1;have o:=congrArg length h;simp only [eG,List.length_nil]at o;omega
 have m:kV (aA (ATH (.lst 1 (List.map aU a)) true s1 p1 s2 p2 b node [(10,(.zone true [11] (eY a (set (List.map some xs) ix none) ix)),false),(11,(.cells (putCells .leaf 0 [(.int .i64 op),(.int .i64 c),(.gl 12 1 0 (length ks) false),(.ilst 4 (av ps) false)]) 4 [] false),false),(12,gh,false),(13,(.zone true [12] (cQ ks')),false)]) 14) (aA (ATH (.lst 1 (List.map aU a)) true s1 p1 s2 p2 b node [(14,(.zone true [] (ZV a (List.map some (xs.set ix (.mk op c ks' ps))))),false)]) 15) :=by
  refine aGr (h:=aA (ATH (.lst 1 (List.map aU a)) true s1 p1 s2 p2 b node [(10,(.zone true [11] (eY a (set (List.map some xs) ix none) ix)),false),(11,(.cells (putCells .leaf 0 [(.int .i64 op),(.int .i64 c),(.gl 12 1 0 (length ks) false),(.ilst 4 (av ps) false)]) 4 [] false),false),(12,gh,false),(13,(.zone true [12] (cQ ks')),false)]) 14) (h':=aA (ATH (.lst 1 (List.map aU a)) true s1 p1 s2 p2 b node [(14,(.zone true [] (ZV a (List.map some (xs.set ix (.mk op c ks' ps))))),false)]) 15)
   (b:=11) (k:=12) (gk:=13) (g:=10) (us:=a) (ts:=set (List.map some xs) ix none) (i:=ix) (op:=op) (n:=c) (ks:=ks') (ps:=ps) (len:=ks.length) (ex:=false) (pv:=.ilst 4 (av ps) false) aC hl (fun _ _ h=>h) aC aC (by decide) (Nat.le_refl _) ?_
  have p: (set (List.map some xs) ix none).set ix (some (.mk op c ks' ps)) =List.map some (xs.set ix (.mk op c ks' ps)) :=by rw [set_set,map_set]
  rw [p];exact aZ ⟨.inr ⟨by decide,by kernel_rfl⟩,.inr ⟨by decide,by kernel_rfl⟩,.inr ⟨by decide,by kernel_rfl⟩,.inr ⟨by decide,by kernel_rfl⟩,.inr ⟨by decide,by kernel_rfl⟩,.inr ⟨by decide,by kernel_rfl⟩,.inr ⟨by decide,by kernel_rfl⟩,.inr ⟨by decide,by kernel_rfl⟩,.inr ⟨by decide,by kernel_rfl⟩,.inl ⟨rfl,rfl⟩,trivial⟩
 have j:=iK (ks:=[14]) (l:=ATH (.lst 1 (List.map aU a)) true s1 p1 s2 p2 b node [(10,(.zone true [] (ZV a (List.map some (xs.set ix (.mk op c ks' ps))))),false)]) (nb:=11) (rQ e m (show 10≤14 by decide)) (f _) aC aC ⟨aLc _,trivial⟩;exact aG0 d f j
end
theorem aDx {B:Int}{h:Hp}{g:Nat}{us:List (Nat×Nat)}{ts:List (Option XT)}{i:Nat}{u:Nat×Nat}{t:XT}(f:h.look g=some (.zone true [] (ZV us ts)))(n:us[i]?=some u)(k:ts[i]?=some (some t))(l:FineX B t) :Spec PP (.enter 95 [aU u]) h (.ret (aSQ (cY t))) h:=
 aEa (aOi l) (aRu _) rfl (fun E H c r hc=>by
  obtain⟨z,j,rfl,d,q⟩ :=hc.cons_inv;rw [q.nil_inv];simp only [aU,VR]at d;subst d;obtain⟨x,w,s⟩ :=r.obj g _ f;obtain⟨v,_,m,b⟩ :=gJ s;obtain⟨a,p,y,e,o,_,_⟩ :=b.out k;rw [n]at e;cases e;exact VRs.cons (aMY r.snap t u p o) (VRs.nil _))
theorem aBc {ks:List XT}:∀ {a:List XT} {i m k:Nat},cX a i m=some k→ks.drop i=a→∃x,ks[k]?=some x∧bK x=false∧k<i+m
 | [],i,m,k,h,_=>by simp [cX]at h
 |_::_,i,0,k,h,_=>by simp [cX]at h
 | t ::j,i,m+1,k,h,hd=>by
  obtain⟨d,e,l⟩ :=bE hd;simp only [cX]at h;split at h
  · obtain⟨x,f,c,g⟩ :=aBc (ks:=ks) h e;exact⟨x,f,c,by omega⟩
  · rename_i b;cases h;exact⟨t,d,by simpa using b,by omega⟩
theorem aBd (node:Int)(o n:Int)(ks:List XT)(ps:List Pat)(a b:Int) :atT node (.mk o n ks ps) a b =
  match cY (.mk o n ks ps)with
  |some s=>if a=node then .did (gW b s (.mk o n ks ps))else if a>node then .past else qM o n ps [] (iL node o ps ks 0 (a+1) b)
  |none=>qM o n ps [] (iL node o ps ks 0 (a+1) b) :=by
 simp only [atT];cases cY (.mk o n ks ps)with
 |none=>cases iL node o ps ks 0 (a+1) b<;>rfl
 |some s=>cases iL node o ps ks 0 (a+1) b<;>rfl
theorem aOj {a:Type}{xs:List a}{i:Nat}{x:a}(h:xs[i]?=some x) :xs.set i x=xs:=by
 apply List.ext_getElem?;intro j;rw [List.getElem?_set];split
 · rename_i b;subst b;rw [if_pos (zq0.1 h).1,h]
 ·rfl
theorem aI7 {a:Type}{xs:List a}{i:Nat}{x:a}(h:xs[i]?=some x) :xs≠ [] :=fun e=>by subst e;simp at h
theorem rV {a:Type}{l:List a}{i:Nat}{x d:a}(h:l[i]?=some x) :l.getD i d=x:=by rw [hQ,h];rfl
section
variable (node B:Int) (hB:B≤1000000)
mutual
theorem aSS (hB:B≤1000000) :∀ (t:XT),FineX B t→∀ (d:List XT) (ix:Nat) (i f:Int),d[ix]?=some t→0≤i→i+ (cK t:Nat) ≤1000000→0≤f→f+1000* (cK t:Nat) ≤1000000000→BtS node d ix i f (atT node t i f)
 | .mk o n ks j,U,d,ix,i,f,G,h0,h1,Z,W=>by
  have D:=U;simp only [FineX]at U;obtain⟨_,f2,f3,f4,f5,f6,X⟩ :=U;simp only [cK]at h1 W;have w: (List.map some d)[ix]?=some (some (.mk o n ks j)) :=by rw [mZ,G];rfl
  have I: (set (List.map some d) ix none)[ix]?=some none:=by rw [List.getElem?_set,if_pos rfl,if_pos (by rw [hJ];exact(zq0.1 G).1)]
  refine⟨(aYx node i f d ix [] o n ks j).as.fr,by kernel_rfl,?_⟩;refine(aYy node i f d ix [] o n ks j).ends (bCU node i f d ix [] o n ks j (aI7 G) fun p V=>?_);obtain⟨u,q⟩ :=eK V (zq0.1 G).1;have below:LeadsM PP 10 (iW node i f d ix p o n ks j).as (aAg node i f d ix p o n ks j u).as→BtE (iW node i f d ix p o n ks j).as node d ix (qM o n j [] (iL node o j ks 0 (i+1) f)) :=fun hl=>
   (hl.trans ((bCW node i f d ix p o n ks j u q w).trans (aYF node i f d ix p o n ks j u))).ends
    (aST hB d ix i f o n ks j p G f2 f3 f4 Z ks 0 (i+1) rfl X (by omega) (by omega) (by omega))
  have did:∀H,LeadsM PP 10 (iW node i f d ix p o n ks j).as (aCp node i f d ix p o n ks j H).as→BtE (iW node i f d ix p o n ks j).as node d ix (.did H) :=fun H hl=>by
   refine hl.ends (bCV node i f d ix p o n ks j H I fun u9=>?_);have e:=aYE node i f d ix p o n ks j H u9;have C: (set (List.map some d) ix none).set ix (some H) =List.map some (d.set ix H) :=by rw [set_set,map_set]
   rw [C]at e
   have N:d.set ix H≠ [] :=fun h=>by
    have Z:= (zq0.1 G).1;have W:=congrArg length h;simp only [eG,List.length_nil]at W;omega
   exact aG0 N (fun _=>rfl) e
  have past:Ends PP 10 (iW node i f d ix p o n ks j).as (.ret (.int .i64 (-1))) (aA (ATH (.lst 1 (List.map aU p)) true .done (some .ret) .done (some (.exit 0)) false node [(10,(.zone true [] (ZV p (d.map some))),false)]) 11) →BtE (iW node i f d ix p o n ks j).as node d ix .past:=fun e=>aG0 (aI7 G) (fun _=>rfl) e;rw [aBd];cases r:cY (.mk o n ks j)with
  | none=>
   have z:∀ {l A g},(aA l A).look g=some (.zone true [] (ZV p (d.map some))) →Spec PP (.enter 95 [aU u]) (aA l A) (.ret .nili) (aA l A) :=fun K=>by
    have:=aDx K q w D;rw [r]at this;exact this
   exact below (aYD node i f d ix p o n ks j u q (z (g:=13) aC) sd)
  | some s =>
   cases s with
   | none =>
    have z:∀ {l A g},(aA l A).look g=some (.zone true [] (ZV p (d.map some))) →Spec PP (.enter 95 [aU u]) (aA l A) (.ret (.iface 191 (.agg []))) (aA l A) :=fun K=>by
     have:=aDx K q w D;rw [r]at this;exact this
    dsimp only;by_cases y:i=node
    · rw [if_pos y];have Y:o=7:=by
       simp only [cY]at r;by_cases g:o=7
       ·exact g
       · rw [if_neg g]at r;cases v:cX ks 0 (bL o ks.length)with
         |none=>rw [v]at r;cases r
         |some k=>rw [v]at r;cases r
      have hl:=f5 Y;obtain⟨⟨T,n2,O,p2⟩,F⟩ :∃t0,ks[0]?=some t0:= ⟨_,kH (by omega)⟩;obtain⟨c,J⟩ :∃t1,ks[1]?=some t1:= ⟨_,kH (by omega)⟩;have Q:T=7:=by
       simp only [cY,if_pos Y,F,XT.op]at r;by_cases g:T=7
       ·exact g
       ·simp [g]at r
      have M:=fineXs_iff.1 X _ (iO F);have R:=fineXs_iff.1 X _ (iO J);simp only [FineX]at M;have hl2:=M.2.2.2.2.1 Q;obtain⟨a,ha⟩ :∃t1,O[0]?=some t1:= ⟨_,kH (by omega)⟩;obtain⟨b,hb⟩ :∃t1,O[1]?=some t1:= ⟨_,kH (by omega)⟩;have S:gW f none (.mk o n ks j) =neT f a b c:=by
       simp only [gW,rV F,rV J,XT.kids,rV ha,rV hb]
      rw [S]
      exact did _ (aYL node i f d ix p o n ks j u (neT f a b c) q (z (g:=13) aC) (by simpa using y) (z (g:=13) aC)
       (wP (m:=0) (ks:=[13]) (bCH p (d.map some) ix u o n ks j T n2 O p2 f a b c F J ha hb (R.ok hB) q w) aC aC trivial trivial))
    · rw [if_neg y];by_cases C:i>node
      · rw [if_pos C];exact past (aYB node i f d ix p o n ks j u q (z (g:=13) aC) (by simpa using y) (by simpa using C))
      · rw [if_neg C];exact below (aYC node i f d ix p o n ks j u q (z (g:=13) aC) (by simpa using y) (by simpa using C) sd)
   | some k=>
    have z:∀ {l A g},(aA l A).look g=some (.zone true [] (ZV p (d.map some))) →Spec PP (.enter 95 [aU u]) (aA l A) (.ret (.iface 193 (.int .i64 (k:Int)))) (aA l A) :=fun K=>by
     have:=aDx K q w D;rw [r]at this;exact this
    dsimp only;by_cases y:i=node
    · rw [if_pos y];obtain⟨x,L⟩ :∃x,ks[k]?=some x:=by
       simp only [cY]at r;by_cases g:o=7
       · rw [if_pos g]at r;split at r
         ·split at r<;>cases r
         ·cases r
       · rw [if_neg g]at r;cases v:cX ks 0 (bL o ks.length)with
         |none=>rw [v]at r;cases r
         | some k'=>
          rw [v]at r;cases r;obtain⟨x,G,_⟩ :=aBc v (rfl:ks.drop 0=ks);exact⟨x,G⟩
      have S:gW f (some k) (.mk o n ks j) =dnT f k o n ks j x:=by simp only [gW,rV L]
      rw [S]
      exact did _ (aYK node i f d ix p o n ks j u (k:Int) (k:Int) (dnT f k o n ks j x) q (z (g:=13) aC) (by simpa using y) (z (g:=13) aC)
       (wP (m:=0) (ks:=[13]) (bCG p (d.map some) ix u o n ks j k f x L q w (D.ok hB)) aC aC trivial trivial))
    · rw [if_neg y];by_cases C:i>node
      · rw [if_pos C];exact past (aYz node i f d ix p o n ks j u (k:Int) q (z (g:=13) aC) (by simpa using y) (by simpa using C))
      · rw [if_neg C];exact below (aYA node i f d ix p o n ks j u (k:Int) q (z (g:=13) aC) (by simpa using y) (by simpa using C) sd)
theorem aST (hB:B≤1000000)(xs:List XT)(ix:Nat)(g a:Int)(o n:Int)(ks:List XT)(ps:List Pat)(f:List (Nat×Nat))(j:xs[ix]?=some (.mk o n ks ps))(G:ks.length≤1000)(s:∀q∈ps,cB q≤1000)(u:o=15→ks.length=1+ps.length)(h2:0≤a) :
  ∀ (tl:List XT) (i:Nat) (b:Int),ks.drop i=tl→FineXs B tl→0≤b→b+ (aD tl:Nat) ≤1000000→a+1000+1000* (aD tl:Nat) ≤1000000000→BtE (aFh node g a xs ix f o n ks ps b (i:Int)).as node xs ix (qM o n ps (ks.take i) (iL node o ps tl i b a))
 | [],i,b,h,_,_,_,_=>by
  have:=bJ h;simp only [iL,qM];have e:=aDw (ks':=ks) j rfl (fun _=>rfl) (aYJ node g a xs ix f o n ks ps b (i:Int) sd);rw [aOj j]at e;exact e
 | t ::tl,i,b,h,p,y,D,z=>by
  obtain⟨v,w,A⟩ :=bE h;simp only [FineXs]at p;simp only [aD]at D z;have I:=qL (o:=o) s (i:Int);have k:IntKind.i64.wrap (a+bI o ps (i:Int)) =a+bI o ps (i:Int) :=wrap64 (by omega) (by omega);have c:0+ ((i:Nat) :Int).toNat=i:=by rw [oM];omega
  have hb:=aSS hB t p.1 ks i b (a+bI o ps (i:Int)) v y (by omega) (by omega) (by omega);rw [←k,←c]at hb
  have x:o=15→0< (i:Int) →∃q,ps[((i:Int) -1).toNat]?=some q:=fun r H=>by
   have:=u r;exact⟨_,kH (by omega)⟩
  have d:=bCX o n ks ps s (i:Int) ⟨by omega,by omega⟩ x;simp only [iL];rw [c,k]at hb;cases hr:atT node t b (a+bI o ps (i:Int))with
  | go m=>
   rw [hr]at hb;have hm:=aRv node t b _ m hr;refine(aYI node g a xs ix f o n ks ps b (i:Int) (bI o ps (i:Int)) m sd (wP (m:=2) (ks:=[11,12]) d aC aC trivial trivial) sd sd (aVz k c (wP (m:=10) (ks:=[0,12,2,3,4,5,6,7,8,9,14]) hb aC aC trivial trivial)) sd sd).ends ?_;have e:=aST hB xs ix g a o n ks ps f j G s u h2 tl (i+1) m w p.2 (by omega) (by omega) (by omega);rw [←take_succ' v]at e;have F:qM o n ps (ks.take i++ [t]) (iL node o ps tl (i+1) m a) =qM o n ps (ks.take i) (match iL node o ps tl (i+1) m a with| .go m'=>.go m'| .past=>.past| .did ts'=>.did (t::ts')) :=by
    cases iL node o ps tl (i+1) m a<;>simp [qM]
   rw [F]at e;exact e
  | past=>
   rw [hr]at hb;have e:=aDw (ks':=ks) j rfl (fun _=>rfl) (aYG node g a xs ix f o n ks ps b (i:Int) (bI o ps (i:Int)) sd (wP (m:=2) (ks:=[11,12]) d aC aC trivial trivial) sd sd (aVz k c (wP (m:=10) (ks:=[0,12,2,3,4,5,6,7,8,9,14]) hb aC aC trivial trivial)));rw [aOj j]at e;exact e
  | did l=>
   rw [hr]at hb;have e:=aDw (ks':=ks.set i l) j (by simp) (fun _=>rfl) (aYH node g a xs ix f o n ks ps b (i:Int) (bI o ps (i:Int)) (ks.set i l) sd (wP (m:=2) (ks:=[11,12]) d aC aC trivial trivial) sd sd (aVz k c (wP (m:=10) (ks:=[0,12,2,3,4,5,6,7,8,9,14]) hb aC aC trivial trivial)));have C:ks.set i l=ks.take i++l::tl:=by rw [List.set_eq_take_append_cons_drop,if_pos A,w]
   simp only [qM];rw [←C];exact e
end
end
def atF (node:Int) :List XT→Int→AtR (List XT)
 | [],n=>.go n
 | t::ts,n=>match atT node t n 1 with
  | .go m=> (match atF node ts m with
   | .go m'=>.go m'
   | .past=>.past
   | .did ts'=>.did (t::ts'))
  | .past=>.past
  | .did t'=>.did (t'::ts)
def AtR.isDid {α:Type}:AtR α→Bool
 | .did _=>true
 |_=>false
def AtR.getD {α:Type}(d:α) :AtR α→α
 | .did x=>x
 |_=>d
def AtR.map {α β:Type}(f:α→β) :AtR α→AtR β
 | .go n=>.go n
 | .past=>.past
 | .did x=>.did (f x)
abbrev FHl (n:Nat)(mn:Int)(cs:List Con)(ts:List XT) :HL:=[(0,(.cells (putCells .leaf 0 [(.gl 1 1 0 n false),(.int .i64 mn),(.ilst 2 (List.map Con.av cs) false)]) 3 [] false),false),(1,gh,false),(2,(.zone true [1] (cQ ts)),false)]
theorem aLp (node:Int) :∀ (b:List XT) (n:Int) (a:List XT),atF node b n= .did a→a.length=b.length
 | [],n,a,h=>by simp [atF]at h
 | t ::b,n,a,h=>by
  simp only [atF]at h;split at h
  · split at h
    ·cases h
    ·cases h
    · rename_i e;cases h;rw [oK,oK,aLp node b _ _ e]
  ·cases h
  ·cases h;rfl
theorem aSU (node B:Int)(hB:B≤1000000)(ts:List XT)(mn:Int)(cs:List Con)(hl:ts.length≤1000) :∀ (tl:List XT) (i:Nat) (n:Int),ts.drop i=tl→FineXs B tl→0≤n→n+ (aD tl:Nat) ≤100000 →
  Ends PP 2 (aLl ts mn cs node n (i:Int)).as (.ret (.bool (atF node tl n).isDid)) (aA (FHl ts.length mn cs (((atF node tl n).map (fun x=>ts.take i++x)).getD ts)) 3)
 | [],i,n,h,_,_,_=>by
  have:=bJ h;exact bCT ts mn cs node n (i:Int) sd
 | t ::tl,i,n,h,c,j,p=>by
  obtain⟨f,g,k⟩ :=bE h;simp only [FineXs]at c;simp only [aD]at p;have a:0+ ((i:Nat) :Int).toNat=i:=by rw [oM];omega
  have hb:=aSS node B hB t c.1 ts i n 1 f j (by omega) (by omega) (by omega);simp only [atF];cases hr:atT node t n 1 with
  | go m=>
   rw [hr]at hb;have hm:=aRv node t n _ m hr;refine(bCS ts mn cs node n (i:Int) m sd sd sd (aVz rfl a (wP (m:=10) (ks:=[0,1,2,3,4,5,6,7,8,9,10]) hb aC aC trivial trivial)) sd sd).ends ?_;have e:=aSU node B hB ts mn cs hl tl (i+1) m g c.2 (by omega) (by omega);rw [←take_succ' f]at e;cases b:atF node tl m with
   |go q=>rw [b]at e;simp only [b];exact e
   |past=>rw [b]at e;simp only [b];exact e
   | did l=>
    rw [b]at e;simp only [b,AtR.isDid,AtR.map,AtR.getD,zq9,List.singleton_append]at e ⊢;exact e
  | past=>
   rw [hr]at hb;exact bCQ ts mn cs node n (i:Int) sd sd sd (aVz rfl a (wP (m:=10) (ks:=[0,1,2,3,4,5,6,7,8,9,10]) hb aC aC trivial trivial))
  | did d=>
   rw [hr]at hb;have o:ts.set i d=ts.take i++d::tl:=by rw [List.set_eq_take_append_cons_drop,if_pos k,g]
   have e:=bCR ts mn cs node n (i:Int) (ts.set i d) sd sd sd (aVz rfl a (wP (m:=10) (ks:=[0,1,2,3,4,5,6,7,8,9,10]) hb aC aC trivial trivial));rw [o]at e;exact e
theorem bCY (node B:Int)(hB:B≤1000000)(ts:List XT)(mn:Int)(cs:List Con)(hl:ts.length≤1000)(b:FineXs B ts)(c:aD ts≤100000) :
  gI PP 2 (.enter 74 [.ptr 0 0,.int .i64 node]) (aA (FHl ts.length mn cs ts) 3) (.ret (.bool (atF node ts 0).isDid)) (aA (FHl ts.length mn cs ((atF node ts 0).getD ts)) 3) :=by
 refine⟨(bFj ts mn cs node).as.fr,by kernel_rfl,?_⟩;have e:=aSU node B hB ts mn cs hl ts 0 0 rfl b (by omega) (by omega);have a: (AtR.map (fun x=>List.take 0 ts++x) (atF node ts 0)).getD ts= (atF node ts 0).getD ts:=by
  cases atF node ts 0<;>simp [AtR.map,AtR.getD]
 rw [a]at e;exact(bCP ts mn cs node).ends e
def aIi (g:Int→Int→Bool)(x:Node)(sz:Int) :Nat→List Int→Bool
 |_,[] =>true
 |j,k::ks=>g k (sz+eR x j) &&aIi g x sz (j+1) ks
def jW (p:Prog) :Nat→Int→Int→Bool
 |0,_,_=>true
 | f+1,a,sz=>match p.nodes[a.toNat]? with
  |some x=>if x.op=4∧x.n≥sz then false else aIi (jW p f) x sz 0 x.kids
  |none=>true
noncomputable def aG1 (p:Prog) :List (Nat×AObj×Bool) := (aGO p 0 0 0).hp
noncomputable def aYN (p:Prog)(b:Bool) :List (Nat×AObj×Bool) :=bif b then aG1 p else bJn p
def tM (a fn sz:Int) :List AV:=[bGz a fn sz,.ptr 5 0,.ptr 6 0,.ptr 0 0]
theorem aVB {p:Prog}{a fn sz b gn tz:Int}:∀ {r:Bool},Spec PP (.enter 133 (tM a fn sz)) (aA (aG1 p) 8) (.ret (.bool r)) (aA (aYN p r) 8) →
  Spec PP (.enter 133 (tM a fn sz)) (aA (aG1 p++ [(8,(.cells (putCells .leaf 0 [.int .i64 b,.int .i64 gn,.int .i64 tz]) 3 [] false),false)]) 9) (.ret (.bool r)) (aA (aYN p r++ [(8,(.cells (putCells .leaf 0 [.int .i64 b,.int .i64 gn,.int .i64 tz]) 3 [] false),false)]) 9)
 |true,h=>aF7 h aC (by rfl) (by rfl) aC aC trivial aC aC aC
 |false,h=>aF7 h aC (by rfl) (by rfl) aC aC trivial aC aC aC
theorem aVC (p:Prog)(a fn sz:Int) : (aGO p a fn sz).as= ⟨(aGO p a fn sz).as.fr,[],aA (aG1 p) 8⟩ :=by kernel_rfl
theorem aVD (p:Prog)(a fn sz:Int) :dW PP (aA (aG1 p) 8) (.enter 133 (tM a fn sz)) =some (aGO p a fn sz).as.fr:=by kernel_rfl
theorem aOk {p:Prog}(hp:FineP p){f:Nat}{a fn sz:Int}{x:Node}(i:0≤a)(g:p.nodes[a.toNat]?=some x)(m:0≤sz)(s:sz≤1000* (a+1))
  (q:∀ (k tz:Int),a<k→k<p.nodes.length→0≤tz→tz≤1000* (k+1) →Spec PP (.enter 133 (tM k fn tz)) (aA (aG1 p) 8) (.ret (.bool (jW p f k tz))) (aA (aYN p (jW p f k tz)) 8)) :
  ∀ (t:List Int) (j:Nat),x.kids.drop j=t→Ends PP 8 (aCb p a fn sz x.kids ((length x.kids:Nat) :Int) (j:Int)).as (.ret (.bool (aIi (jW p f) x sz j t))) (aA (aYN p (aIi (jW p f) x sz j t)) 8)
 | [],j,h=>by
  have:=bJ h;exact aXL p a fn sz x.kids _ j sd
 | k::t,j,h=>by
  obtain⟨u,v,y⟩ :=bE h;obtain⟨o,e,l⟩ :=hp.node _ _ g;have hk:=l k (iO u);have hb:=aXF o (j:Int);have w:=hp.small;have n:IntKind.i64.wrap (sz+eR x j) =sz+eR x j:=wrap64 (by omega) (by omega);have c:=aVB (b:=a) (gn:=fn) (tz:=sz) (q k (sz+eR x j) (by omega) (by omega) (by omega) (by omega));have d:=aQ0 o (k:= (j:Int)) (by omega) (by omega) e;rw [aIi];cases r:jW p f k (sz+eR x j)
  case false=>
   rw [r]at c;rw [Bool.false_and];refine aXJ p a fn sz x.kids _ j k x _ sd sd sd i g d ?_;rw [n];exact c
  rw [r]at c;rw [mY];refine(aXK p a fn sz x.kids _ j k x _ sd sd sd i g d ?_ sd).ends ?_
  ·rw [n];exact c
  ·exact aOk hp i g m s q t (j+1) v
theorem aOl {p:Prog}(hp:FineP p)(fn:Int) :∀ (f:Nat) (a b:Int),0≤a→a<p.nodes.length→p.nodes.length-a.toNat≤f→0≤b→b≤1000* (a+1) →
  Spec PP (.enter 133 (tM a fn b)) (aA (aG1 p) 8) (.ret (.bool (jW p f a b))) (aA (aYN p (jW p f a b)) 8)
 |0,a,b,d,r,q,_,_=>by omega
 | f + 1,a,b,d,r,q,n,s=>by
  refine⟨_,aVD p a fn b,?_⟩;obtain⟨x,c⟩ :∃x,p.nodes[a.toNat]?=some x:= ⟨_,kH (by omega)⟩;rw [←aVC];have l:=aOk hp (f:=f) (fn:=fn) d c n s (fun k o hk j i m=>aOl hp fn f k o (by omega) j (by omega) i m) x.kids 0 rfl;by_cases g:x.op=4
  · by_cases h:x.n≥b
    · have e:jW p (f+1) a b=false:=by rw [jW,c];simp only [g,h,and_self,if_true]
      rw [e];exact aXG p a fn b x d c (by simp [g]) (by simpa using h)
    · have e:jW p (f+1) a b=aIi (jW p f) x b 0 x.kids:=by rw [jW,c];simp only [h,and_false,if_false]
      rw [e];exact(aXH p a fn b x d c (by simp [g]) (by simpa using h)).ends l
  · have e:jW p (f+1) a b=aIi (jW p f) x b 0 x.kids:=by rw [jW,c];simp only [g,false_and,if_false]
    rw [e];exact(aXI p a fn b x d c (by simpa using g)).ends l
def aVE (p:Prog) :List Int→Bool
 | [] =>true
 |a::fs=>jW p p.nodes.length a 1&&aVE p fs
theorem aOm {p:Prog}(hp:FineP p) :∀ (t:List Int) (i:Nat),p.funs.drop i=t →
  Ends PP 0 (aKR p (i:Int)).as (.ret (.tup [(.bool (aVE p t)),(.int .i64 0)])) (aA [] 0)
 | [],i,h=>by
  have:=bJ h;exact bBo p i sd
 | a::t,i,h=>by
  obtain⟨f,d,j⟩ :=bE h;have c:=hp.funs a (iO f);have g:=hp.fsmall;have b:=aOl hp i p.nodes.length a 1 c.1 c.2 (by omega) (by omega) (by omega);rw [aVE];cases e:jW p p.nodes.length a 1
  case false=>
   rw [e]at b;exact bBm p i a sd sd sd b
  rw [e]at b;refine(bBn p i a sd sd sd b sd).ends ?_;rw [mY];exact aOm hp t (i+1) d
def pC (x:Node)(i:Nat) :Nat→List Int→List Int→List Int
 |_,[],l=>l
 |j,k::ks,l=>pC x i (j+1) ks (l.set k.toNat (l.getD i 0+eR x j))
def lD :Nat→List Node→List Int→List Int
 |_,[],l=>l
 |i,x::t,l=>lD (i+1) t (pC x i 0 x.kids l)
def pD :List Int→List Int→List Int
 | [],l=>l
 |f::fs,l=>pD fs (l.set f.toNat 1)
def yV (p:Prog) :List Int:=lD 0 p.nodes (pD p.funs (List.replicate p.nodes.length 0))
theorem vU (x:Node)(i:Nat) :∀ (t:List Int) (j:Nat) (l:List Int),(pC x i j t l).length=l.length
 | [],_,_=>rfl
 |k::t,j,l=>by rw [pC,vU x i t];simp
theorem aEj :∀ (t:List Node) (i:Nat) (l:List Int),(lD i t l).length=l.length
 | [],_,_=>rfl
 |x::t,i,l=>by rw [lD,aEj t,vU]
theorem vV :∀ (t:List Int) (l:List Int),(pD t l).length=l.length
 | [],_=>rfl
 |f::t,l=>by rw [pD,vV t];simp
theorem aG2 (p:Prog) : (yV p).length=p.nodes.length:=by rw [yV,aEj,vV];simp
def sQ (p:Prog)(S:List Int)(i:Nat) :Bool:=match p.nodes[i]?,S[i]? with
 |some x,some s=> !(decide (x.op=4) &&decide (x.n≥s))
 |_,_=>true
def qN (p:Prog)(S:List Int) :Nat→List Int→Bool
 |_,[] =>true
 |i,_::t=>sQ p S i&&qN p S (i+1) t
theorem qO {lo n:Int}:∀ {b:List Int} {u v:List Bool},marks lo n b u=some v→∀k∈b,lo≤k∧k≤n-1
 | [],_,_,_,k,hk=>by cases hk
 | a ::b,u,v,h,k,hk=>by
  simp only [marks]at h;split at h
  · rename_i g;rcases zq7.1 hk with rfl|hk
    ·exact inB_iff.1 g.1
    ·exact qO h k hk
  ·cases h
theorem aAh {lo n:Int}:∀ {b:List Int} {u v:List Bool},marks lo n b u=some v→∀m:Nat,v[m]?=some true→u[m]?=some true∨∃k∈b,k.toNat=m
 | [],u,v,h,m,hm=>by simp only [marks,Option.some.injEq]at h;rw [h];exact .inl hm
 | a ::b,u,v,h,m,hm=>by
  simp only [marks]at h;split at h
  · rcases aAh h m hm with g| ⟨k,hk,e⟩
    · by_cases e:a.toNat=m
      ·exact .inr ⟨a,dT ..,e⟩
      ·rw [getElem?_set_ne e]at g;exact .inl g
    ·exact .inr ⟨k,eD _ hk,e⟩
  ·cases h
theorem jX {lo n:Int}:∀ {b:List Int} {u v:List Bool},marks lo n b u=some v→∀m:Nat,u[m]?=some true→v[m]?=some true
 | [],u,v,h,m,hm=>by simp only [marks,Option.some.injEq]at h;rw [←h];exact hm
 | a ::b,u,v,h,m,hm=>by
  simp only [marks]at h;split at h
  · rename_i g;refine jX h m ?_;by_cases e:a.toNat=m
    ·subst e;rw [hm]at g;exact absurd g.2 (by simp)
    ·rw [getElem?_set_ne e];exact hm
  ·cases h
theorem eU {lo n k:Int}{ks:List Int}{u v:List Bool}(h:marks lo n (k::ks) u=some v) :u[k.toNat]?=some false∧marks lo n ks (u.set k.toNat true) =some v:=by
 simp only [marks]at h;split at h
 ·rename_i g;exact⟨g.2,h⟩
 ·cases h
theorem eI {p:Prog}{i:Nat}{x:Node}{t:List Node}{u v:List Bool}(h:bS p i (x::t) u=some v) :aM p x=true∧∃w,marks ((i:Int) +1) p.nodes.length x.kids u=some w∧bS p (i+1) t w=some v:=by
 simp only [bS]at h;split at h
 · rename_i g;split at h
   ·rename_i w a;exact⟨g,w,a,h⟩
   ·cases h
 ·cases h
theorem vW {p:Prog}:∀ {t:List Node} {i:Nat} {u v:List Bool},bS p i t u=some v→∀m:Nat,m≤i→v[m]?=some true→u[m]?=some true
 | [],i,u,v,h,m,_,hm=>by simp only [bS,Option.some.injEq]at h;rw [h];exact hm
 | x::t,i,u,v,h,m,c,hm=>by
  obtain⟨_,w,a,b⟩ :=eI h;rcases aAh a m (vW b m (by omega) hm)with g| ⟨k,hk,e⟩
  ·exact g
  ·have:=qO a k hk;omega
theorem iM {p:Prog}:∀ {t:List Node} {i:Nat} {u v:List Bool},bS p i t u=some v→v.length=u.length
 | [],i,u,v,h=>by simp only [bS,Option.some.injEq]at h;rw [h]
 | x::t,i,u,v,h=>by
  obtain⟨_,w,a,b⟩ :=eI h;rw [iM b,hY a]
theorem mO {p:Prog}:∀ {t:List Node} {i:Nat} {u v:List Bool},bS p i t u=some v→∀ (j:Nat) (x:Node),t[j]?=some x→aM p x=true∧∀k∈x.kids,((i+j:Nat) :Int) <k∧k<p.nodes.length
 | [],i,u,v,h,j,x,a=>by simp at a
 | y::t,i,u,v,h,j,x,a=>by
  obtain⟨g,w,b,c⟩ :=eI h;cases j with
  | zero=>
   simp at a;subst a;exact⟨g,fun k hk=>by have:=qO b k hk;omega⟩
  | succ j=>
   have:=mO c j x (by simpa using a);exact⟨this.1,fun k hk=>by have:=this.2 k hk;omega⟩
theorem aCr {p:Prog}:∀ {t:List Node} {i:Nat} {u v:List Bool},bS p i t u=some v→∀m:Nat,v[m]?=some true→u[m]?=some true∨∃ (j:Nat) (x:Node) (k:Int),t[j]?=some x∧k∈x.kids∧k.toNat=m
 | [],i,u,v,h,m,hm=>by simp only [bS,Option.some.injEq]at h;rw [h];exact .inl hm
 | y ::t,i,u,v,h,m,hm=>by
  obtain⟨g,w,l,n⟩ :=eI h;rcases aCr n m hm with a| ⟨j,x,k,f,o,c⟩
  · rcases aAh l m a with b| ⟨k,e,d⟩
    ·exact .inl b
    ·exact .inr ⟨0,y,k,rfl,e,d⟩
  ·exact .inr ⟨j+1,x,k,by simpa using f,o,c⟩
theorem rW {x:Node}{i:Nat}{lo n:Int}:∀ {t:List Int} {j:Nat} {u v:List Bool} {l:List Int},marks lo n t u=some v→∀m:Nat,u[m]?=some true→ (pC x i j t l)[m]?=l[m]?
 | [],_,_,_,_,_,_,_=>rfl
 | k::t,j,u,v,l,h,m,hm=>by
  obtain⟨b,c⟩ :=eU h;have a:k.toNat≠m:=fun e=>by rw [e,hm]at b;cases b
  rw [pC,rW c m (by rw [getElem?_set_ne a];exact hm),getElem?_set_ne a]
theorem pO {p:Prog}:∀ {t:List Node} {i:Nat} {u v:List Bool} {l:List Int},bS p i t u=some v→∀m:Nat,u[m]?=some true→ (lD i t l)[m]?=l[m]?
 | [],_,_,_,_,_,_,_=>rfl
 | x::t,i,u,v,l,h,m,hm=>by
  obtain⟨_,w,a,b⟩ :=eI h;rw [lD,pO b m (jX a m hm),rW a m hm]
theorem aEk {lo n:Int}:∀ {t:List Int} {u v:List Bool} {l:List Int},marks lo n t u=some v→∀m:Nat,u[m]?=some true→ (pD t l)[m]?=l[m]?
 | [],_,_,_,_,_,_=>rfl
 | k::t,u,v,l,h,m,hm=>by
  obtain⟨b,c⟩ :=eU h;have a:k.toNat≠m:=fun e=>by rw [e,hm]at b;cases b
  rw [pD,aEk c m (by rw [getElem?_set_ne a];exact hm),getElem?_set_ne a]
theorem aG3 {x:Node}{i:Nat}{lo n:Int}:∀ {t:List Int} {j:Nat} {u v:List Bool} {l:List Int},marks lo n t u=some v→u.length=l.length→u[i]?=some true→∀ (d:Nat) (k:Int),t[d]?=some k→ (pC x i j t l)[k.toNat]?=some (l.getD i 0+eR x ((j+d:Nat) :Int))
 | [],_,_,_,_,_,_,_,d,k,hk=>by simp at hk
 | a::t,j,u,v,l,h,c,m,d,k,hk=>by
  obtain⟨g,o⟩ :=eU h;have b:a.toNat≠i:=fun e=>by rw [e,m]at g;cases g
  have f:a.toNat<u.length:= (zq0.1 g).1;rw [pC];cases d with
  | zero=>
   simp at hk;subst hk;rw [rW o _ (by rw [getElem?_set_self f]),getElem?_set_self (by omega)];simp
  | succ d=>
   have:=aG3 (x:=x) (i:=i) (j:=j+1) (l:=l.set a.toNat (l.getD i 0+eR x j)) o (by simpa using c) (by rw [getElem?_set_ne b];exact m) d k (by simpa using hk);rw [this,hQ,getElem?_set_ne b,←hQ];congr 3;omega
theorem aEl {p:Prog}:∀ {t:List Node} {i:Nat} {u v:List Bool} {l:List Int},bS p i t u=some v→ (∀m,m<v.length→v[m]?=some true) →u.length=l.length→i+t.length≤u.length→∀ (j:Nat) (x:Node) (d:Nat) (k:Int),t[j]?=some x→x.kids[d]?=some k →
  ∃s,(lD i t l)[i+j]?=some s∧ (lD i t l)[k.toNat]?=some (s+eR x d)
 | [],_,_,_,_,_,_,_,_,j,x,d,k,g,_=>by simp at g
 | y ::t,i,u,v,l,h,C,f,q,j,x,d,k,g,hk=>by
  obtain⟨_,w,c,b⟩ :=eI h;have z:=hY c;simp only [oK]at q;rw [lD];cases j with
  | zero=>
   simp at g;subst g;have H:=iM h;have o:u[i]?=some true:=vW h i (Nat.le_refl _) (C i (by omega));have A:=aG3 (x:=y) (i:=i) (j:=0) (l:=l) c f o d k hk;have r:w[k.toNat]?=some true:=by
    have D:=qO c k (iO hk);have all:∀ {B n:Int} {e:List Int} {u v:List Bool},marks B n e u=some v→∀k∈e,v[k.toNat]?=some true:=by
     intro B n e
     induction e with
     |nil=>intro u v _ k hk;cases hk
     | cons a e I=>
      intro u v h k hk;obtain⟨G,b⟩ :=eU h;rcases zq7.1 hk with rfl|hk
      ·exact jX b _ (getElem?_set_self (zq0.1 G).1)
      ·exact I b k hk
    exact all c k (iO hk)
   refine⟨l.getD i 0,?_,?_⟩
   · show(lD (i+1) t (pC y i 0 y.kids l))[i]?=some (l.getD i 0);rw [pO b i (jX c i o),rW c i o,hQ,kH (by omega)];rfl
   ·rw [pO b _ r,A];simp
  | succ j=>
   obtain⟨s,F,J⟩ :=aEl (l:=pC y i 0 y.kids l) b C (by rw [vU,z,f]) (by omega) j x d k (by simpa using g) hk;exact⟨s,by rw [←F];congr 1;omega,J⟩
structure Sprop (p:Prog) (S:List Int) :Prop where
 len:S.length=p.nodes.length
 root:∀f∈p.funs,S[f.toNat]?=some 1
 kid:∀ (i:Nat) (x:Node) (d:Nat) (k:Int),p.nodes[i]?=some x→x.kids[d]?=some k→∃s,S[i]?=some s∧S[k.toNat]?=some (s+eR x d)
def rX (p:Prog) :Prop:=∀m,m<p.nodes.length→ (∃f∈p.funs,f.toNat=m) ∨∃ (i:Nat) (x:Node) (k:Int),p.nodes[i]?=some x∧k∈x.kids∧k.toNat=m∧i<m
theorem aEm {lo n:Int}:∀ {t:List Int} {u v:List Bool} {l:List Int},marks lo n t u=some v→u.length=l.length→∀f∈t,(pD t l)[f.toNat]?=some 1
 | [],_,_,_,_,_,f,b=>by cases b
 | a::t,u,v,l,h,c,f,b=>by
  obtain⟨g,e⟩ :=eU h;have d:a.toNat<u.length:= (zq0.1 g).1;rw [pD];rcases zq7.1 b with rfl|b
  ·rw [aEk e _ (getElem?_set_self d),getElem?_set_self (by omega)]
  ·exact aEm e (by simpa using c) f b
theorem kG {p:Prog}(hp:aK p=true)(c:aN p=true) :FineP p∧Sprop p (yV p) ∧rX p:=by
 have G:=hp;simp only [aK,cF,decide_eq_true_eq]at G;obtain⟨⟨⟨⟨L,O⟩,Q⟩,_⟩,M⟩ :=G;simp only [aN,cF]at c;obtain⟨_,c⟩ :=c;split at c
 · rename_i u w;unfold allT at c;split at c
   · rename_i v r;have t:u.length=p.nodes.length:=by rw [hY w];simp
     have J:v.length=p.nodes.length:=by rw [iM r,t]
     have e:∀m,m<v.length→v[m]?=some true:=fun m hm=>by
      rw [kH hm];have:=zq27.1 c _ (List.getElem_mem hm);simpa using this
     have b:=mO r;refine⟨⟨L,O,fun i x y=>?_,fun f c=>?_⟩,⟨aG2 p,fun f c=>?_,fun i x d k y hk=>?_⟩,fun m hm=>?_⟩
     · have:=b i x y;have o:=zq27.1 M x (iO y);simp only [bB,cF,decide_eq_true_eq]at o;exact⟨aKQ this.1,o.1.1,fun k hk=>by have:=this.2 k hk;omega⟩
     ·have:=qO w f c;omega
     · rw [yV];have B:u[f.toNat]?=some true:=by
        have all:∀ {D n:Int} {q:List Int} {u v:List Bool},marks D n q u=some v→∀k∈q,v[k.toNat]?=some true:=by
         intro D n q
         induction q with
         |nil=>intro u v _ k hk;cases hk
         | cons a q K=>
          intro u v h k hk;obtain⟨N,F⟩ :=eU h;rcases zq7.1 hk with rfl|hk
          ·exact jX F _ (getElem?_set_self (zq0.1 N).1)
          ·exact K F k hk
        exact all w f c
       rw [pO r _ B];exact aEm w (by simp) f c
     · obtain⟨s,A,z⟩ :=aEl (l:=pD p.funs (List.replicate p.nodes.length 0)) r e (by rw [vV,t];simp) (by omega) i x d k y hk;exact⟨s,by rw [yV,←A];congr 1;omega,z⟩
     · rcases aCr r m (e m (by omega))with g| ⟨j,x,k,C,H,I⟩
       · rcases aAh w m g with a| ⟨f,A,z⟩
         ·rw [List.getElem?_replicate]at a;split at a<;>simp at a
         ·exact .inl ⟨f,A,z⟩
       · have:= (b j x C).2 k H;exact .inr ⟨j,x,k,C,H,I,by omega⟩
   ·cases c
 ·cases c
inductive Reach (p:Prog) :Nat→Nat→Prop where
 |refl (a:Nat) :Reach p a a
 |step {a i:Nat} {x:Node} {k:Int}:Reach p a i→p.nodes[i]?=some x→k∈x.kids→Reach p a k.toNat
theorem Reach.first {p:Prog}{a m:Nat}(h:Reach p a m) :m=a∨∃ (x:Node) (k:Int),p.nodes[a]?=some x∧k∈x.kids∧Reach p k.toNat m:=by
 induction h with
 |refl=>exact .inl rfl
 | step h hx hk ih=>
  rename_i i x k;rcases ih with rfl| ⟨y,q,h1,h2,h3⟩
  ·exact .inr ⟨x,k,hx,hk,Reach.refl _⟩
  ·exact .inr ⟨y,q,h1,h2,h3.step hx hk⟩
theorem aIj {p:Prog}(hc:rX p) :∀m,m<p.nodes.length→∃f∈p.funs,Reach p f.toNat m:=by
 intro m
 induction m using Nat.strongRecOn with
 | ind m ih=>
  intro hm;rcases hc m hm with⟨f,h1,h2⟩ | ⟨i,x,k,h1,h2,h3,h4⟩
  ·exact⟨f,h1,h2 ▸ Reach.refl _⟩
  · obtain⟨f,g1,g2⟩ :=ih i h4 (by omega);exact⟨f,g1,h3 ▸ g2.step h1 h2⟩
theorem aI8 {p:Prog}(hp:FineP p){S:List Int}(hS:Sprop p S) :∀ (f:Nat) (a:Nat) (s:Int),a<p.nodes.length→p.nodes.length-a≤f→S[a]?=some s →
  (jW p f (a:Int) s=true↔∀m:Nat,Reach p a m→sQ p S m=true)
 |0,a,s,ha,hf,_=>by omega
 | f + 1,a,s,ha,hf,hs=>by
  obtain⟨x,hx⟩ :∃x,p.nodes[a]?=some x:= ⟨_,kH ha⟩;obtain⟨_,_,hks⟩ :=hp.node a x hx;have e:jW p (f+1) (a:Int) s= (if x.op=4∧x.n≥s then false else aIi (jW p f) x s 0 x.kids) :=by
   rw [jW];simp only [oM,hx]
  have ok:sQ p S a=true↔¬ (x.op=4∧x.n≥s) :=by
   unfold sQ;rw [hx,hs];by_cases h4:x.op=4<;>by_cases hn:x.n≥s<;>simp [h4,hn]
  have fold:∀ (t:List Int) (j:Nat),x.kids.drop j=t→ (aIi (jW p f) x s j t=true↔∀k∈t,∀m:Nat,Reach p k.toNat m→sQ p S m=true) :=by
   intro t
   induction t with
   |nil=>intro j _;exact⟨fun _ k hk=> (by cases hk),fun _=>rfl⟩
   | cons k t ih=>
    intro j h;obtain⟨g1,g2,g3⟩ :=bE h;have hk:=hks k (iO g1);obtain⟨s',c1,c2⟩ :=hS.kid a x j k hx g1;rw [hs]at c1;cases c1;have hkn: ((k.toNat:Nat) :Int) =k:=by omega
    have w:=aI8 hp hS f k.toNat (s+eR x j) (by omega) (by omega) c2;rw [hkn]at w;rw [aIi,cF,w,ih (j+1) g2];constructor
    · intro⟨h1,h2⟩ q hq;rcases zq7.1 hq with rfl|hq
      ·exact h1
      ·exact h2 q hq
    · intro h;exact⟨h k (dT ..),fun q hq=>h q (eD _ hq)⟩
  rw [e];constructor
  · intro h m hr;split at h
    ·cases h
    · rename_i hno;rcases hr.first with rfl| ⟨y,k,h1,h2,h3⟩
      ·exact ok.2 hno
      · rw [hx]at h1;cases h1;exact(fold x.kids 0 rfl).1 h k h2 m h3
  · intro h;have h0:=ok.1 (h a (Reach.refl _));rw [if_neg h0];refine(fold x.kids 0 rfl).2 fun k hk m hr=>h m ?_;have all:∀ {b m:Nat},Reach p b m→∀ {a:Nat} {x:Node} {k:Int},p.nodes[a]?=some x→k∈x.kids→b=k.toNat→Reach p a m:=by
     intro b m hr
     induction hr with
     |refl=>intro a x k hx hk e;rw [e];exact(Reach.refl a).step hx hk
     |step h hx' hk' ih=>intro a x k hx hk e;exact(ih hx hk e).step hx' hk'
    exact all hr hx hk rfl
theorem aOn {p:Prog}(hp:FineP p){S:List Int}(hS:Sprop p S) :∀ (t:List Int),(∀f∈t,f∈p.funs) → (aVE p t=true↔∀f∈t,∀m:Nat,Reach p f.toNat m→sQ p S m=true)
 | [],_=> ⟨fun _ f hf=> (by cases hf),fun _=>rfl⟩
 | a ::t,ht=>by
  have ha:=hp.funs a (ht a (dT ..));have han: ((a.toNat:Nat) :Int) =a:=by omega
  have w:=aI8 hp hS p.nodes.length a.toNat 1 (by omega) (by omega) (hS.root a (ht a (dT ..)));rw [han]at w;rw [aVE,cF,w,aOn hp hS t (fun f hf=>ht f (eD _ hf))];constructor
  · intro⟨h1,h2⟩ q hq;rcases zq7.1 hq with rfl|hq
    ·exact h1
    ·exact h2 q hq
  · intro h;exact⟨h a (dT ..),fun q hq=>h q (eD _ hq)⟩
theorem pP (p:Prog)(S:List Int) :∀ (t:List Int) (i:Nat),qN p S i t=true↔∀j,j<t.length→sQ p S (i+j) =true
 | [],i=>by simp [qN]
 | a ::t,i=>by
  rw [qN,cF,pP p S t (i+1)];constructor
  · intro⟨h1,h2⟩ j hj;cases j with
    |zero=>exact h1
    |succ j=>have:=h2 j (by simpa using hj);rw [show i+ (j+1) =i+1+j by omega];exact this
  · intro h;refine⟨h 0 (by simp),fun j hj=>?_⟩;have:=h (j+1) (by simpa using hj);rw [show i+1+j=i+ (j+1)by omega];exact this
theorem aVF {p:Prog}(hp:FineP p){S:List Int}(hS:Sprop p S)(hc:rX p) :aVE p p.funs=qN p S 0 S:=by
 rw [Bool.eq_iff_iff,aOn hp hS p.funs (fun f hf=>hf),pP];constructor
 · intro h j hj;rw [hS.len]at hj;obtain⟨f,h1,h2⟩ :=aIj hc j hj;rw [eX];exact h f h1 j h2
 · intro h f hf m hr;by_cases hm:m<S.length
   ·have:=h m hm;rwa [eX]at this
   · unfold sQ;rw [aBt (by rw [hS.len]at hm;omega)]
def eC (p:Prog) :Bool×Int:=if aN p=true then(qN p (yV p) 0 (yV p),0)else(false,2)
theorem aCs {p:Prog}(hs:aK p=true) :aJ PP 45 [Prog.av p] (.int .i64 (checkN (aN p))) :=by
 have h2:=aN5 p hs;rw [aVo]at h2;exact h2
theorem aCt {p:Prog}(hs:aK p=true) :aJ PP 46 [Prog.av p] (.tup [.bool (eC p).1,.int .i64 (eC p).2]) :=by
 refine aO aC rfl rfl ?_;have hc:=aCs hs;have e0: (start PP 46 [Prog.av p]).as= (bE8 p).as:=by kernel_rfl
 rw [e0];cases hf:aN p
 case false=>
  rw [hf]at hc;exact Ends.eqv (bBk p _ hc (by rfl)) (by simp [eC,hf,checkN])
 rw [hf]at hc;obtain⟨q1,q2,q3⟩ :=kG hs hf;refine(bBl p _ hc (by rfl)).ends ?_;exact Ends.eqv (aOm q1 p.funs 0 rfl) (by rw [aVF q1 q2 q3];simp [eC,hf])
abbrev aEn(a:Prog):Nat ×AObj×Bool:=oC 1 [(iN a.nodes),(iI a.funs),(nI a.main),(iC a.cons)]
abbrev aSV(a:Option Addr)(b c:Nat)(d:List Int):Nat×AObj×Bool:=(2,(.lstv (Value.slice a b c) 1 (jI d)),true)
def aYO(b:Prog)(a:List ONode)(c:Int)(d e:List Int):TS:=cO PP 60 [(.gl 0 4 0 a.length false),(Prog.av b),(nI c),(iI d),(iI e)] [oL 0 4 (List.map ONode.av a)] 1
def aBe(c:Prog)(a:List ONode)(l:Int)(d e:List Int)(f g:Int)(i:List Int)(j:List Pat)(k:Int)(b:List Pat):TS:=⟨(tf 60 104 [(0,(.gl 0 4 0 a.length false)),(3,(iI d)),(4,(iI e)),kp 6 1,(10,.nils),kp 11 2,(12,(nI (a.length:Int))),(13,(.gl 3 4 0 b.length false)),(14,(nI k))] [kc f60 2036,kl f60 2036,.inBlock 0,kc f60 255]),[],[oL 0 4 (List.map ONode.av a),aEn c,oC 2 [(nI f),(nI g),(iI i),(iP j)],oL 3 4 (av b)],4⟩
def aLq(b:Prog)(c:List ONode)(g:Int)(d e f:List Int)(a:List ONode):TS:=⟨(tf 60 104 [(0,(.gl 0 4 0 a.length false)),(3,(iI d)),(4,(iI e)),kp 6 1,(10,.nils),(12,(nI (c.length:Int))),(15,(iI f)),(16,(nI 0))] [kc f60 65524,kl f60 65524,.inBlock 2,kc f60 8191]),[],[oL 0 4 (List.map ONode.av a),aEn b],2⟩
def yW(d:Prog)(a:List ONode)(j:Int)(e f g:List Int)(b:List ONode)(c:List Int)(i:Int):TS:=⟨(tf 60 104 [(0,(.gl 0 4 0 b.length false)),(3,(iI e)),(4,(iI f)),kp 6 1,(10,.nils),(12,(nI (a.length:Int))),(15,(iI g)),(16,(nI i)),(91,(.gl 2 1 0 c.length false)),(93,(.ep 0 4 (0+ (a.length:Int).toNat) 2))] [ko f60 1048392 13,kc f60 1048393,.inBlock 3,kc f60 262099,kl f60 65524,.inBlock 2,kc f60 8191]),[],[oL 0 4 (List.map ONode.av b),aEn d,oL 2 1 (jI c)],3⟩
def aLr(f:Prog)(a:List ONode)(m:Int)(g i j:List Int)(b:List ONode)(k:List Int)(l:Int)(c:Option Addr)(d e:Nat):TS:=⟨(tf 60 104 [(0,(.gl 0 4 0 b.length false)),(3,(iI g)),(4,(iI i)),kp 6 1,(10,.nils),(12,(nI (a.length:Int))),(15,(iI j)),(16,(nI l)),(91,(.val (Value.slice c d e))),(93,(.ep 0 4 (0+ (a.length:Int).toNat) 2))] [ko f60 1048392 13,kc f60 1048393,.inBlock 3,kc f60 262099,kl f60 65524,.inBlock 2,kc f60 8191]),[],[oL 0 4 (List.map ONode.av b),aEn f,aSV c d e k],3⟩
def aLs(b:Prog)(c:List ONode)(k:Int)(d e f:List Int)(a:List ONode)(g:List Int)(i:Value)(j:Int):TS:=⟨(tf 60 104 [(0,(.gl 0 4 0 a.length false)),(3,(iI d)),(4,(iI e)),kp 6 1,(10,.nils),(12,(nI (c.length:Int))),(15,(iI f)),(16,(nI j))] [kc f60 65524,kl f60 65524,.inBlock 2,kc f60 8191]),[],[oL 0 4 (List.map ONode.av a),aEn b,(2,(.lstv i 1 (jI g)),true)],3⟩
def bCZ(b:Prog)(f:List ONode)(c:Int)(d e:List Int):=tT 0 (aYO b f c d e)<|gX Node.av 10 b.nodes c<|fun a=>.b 17 27 (a.op==4) (gd 5 31 (a.n<0) (gw 6 35 ((-1:Int) -a.n)<|gX bU 0 d ((-1:Int) -a.n)<|fun g=>gw 2 38 ((-1:Int) -g)<|.b 10 42 (a.op==14) .x<|.i [rn 13,.nilL 13 4] []<|gu 0 3 (av ([] :List Pat))<|gs 0 13 (.gl 3 4 0 ([] :List Pat).length false)<|.W 0 4 [0,1,2,3] (aBe b f c d e a.op ((-1:Int) -g) a.kids a.pats 0 ([] :List Pat)))<|.b 9 42 (a.op==14) .x<|.i [rn 13,.nilL 13 4] []<|gu 0 3 (av ([] :List Pat))<|gs 0 13 (.gl 3 4 0 ([] :List Pat).length false)<|.W 0 4 [0,1,2,3] (aBe b f c d e a.op a.n a.kids a.pats 0 ([] :List Pat)))<|.b 14 42 (a.op==14) (gX bU 5 e a.n<|fun g=>.i [rn 15,.nilL 13 4] []<|gu 0 3 (av ([] :List Pat))<|gs 0 13 (.gl 3 4 0 ([] :List Pat).length false)<|.W 0 4 [0,1,2,3] (aBe b f c d e a.op g a.kids a.pats 0 ([] :List Pat)))<|.i [rn 13,.nilL 13 4] []<|gu 0 3 (av ([] :List Pat))<|gs 0 13 (.gl 3 4 0 ([] :List Pat).length false)<|.W 0 4 [0,1,2,3] (aBe b f c d e a.op a.n a.kids a.pats 0 ([] :List Pat))
def bC0:=fun a b c d e f g i j k l m n o p q=>bCZ a b c d e f i j|>.t k|>.t l m g n o p|>.f q ⟨(aG _ (fun _=>dI _) _),⟨fP,trivial⟩⟩
def bC1:=fun a b c d e f g i j k l=>bCZ a b c d e f g i|>.t j|>.f k|>.f l ⟨(aG _ (fun _=>dI _) _),⟨fP,trivial⟩⟩
def bC2:=fun a b c d e f g i j k l m n=>bCZ a b c d e f i j|>.f k|>.t l g m n ⟨(aG _ (fun _=>dI _) _),⟨fP,trivial⟩⟩
def bC3:=fun a b c d e f g i j k=>bCZ a b c d e f g i|>.f j|>.f k ⟨(aG _ (fun _=>dI _) _),⟨fP,trivial⟩⟩
def bIc(i:Prog)(b:List ONode)(j:Int)(k e:List Int)(f g:Int)(l:List Int)(c:List Pat)(d:Int)(a:List Pat):=tT 0 (aBe i b j k e f g l c d a)<|gm 6 aH c<|gd 2 53 (d< (c.length:Int)) (vA 9 c d<|fun q r s t=>.y fun m:Int=>.y fun n:Int=>.y fun o:cA=>.y fun p:List Pat=>gp 2 101 [(.agg [(nI q),(nI r),(dP s),(iP t)]),(iI e)] (.agg [(nI m),(nI n),(dP o),(iP p)])<|gA 1 aH a [(Pat.mk m n o p)]<|gw 6 55 (d+1)<|.W 3 6 [0,1,2,5] (aBe i b j k e f g l c (d+1) (a++ [(Pat.mk m n o p)])))<|gZ 6 66 3 4 aH fP a false<|ga 18 ONode.av b [(ONode.mk f g KV.nil a)]<|.W 9 6 [5,1] (aLq i b j k e l (b++ [(ONode.mk f g KV.nil a)]))
def bC4:=fun a b c d e f g i j k l m n o p q r s t u v w x y z=>bIc a b c d e f g i j k l|>.t u m n o p v w q r s t x y z ⟨(aG _ (fun _=>dI _) _),⟨fP,trivial⟩⟩
def bC5:=fun a b c d e f g i j k l m n=>bIc a b c d e f g i j k l|>.f m n ⟨(aG _ (fun _=>dI _) _),trivial⟩
def bId(e:Prog)(c:List ONode)(f:Int)(g i d:List Int)(b:List ONode):=tT 0 (aLq e c f g i d b)<|gl 5 bU d<|gd 2 78 (0< (d.length:Int)) (.i [rn 10,.ans (.ix)] [hA (0≤ (c.length:Int)),hA ((c.length:Int) < (b.length:Int))]<|.y fun a:ONode=>gj ONode.av 1 b ((c.length:Int).toNat) a<|.i [.set 87 .nils] [.a (a.kv=KV.nil) (congrArg KV.av)]<|.i [rn 3,.nilL 87 1] []<|gu 0 3 (jI ([] :List Int))<|gs 0 87 (.gl 3 1 0 ([] :List Int).length false)<|ga 0 bU ([] :List Int) [(b.length:Int)]<|.i [.ans (.ix)] [hA (0≤ (c.length:Int)),hA ((c.length:Int) < (b.length:Int))]<|.W 1 5 [0,1,4] (yW e c f g i d b (([] :List Int) ++ [(b.length:Int)]) 0))<|.y fun a:ONode=>.i [rn 8,.lw 0 (List.map ONode.av (set b c.length (ONode.mk a.op a.n (KV.row []) a.pats)))] [.a (b[c.length]?=some a) (p':=(List.map ONode.av b) ≠ []) aKU,.a (b[c.length]?=some a∧a.kv=KV.nil) (p':=VW (List.map ONode.av b) (List.map ONode.av (set b c.length (ONode.mk a.op a.n (KV.row []) a.pats)))) fun⟨ha,hb⟩=>(aXM ha hb)]<|.i [.set 0 (.gl 0 4 0 (set b c.length (ONode.mk a.op a.n (KV.row []) a.pats)).length false)] [.q (p:=(AV.gl 0 4 0 b.length false) = (.gl 0 4 0 (set b c.length (ONode.mk a.op a.n (KV.row []) a.pats)).length false)) (bT (eG ..).symm)]<|.i [.set 10 (.gl 0 4 0 (set b c.length (ONode.mk a.op a.n (KV.row []) a.pats)).length false)] [.q (p:=(AV.gl 0 4 0 b.length false) = (.gl 0 4 0 (set b c.length (ONode.mk a.op a.n (KV.row []) a.pats)).length false)) (bT (eG ..).symm)]<|.i [.set 103 (.gl 0 4 0 (set b c.length (ONode.mk a.op a.n (KV.row []) a.pats)).length false)] [.q (p:=(AV.gl 0 4 0 b.length false) = (.gl 0 4 0 (set b c.length (ONode.mk a.op a.n (KV.row []) a.pats)).length false)) (bT (eG ..).symm)]<|.E 0 2 [0] (.gl 0 4 0 (set b c.length (ONode.mk a.op a.n (KV.row []) a.pats)).length false) [oL 0 4 (List.map ONode.av (set b c.length (ONode.mk a.op a.n (KV.row []) a.pats)))] 1
def bC6:=fun c d e f g i j k l a b m n o=>bId c d e f g i j|>.t l a b k m n o a b ⟨(aG _ (fun _=>dI _) _),⟨kk,trivial⟩⟩
def bC7:=fun b c d e f g i j k a l=>bId b c d e f g i|>.f k j a ⟨a,l⟩ ⟨(aG _ (fun _=>dI _) _),trivial⟩
def bC8 (i:Prog)(e:List ONode)(p:Int)(m n o:List Int)(f:List ONode)(j:List Int)(k:Int)(b:Option Addr)(c d:Nat):=fun a l g q r s t u=>(tT 0 (aLr i e p m n o f j k b c d)<|.y fun a:ONode=>.i [.st (ONode.av a) (ONode.av (ONode.mk a.op a.n (KV.val (Value.slice b c d)) a.pats))] [.a (((f)[(e.length:Int).toNat]?) =some a) (cU (f:=ONode.av)),hr (some (ONode.av (ONode.mk a.op a.n (KV.val (Value.slice b c d)) a.pats)))]<|.i [.lset 0 (List.map ONode.av (set f ((e.length:Int).toNat) (ONode.mk a.op a.n (KV.val (Value.slice b c d)) a.pats)))] [.q (p:=(List.map ONode.av f).set (0+ (e.length:Int).toNat) (ONode.av (ONode.mk a.op a.n (KV.val (Value.slice b c d)) a.pats)) = (List.map ONode.av (set f ((e.length:Int).toNat) (ONode.mk a.op a.n (KV.val (Value.slice b c d)) a.pats)))) (mE _ _ _ _)]<|.i [.set 0 (.gl 0 4 0 (set f ((e.length:Int).toNat) (ONode.mk a.op a.n (KV.val (Value.slice b c d)) a.pats)).length false)] [.q (p:=(AV.gl 0 4 0 f.length false) = (.gl 0 4 0 (set f ((e.length:Int).toNat) (ONode.mk a.op a.n (KV.val (Value.slice b c d)) a.pats)).length false)) (bT (eG ..).symm)]<|.y fun l:Int=>.y fun g:List Node=>.i [rn 1,.reg (rd 4 (.ans (.idx (bU l))::rd 3 [.call (.gl 3 4 0 ((set f ((e.length:Int).toNat) (ONode.mk a.op a.n (KV.val (Value.slice b c d)) a.pats)) ++List.map Node.o g).length false) (aA [aEn i,aSV b c d j,oL 3 4 (List.map ONode.av ((set f ((e.length:Int).toNat) (ONode.mk a.op a.n (KV.val (Value.slice b c d)) a.pats)) ++List.map Node.o g))] 4),.d]))] [hA (0≤k),.a (((o)[k.toNat]?) =some l) (bP (f:=bU)),hA (Spec PP (.enter 60 [(.gl 0 4 0 (set f ((e.length:Int).toNat) (ONode.mk a.op a.n (KV.val (Value.slice b c d)) a.pats)).length false),(Prog.av i),(nI l),(iI m),(iI n)]) (aA [oL 0 4 (List.map ONode.av (set f ((e.length:Int).toNat) (ONode.mk a.op a.n (KV.val (Value.slice b c d)) a.pats))),aEn i,aSV b c d j] 3) (.ret (.gl 3 4 0 ((set f ((e.length:Int).toNat) (ONode.mk a.op a.n (KV.val (Value.slice b c d)) a.pats)) ++List.map Node.o g).length false)) (aA [aEn i,aSV b c d j,oL 3 4 (List.map ONode.av ((set f ((e.length:Int).toNat) (ONode.mk a.op a.n (KV.val (Value.slice b c d)) a.pats)) ++List.map Node.o g))] 4))]<|gw 4 80 (k+1)<|.W 3 4 [3,1,2] (aLs i e p m n o ((set f ((e.length:Int).toNat) (ONode.mk a.op a.n (KV.val (Value.slice b c d)) a.pats)) ++List.map Node.o g) j (Value.slice b c d) (k+1))) a q l g r s t u ⟨(aG _ (fun _=>dI _) _),⟨kk,trivial⟩⟩
def bIe(i:Prog)(c:List ONode)(j:Int)(k l f:List Int)(b:List ONode)(d:List Int)(e:Value)(g:Int):=tT 0 (aLs i c j k l f b d e g)<|gl 5 bU f<|gd 2 78 (g< (f.length:Int)) (.i [rn 10,.ans (.ix)] [hA (0≤ (c.length:Int)),hA ((c.length:Int) < (b.length:Int))]<|.y fun a:ONode=>gj ONode.av 1 b ((c.length:Int).toNat) a<|.i [.set 87 (.val e)] [.a (a.kv=KV.val e) (congrArg KV.av)]<|.i [.unname 87 2] [hr e]<|.i [.set 87 (.gl 2 1 0 d.length false)] [.q (p:=(AV.gl 2 1 0 (jI d).length false) = (.gl 2 1 0 d.length false)) (bT (hJ ..))]<|ga 3 bU d [(b.length:Int)]<|.i [.ans (.ix)] [hA (0≤ (c.length:Int)),hA ((c.length:Int) < (b.length:Int))]<|.W 1 5 [0,1,4] (yW i c j k l f b (d++ [(b.length:Int)]) g))<|.y fun a:ONode=>.i [rn 8,.vfrz 2 0 (List.map ONode.av (set b c.length (ONode.mk a.op a.n (KV.row d) a.pats)))] [.a (b[c.length]?=some a) (p':=(List.map ONode.av b) ≠ []) aKU,hk bU d,.a (b[c.length]?=some a∧a.kv=KV.val e) (p':=VQ e 1 (jI d) (List.map ONode.av b) (List.map ONode.av (set b c.length (ONode.mk a.op a.n (KV.row d) a.pats)))) fun⟨ha,hb⟩=>(aXN ha hb)]<|.i [.set 0 (.gl 0 4 0 (set b c.length (ONode.mk a.op a.n (KV.row d) a.pats)).length false)] [.q (p:=(AV.gl 0 4 0 b.length false) = (.gl 0 4 0 (set b c.length (ONode.mk a.op a.n (KV.row d) a.pats)).length false)) (bT (eG ..).symm)]<|.i [.set 10 (.gl 0 4 0 (set b c.length (ONode.mk a.op a.n (KV.row d) a.pats)).length false)] [.q (p:=(AV.gl 0 4 0 b.length false) = (.gl 0 4 0 (set b c.length (ONode.mk a.op a.n (KV.row d) a.pats)).length false)) (bT (eG ..).symm)]<|.i [.set 103 (.gl 0 4 0 (set b c.length (ONode.mk a.op a.n (KV.row d) a.pats)).length false)] [.q (p:=(AV.gl 0 4 0 b.length false) = (.gl 0 4 0 (set b c.length (ONode.mk a.op a.n (KV.row d) a.pats)).length false)) (bT (eG ..).symm)]<|.E 0 3 [0] (.gl 0 4 0 (set b c.length (ONode.mk a.op a.n (KV.row d) a.pats)).length false) [oL 0 4 (List.map ONode.av (set b c.length (ONode.mk a.op a.n (KV.row d) a.pats)))] 1
def bC9:=fun c d e f g i j k l m n o a b p q r=>bIe c d e f g i j k l m|>.t o a b n p q r a b ⟨(aG _ (fun _=>dI _) _),⟨kk,trivial⟩⟩
def bDa:=fun b c d e f g i j k l m n a o=>bIe b c d e f g i j k l|>.f n m a ⟨a,o⟩ ⟨(aG _ (fun _=>dI _) _),trivial⟩
def aCu(b i:Int)(c:cA)(d:List Pat)(e:List Int)(f g:Int)(a:List Pat):TS:=⟨(tf 101 36 [(1,(iI e)),kp 2 0,kp 4 1,(5,(.gl 2 4 0 a.length false)),(6,(nI g))] [kc f101 244,kl f101 244,.inBlock 0,kc f101 31]),[],[oC 0 [(nI b),(nI f),(dP c),(iP d)],oC 1 [(nI 0),(nI 0),(.str 0 0),.nils],oL 2 4 (av a)],3⟩
def aFj(b c d:Int)(a:List Int):TS:=⟨(tf 61 19 [(0,(nI b)),(1,(nI c)),(4,.nils),(5,(.gl 0 1 0 a.length false)),(6,(nI d))] [kc f61 116,kl f61 116,.inBlock 0,kc f61 15]),[],[oL 0 1 (jI a)],1⟩
def bIf(b a:Int)(d:cA)(e:List Pat)(c:List Int):=tT 0 (start PP 101 [(.agg [(nI b),(nI a),(dP d),(iP e)]),(iI c)])<|.b 12 9 (b==6) (gX bU 5 c a<|fun f=>.i [rn 15,.nilL 5 4] []<|gu 0 2 (av ([] :List Pat))<|gs 0 5 (.gl 2 4 0 ([] :List Pat).length false)<|.W 0 3 [0,1,2] (aCu b a d e c f 0 ([] :List Pat)))<|.i [rn 13,.nilL 5 4] []<|gu 0 2 (av ([] :List Pat))<|gs 0 5 (.gl 2 4 0 ([] :List Pat).length false)<|.W 0 3 [0,1,2] (aCu b a d e c a 0 ([] :List Pat))
def aYP:=fun a b c d e f g i j=>bIf a b c d e|>.t g f i j ⟨fP,trivial⟩
def aYQ:=fun a b c d e f=>bIf a b c d e|>.f f ⟨fP,trivial⟩
def bIg(d m:Int)(e:cA)(a:List Pat)(f:List Int)(g b:Int)(c:List Pat):=tT 0 (aCu d m e a f g b c)<|gm 6 aH a<|gd 2 20 (b< (a.length:Int)) (vA 9 a b<|fun n o p q=>.y fun i:Int=>.y fun j:Int=>.y fun k:cA=>.y fun l:List Pat=>gp 2 101 [(.agg [(nI n),(nI o),(dP p),(iP q)]),(iI f)] (.agg [(nI i),(nI j),(dP k),(iP l)])<|gA 1 aH c [(Pat.mk i j k l)]<|gw 6 22 (b+1)<|.W 3 5 [0,1,4] (aCu d m e a f g (b+1) (c++ [(Pat.mk i j k l)])))<|gZ 6 33 2 4 aH fP c false<|gE 8 3 (.agg [(nI d),(nI g),(dP e),(iP c)])
def aYR:=fun a b c d e f g i j k l m n o p q r s t u v w=>bIg a b c d e f g i|>.t r j k l m s t n o p q u v w ⟨fP,trivial⟩
def aYS:=fun a b c d e f g i j=>bIg a b c d e f g i|>.f j tv
def aYT (a b:Int):=(tT 0 (start PP 61 [(nI a),(nI b)])<|.i [rn 15,.nilL 5 1] []<|gu 0 0 (jI ([] :List Int))<|gs 0 5 (.gl 0 1 0 ([] :List Int).length false)<|.W 0 1 [0] (aFj a b 0 ([] :List Int))) ⟨kk,trivial⟩
def bIh(b d a:Int)(c:List Int):=tT 0 (aFj b d a c)<|gd 7 9 (a<d) (gw 9 15 (b+a)<|ga 1 bU c [(b+a)]<|gw 6 11 (a+1)<|.W 3 3 [2] (aFj b d (a+1) (c++ [(b+a)])))<|gz 8 4 0 1 bU c false<|gE 0 1 (iI c)
def aYU:=fun a b c d e f g i=>bIh a b c d|>.t e f g i ⟨kk,trivial⟩
def aYV:=fun a b c d e=>bIh a b c d|>.f e tv
def aAN (cons:List Int)(f n:Int) :Option Int:=if f=6 then(if 0≤n then cons[n.toNat]? else none)else some n
mutual
def aG4 (cons:List Int) :Pat→Option Pat
 | .mk f n t ps=>match aAN cons f n with
  | some n'=>match qP cons ps with
   |some ps'=>some (.mk f n' t ps')
   |none=>none
  |none=>none
def qP (cons:List Int) :List Pat→Option (List Pat)
 | [] =>some []
 | p::ps=>match aG4 cons p with
  | some p'=>match qP cons ps with
   |some ps'=>some (p'::ps')
   |none=>none
  |none=>none
end
theorem aI9 (f n:Int)(s:cA)(ps:List Pat)(cons:List Int)(e:Int)(hl:ps.length<1000000)(o:∀p∈ps,∀g,aG4 cons p=some g→aJ PP 101 [Pat.av p,.ilst 1 (List.map bU cons) false] (Pat.av g)) :
  ∀ (t:List Pat) (i:Nat) (a j:List Pat),ps.drop i=t→a.length=i→qP cons t=some j→Ends PP 0 (aCu f n s ps cons e (i:Int) a).as (.ret (Pat.av (.mk f e s (a++j)))) (aA [] 0)
 | [],i,a,j,h,m,b=>by
  have:=bJ h;cases b;rw [oS];exact aYS f n s ps cons e i a sd
 | .mk q v w c::t,i,a,j,h,m,b=>by
  obtain⟨y,z,B⟩ :=bE h;simp only [qP]at b;split at b
  · rename_i g l;split at b
    · rename_i A k;cases b;obtain⟨u,r,x,d⟩ :=g;refine(aYR f n s ps cons e i a q v w c u r x d sd sd sd (o (.mk q v w c) (iO y) _ l) (by simp;omega) sd).ends ?_;have:=aI9 f n s ps cons e hl o t (i+1) (a++ [.mk u r x d]) A z (by simp [m]) k;rw [zq9]at this;exact this
    ·cases b
  ·cases b
mutual
theorem aVG (cons:List Int) :∀ (p:Pat),cB p<1000000→∀i,aG4 cons p=some i→aJ PP 101 [Pat.av p,.ilst 1 (List.map bU cons) false] (Pat.av i)
 | .mk f n s d,h,i,a=>by
  refine aO aC (by simp [keylessL,mF,AV.keyless]) (mF _) ?_;simp only [cB]at h;have:=eT d;simp only [aG4]at a;split at a
  · rename_i k b;split at a
    · rename_i g e;cases a;have c:=aI9 f n s d cons k (by omega) (aG5 cons d (by omega)) d 0 [] g rfl rfl e;unfold aAN at b;split at b
      · rename_i j;split at b
        · rename_i l;exact(aYP f n s d cons k (by simp [j]) l b).ends c
        ·cases b
      · rename_i j;cases b;exact(aYQ f n s d cons (by simp [j])).ends c
    ·cases a
  ·cases a
theorem aG5 (cons:List Int) :∀ (b:List Pat),aT b<1000000→∀p∈b,∀c,aG4 cons p=some c→aJ PP 101 [Pat.av p,.ilst 1 (List.map bU cons) false] (Pat.av c)
 | [],_,p,a=>by cases a
 | q::b,h,p,a=>by
  simp only [aT]at h;rcases zq7.1 a with e|a
  ·rw [e];exact aVG cons q (by omega)
  ·exact aG5 cons b (by omega) p a
end
def mN (funs cons:List Int)(op n:Int) :Option Int:=
 if op=4∧n<0 then
  match funs[(-1-n).toNat]? with
  |some g=>if -1000000000≤n∧ -1000000000≤g∧g≤1000000000 then some (-1-g)else none
  |none=>none
 else if op=14 then(if 0≤n then cons[n.toNat]? else none)else some n
def mU (f:Nat→Int→Option (List Node)) :Nat→List Int→Option (List Int×List Node)
 |_,[] =>some ([],[])
 | len,c::cs=>match f len c with
  | some ns=>match mU f (len+ns.length) cs with
   |some (ks,r) =>some ((len:Int) ::ks,ns++r)
   |none=>none
  |none=>none
def gV (p:Prog)(funs cons:List Int) :Nat→Nat→Int→Option (List Node)
 |0,_,_=>none
 | k+1, len,at0=>if 0≤at0∧len<1000000 then
   match p.nodes[at0.toNat]? with
   | some y=>if y.kids.length<1000000∧aT y.pats<1000000 then
     match mN funs cons y.op y.n with
     | some n'=>match qP cons y.pats with
      | some ps'=>match mU (gV p funs cons k) (len+1) y.kids with
       |some (ks,r) =>some (⟨y.op,n',ks,ps'⟩ ::r)
       |none=>none
      |none=>none
     |none=>none
    else none
   |none=>none
  else none
abbrev PA (p:Prog) :AV:=.agg [(.ilst 4 (List.map Node.av p.nodes) false),(.ilst 1 (List.map bU p.funs) false),(.int .i64 p.main),(.ilst 2 (List.map Con.av p.cons) false)]
abbrev lT (p:Prog) :AObj:=.cells (putCells .leaf 0 [(.ilst 4 (List.map Node.av p.nodes) false),(.ilst 1 (List.map bU p.funs) false),(.int .i64 p.main),(.ilst 2 (List.map Con.av p.cons) false)]) 4 [] false
abbrev OL (L:List ONode) :AObj:=.lst 4 (List.map ONode.av L)
abbrev EndsL (s:TS)(L:List ONode) :Prop:=Ends PP 0 s.as (.ret (.gl 0 4 0 (length L) false)) (aA [(0,OL L,true)] 1)
def aCv (p:Prog)(funs cons:List Int)(c:Int)(L:List ONode)(ns:List Node) :Prop:=
 aSu PP (.enter 60 [.gl 0 4 0 (length L) false,PA p,.int .i64 c,.ilst 1 (List.map bU funs) false,.ilst 1 (List.map bU cons) false]) (aA [(0,OL L,true)] 1)
  (.ret (.gl 0 4 0 (length (L++List.map Node.o ns)) false)) (aA [(0,OL (L++List.map Node.o ns),true)] 1)
theorem aYW (L:List ONode) : (OL L).kl:=aG _ (fun _=>dI _) _
theorem aYX {p:Prog}{a cons:List Int}{c:Int}{L:List ONode}{d:List Node}(h:aCv p a cons c L d)(u:Value)(b:List Int) :
  Spec PP (.enter 60 [.gl 0 4 0 (length L) false,PA p,.int .i64 c,.ilst 1 (List.map bU a) false,.ilst 1 (List.map bU cons) false])
   (aA [(0,OL L,true),(1,lT p,false),(2,.lstv u 1 (List.map bU b),true)] 3)
   (.ret (.gl 3 4 0 (length (L++List.map Node.o d)) false))
   (aA [(1,lT p,false),(2,.lstv u 1 (List.map bU b),true),(3,OL (L++List.map Node.o d),true)] 4) :=
 Eq.mp aC (aBY (ks:=[0]) (n2:=3) (lc:=[(0,OL L,true),(1,lT p,false),(2,.lstv u 1 (List.map bU b),true)])
  (x:=[(1,lT p,false),(2,.lstv u 1 (List.map bU b),true)])
  (args':=[.gl 0 4 0 (length L) false,PA p,.int .i64 c,.ilst 1 (List.map bU a) false,.ilst 1 (List.map bU cons) false])
  h aC aC aC ⟨aYW L,trivial⟩ aC aC aC aC ⟨aYW _,trivial⟩ aC)
theorem aVH (p:Prog)(l:List ONode)(d:Int)(a cons b:List Int)(e:List ONode)(f:List Int)(c:Int)(h:Option Addr)(g i:Nat) :
  (⟨{(yW p l d a cons b e f c).as.fr with tm:= (yW p l d a cons b e f c).as.fr.tm.put 91 (.val (.slice h g i))},(yW p l d a cons b e f c).as.cs,(yW p l d a cons b e f c).as.h.set 2 (.lstv (.slice h g i) 1 (List.map bU f))⟩ :AS) = (aLr p l d a cons b e f c h g i).as:=by kernel_rfl
theorem aYY {p:Prog}{l:List ONode}{f:Int}{a cons c:List Int}{h:List ONode}{g:List Int}{d:Int}{L:List ONode}(o:0<g.length)
  (hk:∀k i m,EndsL (aLr p l f a cons c h g d k i m) L) :EndsL (yW p l f a cons c h g d) L:=by
 refine aT1 (j:=91) (b:=2) (e:=1) (n:=length g) (ex:=false) (xs:=List.map bU g) aC aC (hJ ..) o (fun k i m=>?_);have:=hk k i m;unfold EndsL at this;rw [←aVH]at this;exact this
end
end Go.Hb
