/- A machine on abstract values, its soundness, ways, plain laws. -/
import Derived.Test.YtnljmgihoioocaaGreatHF
import Derived.Test.YtnljmgihoioocaaGreatHG
import Derived.Test.YtnljmgihoioocaaGreatHH
import Derived.Test.YtnljmgihoioocaaGreatHI
set_option linter.defProp false
set_option linter.unusedVariables false
set_option linter.unusedSimpArgs false
set_option linter.unusedSectionVars false
set_option maxRecDepth 100000
set_option maxHeartbeats 1000000
namespace Go.Hb
open AV (ep ilst keylessL ptr ren)
open List (getElem?_set_ne getElem?_set_self length map_set replicate set set_set)
open Pats (av)
open Go.Proofs Tryz
noncomputable section
abbrev mI (a:Nat)(b c:Int)(d:Nat):=oC a [(nI b),(nI c),(.ep 1 1 d 0)]
abbrev aKl (a:Nat)(b c:Int)(d:List XT)(e:List Pat):=oC a [(nI b),(nI c),(.gl 12 1 0 d.length false),(iP e)]
abbrev aR1 (a b c:Int)(d:Nat)(e f:Int)(g:List XT)(h:List Pat)(i:List (Nat×Nat))(j:List XT):List (Nat×AObj×Bool):=[(6,(.loop .done (some (.exit 0)) 74 (dK [kp 3 9,kp 5 5]) 41 [10] (kd f74 436) (kd f74 437) 7),false),(7,(.defd false),false),oC 8 [(.yield 6)],oC 9 [(nI a)],mI 10 b c d,aKl 11 e f g h,(12,gh,false),(13,(.zone true [11] (eN i (set (List.map some j) d none) d)),false)]
abbrev zO (a:Int):List (Nat×AObj×Bool):=[(2,(.loop .ready none 93 (dK [kp 2 8]) 19 [6] (kd f93 28) (kd f93 29) 4),false),oC 3 [(.ptr 0 0)],(4,(.defd false),false),oC 5 [(bV false)],(6,(.loop .ready none 74 (dK [kp 3 9,kp 5 5]) 41 [10] (kd f74 436) (kd f74 437) 7),false),(7,(.defd false),false),oC 8 [(.yield 6)],oC 9 [(nI a)]]
abbrev aR2 (a:Int):=[oC 3 [(.ptr 0 0)],(4,(.defd false),false),oC 5 [(bV false)],(6,(.loop .ready none 74 (dK [kp 3 9,kp 5 5]) 41 [10] (kd f74 436) (kd f74 437) 7),false),(7,(.defd false),false),oC 8 [(.yield 6)],oC 9 [(nI a)]]
abbrev aEB (a:Int):List (Nat×AObj×Bool):=[(2,(.loop .busy none 93 (dK [kp 2 8]) 19 [6] (kd f93 28) (kd f93 29) 4),false),oC 3 [(.ptr 0 0)],(4,(.defd false),false),oC 5 [(bV false)],(6,(.loop .busy none 74 (dK [kp 3 9,kp 5 5]) 41 [10] (kd f74 436) (kd f74 437) 7),false),(7,(.defd false),false),oC 8 [(.yield 6)],oC 9 [(nI a)]]
abbrev pF (a:Nat)(b c:Int)(d:Nat):=oC a [(nI b),(nI c),(.ep 1 1 d 0)]
abbrev aR3 (a:List (Nat×Nat))(b c d:Int)(e:Nat)(f:List XT)(g:XT):=aA ([oL 1 1 (List.map aW a)]++aEB b++[pF 10 c d e,pF 11 c d e,pF 14 c d e,(15,(.zone true [] (ZV a (set (List.map some f) e none))),false),(16,gh,false),(17,(.zone true [16] (Z1 g)),false)]) 18
abbrev aR4 (a:List (Nat×Nat))(b c d:Int)(e:Nat)(f g:Int)(h:List XT)(i:List Pat)(j:List XT):=aA ([oL 1 1 (List.map aW a)]++zO b++[pF 10 c d e,oC 11 [(nI f),(nI g),(.gl 12 1 0 h.length false),(iP i)],(12,gh,false),(13,(.zone true [11] (eN a (set (List.map some j) e none) e)),false),(14,(.zone true [12] (cH h)),false)]) 15
abbrev zP (a:List (Nat×Nat))(b c d:Int)(e:Nat)(f:List XT):=aA ([oL 1 1 (List.map aW a)]++aEB b++[pF 10 c d e,pF 11 c d e,(13,(.zone true [] (ZV a (List.map some f))),false),pF 14 c d e]) 15
abbrev aEC (a:List (Nat×Nat))(b c d:Int)(e:Nat)(f:List XT):=aA ([oL 1 1 (List.map aW a),(2,(.loop .busy none 93 (dK [kp 2 8]) 19 [6] (kd f93 28) (kd f93 29) 4),false)]++aR2 b++[pF 10 c d e,pF 11 c d e,(13,(.zone true [] (ZV a (List.map some f))),false)]) 14
abbrev vD (a:Nat)(b:List (Nat×Nat)):=oL a 1 (List.map aW b)
abbrev aQC (a:Int)(b:List (Nat×Nat))(c d e:Int)(f:Nat)(g h:Int)(i:List XT)(j:List Pat)(k:List XT)(l:Int):=Spec PP (.enter 178 [(.ptr 11 0),(nI a)]) (aR4 b c d e f g h i j k) (.ret (nI l)) (aR4 b c d e f g h i j k)
abbrev aXL (a:Nat×Nat)(b:Int)(c:List (Nat×Nat))(d e:Int)(f:Nat)(g:List XT)(h:XT):=Spec PP (.enter 247 [(.agg []),(aW a),(nI b)]) (zP c d e b f g) (.ret (.ptr 16 0)) (aR3 c d e b f g h)
abbrev aXM (a:Int)(b:Nat×Nat)(c:Int)(d:List (Nat×Nat))(e f:Int)(g:Nat)(h:List XT)(i:XT):=Spec PP (.enter 253 [(nI a),(aW b),(nI c)]) (zP d e f c g h) (.ret (.ptr 16 0)) (aR3 d e f c g h i)
abbrev aXN (a:Nat×Nat)(b:List (Nat×Nat))(c d e:Int)(f:Nat)(g:List XT):=Spec PP (.enter 95 [(aW a)]) (zP b c d e f g) (.ret (.iface 191 (.agg []))) (zP b c d e f g)
abbrev aXO (a:Nat×Nat)(b:List (Nat×Nat))(c d e:Int)(f:Nat)(g:List XT)(h:Int):=Spec PP (.enter 95 [(aW a)]) (zP b c d e f g) (.ret (.iface 193 (nI h))) (zP b c d e f g)
abbrev aXP (a:Nat×Nat)(b:List (Nat×Nat))(c d e:Int)(f:Nat)(g:List XT):=Spec PP (.enter 95 [(aW a)]) (aEC b c d e f g) (.ret (.iface 191 (.agg []))) (aEC b c d e f g)
abbrev aXQ (a:Nat×Nat)(b:List (Nat×Nat))(c d e:Int)(f:Nat)(g:List XT)(h:Int):=Spec PP (.enter 95 [(aW a)]) (aEC b c d e f g) (.ret (.iface 193 (nI h))) (aEC b c d e f g)
abbrev aXR (a:List (Nat×Nat))(b c d:Int)(e:Nat)(f g:Int)(h:List XT)(i:List Pat)(j:List XT):=aA ([vD 1 a,(2,(.loop .done (some .ret) 93 (dK [kp 2 8]) 19 [6] (kd f93 28) (kd f93 29) 4),false),oC 3 [(.ptr 0 0)],(4,(.defd false),false),oC 5 [(bV false)]]++aR1 b c d e f g h i a j++[(15,(.zone true [12] (cH h)),false)]) 16
abbrev aXS (a:List (Nat×Nat))(b c d:Int)(e:Nat)(f g:Int)(h:List XT)(i:List Pat)(j k:List XT):=aA ([vD 1 a,(2,(.loop .done (some .ret) 93 (dK [kp 2 8]) 19 [6] (kd f93 28) (kd f93 29) 4),false),oC 3 [(.ptr 0 0)],(4,(.defd false),false),oC 5 [(bV true)]]++aR1 b c d e f g h i a j++[(15,(.zone true [12] (cH k)),false)]) 16
abbrev aR5 (a:List (Nat×Nat))(b c d:Int)(e:Nat)(f:List XT)(g:XT):=aA ([vD 1 a]++aEB b++[mI 10 c d e,mI 11 c d e,mI 14 c d e,(15,(.zone true [] (ZV a (set (List.map some f) e none))),false),(16,gh,false),(17,(.zone true [16] (Z1 g)),false)]) 18
abbrev zQ (a:List (Nat×Nat))(b c d:Int)(e:Nat)(f g:Int)(h:List XT)(i:List Pat)(j:List XT):=aA ([vD 1 a]++zO b++[mI 10 c d e,aKl 11 f g h i,(12,gh,false),(13,(.zone true [11] (eN a (set (List.map some j) e none) e)),false),(14,(.zone true [12] (cH h)),false)]) 15
abbrev aR6 (a:List (Nat×Nat))(b c d:Int)(e:Nat)(f g:Int)(h:List XT)(i:List Pat)(j:List XT):=aA ([vD 1 a]++zO b++[mI 10 c d e,aKl 11 f g h i,(12,gh,false),(13,(.zone true [11] (eN a (set (List.map some j) e none) e)),false),(15,(.zone true [12] (cH h)),false)]) 16
abbrev aR7 (a:List (Nat×Nat))(b c d:Int)(e:Nat)(f:List XT):=aA ([vD 1 a]++aEB b++[mI 10 c d e,mI 11 c d e,(13,(.zone true [] (ZV a (List.map some f))),false),mI 14 c d e]) 15
abbrev aCa (a:List (Nat×Nat))(b c d:Int)(e:Nat)(f:List XT):=aA ([vD 1 a,(2,(.loop .busy none 93 (dK [kp 2 8]) 19 [6] (kd f93 28) (kd f93 29) 4),false)]++aR2 b++[mI 10 c d e,mI 11 c d e,(13,(.zone true [] (ZV a (List.map some f))),false)]) 14
abbrev aKm (a b c d:Int):AV:=.agg [(nI a),(nI (IntKind.i64.wrap (b+c))),(.ep 12 1 (0+d.toNat) 0)]
abbrev aCb (a:Nat)(b c:Int)(d:List XT)(e:List Pat):=oC a [(nI b),(nI c),(.gl 12 1 0 d.length false),(iP e)]
abbrev nW (a:Nat)(b c:Int)(d:List XT)(e:List Pat):=oC a [(nI b),(nI c),(.gl 1 1 0 d.length false),(iP e)]
abbrev aKn (a b:Int):AV:=.agg [(nI a),(nI 1),(.ep 1 1 (0+b.toNat) 0)]
abbrev kU (a:Nat)(b:List XT)(c:Int)(d:List Con):=oC a [(.gl 1 1 0 b.length false),(nI c),(iC d)]
abbrev vE (a b:Int)(c:Nat):AV:=.agg [(nI a),(nI b),(.ep 1 1 c 0)]
abbrev fX (a:Nat)(b c:Int)(d:Nat):=oC a [(nI b),(nI c),(.ep 1 1 d 0)]
abbrev jD (a:Nat)(b:List (Nat×Nat)):=oL a 1 (List.map aW b)
abbrev aKo:AV:=.iface 191 (.agg [])
def bE1(a b:Int)(c:List XT)(d:List Pat)(e:Int):TS:=aX PP 178 [(.ptr 0 0),(nI e)] [nW 0 a b c d,(1,gh,false)] 2
def bE2(a:List XT)(b:Int)(c:List Con)(d:Int):TS:=aX PP 74 [(.ptr 0 0),(nI d)] [kU 0 a b c,(1,gh,false),(2,(.zone true [1] (cH a)),false)] 3
def aKp(a:List XT)(b:Int)(c:List Con)(d e f:Int):TS:=⟨(tf 135 26 [(0,(.yield 2)),kp 1 3,(3,(nI e)),(9,(nI (a.length:Int))),(10,(nI f))] [kc f135 28,kl f135 28,.inBlock 0]),[(tf 93 19 [] [.inRF 2,.inBlock 0] (defers:=[.col 4])),(tf 74 41 [(4,(bV false)),kp 5 5] [.inRF 6,.inBlock 0,kc f74 55,.inScope (kd f74 6)] (defers:=[.col 7]))],[kU 0 a b c,(1,gh,false),(2,(.loop .ready none 93 (dK [kp 2 8]) 19 [6] (kd f93 28) (kd f93 29) 4),false),oC 3 [(.ptr 0 0)],(4,(.defd false),false),oC 5 [(bV false)],(6,(.loop .ready none 74 (dK [kp 3 9,kp 5 5]) 41 [10] (kd f74 436) (kd f74 437) 7),false),(7,(.defd false),false),oC 8 [(.yield 6)],oC 9 [(nI d)],(10,(.zone true [1] (cH a)),false)],11⟩
def aXT(a b c:Int)(d:List XT)(e:Nat)(f:List (Nat×Nat))(g i:Int)(j:List XT)(k:List Pat):TS:=aX PP 136 [(vE b c e),(.yield 2)] [(1,gh,false),(2,(.loop .ready none 93 (dK [kp 2 8]) 19 [6] (kd f93 28) (kd f93 29) 4),false),oC 3 [(.ptr 0 0)],(4,(.defd false),false),oC 5 [(bV false)],(6,(.loop .ready none 74 (dK [kp 3 9,kp 5 5]) 41 [10] (kd f74 436) (kd f74 437) 7),false),(7,(.defd false),false),oC 8 [(.yield 6)],oC 9 [(nI a)],(10,(.zone true [1] (cH d)),false)] 11
def aKq(d a b:Int)(e:List XT)(c:Nat)(f:List (Nat×Nat))(g i:Int)(j:List XT)(k:List Pat):TS:=⟨(tf 93 19 [kp 2 8,kp 3 10] [kc f93 116,kc f93 117,.inBlock 1] (roundOf:=some 2)),[(tf 136 48 [(1,(.yield 2)),kp 2 11,(4,(nI 0)),(8,(.yield 2)),(9,(vE a b c))] [ko f136 12 2,kc f136 13,kc f136 7])],[(1,gh,false),(2,(.loop .busy none 93 (dK [kp 2 8]) 19 [6] (kd f93 28) (kd f93 29) 4),false),oC 3 [(.ptr 0 0)],(4,(.defd false),false),oC 5 [(bV false)],(6,(.loop .ready none 74 (dK [kp 3 9,kp 5 5]) 41 [10] (kd f74 436) (kd f74 437) 7),false),(7,(.defd false),false),oC 8 [(.yield 6)],oC 9 [(nI d)],fX 10 a b c,fX 11 a b c,(12,(.zone true [1] (cH e)),false)],13⟩
def iO(e a b:Int)(f:List XT)(c:Nat)(d:List (Nat×Nat))(g i:Int)(j:List XT)(k:List Pat):TS:=⟨(tf 93 19 [kp 2 8,kp 3 10] [kc f93 116,kc f93 117,.inBlock 1] (roundOf:=some 2)),[(tf 136 48 [(1,(.yield 2)),kp 2 11,(4,(nI 0)),(8,(.yield 2)),(9,(vE a b c))] [ko f136 12 2,kc f136 13,kc f136 7])],[jD 1 d,(2,(.loop .busy none 93 (dK [kp 2 8]) 19 [6] (kd f93 28) (kd f93 29) 4),false),oC 3 [(.ptr 0 0)],(4,(.defd false),false),oC 5 [(bV false)],(6,(.loop .ready none 74 (dK [kp 3 9,kp 5 5]) 41 [10] (kd f74 436) (kd f74 437) 7),false),(7,(.defd false),false),oC 8 [(.yield 6)],oC 9 [(nI e)],fX 10 a b c,fX 11 a b c,(13,(.zone true [] (ZV d (List.map some f))),false)],14⟩
def aCc(e b c:Int)(f:List XT)(a:Nat)(d:List (Nat×Nat))(i j:Int)(k:List XT)(l:List Pat)(g:XT):TS:=⟨(tf 74 41 [kp 5 5] [kc f74 27979,.inBlock 2,.inBlock 1] (roundOf:=some 6)),[(tf 93 19 [(13,(bV true)),(14,(.yield 6)),(15,(vE b c a))] [ko f93 116 9,kc f93 117,.inBlock 1] (roundOf:=some 2)),(tf 136 48 [(1,(.yield 2)),kp 2 10,(4,(nI 0)),(8,(.yield 2)),(9,(vE b c a))] [ko f136 12 2,kc f136 13,kc f136 7])],[(1,(.lst 1 ((List.map aW d).set a (.ptr 11 0))),false),(2,(.loop .busy none 93 (dK [kp 2 8]) 19 [6] (kd f93 28) (kd f93 29) 4),false),oC 3 [(.ptr 0 0)],(4,(.defd false),false),oC 5 [(bV false)],(6,(.loop .busy none 74 (dK [kp 3 9,kp 5 5]) 41 [10] (kd f74 436) (kd f74 437) 7),false),(7,(.defd false),false),oC 8 [(.yield 6)],oC 9 [(nI e)],fX 10 b c a,(11,gh,false),(12,(.zone true [11] (Z1 g)),false),(13,(.zone true [] (ZV d (set (List.map some f) a none))),false)],14⟩
def aCd(f b c:Int)(g:List XT)(a:Nat)(d:List (Nat×Nat))(j k:Int)(l:List XT)(m:List Pat)(i:XT)(e:Nat×Nat):TS:=⟨(tf 74 41 [kp 5 5] [kc f74 27979,.inBlock 2,.inBlock 1] (roundOf:=some 6)),[(tf 93 19 [(13,(bV true)),(14,(.yield 6)),(15,(vE b c a))] [ko f93 116 9,kc f93 117,.inBlock 1] (roundOf:=some 2)),(tf 136 48 [(1,(.yield 2)),kp 2 10,(4,(nI 0)),(8,(.yield 2)),(9,(vE b c a))] [ko f136 12 2,kc f136 13,kc f136 7])],[oL 1 1 (List.map aW (set d a e)),(2,(.loop .busy none 93 (dK [kp 2 8]) 19 [6] (kd f93 28) (kd f93 29) 4),false),oC 3 [(.ptr 0 0)],(4,(.defd false),false),oC 5 [(bV false)],(6,(.loop .busy none 74 (dK [kp 3 9,kp 5 5]) 41 [10] (kd f74 436) (kd f74 437) 7),false),(7,(.defd false),false),oC 8 [(.yield 6)],oC 9 [(nI f)],fX 10 b c a,(14,(.zone true [] (ZV (set d a e) (set (set (List.map some g) a none) a (some i)))),false)],15⟩
def zR(c a d:Int)(e:List XT)(f:Nat)(b:List (Nat×Nat))(i j:Int)(k:List XT)(l:List Pat)(g:Nat×Nat):TS:=⟨(tf 136 48 [(1,(.yield 2)),kp 2 10,(4,(nI 0)),(5,(nI (a+1))),(6,(aW g))] [kc f136 124,kc f136 125,kc f136 63]),[],([jD 1 b]++zO c++[fX 10 a d f,(11,(.zone true [] (ZV b (List.map some e))),false)]),12⟩
def aGk(e b f:Int)(g:List XT)(a:Nat)(c:List (Nat×Nat))(i j:Int)(d:List XT)(k:List Pat)(l:Nat×Nat):TS:=⟨(tf 136 48 [(1,(.yield 2)),kp 2 10,(4,(nI 0)),(5,(nI (b+1))),kp 6 12] [kc f136 124,kc f136 125,kc f136 63]),[],([jD 1 c]++zO e++[fX 10 b f a,oC 12 [(nI i),(nI j),(.gl 13 1 0 d.length false),(iP k)],(13,gh,false),(14,(.zone true [13] (cH d)),false),(15,(.zone true [12] (eN c (set (List.map some g) a none) a)),false)]),16⟩
def aED(d e f:Int)(g:List XT)(a:Nat)(c:List (Nat×Nat))(i j:Int)(b:List XT)(k:List Pat)(l m:Int):TS:=⟨(tf 136 48 [(1,(.yield 2)),kp 2 10,(4,(nI 0)),(5,(nI l)),kp 6 11,(23,(nI (b.length:Int))),(24,(nI m))] [kc f136 500,kl f136 500,.inBlock 0,kc f136 63]),[],([jD 1 c]++zO d++[fX 10 e f a,aCb 11 i j b k,(12,gh,false),(13,(.zone true [11] (eN c (set (List.map some g) a none) a)),false),(14,(.zone true [12] (cH b)),false)]),15⟩
def aA6(a c:Int)(d:List XT)(b:List Pat)(e:Int):=tT 2 (bE1 a c d b e)<|.b 14 11 (a==5) (.E 25 2 [] (nI 1) [nW 0 a c d b,(1,gh,false)] 2)<|.b 7 18 (a==27) (.E 18 2 [] (nI 1) [nW 0 a c d b,(1,gh,false)] 2)<|.b 6 24 (a==7) (.b 6 5 (e==1) (.E 6 2 [] (nI 1) [nW 0 a c d b,(1,gh,false)] 2)<|.b 9 35 (a==15) (gd 5 29 (e>0) (gw 9 44 (e-1)<|uP 0 b (e-1)<|fun f g i j=>gpI 1 201 [(.agg [(nI f),(nI g),(dP i),(iP j)])]<|fun k=>.E 3 2 [] (nI k) [nW 0 a c d b,(1,gh,false)] 2)<|.E 8 2 [] (nI 0) [nW 0 a c d b,(1,gh,false)] 2)<|.E 13 2 [] (nI 0) [nW 0 a c d b,(1,gh,false)] 2)<|.b 15 35 (a==15) (gd 5 29 (e>0) (gw 9 44 (e-1)<|uP 0 b (e-1)<|fun f g i j=>gpI 1 201 [(.agg [(nI f),(nI g),(dP i),(iP j)])]<|fun k=>.E 3 2 [] (nI k) [nW 0 a c d b,(1,gh,false)] 2)<|.E 8 2 [] (nI 0) [nW 0 a c d b,(1,gh,false)] 2)<|.E 13 2 [] (nI 0) [nW 0 a c d b,(1,gh,false)] 2
def bC8:=fun a b c d e f=>aA6 a b c d e|>.t f tv
def bC9:=fun a b c d e f g=>aA6 a b c d e|>.f f|>.t g tv
def bDa:=fun a b c d e f g i j=>aA6 a b c d e|>.f f|>.f g|>.t i|>.t j tv
def bDb:=fun a b c d e f g i j k=>aA6 a b c d e|>.f f|>.f g|>.t i|>.f j|>.f k tv
def bDc:=fun a b c d e f g i j k l m n o p q r s t=>aA6 a b c d e|>.f l|>.f m|>.f n|>.t o|>.t p q f g i j r s k t tv
def bDd:=fun a b c d e f g i j k=>aA6 a b c d e|>.f f|>.f g|>.f i|>.t j|>.f k tv
def bDe:=fun a b c d e f g i j=>aA6 a b c d e|>.f f|>.f g|>.f i|>.f j tv
def bDf (a:List XT)(b:Int)(c:List Con)(d:Int):=(tT 2 (bE2 a b c d)<|.i [rn 33,.lkeep 7 [3,5]] []<|.i [rn 23,.lkeep 11 [2]] []<|.W 15 12 [11,9,10,4,7,6,8,3,2] (aKp a b c d 0 0)) tv
def aKr(a:List XT)(b:Int)(c:List Con)(e f d:Int):=tT 2 (aKp a b c e f d)<|gd 5 11 (d< (a.length:Int)) (.i [rn 17,.ans (.ix)] [hA (0≤d),hA (d< (a.length:Int))]<|.o (gk 2 (.enter 136 [(aKn f d),(.yield 2)]) [kU 0 a b c,(1,gh,false),(2,(.loop .ready none 93 (dK [kp 2 8]) 19 [6] (kd f93 28) (kd f93 29) 4),false),oC 3 [(.ptr 0 0)],(4,(.defd false),false),oC 5 [(bV false)],(6,(.loop .ready none 74 (dK [kp 3 9,kp 5 5]) 41 [10] (kd f74 436) (kd f74 437) 7),false),(7,(.defd false),false),oC 8 [(.yield 6)],oC 9 [(nI e)],(10,(.zone true [1] (cH a)),false)] 11 (nI (-1)) [kU 0 a b c,(1,gh,false),(2,(.loop .done (some .ret) 93 (dK [kp 2 8]) 19 [6] (kd f93 28) (kd f93 29) 4),false),oC 3 [(.ptr 0 0)],(4,(.defd false),false),oC 5 [(bV false)],(6,(.loop .done (some (.exit 0)) 74 (dK [kp 3 9,kp 5 5]) 41 [10] (kd f74 436) (kd f74 437) 7),false),(7,(.defd false),false),oC 8 [(.yield 6)],oC 9 [(nI e)],(11,(.zone true [1] (cH a)),false)] 12<|.E 23 12 [11] (bV false) [kU 0 a b c,(1,gh,false),(2,(.zone true [1] (cH a)),false)] 3)<|.o (.y fun i:List XT=>gk 2 (.enter 136 [(aKn f d),(.yield 2)]) [kU 0 a b c,(1,gh,false),(2,(.loop .ready none 93 (dK [kp 2 8]) 19 [6] (kd f93 28) (kd f93 29) 4),false),oC 3 [(.ptr 0 0)],(4,(.defd false),false),oC 5 [(bV false)],(6,(.loop .ready none 74 (dK [kp 3 9,kp 5 5]) 41 [10] (kd f74 436) (kd f74 437) 7),false),(7,(.defd false),false),oC 8 [(.yield 6)],oC 9 [(nI e)],(10,(.zone true [1] (cH a)),false)] 11 (nI (-1)) [kU 0 a b c,(1,gh,false),(2,(.loop .done (some .ret) 93 (dK [kp 2 8]) 19 [6] (kd f93 28) (kd f93 29) 4),false),oC 3 [(.ptr 0 0)],(4,(.defd false),false),oC 5 [(bV true)],(6,(.loop .done (some (.exit 0)) 74 (dK [kp 3 9,kp 5 5]) 41 [10] (kd f74 436) (kd f74 437) 7),false),(7,(.defd false),false),oC 8 [(.yield 6)],oC 9 [(nI e)],(11,(.zone true [1] (cH i)),false)] 12<|.E 23 12 [11] (bV true) [kU 0 a b c,(1,gh,false),(2,(.zone true [1] (cH i)),false)] 3)<|.y fun g:Int=>gk 2 (.enter 136 [(aKn f d),(.yield 2)]) [kU 0 a b c,(1,gh,false),(2,(.loop .ready none 93 (dK [kp 2 8]) 19 [6] (kd f93 28) (kd f93 29) 4),false),oC 3 [(.ptr 0 0)],(4,(.defd false),false),oC 5 [(bV false)],(6,(.loop .ready none 74 (dK [kp 3 9,kp 5 5]) 41 [10] (kd f74 436) (kd f74 437) 7),false),(7,(.defd false),false),oC 8 [(.yield 6)],oC 9 [(nI e)],(10,(.zone true [1] (cH a)),false)] 11 (nI g) [kU 0 a b c,(1,gh,false),(2,(.loop .ready none 93 (dK [kp 2 8]) 19 [6] (kd f93 28) (kd f93 29) 4),false),oC 3 [(.ptr 0 0)],(4,(.defd false),false),oC 5 [(bV false)],(6,(.loop .ready none 74 (dK [kp 3 9,kp 5 5]) 41 [10] (kd f74 436) (kd f74 437) 7),false),(7,(.defd false),false),oC 8 [(.yield 6)],oC 9 [(nI e)],(11,(.zone true [1] (cH a)),false)] 12<|gd 7 24 (g<0) (.E 17 12 [11] (bV false) [kU 0 a b c,(1,gh,false),(2,(.zone true [1] (cH a)),false)] 3)<|gw 5 25 (d+1)<|.W 3 12 [2,3,4,5,6,7,8,9,11] (aKp a b c e g (d+1)))<|.E 18 11 [10] (bV false) [kU 0 a b c,(1,gh,false),(2,(.zone true [1] (cH a)),false)] 3
def bDg:=fun a b c d e f g i j k=>aKr a b c d e f|>.t g i j|>.1 k tv
def bDh:=fun a b c d e f g i j k l=>aKr a b c d e f|>.t i j k|>.2|>.1 g l tv
def bDi:=fun a b c d e f g i j k l m n=>aKr a b c d e f|>.t i j k|>.2|>.2 g l|>.f m n tv
def bDj:=fun a b c d e f g=>aKr a b c d e f|>.f g tv
def aXU (a b c:Int)(d:List XT)(e:Nat)(f:List (Nat×Nat))(g i:Int)(j:List XT)(k:List Pat):=(tT 10 (aXT a b c d e f g i j k)<|.W 18 13 [12,11,10] (aKq a b c d e f g i j k)) tv
def aGl(e b d:Int)(g:List XT)(c:Nat)(a:List (Nat×Nat))(i j:Int)(k:List XT)(l:List Pat):=tT 10 (iO e b d g c a i j k l)<|.y fun f:Nat×Nat=>.i [rn 4,aI (aW f)] [.a (((a)[c]?) =some f) (bL (f:=aW))]<|.o (.y fun m:Int=>gk 0 (.enter 95 [(aW f)]) [jD 1 a,(2,(.loop .busy none 93 (dK [kp 2 8]) 19 [6] (kd f93 28) (kd f93 29) 4),false),oC 3 [(.ptr 0 0)],(4,(.defd false),false),oC 5 [(bV false)],(6,(.loop .ready none 74 (dK [kp 3 9,kp 5 5]) 41 [10] (kd f74 436) (kd f74 437) 7),false),(7,(.defd false),false),oC 8 [(.yield 6)],oC 9 [(nI e)],fX 10 b d c,fX 11 b d c,(13,(.zone true [] (ZV a (List.map some g))),false)] 14 (.iface 193 (nI m)) [jD 1 a,(2,(.loop .busy none 93 (dK [kp 2 8]) 19 [6] (kd f93 28) (kd f93 29) 4),false),oC 3 [(.ptr 0 0)],(4,(.defd false),false),oC 5 [(bV false)],(6,(.loop .ready none 74 (dK [kp 3 9,kp 5 5]) 41 [10] (kd f74 436) (kd f74 437) 7),false),(7,(.defd false),false),oC 8 [(.yield 6)],oC 9 [(nI e)],fX 10 b d c,fX 11 b d c,(13,(.zone true [] (ZV a (List.map some g))),false)] 14<|.b 20 11 (b==e) .x<|gd 9 35 (b>e) (.E 15 15 [13] (nI (-1)) [jD 1 a,(2,(.loop .done (some .ret) 93 (dK [kp 2 8]) 19 [6] (kd f93 28) (kd f93 29) 4),false),oC 3 [(.ptr 0 0)],(4,(.defd false),false),oC 5 [(bV false)],(6,(.loop .done (some (.exit 0)) 74 (dK [kp 3 9,kp 5 5]) 41 [10] (kd f74 436) (kd f74 437) 7),false),(7,(.defd false),false),oC 8 [(.yield 6)],oC 9 [(nI e)],(10,(.zone true [] (ZV a (List.map some g))),false)] 11)<|gw 21 14 (b+1)<|.i [rn 7,aI (aW f)] [.a (((a)[c]?) =some f) (bL (f:=aW))]<|.W 4 15 [11,13] (zR e b d g c a i j k l f))<|.o (gk 0 (.enter 95 [(aW f)]) [jD 1 a,(2,(.loop .busy none 93 (dK [kp 2 8]) 19 [6] (kd f93 28) (kd f93 29) 4),false),oC 3 [(.ptr 0 0)],(4,(.defd false),false),oC 5 [(bV false)],(6,(.loop .ready none 74 (dK [kp 3 9,kp 5 5]) 41 [10] (kd f74 436) (kd f74 437) 7),false),(7,(.defd false),false),oC 8 [(.yield 6)],oC 9 [(nI e)],fX 10 b d c,fX 11 b d c,(13,(.zone true [] (ZV a (List.map some g))),false)] 14 aKo [jD 1 a,(2,(.loop .busy none 93 (dK [kp 2 8]) 19 [6] (kd f93 28) (kd f93 29) 4),false),oC 3 [(.ptr 0 0)],(4,(.defd false),false),oC 5 [(bV false)],(6,(.loop .ready none 74 (dK [kp 3 9,kp 5 5]) 41 [10] (kd f74 436) (kd f74 437) 7),false),(7,(.defd false),false),oC 8 [(.yield 6)],oC 9 [(nI e)],fX 10 b d c,fX 11 b d c,(13,(.zone true [] (ZV a (List.map some g))),false)] 14<|.b 20 11 (b==e) .x<|gd 9 35 (b>e) (.E 15 15 [13] (nI (-1)) [jD 1 a,(2,(.loop .done (some .ret) 93 (dK [kp 2 8]) 19 [6] (kd f93 28) (kd f93 29) 4),false),oC 3 [(.ptr 0 0)],(4,(.defd false),false),oC 5 [(bV false)],(6,(.loop .done (some (.exit 0)) 74 (dK [kp 3 9,kp 5 5]) 41 [10] (kd f74 436) (kd f74 437) 7),false),(7,(.defd false),false),oC 8 [(.yield 6)],oC 9 [(nI e)],(10,(.zone true [] (ZV a (List.map some g))),false)] 11)<|gw 21 14 (b+1)<|.i [rn 7,aI (aW f)] [.a (((a)[c]?) =some f) (bL (f:=aW))]<|.W 4 15 [11,13] (zR e b d g c a i j k l f))<|.i [.call .nili (aCa a e b d c g)] [hA (Spec PP (.enter 95 [(aW f)]) (aCa a e b d c g) (.ret .nili) (aCa a e b d c g))]<|gw 21 14 (b+1)<|.i [rn 7,aI (aW f)] [.a (((a)[c]?) =some f) (bL (f:=aW))]<|.W 4 14 [11,13] (zR e b d g c a i j k l f)
def aXV:=fun a b c d e f g i j k l m n o p q=>aGl a b c d e f g i j k l n|>.1 m o|>.f p|>.t q ⟨kk,trivial⟩
def aXW:=fun b c d e f g i j k l m n a o p q r=>aGl b c d e f g i j k l m a|>.1 n o|>.f p|>.f q r a ⟨kk,trivial⟩
def aXX:=fun a b c d e f g i j k l m n o p=>aGl a b c d e f g i j k l m|>.2|>.1 n|>.f o|>.t p ⟨kk,trivial⟩
def aXY:=fun b c d e f g i j k l m a n o p q=>aGl b c d e f g i j k l m a|>.2|>.1 n|>.f o|>.f p q a ⟨kk,trivial⟩
def aXZ:=fun b c d e f g i j k l m a n o=>aGl b c d e f g i j k l m a|>.2|>.2 n o a ⟨kk,trivial⟩
def aX0 (d g i:Int)(e:List XT)(a:Nat)(b:List (Nat×Nat))(j k:Int)(l:List XT)(m:List Pat)(f:XT)(c:Nat×Nat):=(tT 10 (aCd d g i e a b j k l m f c)<|.E 18 15 [14] (nI (-1)) [oL 1 1 (List.map aW (set b a c)),(2,(.loop .done (some .ret) 93 (dK [kp 2 8]) 19 [6] (kd f93 28) (kd f93 29) 4),false),oC 3 [(.ptr 0 0)],(4,(.defd false),false),oC 5 [(bV true)],(6,(.loop .done (some (.exit 0)) 74 (dK [kp 3 9,kp 5 5]) 41 [10] (kd f74 436) (kd f74 437) 7),false),(7,(.defd false),false),oC 8 [(.yield 6)],oC 9 [(nI d)],(10,(.zone true [] (ZV (set b a c) (set (set (List.map some e) a none) a (some f)))),false)] 11) ⟨kk,trivial⟩
def aX1 (b a c:Int)(d:List XT)(e:Nat)(f:List (Nat×Nat))(g i:Int)(j:List XT)(k:List Pat)(l:Nat×Nat):=(tT 10 (aGk b a c d e f g i j k l)<|.W 10 16 [10,12,13,15,14] (aED b a c d e f g i j k (a+1) 0)) ⟨kk,trivial⟩
def aKs(e k d:Int)(f:List XT)(a:Nat)(c:List (Nat×Nat))(g i:Int)(b:List XT)(j:List Pat)(n l:Int):=tT 10 (aED e k d f a c g i b j n l)<|gd 5 25 (l< (b.length:Int)) (.o (.y fun m:Int=>.i [rn 10,.reg (rd 5 (.call (nI m) (zQ c e k d a g i b j f)::rd 6 [.ans (.ix),.d,.d,.call (nI (-1)) (aXR c e k d a g i b j f),.d]))] [hA (aQC l c e k d a g i b j f m),hA (0≤l),hA (l< (b.length:Int)),hA (Spec PP (.enter 136 [(aKm n d m l),(.yield 2)]) (zQ c e k d a g i b j f) (.ret (nI (-1))) (aXR c e k d a g i b j f)),hr (AV.gl 12 1 0 b.length false),hr (AV.gl 12 1 0 b.length false),hr (nI d),hr (nI d)]<|.E 12 16 [13,11,12,15] (nI (-1)) [jD 1 c,(2,(.loop .done (some .ret) 93 (dK [kp 2 8]) 19 [6] (kd f93 28) (kd f93 29) 4),false),oC 3 [(.ptr 0 0)],(4,(.defd false),false),oC 5 [(bV false)],(6,(.loop .done (some (.exit 0)) 74 (dK [kp 3 9,kp 5 5]) 41 [10] (kd f74 436) (kd f74 437) 7),false),(7,(.defd false),false),oC 8 [(.yield 6)],oC 9 [(nI e)],(10,(.zone true [11] (eN c (set (List.map some f) a none) a)),false),aCb 11 g i b j,(12,gh,false),(13,(.zone true [12] (cH b)),false)] 14)<|.o (.y fun m:Int=>.y fun p:List XT=>.i [rn 10,.reg (rd 5 (.call (nI m) (zQ c e k d a g i b j f)::rd 6 [.ans (.ix),.d,.d,.call (nI (-1)) (aXS c e k d a g i b j f p),.d]))] [hA (aQC l c e k d a g i b j f m),hA (0≤l),hA (l< (b.length:Int)),hA (Spec PP (.enter 136 [(aKm n d m l),(.yield 2)]) (zQ c e k d a g i b j f) (.ret (nI (-1))) (aXS c e k d a g i b j f p)),hr (AV.gl 12 1 0 b.length false),hr (AV.gl 12 1 0 b.length false),hr (nI d),hr (nI d)]<|.E 12 16 [13,11,12,15] (nI (-1)) [jD 1 c,(2,(.loop .done (some .ret) 93 (dK [kp 2 8]) 19 [6] (kd f93 28) (kd f93 29) 4),false),oC 3 [(.ptr 0 0)],(4,(.defd false),false),oC 5 [(bV true)],(6,(.loop .done (some (.exit 0)) 74 (dK [kp 3 9,kp 5 5]) 41 [10] (kd f74 436) (kd f74 437) 7),false),(7,(.defd false),false),oC 8 [(.yield 6)],oC 9 [(nI e)],(10,(.zone true [11] (eN c (set (List.map some f) a none) a)),false),aCb 11 g i b j,(12,gh,false),(13,(.zone true [12] (cH p)),false)] 14)<|.y fun m:Int=>.y fun o:Int=>.i [rn 10,.reg (rd 5 (.call (nI m) (zQ c e k d a g i b j f)::rd 6 [.ans (.ix),.d,.d,.call (nI o) (aR6 c e k d a g i b j f),.d]))] [hA (aQC l c e k d a g i b j f m),hA (0≤l),hA (l< (b.length:Int)),hA (Spec PP (.enter 136 [(aKm n d m l),(.yield 2)]) (zQ c e k d a g i b j f) (.ret (nI o)) (aR6 c e k d a g i b j f)),hr (AV.gl 12 1 0 b.length false),hr (AV.gl 12 1 0 b.length false),hr (nI d),hr (nI d)]<|gd 5 44 (o<0) (.E 7 16 [13,11,12,15] (nI o) [jD 1 c,(2,(.loop .ready none 93 (dK [kp 2 8]) 19 [6] (kd f93 28) (kd f93 29) 4),false),oC 3 [(.ptr 0 0)],(4,(.defd false),false),oC 5 [(bV false)],(6,(.loop .ready none 74 (dK [kp 3 9,kp 5 5]) 41 [10] (kd f74 436) (kd f74 437) 7),false),(7,(.defd false),false),oC 8 [(.yield 6)],oC 9 [(nI e)],(10,(.zone true [11] (eN c (set (List.map some f) a none) a)),false),aCb 11 g i b j,(12,gh,false),(13,(.zone true [12] (cH b)),false)] 14)<|gw 5 46 (l+1)<|.W 3 16 [10,11,12,13,15] (aED e k d f a c g i b j o (l+1)))<|.E 8 15 [13,11,12,14] (nI n) [jD 1 c,(2,(.loop .ready none 93 (dK [kp 2 8]) 19 [6] (kd f93 28) (kd f93 29) 4),false),oC 3 [(.ptr 0 0)],(4,(.defd false),false),oC 5 [(bV false)],(6,(.loop .ready none 74 (dK [kp 3 9,kp 5 5]) 41 [10] (kd f74 436) (kd f74 437) 7),false),(7,(.defd false),false),oC 8 [(.yield 6)],oC 9 [(nI e)],(10,(.zone true [11] (eN c (set (List.map some f) a none) a)),false),aCb 11 g i b j,(12,gh,false),(13,(.zone true [12] (cH b)),false)] 14
def aX2:=fun a b c d e f g i j k l m n o p q r s=>aKs a b c d e f g i j k l m|>.t o|>.1 n p q r s ⟨kk,trivial⟩
def aX3:=fun a b c d e f g i j k l m n o p q r s t=>aKs a b c d e f g i j k l m|>.t p|>.2|>.1 n o q r s t ⟨kk,trivial⟩
def aX4:=fun a b c d e f g i j k l m n o p q r s t u v=>aKs a b c d e f g i j k l m|>.t p|>.2|>.2 n o q r s t|>.f u v ⟨kk,trivial⟩
def aX5:=fun a b c d e f g i j k l m n=>aKs a b c d e f g i j k l m|>.f n ⟨kk,trivial⟩
theorem bDk (node d f:Int)(xs:List XT)(ix:Nat)(c: (List (Nat×Nat)))(op e:Int)(ks:List XT)(ps:List Pat){b:Res}{hf:Hp}(i:xs≠ [])(k:∀a,a.length=xs.length→Ends PP 10 (iO node d f xs ix a op e ks ps).as b hf) :Ends PP 10 (aKq node d f xs ix c op e ks ps).as b hf:=
 mE (t:=fun a=> (iO node d f xs ix a op e ks ps).as) (ok:=fun j=>j.length=xs.length) (xN (h:= (aKq node d f xs ix c op e ks ps).as.h) (h':=fun a=> (iO node d f xs ix a op e ks ps).as.h) (k:=1) (g:=12) (o:=gh) (ts:=xs) aC rfl aC i (fun _=>Nat.le_refl _) (fun a=> (bC ⟨.inr (.inl ⟨rfl,rfl⟩),.inr (.inr ⟨by decide,by kernel_rfl⟩),.inr (.inr ⟨by decide,by kernel_rfl⟩),.inr (.inr ⟨by decide,by kernel_rfl⟩),.inr (.inr ⟨by decide,by kernel_rfl⟩),.inr (.inr ⟨by decide,by kernel_rfl⟩),.inr (.inr ⟨by decide,by kernel_rfl⟩),.inr (.inr ⟨by decide,by kernel_rfl⟩),.inr (.inr ⟨by decide,by kernel_rfl⟩),.inr (.inr ⟨by decide,by kernel_rfl⟩),.inr (.inr ⟨by decide,by kernel_rfl⟩),.inl ⟨rfl,rfl⟩,trivial⟩))) (fun a=> ⟨by kernel_rfl,by kernel_rfl⟩) k
theorem bDl (node d j:Int)(xs:List XT)(ix:Nat)(b: (List (Nat×Nat)))(op f:Int)(ks:List XT)(ps:List Pat)(c:XT){e:Res}{hf:Hp}(l: ((set (List.map some xs) ix none))[ix]?=some none)(k:∀a,Ends PP 10 (aCd node d j xs ix b op f ks ps c a).as e hf) :Ends PP 10 (aCc node d j xs ix b op f ks ps c).as e hf:=
 mE (t:= (fun a=> (aCd node d j xs ix b op f ks ps c a).as)) (ok:=fun _=>True) (aJu (h:= (aCc node d j xs ix b op f ks ps c).as.h) (h':=fun a=> (aCd node d j xs ix b op f ks ps c a).as.h) (k:=1) (g:=13) (gz:=12) (z:=11) (us:=b) (ts:= (set (List.map some xs) ix none)) (i:=ix) (t:=c) aC aC aC l (by decide) (fun _=>Nat.le_refl _) (fun a=> (bC ⟨.inr (.inl ⟨rfl,rfl⟩),.inr (.inr ⟨by decide,by kernel_rfl⟩),.inr (.inr ⟨by decide,by kernel_rfl⟩),.inr (.inr ⟨by decide,by kernel_rfl⟩),.inr (.inr ⟨by decide,by kernel_rfl⟩),.inr (.inr ⟨by decide,by kernel_rfl⟩),.inr (.inr ⟨by decide,by kernel_rfl⟩),.inr (.inr ⟨by decide,by kernel_rfl⟩),.inr (.inr ⟨by decide,by kernel_rfl⟩),.inr (.inr ⟨by decide,by kernel_rfl⟩),.inl ⟨rfl,rfl⟩,trivial⟩))) (fun a=> ⟨by kernel_rfl,by kernel_rfl⟩) (fun a _=>k a)
theorem bDm (node d e:Int)(xs:List XT)(ix:Nat)(b: (List (Nat×Nat)))(op c:Int)(ks:List XT)(ps:List Pat)(a: (Nat×Nat))(k:b[ix]?=some a)(f: ((List.map some xs))[ix]?=some (some (.mk op c ks ps))) :LeadsM PP 10 (zR node d e xs ix b op c ks ps a).as (aGk node d e xs ix b op c ks ps a).as:=
 xZ (j:=6) (v:=aW a) (v':=.ptr 12 0) aC (fun hm=>sT (h:= (zR node d e xs ix b op c ks ps a).as.h) (h':= (aGk node d e xs ix b op c ks ps a).as.h) (g:=11) (us:=b) (ts:= (List.map some xs)) (i:=ix) (u:=a) (op:=op) (n:=c) (ks:=ks) (ps:=ps) aC k f rfl (bC ⟨.inr (.inr (.inr (.inr ⟨by decide,by kernel_rfl⟩))),.inr (.inr (.inr (.inr ⟨by decide,by kernel_rfl⟩))),.inr (.inr (.inr (.inr ⟨by decide,by kernel_rfl⟩))),.inr (.inr (.inr (.inr ⟨by decide,by kernel_rfl⟩))),.inr (.inr (.inr (.inr ⟨by decide,by kernel_rfl⟩))),.inr (.inr (.inr (.inr ⟨by decide,by kernel_rfl⟩))),.inr (.inr (.inr (.inr ⟨by decide,by kernel_rfl⟩))),.inr (.inr (.inr (.inr ⟨by decide,by kernel_rfl⟩))),.inr (.inr (.inr (.inr ⟨by decide,by kernel_rfl⟩))),.inr (.inr (.inr (.inr ⟨by decide,by kernel_rfl⟩))),.inl ⟨rfl,rfl⟩,.inr (.inl ⟨rfl,rfl⟩),.inr (.inr (.inl ⟨rfl,rfl⟩)),.inr (.inr (.inr (.inl ⟨rfl,rfl⟩))),trivial⟩) hm) aC aC
theorem aX6 (node c d:Int)(xs:List XT)(ix:Nat)(a: (List (Nat×Nat)))(op i:Int)(ks:List XT)(ps:List Pat)(b: (Nat×Nat))(g e:Int)(f:XT)(h: ((a)[ix]?) =some b)(h1:aXQ b a node c d ix xs g)(h2: (c==node) =true)(j:aXO b a node c d ix xs e)(k:aXM e b d a node c ix xs f) :
  LeadsM PP 10 (iO node c d xs ix a op i ks ps).as (aCc node c d xs ix a op i ks ps f).as:=
 lC (n1:=18) (ks:=[11,16,17,15]) (W:=[some (.lst 1 ((List.map aW a).set ix (.ptr 16 0))),some (.loop .busy none 93 (dK [kp 2 8]) 19 [6] (kd f93 28) (kd f93 29) 4),some (.cells (putCells .leaf 0 [(.ptr 0 0)]) 1 [] false),some (.defd false),some (.cells (putCells .leaf 0 [(bV false)]) 1 [] false),some (.loop .busy none 74 (dK [kp 3 9,kp 5 5]) 41 [10] (kd f74 436) (kd f74 437) 7),some (.defd false),some (.cells (putCells .leaf 0 [(.yield 6)]) 1 [] false),some (.cells (putCells .leaf 0 [(nI node)]) 1 [] false),some (.cells (putCells .leaf 0 [(nI c),(nI d),(.ep 1 1 ix 0)]) 3 [] false),some gh,some (.zone true [16] (Z1 f)),some (.zone true [] (ZV a (set (List.map some xs) ix none)))]) (wc (zD aC) (wc aC (wc aC (wc aC (wc aC (wc aC (wc aC (wc aC (wc aC (wc aC (wc aC (wc aC (wc aC wn))))))))))))) (ps:=[(List.map aW a)[ix]?=some (aW b),aXQ b a node c d ix xs g,(c==node) =true,(List.map aW a)[ix]?=some (aW b),aXO b a node c d ix xs e,(List.map aW a)[ix]?=some (aW b),aXM e b d a node c ix xs f,(List.map aW a)[ix]?=some (aW b),kQ (aW b) 0 [(.ptr 16 0)] =some (ptr 16 0),(ep 1 1 ix 0) = (ep 1 1 ix 0),(ep 1 1 ix 0) = (ep 1 1 ix 0)]) (is:=[.run 4,.ans (.idx (aW b)),.call (.iface 193 (nI g)) (aCa a node c d ix xs),.run 20,.b 11 true,.run 6,.ans (.idx (aW b)),.call (.iface 193 (nI e)) (aR7 a node c d ix xs),.run 3,.reg [.d,.d,.d,.d,.d,.d,.ans (.idx (aW b)),.d,.d,.d,.d,.d,.call (.ptr 16 0) (aR5 a node c d ix xs f),.d,.st (aW b) (.ptr 16 0)]]) aC aC trivial ⟨(bL h),h1,h2,(bL h),j,(bL h),k,(bL h),rfl,rfl,rfl⟩
theorem aX7 (node c d:Int)(xs:List XT)(ix:Nat)(a: (List (Nat×Nat)))(op g:Int)(ks:List XT)(ps:List Pat)(b: (Nat×Nat))(e:XT)(f: ((a)[ix]?) =some b)(h1:aXP b a node c d ix xs)(h2: (c==node) =true)(h:aXN b a node c d ix xs)(i:aXL b d a node c ix xs e) :
  LeadsM PP 10 (iO node c d xs ix a op g ks ps).as (aCc node c d xs ix a op g ks ps e).as:=
 lC (n1:=18) (ks:=[11,16,17,15]) (W:=[some (.lst 1 ((List.map aW a).set ix (.ptr 16 0))),some (.loop .busy none 93 (dK [kp 2 8]) 19 [6] (kd f93 28) (kd f93 29) 4),some (.cells (putCells .leaf 0 [(.ptr 0 0)]) 1 [] false),some (.defd false),some (.cells (putCells .leaf 0 [(bV false)]) 1 [] false),some (.loop .busy none 74 (dK [kp 3 9,kp 5 5]) 41 [10] (kd f74 436) (kd f74 437) 7),some (.defd false),some (.cells (putCells .leaf 0 [(.yield 6)]) 1 [] false),some (.cells (putCells .leaf 0 [(nI node)]) 1 [] false),some (.cells (putCells .leaf 0 [(nI c),(nI d),(.ep 1 1 ix 0)]) 3 [] false),some gh,some (.zone true [16] (Z1 e)),some (.zone true [] (ZV a (set (List.map some xs) ix none)))]) (wc (zD aC) (wc aC (wc aC (wc aC (wc aC (wc aC (wc aC (wc aC (wc aC (wc aC (wc aC (wc aC (wc aC wn))))))))))))) (ps:=[(List.map aW a)[ix]?=some (aW b),aXP b a node c d ix xs,(c==node) =true,(List.map aW a)[ix]?=some (aW b),aXN b a node c d ix xs,(List.map aW a)[ix]?=some (aW b),aXL b d a node c ix xs e,(List.map aW a)[ix]?=some (aW b),kQ (aW b) 0 [(.ptr 16 0)] =some (ptr 16 0),(ep 1 1 ix 0) = (ep 1 1 ix 0),(ep 1 1 ix 0) = (ep 1 1 ix 0)]) (is:=[.run 4,.ans (.idx (aW b)),.call aKo (aCa a node c d ix xs),.run 20,.b 11 true,.run 6,.ans (.idx (aW b)),.call aKo (aR7 a node c d ix xs),.run 3,.reg [.d,.d,.d,.d,.d,.d,.ans (.idx (aW b)),.d,.d,.d,.d,.d,.call (.ptr 16 0) (aR5 a node c d ix xs e),.d,.st (aW b) (.ptr 16 0)]]) aC aC trivial ⟨(bL f),h1,h2,(bL f),h,(bL f),i,(bL f),rfl,rfl,rfl⟩
theorem aNi (f n:Int)(s:cF)(ps:List Pat)(hl:ps.length<1000000)(j:∀p∈ps,aK PP 201 [Pat.av p] (.int .i64 (bnm p))) :
  ∀ (t:List Pat) (i:Nat) (a:Int),0≤a→a+aAj t≤1000000→ps.drop i=t→Ends PP 0 (aJ1 f n s ps a (i:Int)).as (.ret (.int .i64 (a+aAj t))) (aA [] 0)
 | [],i,a,_,_,h=>by
  have:=bH h;exact Ends.eqv (bBS f n s ps a i sd) (by simp [aAj])
 | .mk c e g b::t,i,a,r,hb,h=>by
  obtain⟨l,k,o⟩ :=bE h;have d:=j _ (jQ l);have q:=aF9 (.mk c e g b);have m:=zJ t;rw [aAj]at hb ⊢;refine(bBR f n s ps a i c e g b _ sd sd sd d sd sd).ends ?_;exact Ends.eqv (aNi f n s ps hl j t (i+1) (a+bnm (.mk c e g b)) (by omega) (by omega) k) (by rw [Int.add_assoc])
mutual
theorem aGm :∀ (p:Pat),cB p<100000→aK PP 201 [Pat.av p] (.int .i64 (bnm p))
 | .mk f n s a,h=>by
  refine aG aC (by simp [keylessL,nB]) rfl ?_;simp only [cB]at h;have:=fA a;have b:=zJ a;by_cases g:f=2
  · subst g;exact Ends.eqv (bBP 2 n s a rfl) (by simp [bnm])
  · refine(bBQ f n s a (by simpa using g)).ends ?_;exact Ends.eqv (aNi f n s a (by omega) (aR8 a (by omega)) a 0 0 (by omega) (by omega) rfl) (by simp [bnm,g])
theorem aR8 :∀ (b:List Pat),bI b<100000→∀p∈b,aK PP 201 [Pat.av p] (.int .i64 (bnm p))
 | [],_,p,a=>by cases a
 | q::b,h,p,a=>by
  simp only [bI]at h;rcases zq7.1 a with e|a
  ·rw [e];exact aGm q (by omega)
  ·exact aR8 b (by omega) p a
end
def aT (o:Int)(ps:List Pat)(k:Int) :Int:=dF ⟨o,0,[],ps⟩ k
def dR (o:Int) :Bool:=decide (o=8) ||decide (o=15) ||decide (o=16) ||decide (o=17) ||decide (o=19) ||decide (o=20) ||decide (o=23) ||decide (o=24)
def fJ (o:Int) :Bool:=decide (o=6) ||decide (o=9) ||decide (o=10) ||decide (o=11) ||decide (o=12) ||decide (o=13) ||decide (o=18) ||decide (o=22) ||decide (o=14)
def aV (o:Int)(l:Nat) :Nat:=if dR o then 1 else if fJ o then l else 0
def bJ (t:XT) :Bool:=decide (t.op=1) ||decide (t.op=2) ||decide (t.op=3) ||decide (t.op=4)
mutual
def FineX (B:Int) :XT→Prop
 | .mk o n ks ps=> (o=4→n≤B) ∧ks.length≤1000∧ (∀q∈ps,cB q≤1000) ∧ (o=15→ks.length=1+ps.length) ∧ (o=7→ks.length=2) ∧ (aV o ks.length≤ks.length∧ps.length≤900∧ (fJ o=true→o≠14→ks.length=2) ∧ (∀q∈ps,bnm q=rnm q)) ∧FineXs B ks
def FineXs (B:Int) :List XT→Prop
 | [] =>True
 |t::ts=>FineX B t∧FineXs B ts
end
theorem fineXs_iff {B:Int}:∀ {ts:List XT},FineXs B ts↔∀t∈ts,FineX B t
 | [] =>by simp [FineXs]
 |t::ts=>by simp only [FineXs,fineXs_iff (ts:=ts),zq7];exact⟨fun h x a=>by rcases a with rfl|a;exact h.1;exact h.2 x a,fun h=> ⟨h t (.inl rfl),fun x a=>h x (.inr a)⟩⟩
mutual
theorem FineX.ok {B:Int}(hB:B≤1000000) :∀ {t:XT},FineX B t→OkT t
 | .mk o n b a,h=>by
  simp only [FineX]at h;simp only [OkT];exact⟨fun e=>Int.le_trans (h.1 e) hB,by omega,FineXs.ok hB h.2.2.2.2.2.2⟩
theorem FineXs.ok {B:Int}(hB:B≤1000000) :∀ {a:List XT},FineXs B a→aD4 a
 | [],_=>trivial
 |t::a,h=> ⟨FineX.ok hB h.1,FineXs.ok hB h.2⟩
end
theorem kO {o:Int}{ps:List Pat}(h:∀q∈ps,cB q≤1000)(k:Int) :0≤aT o ps k∧aT o ps k≤1000:=by
 unfold aT dF;simp only;split
 ·omega
 · split
   · split
     · rename_i q a;have:=h q (jQ a);have:=aF9 q;omega
     ·omega
   ·omega
section
variable (o n:Int) (ks:List XT) (ps:List Pat)
theorem aA7 (k:Int)(R:Int→Prop)(h1:o=5∨o=27∨ (o=7∧k=1) →R 1)(h2:¬ (o=5∨o=27∨ (o=7∧k=1)) →o=15→0<k→∀q,ps[(k-1).toNat]?=some q→R (bnm q))(hp:o=15→0<k→∃q,ps[(k-1).toNat]?=some q)
  (d:¬ (o=5∨o=27∨ (o=7∧k=1)) →¬ (o=15∧0<k) →R 0) :R (aT o ps k) :=by
 unfold aT dF;simp only;by_cases a:o=5∨o=27∨ (o=7∧k=1)
 ·rw [if_pos a];exact h1 a
 · rw [if_neg a];by_cases b:o=15∧k>0
   · rw [if_pos b];obtain⟨q,c⟩ :=hp b.1 b.2;rw [c];exact h2 a b.1 b.2 q c
   ·rw [if_neg b];exact d a b
theorem bDn (j:∀q∈ps,cB q≤1000)(k:Int)(hk:0≤k∧k≤1000)(hp:o=15→0<k→∃q,ps[(k-1).toNat]?=some q) :
  eS PP 2 (.enter 178 [.ptr 0 0,.int .i64 k]) (aA [(0,(.cells (putCells .leaf 0 [(.int .i64 o),(.int .i64 n),(.gl 1 1 0 (length ks) false),(.ilst 4 (av ps) false)]) 4 [] false),false),(1,gh,false)] 2) (.ret (.int .i64 (aT o ps k))) (aA [(0,(.cells (putCells .leaf 0 [(.int .i64 o),(.int .i64 n),(.gl 1 1 0 (length ks) false),(.ilst 4 (av ps) false)]) 4 [] false),false),(1,gh,false)] 2) :=by
 refine⟨(bE1 o n ks ps k).as.fr,by kernel_rfl,?_⟩;refine aA7 o ps k (fun z=>Ends PP 2 _ (.ret (.int .i64 z)) _) (fun h=>?_) (fun h g i q f=>?_) hp (fun h l=>?_)
 · by_cases a:o=5
   ·exact bC8 o n ks ps k (by simpa using a)
   · by_cases b:o=27
     ·exact bC9 o n ks ps k (by simpa using a) (by simpa using b)
     · have c:o=7∧k=1:=by omega
       exact bDa o n ks ps k (by simpa using a) (by simpa using b) (by simpa using c.1) (by simpa using c.2)
 · obtain⟨a,b,c,d⟩ :=q;have:=j _ (jQ f);exact bDc o n ks ps k a b c d _ (by simp;omega) (by simp;omega) (by simp;omega) (by simpa using g) sd sd (by omega) f (aGm (.mk a b c d) (by omega))
 · have a:¬o=5:=fun e=>h (.inl e);have b:¬o=27:=fun e=>h (.inr (.inl e));by_cases c:o=7
   · have d:¬k=1:=fun e=>h (.inr (.inr ⟨c,e⟩));exact bDb o n ks ps k (by simpa using a) (by simpa using b) (by simpa using c) (by simpa using d) (by simp;omega)
   · by_cases e:o=15
     ·exact bDd o n ks ps k (by simpa using a) (by simpa using b) (by simpa using c) (by simpa using e) (by simp;omega)
     ·exact bDe o n ks ps k (by simpa using a) (by simpa using b) (by simpa using c) (by simpa using e)
theorem aNj :aK PP 138 [XT.av (.mk o n ks ps)] (.bool (bJ (.mk o n ks ps))) :=by
 refine aG aC (by simp [keylessL,aLW]) rfl ?_;show Ends PP 0 _ (.ret (.bool (decide (o=1) ||decide (o=2) ||decide (o=3) ||decide (o=4)))) _;by_cases a:o=1
 · rw [show(decide (o=1) ||decide (o=2) ||decide (o=3) ||decide (o=4)) =true by simp [a]];exact bB0 o n ks ps (by simpa using a)
 by_cases b:o=2
 · rw [show(decide (o=1) ||decide (o=2) ||decide (o=3) ||decide (o=4)) =true by simp [b]];exact bB1 o n ks ps (by simpa using a) (by simpa using b)
 by_cases c:o=3
 · rw [show(decide (o=1) ||decide (o=2) ||decide (o=3) ||decide (o=4)) =true by simp [c]];exact bB2 o n ks ps (by simpa using a) (by simpa using b) (by simpa using c)
 by_cases d:o=4
 · rw [show(decide (o=1) ||decide (o=2) ||decide (o=3) ||decide (o=4)) =true by simp [d]];exact bB3 o n ks ps (by simpa using a) (by simpa using b) (by simpa using c) (by simpa using d)
 rw [show(decide (o=1) ||decide (o=2) ||decide (o=3) ||decide (o=4)) =false by simp [a,b,c,d]];exact bB4 o n ks ps (by simpa using a) (by simpa using b) (by simpa using c) (by simpa using d)
theorem aX8 :aK PP 137 [XT.av (.mk o n ks ps)] (.int .i64 ((aV o ks.length:Nat) :Int)) :=by
 refine aG aC (by simp [keylessL,aLW]) rfl ?_;by_cases b:o=8
 · have e:aV o ks.length=1:=by unfold aV dR;simp [b]
   rw [e];exact bB5 o n ks ps (by simpa using b)
 by_cases c:o=15
 · have e:aV o ks.length=1:=by unfold aV dR;simp [c]
   rw [e];exact bB6 o n ks ps (by simpa using b) (by simpa using c)
 by_cases f:o=16
 · have e:aV o ks.length=1:=by unfold aV dR;simp [f]
   rw [e];exact bB7 o n ks ps (by simpa using b) (by simpa using c) (by simpa using f)
 by_cases g:o=17
 · have e:aV o ks.length=1:=by unfold aV dR;simp [g]
   rw [e];exact bB8 o n ks ps (by simpa using b) (by simpa using c) (by simpa using f) (by simpa using g)
 by_cases i:o=19
 · have e:aV o ks.length=1:=by unfold aV dR;simp [i]
   rw [e];exact bB9 o n ks ps (by simpa using b) (by simpa using c) (by simpa using f) (by simpa using g) (by simpa using i)
 by_cases k:o=20
 · have e:aV o ks.length=1:=by unfold aV dR;simp [k]
   rw [e];exact bCa o n ks ps (by simpa using b) (by simpa using c) (by simpa using f) (by simpa using g) (by simpa using i) (by simpa using k)
 by_cases l:o=23
 · have e:aV o ks.length=1:=by unfold aV dR;simp [l]
   rw [e];exact bCb o n ks ps (by simpa using b) (by simpa using c) (by simpa using f) (by simpa using g) (by simpa using i) (by simpa using k) (by simpa using l)
 by_cases m:o=24
 · have e:aV o ks.length=1:=by unfold aV dR;simp [m]
   rw [e];exact bCc o n ks ps (by simpa using b) (by simpa using c) (by simpa using f) (by simpa using g) (by simpa using i) (by simpa using k) (by simpa using l) (by simpa using m)
 by_cases q:o=6
 · have e:aV o ks.length=ks.length:=by unfold aV dR fJ;simp [q]
   rw [e];exact bCd o n ks ps (by simpa using b) (by simpa using c) (by simpa using f) (by simpa using g) (by simpa using i) (by simpa using k) (by simpa using l) (by simpa using m) (by simpa using q)
 by_cases s:o=9
 · have e:aV o ks.length=ks.length:=by unfold aV dR fJ;simp [s]
   rw [e];exact bCe o n ks ps (by simpa using b) (by simpa using c) (by simpa using f) (by simpa using g) (by simpa using i) (by simpa using k) (by simpa using l) (by simpa using m) (by simpa using q) (by simpa using s)
 by_cases a:o=10
 · have e:aV o ks.length=ks.length:=by unfold aV dR fJ;simp [a]
   rw [e];exact aXe o n ks ps (by simpa using b) (by simpa using c) (by simpa using f) (by simpa using g) (by simpa using i) (by simpa using k) (by simpa using l) (by simpa using m) (by simpa using q) (by simpa using s) (by simpa using a)
 by_cases d:o=11
 · have e:aV o ks.length=ks.length:=by unfold aV dR fJ;simp [d]
   rw [e];exact aXf o n ks ps (by simpa using b) (by simpa using c) (by simpa using f) (by simpa using g) (by simpa using i) (by simpa using k) (by simpa using l) (by simpa using m) (by simpa using q) (by simpa using s) (by simpa using a) (by simpa using d)
 by_cases h:o=12
 · have e:aV o ks.length=ks.length:=by unfold aV dR fJ;simp [h]
   rw [e];exact aXg o n ks ps (by simpa using b) (by simpa using c) (by simpa using f) (by simpa using g) (by simpa using i) (by simpa using k) (by simpa using l) (by simpa using m) (by simpa using q) (by simpa using s) (by simpa using a) (by simpa using d) (by simpa using h)
 by_cases j:o=13
 · have e:aV o ks.length=ks.length:=by unfold aV dR fJ;simp [j]
   rw [e];exact aXh o n ks ps (by simpa using b) (by simpa using c) (by simpa using f) (by simpa using g) (by simpa using i) (by simpa using k) (by simpa using l) (by simpa using m) (by simpa using q) (by simpa using s) (by simpa using a) (by simpa using d) (by simpa using h) (by simpa using j)
 by_cases p:o=18
 · have e:aV o ks.length=ks.length:=by unfold aV dR fJ;simp [p]
   rw [e];exact aXi o n ks ps (by simpa using b) (by simpa using c) (by simpa using f) (by simpa using g) (by simpa using i) (by simpa using k) (by simpa using l) (by simpa using m) (by simpa using q) (by simpa using s) (by simpa using a) (by simpa using d) (by simpa using h) (by simpa using j) (by simpa using p)
 by_cases r:o=22
 · have e:aV o ks.length=ks.length:=by unfold aV dR fJ;simp [r]
   rw [e];exact aXj o n ks ps (by simpa using b) (by simpa using c) (by simpa using f) (by simpa using g) (by simpa using i) (by simpa using k) (by simpa using l) (by simpa using m) (by simpa using q) (by simpa using s) (by simpa using a) (by simpa using d) (by simpa using h) (by simpa using j) (by simpa using p) (by simpa using r)
 by_cases t:o=14
 · have e:aV o ks.length=ks.length:=by unfold aV dR fJ;simp [t]
   rw [e];exact aXk o n ks ps (by simpa using b) (by simpa using c) (by simpa using f) (by simpa using g) (by simpa using i) (by simpa using k) (by simpa using l) (by simpa using m) (by simpa using q) (by simpa using s) (by simpa using a) (by simpa using d) (by simpa using h) (by simpa using j) (by simpa using p) (by simpa using r) (by simpa using t)
 have e:aV o ks.length=0:=by unfold aV dR fJ;simp [b,c,f,g,i,k,l,m,q,s,a,d,h,j,p,r,t]
 rw [e];exact aXl o n ks ps (by simpa using b) (by simpa using c) (by simpa using f) (by simpa using g) (by simpa using i) (by simpa using k) (by simpa using l) (by simpa using m) (by simpa using q) (by simpa using s) (by simpa using a) (by simpa using d) (by simpa using h) (by simpa using j) (by simpa using p) (by simpa using r) (by simpa using t)
def bR :List XT→Nat→Nat→Option Nat
 | [],_,_=>none
 |_::_,_,0=>none
 |t::ts,i,m+1=>if bJ t then bR ts (i+1) m else some i
def bW :XT→Option (Option Nat)
 | .mk o _ ks _=>if o=7 then(match ks[0]? with|some t=>if t.op=7 then some none else none|none=>none)else(bR ks 0 (aV o ks.length)).map some
noncomputable def aR9:Option (Option Nat) →AV
 |none=>.nili
 |some none=>.iface 191 (.agg [])
 |some (some k) =>.iface 193 (.int .i64 (k:Int))
theorem aNk (hl:ks.length≤1000)(l:aV o ks.length≤ks.length) :∀ (g:List XT) (i m:Nat),ks.drop i=g→i+m=aV o ks.length →
  Ends PP 0 (aJ2 o n ks ps ((aV o ks.length:Nat) :Int) (i:Int)).as (.ret (aR9 ((bR g i m).map some))) (aA [] 0)
 | g,i,0,h,hm=>by
  have e:bR g i 0=none:=by cases g<;>rfl
  rw [e];exact bCk o n ks ps _ (i:Int) sd
 | [],i,m+1,h,hm=>by have:=bH h;omega
 | .mk a b c d::g,i,m+1,h,hm=>by
  obtain⟨p,k,q⟩ :=bE h;cases j:bJ (.mk a b c d)
  case false=>
   have e:bR (.mk a b c d::g) i (m+1) =some i:=by simp [bR,j]
   rw [e];have f:=aNj a b c d;rw [j]at f;exact bCi o n ks ps _ (i:Int) a b c d false sd sd sd f rfl
  have e:bR (.mk a b c d::g) i (m+1) =bR g (i+1) m:=by simp [bR,j]
  rw [e];have f:=aNj a b c d;rw [j]at f;refine(bCj o n ks ps _ (i:Int) a b c d true sd sd sd f rfl sd).ends ?_;exact aNk hl l g (i+1) m k (by omega)
end
theorem aNl {B:Int}:∀ {t:XT},FineX B t→aK PP 95 [XT.av t] (aR9 (bW t))
 | .mk o n f i,h=>by
  simp only [FineX]at h;obtain⟨_,m,_,_,p,l,_⟩ :=h;refine aG aC (by simp [keylessL,aLW]) ?_ ?_
  · generalize bW (.mk o n f i) =s
    match s with
    |none=>rfl
    |some none=>rfl
    |some (some k) =>rfl
  · by_cases e:o=7
    · have hl:=p e;obtain⟨⟨a,b,c,d⟩,hk⟩ :∃t0,f[0]?=some t0:= ⟨_,kX (by omega)⟩
      · by_cases g:a=7
        · have j:bW (.mk o n f i) =some none:=by simp [bW,e,hk,XT.op,g]
          rw [j];exact bCf o n f i a b c d (by simpa using e) (by omega) hk (by simpa using g)
        · have j:bW (.mk o n f i) =none:=by simp [bW,e,hk,XT.op,g]
          rw [j];exact bCg o n f i a b c d (by simpa using e) (by omega) hk (by simpa using g)
    · have j:bW (.mk o n f i) = (bR f 0 (aV o f.length)).map some:=by simp [bW,e]
      rw [j];refine(bCh o n f i _ (by simpa using e) (aX8 o n f i)).ends ?_;exact aNk o n f i m l.1 f 0 _ rfl (by omega)
theorem aQD (s:Option (Option Nat)) :aFQ (aR9 s) :=by
 match s with
 |none=>exact aTg
 |some none=>exact aFR aTh
 |some (some k) =>exact aFR aL1
def dXT :XT:=.mk 0 0 [] []
def eD (sz:Int) :Option Nat→XT→XT
 |some k,.mk o n ks ps=>dnT sz k o n ks ps (ks.getD k dXT)
 |none,.mk _ _ ks _=>neT sz ((ks.getD 0 dXT).kids.getD 0 dXT) ((ks.getD 0 dXT).kids.getD 1 dXT) (ks.getD 1 dXT)
inductive AtR (α:Type) where
 |go (n:Int)
 |past
 |did (x:α)
mutual
def atT (node:Int) :XT→Int→Int→AtR XT
 | .mk o n ks ps,n0,z0=>
  match bW (.mk o n ks ps)with
  | some s=>if n0=node then .did (eD z0 s (.mk o n ks ps))else if n0>node then .past else
   (match iD node o ps ks 0 (n0+1) z0 with
   | .go m=>.go m
   | .past=>.past
   | .did ks'=>.did (.mk o n ks' ps))
  | none=> (match iD node o ps ks 0 (n0+1) z0 with
   | .go m=>.go m
   | .past=>.past
   | .did ks'=>.did (.mk o n ks' ps))
def iD (node:Int)(o:Int)(ps:List Pat) :List XT→Nat→Int→Int→AtR (List XT)
 | [],_,n,_=>.go n
 | t::ts,i,n,z=>
  match atT node t n (z+aT o ps (i:Int))with
  | .go m=> (match iD node o ps ts (i+1) m z with
   | .go m'=>.go m'
   | .past=>.past
   | .did ts'=>.did (t::ts'))
  | .past=>.past
  | .did t'=>.did (t'::ts)
end
mutual
def cJ :XT→Nat
 | .mk _ _ ks _=>aD ks+1
def aD :List XT→Nat
 | [] =>0
 |t::ts=>cJ t+aD ts
end
mutual
theorem aQE (node:Int) :∀ (t:XT) (a c m:Int),atT node t a c= .go m→m=a+ (cJ t:Nat)
 | .mk o n d f,a,c,m,h=>by
  have hk:∀b,iD node o f d 0 (a+1) c= .go b→b=a+ ((aD d+1:Nat) :Int) :=fun b e=>by
   have:=aSa node o f d 0 (a+1) c b e;omega
  simp only [atT]at h;simp only [cJ];split at h
  · split at h
    ·cases h
    · split at h
      ·cases h
      · split at h
        ·rename_i e;cases h;exact hk _ e
        ·cases h
        ·cases h
  · split at h
    ·rename_i e;cases h;exact hk _ e
    ·cases h
    ·cases h
theorem aSa (node o:Int)(ps:List Pat) :∀ (a:List XT) (i:Nat) (n z m:Int),iD node o ps a i n z= .go m→m=n+ (aD a:Nat)
 | [],i,n,z,m,h=>by simp only [iD]at h;cases h;simp [aD]
 | t ::a,i,n,z,m,h=>by
  simp only [iD]at h;split at h
  · rename_i b e;have f:=aQE node t n _ b e;split at h
    · rename_i d c;cases h;have g:=aSa node o ps a (i+1) b z _ c;simp only [aD];omega
    ·cases h
    ·cases h
  ·cases h
  ·cases h
end
abbrev ATH (o1:AObj)(f1:Bool)(s1:LoopState)(p1:Option Code)(s2:LoopState)(p2:Option Code)(b:Bool)(node:Int)(tl:HL) :HL:= (1,o1,f1) :: (2,(.loop s1 p1 93 (dK [(2,(.ptr 8 0))]) 19 [6] (cd Tryz.f93 [1,1,0,0]) (cd Tryz.f93 [1,1,0,1]) 4),false) :: (3,(.cells (putCells .leaf 0 [(.ptr 0 0)]) 1 [] false),false) :: (4,(.defd false),false) :: (5,(.cells (putCells .leaf 0 [(.bool b)]) 1 [] false),false) :: (6,(.loop s2 p2 74 (dK [(3,(.ptr 9 0)),(5,(.ptr 5 0))]) 41 [10] (cd Tryz.f74 [1,0,1,1,0,1,0,0]) (cd Tryz.f74 [1,0,1,1,0,1,0,1]) 7),false) :: (7,(.defd false),false) :: (8,(.cells (putCells .leaf 0 [(.yield 6)]) 1 [] false),false) :: (9,(.cells (putCells .leaf 0 [(.int .i64 node)]) 1 [] false),false) ::tl
abbrev ATr (node:Int)(xs:List XT) :HL:=ATH gh false .ready none .ready none false node [(10,(.zone true [1] (cH xs)),false)]
abbrev ATd (b:Bool)(node:Int)(xs:List XT) :HL:=ATH gh false .done (some .ret) .done (some (.exit 0)) b node [(10,(.zone true [1] (cH xs)),false)]
def btV :AtR XT→AV
 | .go n=>.int .i64 n
 |_=>.int .i64 (-1)
def btH (node:Int)(xs:List XT)(ix:Nat) :AtR XT→HL
 | .go _=>ATr node xs
 | .past=>ATd false node xs
 | .did t'=>ATd true node (xs.set ix t')
def BtS (node:Int)(xs:List XT)(ix:Nat)(n0 z0:Int)(r:AtR XT) :Prop:=eS PP 10 (.enter 136 [.agg [.int .i64 n0,.int .i64 z0,.ep 1 1 ix 0],.yield 2]) (aA (ATr node xs) 11) (.ret (btV r)) (aA (btH node xs ix r) 11)
def BtE (s:AS)(node:Int)(xs:List XT)(ix:Nat)(r:AtR XT) :Prop:=Ends PP 10 s (.ret (btV r)) (aA (btH node xs ix r) 11)
def qE (o n:Int)(ps:List Pat)(pre:List XT) :AtR (List XT) →AtR XT
 | .go m=>.go m
 | .past=>.past
 | .did ks'=>.did (.mk o n (pre++ks') ps)
section
variable {s :AS} {v:AV} {s1 s2:LoopState} {p1 p2:Option Code} {b:Bool} {node:Int}
theorem aGn {a:List (Nat×Nat)}{xs:List XT}(c:xs≠ [])(d:∀f,ren f v=v)(e:Ends PP 10 s (.ret v) (aA (ATH (.lst 1 (List.map aW a)) true s1 p1 s2 p2 b node [(10,(.zone true [] (ZV a (xs.map some))),false)]) 11)) :
  Ends PP 10 s (.ret v) (aA (ATH gh false s1 p1 s2 p2 b node [(10,(.zone true [1] (cH xs)),false)]) 11) :=by
 have z:kN (aA (ATH (.lst 1 (List.map aW a)) true s1 p1 s2 p2 b node [(10,(.zone true [] (ZV a (xs.map some))),false)]) 11) (aA (ATH gh false s1 p1 s2 p2 b node [(11,(.zone true [1] (cH xs)),false)]) 12) :=
  aCU (h:=aA (ATH (.lst 1 (List.map aW a)) true s1 p1 s2 p2 b node [(10,(.zone true [] (ZV a (xs.map some))),false)]) 11) (h':=aA (ATH gh false s1 p1 s2 p2 b node [(11,(.zone true [1] (cH xs)),false)]) 12) (k:=1) (g:=10) (us:=a) (ts:=xs) aC aC c (Nat.le_refl _)
   (bC ⟨.inl ⟨rfl,rfl⟩,.inr (.inr ⟨by decide,by decide,by kernel_rfl⟩),.inr (.inr ⟨by decide,by decide,by kernel_rfl⟩),.inr (.inr ⟨by decide,by decide,by kernel_rfl⟩),.inr (.inr ⟨by decide,by decide,by kernel_rfl⟩),.inr (.inr ⟨by decide,by decide,by kernel_rfl⟩),.inr (.inr ⟨by decide,by decide,by kernel_rfl⟩),.inr (.inr ⟨by decide,by decide,by kernel_rfl⟩),.inr (.inr ⟨by decide,by decide,by kernel_rfl⟩),.inr (.inl ⟨rfl,rfl⟩),trivial⟩)
 exact dW (ks:=[11]) (rF e z (show 10≤11 by decide)) (d _) aC aC trivial
theorem aC8 {a:List (Nat×Nat)}{xs:List XT}{ix:Nat}{op c:Int}{ks ks':List XT}{ps:List Pat}(q:xs[ix]?=some (.mk op c ks ps))(hl:ks.length=ks'.length)(f:∀o,ren o v=v)
  (e:Ends PP 10 s (.ret v) (aA (ATH (.lst 1 (List.map aW a)) true s1 p1 s2 p2 b node [(10,(.zone true [11] (eN a (set (List.map some xs) ix none) ix)),false),(11,(.cells (putCells .leaf 0 [(.int .i64 op),(.int .i64 c),(.gl 12 1 0 (length ks) false),(.ilst 4 (av ps) false)]) 4 [] false),false),(12,gh,false),(13,(.zone true [12] (cH ks')),false)]) 14)) :
  Ends PP 10 s (.ret v) (aA (ATH gh false s1 p1 s2 p2 b node [(10,(.zone true [1] (cH (xs.set ix (.mk op c ks' ps)))),false)]) 11) :=by
 have d:xs.set ix (.mk op c ks' ps) ≠ [] :=fun h=>by
  have t:= (zq0.1 q).1;have m:=congrArg length h;simp only [dZ,List.length_nil]at m;omega
 have p:kN (aA (ATH (.lst 1 (List.map aW a)) true s1 p1 s2 p2 b node [(10,(.zone true [11] (eN a (set (List.map some xs) ix none) ix)),false),(11,(.cells (putCells .leaf 0 [(.int .i64 op),(.int .i64 c),(.gl 12 1 0 (length ks) false),(.ilst 4 (av ps) false)]) 4 [] false),false),(12,gh,false),(13,(.zone true [12] (cH ks')),false)]) 14) (aA (ATH (.lst 1 (List.map aW a)) true s1 p1 s2 p2 b node [(14,(.zone true [] (ZV a (List.map some (xs.set ix (.mk op c ks' ps))))),false)]) 15) :=by
  refine aFP (h:=aA (ATH (.lst 1 (List.map aW a)) true s1 p1 s2 p2 b node [(10,(.zone true [11] (eN a (set (List.map some xs) ix none) ix)),false),(11,(.cells (putCells .leaf 0 [(.int .i64 op),(.int .i64 c),(.gl 12 1 0 (length ks) false),(.ilst 4 (av ps) false)]) 4 [] false),false),(12,gh,false),(13,(.zone true [12] (cH ks')),false)]) 14) (h':=aA (ATH (.lst 1 (List.map aW a)) true s1 p1 s2 p2 b node [(14,(.zone true [] (ZV a (List.map some (xs.set ix (.mk op c ks' ps))))),false)]) 15)
   (b:=11) (k:=12) (gk:=13) (g:=10) (us:=a) (ts:=set (List.map some xs) ix none) (i:=ix) (op:=op) (n:=c) (ks:=ks') (ps:=ps) (len:=ks.length) (ex:=false) (pv:=.ilst 4 (av ps) false) aC hl (fun _ _ h=>h) aC aC (by decide) (Nat.le_refl _) ?_
  have r: (set (List.map some xs) ix none).set ix (some (.mk op c ks' ps)) =List.map some (xs.set ix (.mk op c ks' ps)) :=by rw [set_set,map_set]
  rw [r];exact bC ⟨.inr ⟨by decide,by kernel_rfl⟩,.inr ⟨by decide,by kernel_rfl⟩,.inr ⟨by decide,by kernel_rfl⟩,.inr ⟨by decide,by kernel_rfl⟩,.inr ⟨by decide,by kernel_rfl⟩,.inr ⟨by decide,by kernel_rfl⟩,.inr ⟨by decide,by kernel_rfl⟩,.inr ⟨by decide,by kernel_rfl⟩,.inr ⟨by decide,by kernel_rfl⟩,.inl ⟨rfl,rfl⟩,trivial⟩
 have j:=dW (ks:=[14]) (l:=ATH (.lst 1 (List.map aW a)) true s1 p1 s2 p2 b node [(10,(.zone true [] (ZV a (List.map some (xs.set ix (.mk op c ks' ps))))),false)]) (nb:=11) (rF e p (show 10≤14 by decide)) (f _) aC aC ⟨aKg _,trivial⟩;exact aGn d f j
end
theorem aC9 {B:Int}{h:Hp}{g:Nat}{us:List (Nat×Nat)}{ts:List (Option XT)}{i:Nat}{u:Nat×Nat}{t:XT}(q:h.look g=some (.zone true [] (ZV us ts)))(p:us[i]?=some u)(f:ts[i]?=some (some t))(s:FineX B t) :Spec PP (.enter 95 [aW u]) h (.ret (aR9 (bW t))) h:=
 aDD (aNl s) (aQD _) rfl (fun E H c r hc=>by
  obtain⟨z,k,rfl,e,l⟩ :=hc.cons_inv;rw [l.nil_inv];simp only [aW,VR]at e;subst e;obtain⟨w,v,j⟩ :=r.obj g _ q;obtain⟨y,_,n,b⟩ :=fV j;obtain⟨a,o,x,d,m,_,_⟩ :=b.out f;rw [p]at d;cases d;exact VRs.cons (aL0 r.snap t u o m) (VRs.nil _))
theorem vF {ks:List XT}:∀ {a:List XT} {i m k:Nat},bR a i m=some k→ks.drop i=a→∃x,ks[k]?=some x∧bJ x=false∧k<i+m
 | [],i,m,k,h,_=>by simp [bR]at h
 |_::_,i,0,k,h,_=>by simp [bR]at h
 | t ::n,i,m+1,k,h,e=>by
  obtain⟨c,b,j⟩ :=bE e;simp only [bR]at h;split at h
  · obtain⟨x,d,g,l⟩ :=vF (ks:=ks) h b;exact⟨x,d,g,by omega⟩
  · rename_i f;cases h;exact⟨t,c,by simpa using f,by omega⟩
theorem aA8 (node:Int)(o n:Int)(ks:List XT)(ps:List Pat)(a b:Int) :atT node (.mk o n ks ps) a b =
  match bW (.mk o n ks ps)with
  |some s=>if a=node then .did (eD b s (.mk o n ks ps))else if a>node then .past else qE o n ps [] (iD node o ps ks 0 (a+1) b)
  |none=>qE o n ps [] (iD node o ps ks 0 (a+1) b) :=by
 simp only [atT];cases bW (.mk o n ks ps)with
 |none=>cases iD node o ps ks 0 (a+1) b<;>rfl
 |some s=>cases iD node o ps ks 0 (a+1) b<;>rfl
theorem aNm {a:Type}{xs:List a}{i:Nat}{x:a}(h:xs[i]?=some x) :xs.set i x=xs:=by
 apply List.ext_getElem?;intro j;rw [List.getElem?_set];split
 · rename_i b;subst b;rw [if_pos (zq0.1 h).1,h]
 ·rfl
theorem aIe {a:Type}{xs:List a}{i:Nat}{x:a}(h:xs[i]?=some x) :xs≠ [] :=fun e=>by subst e;simp at h
theorem kA {a:Type}{l:List a}{i:Nat}{x d:a}(h:l[i]?=some x) :l.getD i d=x:=by rw [nY,h];rfl
section
variable (node B:Int) (hB:B≤1000000)
mutual
theorem aSb (hB:B≤1000000) :∀ (t:XT),FineX B t→∀ (d:List XT) (ix:Nat) (i f:Int),d[ix]?=some t→0≤i→i+ (cJ t:Nat) ≤1000000→0≤f→f+1000* (cJ t:Nat) ≤1000000000→BtS node d ix i f (atT node t i f)
 | .mk o n ks j,T,d,ix,i,f,G,h0,h1,h2,Q=>by
  have D:=T;simp only [FineX]at T;obtain⟨_,f2,f3,f4,f5,f6,O⟩ :=T;simp only [cJ]at h1 Q;have w: (List.map some d)[ix]?=some (some (.mk o n ks j)) :=by rw [tJ,G];rfl
  have J: (set (List.map some d) ix none)[ix]?=some none:=by rw [List.getElem?_set,if_pos rfl,if_pos (by rw [mR];exact(zq0.1 G).1)]
  refine⟨(aXT node i f d ix [] o n ks j).as.fr,by kernel_rfl,?_⟩;refine(aXU node i f d ix [] o n ks j).ends (bDk node i f d ix [] o n ks j (aIe G) fun q W=>?_);obtain⟨u,p⟩ :=eC W (zq0.1 G).1;have below:LeadsM PP 10 (iO node i f d ix q o n ks j).as (zR node i f d ix q o n ks j u).as→BtE (iO node i f d ix q o n ks j).as node d ix (qE o n j [] (iD node o j ks 0 (i+1) f)) :=fun hl=>
   (hl.trans ((bDm node i f d ix q o n ks j u p w).trans (aX1 node i f d ix q o n ks j u))).ends
    (aSc hB d ix i f o n ks j q G f2 f3 f4 h2 ks 0 (i+1) rfl O (by omega) (by omega) (by omega))
  have did:∀H,LeadsM PP 10 (iO node i f d ix q o n ks j).as (aCc node i f d ix q o n ks j H).as→BtE (iO node i f d ix q o n ks j).as node d ix (.did H) :=fun H hl=>by
   refine hl.ends (bDl node i f d ix q o n ks j H J fun u9=>?_);have e:=aX0 node i f d ix q o n ks j H u9;have A: (set (List.map some d) ix none).set ix (some H) =List.map some (d.set ix H) :=by rw [set_set,map_set]
   rw [A]at e
   have U:d.set ix H≠ [] :=fun h=>by
    have h2:= (zq0.1 G).1;have Q:=congrArg length h;simp only [dZ,List.length_nil]at Q;omega
   exact aGn U (fun _=>rfl) e
  have past:Ends PP 10 (iO node i f d ix q o n ks j).as (.ret (.int .i64 (-1))) (aA (ATH (.lst 1 (List.map aW q)) true .done (some .ret) .done (some (.exit 0)) false node [(10,(.zone true [] (ZV q (d.map some))),false)]) 11) →BtE (iO node i f d ix q o n ks j).as node d ix .past:=fun e=>aGn (aIe G) (fun _=>rfl) e;rw [aA8];cases r:bW (.mk o n ks j)with
  | none=>
   have C:∀ {l z g},(aA l z).look g=some (.zone true [] (ZV q (d.map some))) →Spec PP (.enter 95 [aW u]) (aA l z) (.ret .nili) (aA l z) :=fun L=>by
    have:=aC9 L p w D;rw [r]at this;exact this
   exact below (aXZ node i f d ix q o n ks j u p (C (g:=13) aC) sd)
  | some s =>
   cases s with
   | none =>
    have C:∀ {l z g},(aA l z).look g=some (.zone true [] (ZV q (d.map some))) →Spec PP (.enter 95 [aW u]) (aA l z) (.ret (.iface 191 (.agg []))) (aA l z) :=fun L=>by
     have:=aC9 L p w D;rw [r]at this;exact this
    dsimp only;by_cases y:i=node
    · rw [if_pos y];have Z:o=7:=by
       simp only [bW]at r;by_cases g:o=7
       ·exact g
       · rw [if_neg g]at r;cases v:bR ks 0 (aV o ks.length)with
         |none=>rw [v]at r;cases r
         |some k=>rw [v]at r;cases r
      have hl:=f5 Z;obtain⟨⟨V,n2,N,p2⟩,F⟩ :∃t0,ks[0]?=some t0:= ⟨_,kX (by omega)⟩;obtain⟨c,I⟩ :∃t1,ks[1]?=some t1:= ⟨_,kX (by omega)⟩;have S:V=7:=by
       simp only [bW,if_pos Z,F,XT.op]at r;by_cases g:V=7
       ·exact g
       ·simp [g]at r
      have M:=fineXs_iff.1 O _ (jQ F);have X:=fineXs_iff.1 O _ (jQ I);simp only [FineX]at M;have hl2:=M.2.2.2.2.1 S;obtain⟨a,Y⟩ :∃t1,N[0]?=some t1:= ⟨_,kX (by omega)⟩;obtain⟨b,hb⟩ :∃t1,N[1]?=some t1:= ⟨_,kX (by omega)⟩;have R:eD f none (.mk o n ks j) =neT f a b c:=by
       simp only [eD,kA F,kA I,XT.kids,kA Y,kA hb]
      rw [R]
      exact did _ (aX7 node i f d ix q o n ks j u (neT f a b c) p (C (g:=13) aC) (by simpa using y) (C (g:=13) aC)
       (qO (m:=0) (ks:=[13]) (bC7 q (d.map some) ix u o n ks j V n2 N p2 f a b c F I Y hb (X.ok hB) p w) aC aC trivial trivial))
    · rw [if_neg y];by_cases A:i>node
      · rw [if_pos A];exact past (aXX node i f d ix q o n ks j u p (C (g:=13) aC) (by simpa using y) (by simpa using A))
      · rw [if_neg A];exact below (aXY node i f d ix q o n ks j u p (C (g:=13) aC) (by simpa using y) (by simpa using A) sd)
   | some k=>
    have C:∀ {l z g},(aA l z).look g=some (.zone true [] (ZV q (d.map some))) →Spec PP (.enter 95 [aW u]) (aA l z) (.ret (.iface 193 (.int .i64 (k:Int)))) (aA l z) :=fun L=>by
     have:=aC9 L p w D;rw [r]at this;exact this
    dsimp only;by_cases y:i=node
    · rw [if_pos y];obtain⟨x,K⟩ :∃x,ks[k]?=some x:=by
       simp only [bW]at r;by_cases g:o=7
       · rw [if_pos g]at r;split at r
         ·split at r<;>cases r
         ·cases r
       · rw [if_neg g]at r;cases v:bR ks 0 (aV o ks.length)with
         |none=>rw [v]at r;cases r
         | some k'=>
          rw [v]at r;cases r;obtain⟨x,G,_⟩ :=vF v (rfl:ks.drop 0=ks);exact⟨x,G⟩
      have R:eD f (some k) (.mk o n ks j) =dnT f k o n ks j x:=by simp only [eD,kA K]
      rw [R]
      exact did _ (aX6 node i f d ix q o n ks j u (k:Int) (k:Int) (dnT f k o n ks j x) p (C (g:=13) aC) (by simpa using y) (C (g:=13) aC)
       (qO (m:=0) (ks:=[13]) (bC6 q (d.map some) ix u o n ks j k f x K p w (D.ok hB)) aC aC trivial trivial))
    · rw [if_neg y];by_cases A:i>node
      · rw [if_pos A];exact past (aXV node i f d ix q o n ks j u (k:Int) p (C (g:=13) aC) (by simpa using y) (by simpa using A))
      · rw [if_neg A];exact below (aXW node i f d ix q o n ks j u (k:Int) p (C (g:=13) aC) (by simpa using y) (by simpa using A) sd)
theorem aSc (hB:B≤1000000)(xs:List XT)(ix:Nat)(f a:Int)(o n:Int)(ks:List XT)(ps:List Pat)(g:List (Nat×Nat))(j:xs[ix]?=some (.mk o n ks ps))(F:ks.length≤1000)(p:∀q∈ps,cB q≤1000)(v:o=15→ks.length=1+ps.length)(h2:0≤a) :
  ∀ (tl:List XT) (i:Nat) (b:Int),ks.drop i=tl→FineXs B tl→0≤b→b+ (aD tl:Nat) ≤1000000→a+1000+1000* (aD tl:Nat) ≤1000000000→BtE (aED node f a xs ix g o n ks ps b (i:Int)).as node xs ix (qE o n ps (ks.take i) (iD node o ps tl i b a))
 | [],i,b,h,_,_,_,_=>by
  have:=bH h;simp only [iD,qE];have e:=aC8 (ks':=ks) j rfl (fun _=>rfl) (aX5 node f a xs ix g o n ks ps b (i:Int) sd);rw [aNm j]at e;exact e
 | t ::tl,i,b,h,r,G,C,y=>by
  obtain⟨w,u,A⟩ :=bE h;simp only [FineXs]at r;simp only [aD]at C y;have I:=kO (o:=o) p (i:Int);have k:IntKind.i64.wrap (a+aT o ps (i:Int)) =a+aT o ps (i:Int) :=wrap64 (by omega) (by omega);have c:0+ ((i:Nat) :Int).toNat=i:=by rw [tI];omega
  have hb:=aSb hB t r.1 ks i b (a+aT o ps (i:Int)) w G (by omega) (by omega) (by omega);rw [←k,←c]at hb
  have z:o=15→0< (i:Int) →∃q,ps[((i:Int) -1).toNat]?=some q:=fun s H=>by
   have:=v s;exact⟨_,kX (by omega)⟩
  have d:=bDn o n ks ps p (i:Int) ⟨by omega,by omega⟩ z;simp only [iD];rw [c,k]at hb;cases hr:atT node t b (a+aT o ps (i:Int))with
  | go m=>
   rw [hr]at hb;have hm:=aQE node t b _ m hr;refine(aX4 node f a xs ix g o n ks ps b (i:Int) (aT o ps (i:Int)) m sd (qO (m:=2) (ks:=[11,12]) d aC aC trivial trivial) sd sd (aUD k c (qO (m:=10) (ks:=[0,12,2,3,4,5,6,7,8,9,14]) hb aC aC trivial trivial)) sd sd).ends ?_;have e:=aSc hB xs ix f a o n ks ps g j F p v h2 tl (i+1) m u r.2 (by omega) (by omega) (by omega);rw [←take_succ' w]at e;have D:qE o n ps (ks.take i++ [t]) (iD node o ps tl (i+1) m a) =qE o n ps (ks.take i) (match iD node o ps tl (i+1) m a with| .go m'=>.go m'| .past=>.past| .did ts'=>.did (t::ts')) :=by
    cases iD node o ps tl (i+1) m a<;>simp [qE]
   rw [D]at e;exact e
  | past=>
   rw [hr]at hb;have e:=aC8 (ks':=ks) j rfl (fun _=>rfl) (aX2 node f a xs ix g o n ks ps b (i:Int) (aT o ps (i:Int)) sd (qO (m:=2) (ks:=[11,12]) d aC aC trivial trivial) sd sd (aUD k c (qO (m:=10) (ks:=[0,12,2,3,4,5,6,7,8,9,14]) hb aC aC trivial trivial)));rw [aNm j]at e;exact e
  | did l=>
   rw [hr]at hb;have e:=aC8 (ks':=ks.set i l) j (by simp) (fun _=>rfl) (aX3 node f a xs ix g o n ks ps b (i:Int) (aT o ps (i:Int)) (ks.set i l) sd (qO (m:=2) (ks:=[11,12]) d aC aC trivial trivial) sd sd (aUD k c (qO (m:=10) (ks:=[0,12,2,3,4,5,6,7,8,9,14]) hb aC aC trivial trivial)));have x:ks.set i l=ks.take i++l::tl:=by rw [List.set_eq_take_append_cons_drop,if_pos A,u]
   simp only [qE];rw [←x];exact e
end
end
def atF (node:Int) :List XT→Int→AtR (List XT)
 | [],n=>.go n
 | t::ts,n=>match atT node t n 1 with
  | .go m=> (match atF node ts m with
   | .go m'=>.go m'
   | .past=>.past
   | .did ts'=>.did (t::ts'))
  | .past=>.past
  | .did t'=>.did (t'::ts)
def AtR.isDid {α:Type}:AtR α→Bool
 | .did _=>true
 |_=>false
def AtR.getD {α:Type}(d:α) :AtR α→α
 | .did x=>x
 |_=>d
def AtR.map {α β:Type}(f:α→β) :AtR α→AtR β
 | .go n=>.go n
 | .past=>.past
 | .did x=>.did (f x)
abbrev FHl (n:Nat)(mn:Int)(cs:List Con)(ts:List XT) :HL:=[(0,(.cells (putCells .leaf 0 [(.gl 1 1 0 n false),(.int .i64 mn),(.ilst 2 (List.map Con.av cs) false)]) 3 [] false),false),(1,gh,false),(2,(.zone true [1] (cH ts)),false)]
theorem aKt (node:Int) :∀ (b:List XT) (n:Int) (a:List XT),atF node b n= .did a→a.length=b.length
 | [],n,a,h=>by simp [atF]at h
 | t ::b,n,a,h=>by
  simp only [atF]at h;split at h
  · split at h
    ·cases h
    ·cases h
    · rename_i e;cases h;rw [qN,qN,aKt node b _ _ e]
  ·cases h
  ·cases h;rfl
theorem aSd (node B:Int)(hB:B≤1000000)(ts:List XT)(mn:Int)(cs:List Con)(hl:ts.length≤1000) :∀ (tl:List XT) (i:Nat) (n:Int),ts.drop i=tl→FineXs B tl→0≤n→n+ (aD tl:Nat) ≤100000 →
  Ends PP 2 (aKp ts mn cs node n (i:Int)).as (.ret (.bool (atF node tl n).isDid)) (aA (FHl ts.length mn cs (((atF node tl n).map (fun x=>ts.take i++x)).getD ts)) 3)
 | [],i,n,h,_,_,_=>by
  have:=bH h;exact bDj ts mn cs node n (i:Int) sd
 | t ::tl,i,n,h,c,p,o=>by
  obtain⟨g,f,l⟩ :=bE h;simp only [FineXs]at c;simp only [aD]at o;have a:0+ ((i:Nat) :Int).toNat=i:=by rw [tI];omega
  have hb:=aSb node B hB t c.1 ts i n 1 g p (by omega) (by omega) (by omega);simp only [atF];cases hr:atT node t n 1 with
  | go m=>
   rw [hr]at hb;have hm:=aQE node t n _ m hr;refine(bDi ts mn cs node n (i:Int) m sd sd sd (aUD rfl a (qO (m:=10) (ks:=[0,1,2,3,4,5,6,7,8,9,10]) hb aC aC trivial trivial)) sd sd).ends ?_;have e:=aSd node B hB ts mn cs hl tl (i+1) m f c.2 (by omega) (by omega);rw [←take_succ' g]at e;cases b:atF node tl m with
   |go q=>rw [b]at e;simp only [b];exact e
   |past=>rw [b]at e;simp only [b];exact e
   | did k=>
    rw [b]at e;simp only [b,AtR.isDid,AtR.map,AtR.getD,zq9,List.singleton_append]at e ⊢;exact e
  | past=>
   rw [hr]at hb;exact bDg ts mn cs node n (i:Int) sd sd sd (aUD rfl a (qO (m:=10) (ks:=[0,1,2,3,4,5,6,7,8,9,10]) hb aC aC trivial trivial))
  | did d=>
   rw [hr]at hb;have j:ts.set i d=ts.take i++d::tl:=by rw [List.set_eq_take_append_cons_drop,if_pos l,f]
   have e:=bDh ts mn cs node n (i:Int) (ts.set i d) sd sd sd (aUD rfl a (qO (m:=10) (ks:=[0,1,2,3,4,5,6,7,8,9,10]) hb aC aC trivial trivial));rw [j]at e;exact e
theorem bDo (node B:Int)(hB:B≤1000000)(ts:List XT)(mn:Int)(cs:List Con)(hl:ts.length≤1000)(b:FineXs B ts)(c:aD ts≤100000) :
  eS PP 2 (.enter 74 [.ptr 0 0,.int .i64 node]) (aA (FHl ts.length mn cs ts) 3) (.ret (.bool (atF node ts 0).isDid)) (aA (FHl ts.length mn cs ((atF node ts 0).getD ts)) 3) :=by
 refine⟨(bE2 ts mn cs node).as.fr,by kernel_rfl,?_⟩;have e:=aSd node B hB ts mn cs hl ts 0 0 rfl b (by omega) (by omega);have a: (AtR.map (fun x=>List.take 0 ts++x) (atF node ts 0)).getD ts= (atF node ts 0).getD ts:=by
  cases atF node ts 0<;>simp [AtR.map,AtR.getD]
 rw [a]at e;exact(bDf ts mn cs node).ends e
def aHj (g:Int→Int→Bool)(x:Node)(sz:Int) :Nat→List Int→Bool
 |_,[] =>true
 |j,k::ks=>g k (sz+dF x j) &&aHj g x sz (j+1) ks
def jO (p:Prog) :Nat→Int→Int→Bool
 |0,_,_=>true
 | f+1,a,sz=>match p.nodes[a.toNat]? with
  |some x=>if x.op=4∧x.n≥sz then false else aHj (jO p f) x sz 0 x.kids
  |none=>true
noncomputable def aGo (p:Prog) :List (Nat×AObj×Bool) := (aGc p 0 0 0).hp
noncomputable def aX9 (p:Prog)(b:Bool) :List (Nat×AObj×Bool) :=bif b then aGo p else bJd p
def sY (a fn sz:Int) :List AV:=[bGj a fn sz,.ptr 5 0,.ptr 6 0,.ptr 0 0]
theorem aUF {p:Prog}{a fn sz b gn tz:Int}:∀ {r:Bool},Spec PP (.enter 133 (sY a fn sz)) (aA (aGo p) 8) (.ret (.bool r)) (aA (aX9 p r) 8) →
  Spec PP (.enter 133 (sY a fn sz)) (aA (aGo p++ [(8,(.cells (putCells .leaf 0 [.int .i64 b,.int .i64 gn,.int .i64 tz]) 3 [] false),false)]) 9) (.ret (.bool r)) (aA (aX9 p r++ [(8,(.cells (putCells .leaf 0 [.int .i64 b,.int .i64 gn,.int .i64 tz]) 3 [] false),false)]) 9)
 |true,h=>aFt h aC (by rfl) (by rfl) aC aC trivial aC aC aC
 |false,h=>aFt h aC (by rfl) (by rfl) aC aC trivial aC aC aC
theorem aUG (p:Prog)(a fn sz:Int) : (aGc p a fn sz).as= ⟨(aGc p a fn sz).as.fr,[],aA (aGo p) 8⟩ :=by kernel_rfl
theorem aUH (p:Prog)(a fn sz:Int) :dG PP (aA (aGo p) 8) (.enter 133 (sY a fn sz)) =some (aGc p a fn sz).as.fr:=by kernel_rfl
theorem aNn {p:Prog}(hp:FineP p){f:Nat}{a fn sz:Int}{x:Node}(l:0≤a)(g:p.nodes[a.toNat]?=some x)(m:0≤sz)(v:sz≤1000* (a+1))
  (n:∀ (k tz:Int),a<k→k<p.nodes.length→0≤tz→tz≤1000* (k+1) →Spec PP (.enter 133 (sY k fn tz)) (aA (aGo p) 8) (.ret (.bool (jO p f k tz))) (aA (aX9 p (jO p f k tz)) 8)) :
  ∀ (t:List Int) (j:Nat),x.kids.drop j=t→Ends PP 8 (aBZ p a fn sz x.kids ((length x.kids:Nat) :Int) (j:Int)).as (.ret (.bool (aHj (jO p f) x sz j t))) (aA (aX9 p (aHj (jO p f) x sz j t)) 8)
 | [],j,h=>by
  have:=bH h;exact aW9 p a fn sz x.kids _ j sd
 | k::t,j,h=>by
  obtain⟨u,s,w⟩ :=bE h;obtain⟨r,e,i⟩ :=hp.node _ _ g;have hk:=i k (jQ u);have hb:=aNa r (j:Int);have y:=hp.small;have q:IntKind.i64.wrap (sz+dF x j) =sz+dF x j:=wrap64 (by omega) (by omega);have c:=aUF (b:=a) (gn:=fn) (tz:=sz) (n k (sz+dF x j) (by omega) (by omega) (by omega) (by omega));have d:=aQa r (k:= (j:Int)) (by omega) (by omega) e;rw [aHj];cases o:jO p f k (sz+dF x j)
  case false=>
   rw [o]at c;rw [Bool.false_and];refine aW7 p a fn sz x.kids _ j k x _ sd sd sd l g d ?_;rw [q];exact c
  rw [o]at c;rw [mL];refine(aW8 p a fn sz x.kids _ j k x _ sd sd sd l g d ?_ sd).ends ?_
  ·rw [q];exact c
  ·exact aNn hp l g m v n t (j+1) s
theorem aNo {p:Prog}(hp:FineP p)(fn:Int) :∀ (f:Nat) (a b:Int),0≤a→a<p.nodes.length→p.nodes.length-a.toNat≤f→0≤b→b≤1000* (a+1) →
  Spec PP (.enter 133 (sY a fn b)) (aA (aGo p) 8) (.ret (.bool (jO p f a b))) (aA (aX9 p (jO p f a b)) 8)
 |0,a,b,g,o,s,_,_=>by omega
 | f + 1,a,b,g,o,s,q,n=>by
  refine⟨_,aUH p a fn b,?_⟩;obtain⟨x,c⟩ :∃x,p.nodes[a.toNat]?=some x:= ⟨_,kX (by omega)⟩;rw [←aUG];have l:=aNn hp (f:=f) (fn:=fn) g c q n (fun k r hk j i m=>aNo hp fn f k r (by omega) j (by omega) i m) x.kids 0 rfl;by_cases d:x.op=4
  · by_cases h:x.n≥b
    · have e:jO p (f+1) a b=false:=by rw [jO,c];simp only [d,h,and_self,if_true]
      rw [e];exact aW4 p a fn b x g c (by simp [d]) (by simpa using h)
    · have e:jO p (f+1) a b=aHj (jO p f) x b 0 x.kids:=by rw [jO,c];simp only [h,and_false,if_false]
      rw [e];exact(aW5 p a fn b x g c (by simp [d]) (by simpa using h)).ends l
  · have e:jO p (f+1) a b=aHj (jO p f) x b 0 x.kids:=by rw [jO,c];simp only [d,false_and,if_false]
    rw [e];exact(aW6 p a fn b x g c (by simpa using d)).ends l
def aUI (p:Prog) :List Int→Bool
 | [] =>true
 |a::fs=>jO p p.nodes.length a 1&&aUI p fs
theorem aNp {p:Prog}(hp:FineP p) :∀ (t:List Int) (i:Nat),p.funs.drop i=t →
  Ends PP 0 (aJY p (i:Int)).as (.ret (.tup [(.bool (aUI p t)),(.int .i64 0)])) (aA [] 0)
 | [],i,h=>by
  have:=bH h;exact bBN p i sd
 | a::t,i,h=>by
  obtain⟨f,d,g⟩ :=bE h;have c:=hp.funs a (jQ f);have j:=hp.fsmall;have b:=aNo hp i p.nodes.length a 1 c.1 c.2 (by omega) (by omega) (by omega);rw [aUI];cases e:jO p p.nodes.length a 1
  case false=>
   rw [e]at b;exact bBL p i a sd sd sd b
  rw [e]at b;refine(bBM p i a sd sd sd b sd).ends ?_;rw [mL];exact aNp hp t (i+1) d
abbrev aUJ (a:List Int)(b c d:Int):AV:=.gl 1 1 0 (set a b.toNat (IntKind.i64.wrap (c+d))).length true
abbrev bH6 (a:Prog):AV:=.gl 1 1 0 (replicate a.nodes.length (0:Int)).length true
abbrev bDp (a:Nat)(b:Prog):=oC a [(iN b.nodes),(iI b.funs),(nI b.main),(iC b.cons)]
def zS(a:Prog)(c:Int)(b:List Int):TS:=⟨(tf 86 67 [kp 1 0,(2,.nils),(3,(.gl 1 1 0 b.length true)),(4,(nI c))] [kc f86 116,kl f86 116,.inBlock 0,kc f86 15]),[],[bDp 0 a,oL 1 1 (jI b)],2⟩
def sZ(a:Prog)(b:List Int)(c:Int):TS:=⟨(tf 86 67 [kp 1 0,(2,.nils),(3,(.gl 1 1 0 b.length true)),(5,(nI c))] [kc f86 244,kl f86 244,.inBlock 2,kc f86 31]),[],[bDp 0 a,oL 1 1 (jI b)],2⟩
def zU(a:Prog)(b:List Int)(c d:Int):TS:=⟨(tf 86 67 [kp 1 0,(2,.nils),(3,(.gl 1 1 0 b.length true)),(5,(nI d)),(6,(nI c))] [kc f86 15652,kl f86 15652,.inBlock 4,.inBlock 3,kc f86 979,kl f86 244,.inBlock 2,kc f86 31]),[],[bDp 0 a,oL 1 1 (jI b)],2⟩
def yB(a:Prog)(b:List Int)(c:Int):TS:=⟨(tf 58 33 [kp 1 0,(2,(bV false)),(3,(iI b)),(4,(nI c))] [kc f58 116,kl f58 116,.inBlock 0,kc f58 15]),[],[bDp 0 a],1⟩
def aQF (a:Prog):=fun b=>(tT 0 (start PP 86 [(Prog.av a)])<|gl 9 Node.av a.nodes<|.i [.mk a.nodes.length] [hr ((a.nodes.length:Nat) :Int),hr ((a.nodes.length:Nat) :Int),hA (a.nodes.length<100000)]<|.i [.lset 1 (jI (replicate a.nodes.length (0:Int)))] [.q (p:=replicate a.nodes.length (cG (0:Int)) = (jI (replicate a.nodes.length (0:Int)))) (aEf _ _ _)]<|.i [.set 10 (bH6 a)] [.q (p:=(AV.gl 1 1 0 a.nodes.length true) = (bH6 a)) (bK (aLh ..).symm)]<|.W 9 2 [0,1] (zS a 0 (replicate a.nodes.length (0:Int)))) b ⟨kk,trivial⟩
def bH7(c:Prog)(d:Int)(a:List Int):=tT 0 (zS c d a)<|gl 6 cG c.funs<|gd 2 15 (d< (c.funs.length:Int)) (gX cG 9 c.funs d<|fun b=>.i [rn 1,.ans (.ix)] [hA (0≤b),hA (b< (a.length:Int))]<|.y fun e:Int=>.i [.st (cG e) (cG 1)] [.a (((a)[b.toNat]?) =some e) (cI (f:=cG)),hr (some (cG 1))]<|.i [.lset 1 (jI (set a b.toNat 1))] [.q (p:=(jI a).set (0+b.toNat) (cG 1) = (jI (set a b.toNat 1))) (oH _ _ _ _)]<|.i [.set 3 (.gl 1 1 0 (set a b.toNat 1).length true)] [.q (p:=(AV.gl 1 1 0 a.length true) = (.gl 1 1 0 (set a b.toNat 1).length true)) (bK (dZ ..).symm)]<|.i [.set 18 (.gl 1 1 0 (set a b.toNat 1).length true)] [.q (p:=(AV.gl 1 1 0 a.length true) = (.gl 1 1 0 (set a b.toNat 1).length true)) (bK (dZ ..).symm)]<|gw 5 17 (d+1)<|.W 3 2 [0,1] (zS c (d+1) (set a b.toNat 1)))<|.W 9 2 [0,1] (sZ c a 0)
def aQG:=fun a b c d e f g i j k l m=>bH7 a b c|>.t f d g i j k e l m ⟨kk,trivial⟩
def aQH:=fun a b c d=>bH7 a b c|>.f d ⟨kk,trivial⟩
def bH8(a:Prog)(b:List Int)(c:Int):=tT 0 (sZ a b c)<|gl 6 Node.av a.nodes<|gd 2 29 (c< (a.nodes.length:Int)) (.W 10 2 [0,1] (zU a b 0 c))<|gz 8 2 1 1 cG b true<|gE 0 2 (.ilst 1 (jI b) true)
def aQI:=fun a b c d=>bH8 a b c|>.t d ⟨kk,trivial⟩
def aQJ:=fun a b c d=>bH8 a b c|>.f d tv
def bH9(g:Prog)(a:List Int)(i d:Int):=tT 0 (zU g a i d)<|gX Node.av 7 g.nodes d<|fun f=>gl 2 cG f.kids<|gd 2 40 (i< (f.kids.length:Int)) (.y fun c:Int=>.y fun b:Int=>.y fun e:Int=>.y fun j:Int=>.i [rn 4,.regA (rd 4 (.ans (.idx (Node.av f))::rd 3 (.ans (.idx (cG c))::rd 3 (.ans (.ix)::.ans (.idx (cG b))::rd 3 [.ans (.idx (Node.av f)),.d,.d,.pure (nI e),.d,.ans (.ix),.st (cG j) (cG (IntKind.i64.wrap (b+e)))])))) [(some (.idx (cG b))),none,none,none]] [hA (0≤d),.a (((g.nodes)[d.toNat]?) =some f) (bL (f:=Node.av)),hA (0≤i),.a (((f.kids)[i.toNat]?) =some c) (bL (f:=cG)),hA (0≤d),hA (d< ((a.length:Nat) :Int)),.a (((a)[d.toNat]?) =some b) (cI (f:=cG)),hA (0≤d),.a (((g.nodes)[d.toNat]?) =some f) (bL (f:=Node.av)),hA (aK PP 121 [(Node.av f),(nI i)] (nI e)),hA (0≤c),hA (c< ((a.length:Nat) :Int)),.a (((a)[c.toNat]?) =some j) (cI (f:=cG)),hr (some (cG (IntKind.i64.wrap (b+e)))),hr (nI b),.a (((a)[d.toNat]?) =some b) (cI (f:=cG)),hr (nI b),.a (((a)[d.toNat]?) =some b) (cI (f:=cG)),hr (nI c),hr (nI c),hr (ilst 1 (jI f.kids) false),hr (ilst 1 (jI f.kids) false),hr (ilst 4 (jN g.nodes) false),hr (ilst 4 (jN g.nodes) false)]<|.i [.lset 1 (jI (set a c.toNat (IntKind.i64.wrap (b+e))))] [.q (p:=(jI a).set (0+c.toNat) (cG (IntKind.i64.wrap (b+e))) = (jI (set a c.toNat (IntKind.i64.wrap (b+e))))) (oH _ _ _ _)]<|.i [.set 3 (aUJ a c b e)] [.q (p:=(AV.gl 1 1 0 a.length true) = (aUJ a c b e)) (bK (dZ ..).symm)]<|.i [.set 43 (aUJ a c b e)] [.q (p:=(AV.gl 1 1 0 a.length true) = (aUJ a c b e)) (bK (dZ ..).symm)]<|.i [.set 53 (aUJ a c b e)] [.q (p:=(AV.gl 1 1 0 a.length true) = (aUJ a c b e)) (bK (dZ ..).symm)]<|gw 4 42 (i+ (1:Int))<|.W 3 2 [0,1] (zU g (set a c.toNat (IntKind.i64.wrap (b+e))) (i+ (1:Int)) d))<|gw 6 31 (d+ (1:Int))<|.W 3 2 [0,1] (sZ g a (d+ (1:Int)))
def aQK:=fun d e f g i j k l m a b n o p q c r s t u v=>bH9 d e f g i a b|>.t n j k l m a b o p a q c a b r s t u c c v ⟨kk,trivial⟩
def aQL:=fun a b c d e f g i j=>bH9 a b c d e f g|>.f i j ⟨kk,trivial⟩
def aUK (b:Prog):=fun a c=>(tT 0 (start PP 58 [(Prog.av b)])<|.y fun a:List Int=>gp 8 86 [(Prog.av b)] (iI a)<|.W 9 1 [0] (yB b a 0)) a c tv
def bDq(c:Prog)(d:List Int)(a:Int):=tT 0 (yB c d a)<|gl 5 cG d<|gd 2 10 (a< (d.length:Int)) (.o (.y fun b:Node=>.y fun e:Int=>.i [rn 5,.reg (rd 3 (.ans (.idx (Node.av b))::rd 4 (.b 20 true::rd 3 (.ans (.idx (Node.av b))::rd 4 (.ans (.idx (cG e))::rd 3 [])))))] [hA (0≤a),.a (((c.nodes)[a.toNat]?) =some b) (bL (f:=Node.av)),hA ((b.op==4) =true),hA (0≤a),.a (((c.nodes)[a.toNat]?) =some b) (bL (f:=Node.av)),hA (0≤a),.a (((d)[a.toNat]?) =some e) (bL (f:=cG))]<|gd 0 32 (b.n≥e) (gE 6 1 (bV false))<|gw 6 12 (a+1)<|.W 3 1 [0] (yB c d (a+1)))<|.y fun b:Node=>.i [rn 5,.reg (rd 3 (.ans (.idx (Node.av b))::rd 4 (.b 20 false::rd 12 [])))] [hA (0≤a),.a (((c.nodes)[a.toNat]?) =some b) (bL (f:=Node.av)),hA ((b.op==4) =false)]<|gw 6 12 (a+1)<|.W 3 1 [0] (yB c d (a+1)))<|gE 7 1 (bV true)
def aUL:=fun c d e f g i a b j k l=>bDq c d e|>.t i|>.1 f g a b j a b a k|>.t l tv
def aUM:=fun c d e f g i a b j k l m=>bDq c d e|>.t i|>.1 f g a b j a b a k|>.f l m tv
def aUN:=fun a b c d e f g i j=>bDq a b c|>.t e|>.2 d f g i j tv
def aUO:=fun a b c d=>bDq a b c|>.f d tv
def jP (x:Node)(i:Nat) :Nat→List Int→List Int→List Int
 |_,[],l=>l
 |j,k::ks,l=>jP x i (j+1) ks (l.set k.toNat (l.getD i 0+dF x j))
def iE :Nat→List Node→List Int→List Int
 |_,[],l=>l
 |i,x::t,l=>iE (i+1) t (jP x i 0 x.kids l)
def nH :List Int→List Int→List Int
 | [],l=>l
 |f::fs,l=>nH fs (l.set f.toNat 1)
def kF (p:Prog) :List Int:=iE 0 p.nodes (nH p.funs (replicate p.nodes.length 0))
theorem qF (x:Node)(i:Nat) :∀ (t:List Int) (j:Nat) (l:List Int),(jP x i j t l).length=l.length
 | [],_,_=>rfl
 |k::t,j,l=>by rw [jP,qF x i t];simp
theorem aDO :∀ (t:List Node) (i:Nat) (l:List Int),(iE i t l).length=l.length
 | [],_,_=>rfl
 |x::t,i,l=>by rw [iE,aDO t,qF]
theorem vG :∀ (t:List Int) (l:List Int),(nH t l).length=l.length
 | [],_=>rfl
 |f::t,l=>by rw [nH,vG t];simp
theorem aA9 (p:Prog) : (kF p).length=p.nodes.length:=by rw [kF,aDO,vG];simp
def upTo (B:Int)(l:List Int) :Prop:=∀z∈l,0≤z∧z≤B
theorem aYa {B:Int}{l:List Int}(h:upTo B l){i:Nat}(a:i<l.length) :0≤l.getD i 0∧l.getD i 0≤B:=by
 rw [nY,kX a];exact h _ (List.getElem_mem a)
theorem aNq {B C:Int}{l:List Int}(h:upTo B l)(b:B≤C){i:Nat}{z:Int}(a:0≤z)(h1:z≤C) :upTo C (l.set i z) :=fun k hk=>by
 rcases List.mem_or_eq_of_mem_set hk with g|g
 ·have:=h k g;omega
 ·rw [g];exact⟨a,h1⟩
theorem aUP {B C:Int}{l:List Int}(h:upTo B l)(a:B≤C) :upTo C l:=fun k hk=>by have:=h k hk;omega
theorem bIa {p:Prog}(hp:FineP p){i:Nat}{x:Node}(c:p.nodes[i]?=some x){a:AV}{h':Hp} :
  ∀ (t:List Int) (j:Nat) (l:List Int) (B:Int),l.length=p.nodes.length→0≤B→upTo B l→B+12*t.length≤1000000→x.kids.drop j=t →
   (upTo (B+12*t.length) (jP x i j t l) →Ends PP 0 (sZ p (jP x i j t l) ((i:Int) +1)).as (.ret a) h') →Ends PP 0 (zU p l (j:Int) (i:Int)).as (.ret a) h'
 | [],j,l,B,hl,s,hB,hb,h,hk=>by
  have:=bH h;have r:= (zq0.1 c).1;have n:=hp.small;refine(aQL p l j i x sd sd sd sd).ends (hk ?_);simpa [jP]using hB
 | k::t,j,l,B,hl,s,hB,hb,h,hk=>by
  obtain⟨m,f,w⟩ :=bE h;obtain⟨e,b,d⟩ :=hp.node _ _ c;have g:=d k (jQ m);have r:= (zq0.1 c).1;have n:=hp.small;have z:=aNa e (j:Int);have hz:=aYa hB (i:=i) (by omega);have v:l[i]?=some (l.getD i 0) :=by rw [nY,kX (by omega)];rfl
  obtain⟨y,o⟩ :∃y,l[k.toNat]?=some y:= ⟨_,kX (by omega)⟩;simp only [qN]at hb;have u:IntKind.i64.wrap (l.getD i 0+dF x j) =l.getD i 0+dF x j:=wrap64 (by omega) (by omega);have st:=aQK p l j i x k (l.getD i 0) (dF x j) y sd sd sd sd sd (by omega) sd (aQb e (by omega) (by omega) b) (by omega) (by omega) o sd;rw [u]at st;refine st.ends ?_;refine bIa hp c t (j+1) (l.set k.toNat (l.getD i 0+dF x j)) (B+12) (by simpa using hl) (by omega) (aNq hB (by omega) (by omega) (by omega)) (by omega) f (fun q=>?_);have:=hk (by rw [jP];exact aUP q (by simp only [qN];omega));rw [jP]at this;exact this
theorem rS1 {p:Prog}(hp:FineP p) :∀ (t:List Node) (i:Nat) (l:List Int) (B:Int),l.length=p.nodes.length→0≤B→upTo B l→B+120*t.length≤1000000→p.nodes.drop i=t →
  Ends PP 0 (sZ p l (i:Int)).as (.ret (.ilst 1 (List.map cG (iE i t l)) true)) (aA [] 0)
 | [],i,l,B,hl,c,hB,hb,h=>by
  have:=bH h;exact aQJ p l i sd
 | x::t,i,l,B,hl,c,hB,hb,h=>by
  obtain⟨a,d,g⟩ :=bE h;obtain⟨j,b,e⟩ :=hp.node _ _ a;simp only [qN]at hb;refine(aQI p l i sd).ends ?_;refine bIa hp a x.kids 0 l B hl c hB (by omega) rfl (fun f=>?_);rw [iE];exact rS1 hp t (i+1) _ (B+12*x.kids.length) (by rw [qF,hl]) (by omega) f (by omega) d
theorem rS0 {p:Prog}(hp:FineP p) :∀ (t:List Int) (i:Nat) (l:List Int),l.length=p.nodes.length→upTo 1 l→p.funs.drop i=t →
  Ends PP 0 (zS p (i:Int) l).as (.ret (.ilst 1 (List.map cG (iE 0 p.nodes (nH t l))) true)) (aA [] 0)
 | [],i,l,hl,hB,h=>by
  have:=bH h;have j:=hp.small;refine(aQH p i l sd).ends ?_;exact rS1 hp p.nodes 0 l 1 hl (by omega) hB (by omega) rfl
 | a::t,i,l,hl,hB,h=>by
  obtain⟨c,b,e⟩ :=bE h;have f:=hp.funs a (jQ c);have g:=hp.fsmall;obtain⟨y,d⟩ :∃y,l[a.toNat]?=some y:= ⟨_,kX (by omega)⟩;refine(aQG p i l a y sd sd sd (by omega) (by omega) d sd).ends ?_;exact rS0 hp t (i+1) _ (by simpa using hl) (aNq hB (by omega) (by omega) (by omega)) b
theorem aDP {p:Prog}(hp:FineP p) :aK PP 86 [Prog.av p] (.ilst 1 (List.map cG (kF p)) false) :=by
 refine aG aC rfl rfl ?_;have b:=hp.small;refine Ends.val ?_ (fun E a=>hY);refine(aQF p (by omega)).ends ?_;exact rS0 hp p.funs 0 _ (by simp) (fun z hz=>by have:= (List.mem_replicate.1 hz).2;omega) rfl
def oQ (p:Prog)(S:List Int)(i:Nat) :Bool:=match p.nodes[i]?,S[i]? with
 |some x,some s=> !(decide (x.op=4) &&decide (x.n≥s))
 |_,_=>true
def gW (p:Prog)(S:List Int) :Nat→List Int→Bool
 |_,[] =>true
 |i,_::t=>oQ p S i&&gW p S (i+1) t
theorem rSh {p:Prog}(j:p.nodes.length≤320)(S:List Int)(f:S.length=p.nodes.length) :∀ (t:List Int) (i:Nat),S.drop i=t→Ends PP 0 (yB p S (i:Int)).as (.ret (.bool (gW p S i t))) (aA [] 0)
 | [],i,h=>by
  have:=bH h;exact aUO p S i sd
 | s ::t,i,h=>by
  obtain⟨c,g,k⟩ :=bE h;obtain⟨x,d⟩ :∃x,p.nodes[i]?=some x:= ⟨_,kX (by omega)⟩;have e:=rSh j S f t (i+1) g;by_cases a:x.op=4
  · by_cases b:x.n≥s
    ·exact Ends.eqv (aUL p S i x s sd sd sd (by simp [a]) sd (by simpa using b)) (by simp only [gW,oQ,d,c,a,b];simp)
    · refine(aUM p S i x s sd sd sd (by simp [a]) sd (by simpa using b) sd).ends ?_;exact Ends.eqv e (by simp only [gW,oQ,d,c,a,b];simp)
  · refine(aUN p S i x sd sd sd (by simpa using a) sd).ends ?_;exact Ends.eqv e (by simp only [gW,oQ,d,c,a];simp)
theorem aQM {p:Prog}(hp:FineP p) :aK PP 58 [Prog.av p] (.bool (gW p (kF p) 0 (kF p))) :=by
 refine aG aC rfl rfl ?_;refine(aUK p (kF p) (aDP hp)).ends ?_;exact rSh hp.small (kF p) (aA9 p) (kF p) 0 rfl
theorem qG {lo n:Int}:∀ {b:List Int} {u v:List Bool},marks lo n b u=some v→∀k∈b,lo≤k∧k≤n-1
 | [],_,_,_,k,hk=>by cases hk
 | a ::b,u,v,h,k,hk=>by
  simp only [marks]at h;split at h
  · rename_i g;rcases zq7.1 hk with rfl|hk
    ·exact inB_iff.1 g.1
    ·exact qG h k hk
  ·cases h
theorem zV {lo n:Int}:∀ {b:List Int} {u v:List Bool},marks lo n b u=some v→∀m:Nat,v[m]?=some true→u[m]?=some true∨∃k∈b,k.toNat=m
 | [],u,v,h,m,hm=>by simp only [marks,Option.some.injEq]at h;rw [h];exact .inl hm
 | a ::b,u,v,h,m,hm=>by
  simp only [marks]at h;split at h
  · rcases zV h m hm with g| ⟨k,hk,e⟩
    · by_cases e:a.toNat=m
      ·exact .inr ⟨a,cQ ..,e⟩
      ·rw [getElem?_set_ne e]at g;exact .inl g
    ·exact .inr ⟨k,cL _ hk,e⟩
  ·cases h
theorem qH {lo n:Int}:∀ {b:List Int} {u v:List Bool},marks lo n b u=some v→∀m:Nat,u[m]?=some true→v[m]?=some true
 | [],u,v,h,m,hm=>by simp only [marks,Option.some.injEq]at h;rw [←h];exact hm
 | a ::b,u,v,h,m,hm=>by
  simp only [marks]at h;split at h
  · rename_i g;refine qH h m ?_;by_cases e:a.toNat=m
    ·subst e;rw [hm]at g;exact absurd g.2 (by simp)
    ·rw [getElem?_set_ne e];exact hm
  ·cases h
theorem lD {lo n k:Int}{ks:List Int}{u v:List Bool}(h:marks lo n (k::ks) u=some v) :u[k.toNat]?=some false∧marks lo n ks (u.set k.toNat true) =some v:=by
 simp only [marks]at h;split at h
 ·rename_i g;exact⟨g.2,h⟩
 ·cases h
theorem gC {p:Prog}{i:Nat}{x:Node}{t:List Node}{u v:List Bool}(h:cC p i (x::t) u=some v) :bG p x=true∧∃w,marks ((i:Int) +1) p.nodes.length x.kids u=some w∧cC p (i+1) t w=some v:=by
 simp only [cC]at h;split at h
 · rename_i g;split at h
   ·rename_i w a;exact⟨g,w,a,h⟩
   ·cases h
 ·cases h
theorem aCe {p:Prog}:∀ {t:List Node} {i:Nat} {u v:List Bool},cC p i t u=some v→∀m:Nat,m≤i→v[m]?=some true→u[m]?=some true
 | [],i,u,v,h,m,_,hm=>by simp only [cC,Option.some.injEq]at h;rw [h];exact hm
 | x::t,i,u,v,h,m,c,hm=>by
  obtain⟨_,w,a,b⟩ :=gC h;rcases zV a m (aCe b m (by omega) hm)with g| ⟨k,hk,e⟩
  ·exact g
  ·have:=qG a k hk;omega
theorem pG {p:Prog}:∀ {t:List Node} {i:Nat} {u v:List Bool},cC p i t u=some v→v.length=u.length
 | [],i,u,v,h=>by simp only [cC,Option.some.injEq]at h;rw [h]
 | x::t,i,u,v,h=>by
  obtain⟨_,w,b,a⟩ :=gC h;rw [pG a,nD b]
theorem mJ {p:Prog}:∀ {t:List Node} {i:Nat} {u v:List Bool},cC p i t u=some v→∀ (j:Nat) (x:Node),t[j]?=some x→bG p x=true∧∀k∈x.kids,((i+j:Nat) :Int) <k∧k<p.nodes.length
 | [],i,u,v,h,j,x,a=>by simp at a
 | y::t,i,u,v,h,j,x,a=>by
  obtain⟨g,w,b,c⟩ :=gC h;cases j with
  | zero=>
   simp at a;subst a;exact⟨g,fun k hk=>by have:=qG b k hk;omega⟩
  | succ j=>
   have:=mJ c j x (by simpa using a);exact⟨this.1,fun k hk=>by have:=this.2 k hk;omega⟩
theorem aCf {p:Prog}:∀ {t:List Node} {i:Nat} {u v:List Bool},cC p i t u=some v→∀m:Nat,v[m]?=some true→u[m]?=some true∨∃ (j:Nat) (x:Node) (k:Int),t[j]?=some x∧k∈x.kids∧k.toNat=m
 | [],i,u,v,h,m,hm=>by simp only [cC,Option.some.injEq]at h;rw [h];exact .inl hm
 | y ::t,i,u,v,h,m,hm=>by
  obtain⟨g,w,f,l⟩ :=gC h;rcases aCf l m hm with a| ⟨j,x,k,o,c,n⟩
  · rcases zV f m a with b| ⟨k,e,d⟩
    ·exact .inl b
    ·exact .inr ⟨0,y,k,rfl,e,d⟩
  ·exact .inr ⟨j+1,x,k,by simpa using o,c,n⟩
theorem rJ {x:Node}{i:Nat}{lo n:Int}:∀ {t:List Int} {j:Nat} {u v:List Bool} {l:List Int},marks lo n t u=some v→∀m:Nat,u[m]?=some true→ (jP x i j t l)[m]?=l[m]?
 | [],_,_,_,_,_,_,_=>rfl
 | k::t,j,u,v,l,h,m,hm=>by
  obtain⟨b,c⟩ :=lD h;have a:k.toNat≠m:=fun e=>by rw [e,hm]at b;cases b
  rw [jP,rJ c m (by rw [getElem?_set_ne a];exact hm),getElem?_set_ne a]
theorem pH {p:Prog}:∀ {t:List Node} {i:Nat} {u v:List Bool} {l:List Int},cC p i t u=some v→∀m:Nat,u[m]?=some true→ (iE i t l)[m]?=l[m]?
 | [],_,_,_,_,_,_,_=>rfl
 | x::t,i,u,v,l,h,m,hm=>by
  obtain⟨_,w,a,b⟩ :=gC h;rw [iE,pH b m (qH a m hm),rJ a m hm]
theorem aDQ {lo n:Int}:∀ {t:List Int} {u v:List Bool} {l:List Int},marks lo n t u=some v→∀m:Nat,u[m]?=some true→ (nH t l)[m]?=l[m]?
 | [],_,_,_,_,_,_=>rfl
 | k::t,u,v,l,h,m,hm=>by
  obtain⟨b,c⟩ :=lD h;have a:k.toNat≠m:=fun e=>by rw [e,hm]at b;cases b
  rw [nH,aDQ c m (by rw [getElem?_set_ne a];exact hm),getElem?_set_ne a]
theorem aGp {x:Node}{i:Nat}{lo n:Int}:∀ {t:List Int} {j:Nat} {u v:List Bool} {l:List Int},marks lo n t u=some v→u.length=l.length→u[i]?=some true→∀ (d:Nat) (k:Int),t[d]?=some k→ (jP x i j t l)[k.toNat]?=some (l.getD i 0+dF x ((j+d:Nat) :Int))
 | [],_,_,_,_,_,_,_,d,k,hk=>by simp at hk
 | a::t,j,u,v,l,h,g,m,d,k,hk=>by
  obtain⟨c,o⟩ :=lD h;have b:a.toNat≠i:=fun e=>by rw [e,m]at c;cases c
  have f:a.toNat<u.length:= (zq0.1 c).1;rw [jP];cases d with
  | zero=>
   simp at hk;subst hk;rw [rJ o _ (by rw [getElem?_set_self f]),getElem?_set_self (by omega)];simp
  | succ d=>
   have:=aGp (x:=x) (i:=i) (j:=j+1) (l:=l.set a.toNat (l.getD i 0+dF x j)) o (by simpa using g) (by rw [getElem?_set_ne b];exact m) d k (by simpa using hk);rw [this,nY,getElem?_set_ne b,←nY];congr 3;omega
theorem aDR {p:Prog}:∀ {t:List Node} {i:Nat} {u v:List Bool} {l:List Int},cC p i t u=some v→ (∀m,m<v.length→v[m]?=some true) →u.length=l.length→i+t.length≤u.length→∀ (j:Nat) (x:Node) (d:Nat) (k:Int),t[j]?=some x→x.kids[d]?=some k →
  ∃s,(iE i t l)[i+j]?=some s∧ (iE i t l)[k.toNat]?=some (s+dF x d)
 | [],_,_,_,_,_,_,_,_,j,x,d,k,g,_=>by simp at g
 | y ::t,i,u,v,l,h,C,e,o,j,x,d,k,g,hk=>by
  obtain⟨_,w,b,c⟩ :=gC h;have q:=nD b;simp only [qN]at o;rw [iE];cases j with
  | zero=>
   simp at g;subst g;have I:=pG h;have r:u[i]?=some true:=aCe h i (Nat.le_refl _) (C i (by omega));have A:=aGp (x:=y) (i:=i) (j:=0) (l:=l) b e r d k hk;have z:w[k.toNat]?=some true:=by
    have D:=qG b k (jQ hk);have all:∀ {B n:Int} {f:List Int} {u v:List Bool},marks B n f u=some v→∀k∈f,v[k.toNat]?=some true:=by
     intro B n f
     induction f with
     |nil=>intro u v _ k hk;cases hk
     | cons a f F=>
      intro u v h k hk;obtain⟨H,c⟩ :=lD h;rcases zq7.1 hk with rfl|hk
      ·exact qH c _ (getElem?_set_self (zq0.1 H).1)
      ·exact F c k hk
    exact all b k (jQ hk)
   refine⟨l.getD i 0,?_,?_⟩
   · show(iE (i+1) t (jP y i 0 y.kids l))[i]?=some (l.getD i 0);rw [pH c i (qH b i r),rJ b i r,nY,kX (by omega)];rfl
   ·rw [pH c _ z,A];simp
  | succ j=>
   obtain⟨s,J,G⟩ :=aDR (l:=jP y i 0 y.kids l) c C (by rw [qF,q,e]) (by omega) j x d k (by simpa using g) hk;exact⟨s,by rw [←J];congr 1;omega,G⟩
structure Sprop (p:Prog) (S:List Int) :Prop where
 len:S.length=p.nodes.length
 root:∀f∈p.funs,S[f.toNat]?=some 1
 kid:∀ (i:Nat) (x:Node) (d:Nat) (k:Int),p.nodes[i]?=some x→x.kids[d]?=some k→∃s,S[i]?=some s∧S[k.toNat]?=some (s+dF x d)
def zW (p:Prog) :Prop:=∀m,m<p.nodes.length→ (∃f∈p.funs,f.toNat=m) ∨∃ (i:Nat) (x:Node) (k:Int),p.nodes[i]?=some x∧k∈x.kids∧k.toNat=m∧i<m
theorem aDS {lo n:Int}:∀ {t:List Int} {u v:List Bool} {l:List Int},marks lo n t u=some v→u.length=l.length→∀f∈t,(nH t l)[f.toNat]?=some 1
 | [],_,_,_,_,_,f,b=>by cases b
 | a::t,u,v,l,h,d,f,b=>by
  obtain⟨g,e⟩ :=lD h;have c:a.toNat<u.length:= (zq0.1 g).1;rw [nH];rcases zq7.1 b with rfl|b
  ·rw [aDQ e _ (getElem?_set_self c),getElem?_set_self (by omega)]
  ·exact aDS e (by simpa using d) f b
theorem iF {p:Prog}(hp:aJ p=true)(c:aM p=true) :FineP p∧Sprop p (kF p) ∧zW p:=by
 have C:=hp;simp only [aJ,dS,decide_eq_true_eq]at C;obtain⟨⟨⟨⟨L,J⟩,Q⟩,_⟩,M⟩ :=C;simp only [aM,dS]at c;obtain⟨_,c⟩ :=c;split at c
 · rename_i u o;unfold allT at c;split at c
   · rename_i v t;have q:u.length=p.nodes.length:=by rw [nD o];simp
     have O:v.length=p.nodes.length:=by rw [pG t,q]
     have e:∀m,m<v.length→v[m]?=some true:=fun m hm=>by
      rw [kX hm];have:=zq27.1 c _ (List.getElem_mem hm);simpa using this
     have b:=mJ t;refine⟨⟨L,J,fun i x y=>?_,fun f c=>?_⟩,⟨aA9 p,fun f c=>?_,fun i x d k y hk=>?_⟩,fun m hm=>?_⟩
     · have:=b i x y;have w:=zq27.1 M x (jQ y);simp only [bO,dS,decide_eq_true_eq]at w;exact⟨aRS this.1,w.1.1,fun k hk=>by have:=this.2 k hk;omega⟩
     ·have:=qG o f c;omega
     · rw [kF];have z:u[f.toNat]?=some true:=by
        have all:∀ {D n:Int} {r:List Int} {u v:List Bool},marks D n r u=some v→∀k∈r,v[k.toNat]?=some true:=by
         intro D n r
         induction r with
         |nil=>intro u v _ k hk;cases hk
         | cons a r K=>
          intro u v h k hk;obtain⟨I,H⟩ :=lD h;rcases zq7.1 hk with rfl|hk
          ·exact qH H _ (getElem?_set_self (zq0.1 I).1)
          ·exact K H k hk
        exact all o f c
       rw [pH t _ z];exact aDS o (by simp) f c
     · obtain⟨s,B,A⟩ :=aDR (l:=nH p.funs (replicate p.nodes.length 0)) t e (by rw [vG,q];simp) (by omega) i x d k y hk;exact⟨s,by rw [kF,←B];congr 1;omega,A⟩
     · rcases aCf t m (e m (by omega))with g| ⟨j,x,k,G,F,N⟩
       · rcases zV o m g with a| ⟨f,B,A⟩
         ·rw [List.getElem?_replicate]at a;split at a<;>simp at a
         ·exact .inl ⟨f,B,A⟩
       · have:= (b j x G).2 k F;exact .inr ⟨j,x,k,G,F,N,by omega⟩
   ·cases c
 ·cases c
inductive Reach (p:Prog) :Nat→Nat→Prop where
 |refl (a:Nat) :Reach p a a
 |step {a i:Nat} {x:Node} {k:Int}:Reach p a i→p.nodes[i]?=some x→k∈x.kids→Reach p a k.toNat
theorem Reach.first {p:Prog}{a m:Nat}(h:Reach p a m) :m=a∨∃ (x:Node) (k:Int),p.nodes[a]?=some x∧k∈x.kids∧Reach p k.toNat m:=by
 induction h with
 |refl=>exact .inl rfl
 | step h hx hk ih=>
  rename_i i x k;rcases ih with rfl| ⟨y,q,h1,h2,h3⟩
  ·exact .inr ⟨x,k,hx,hk,Reach.refl _⟩
  ·exact .inr ⟨y,q,h1,h2,h3.step hx hk⟩
theorem aHk {p:Prog}(hc:zW p) :∀m,m<p.nodes.length→∃f∈p.funs,Reach p f.toNat m:=by
 intro m
 induction m using Nat.strongRecOn with
 | ind m ih=>
  intro hm;rcases hc m hm with⟨f,h1,h2⟩ | ⟨i,x,k,h1,h2,h3,h4⟩
  ·exact⟨f,h1,h2 ▸ Reach.refl _⟩
  · obtain⟨f,g1,g2⟩ :=ih i h4 (by omega);exact⟨f,g1,h3 ▸ g2.step h1 h2⟩
theorem aIf {p:Prog}(hp:FineP p){S:List Int}(hS:Sprop p S) :∀ (f:Nat) (a:Nat) (s:Int),a<p.nodes.length→p.nodes.length-a≤f→S[a]?=some s →
  (jO p f (a:Int) s=true↔∀m:Nat,Reach p a m→oQ p S m=true)
 |0,a,s,ha,hf,_=>by omega
 | f + 1,a,s,ha,hf,hs=>by
  obtain⟨x,hx⟩ :∃x,p.nodes[a]?=some x:= ⟨_,kX ha⟩;obtain⟨_,_,hks⟩ :=hp.node a x hx;have e:jO p (f+1) (a:Int) s= (if x.op=4∧x.n≥s then false else aHj (jO p f) x s 0 x.kids) :=by
   rw [jO];simp only [tI,hx]
  have ok:oQ p S a=true↔¬ (x.op=4∧x.n≥s) :=by
   unfold oQ;rw [hx,hs];by_cases h4:x.op=4<;>by_cases hn:x.n≥s<;>simp [h4,hn]
  have fold:∀ (t:List Int) (j:Nat),x.kids.drop j=t→ (aHj (jO p f) x s j t=true↔∀k∈t,∀m:Nat,Reach p k.toNat m→oQ p S m=true) :=by
   intro t
   induction t with
   |nil=>intro j _;exact⟨fun _ k hk=> (by cases hk),fun _=>rfl⟩
   | cons k t ih=>
    intro j h;obtain⟨g1,g2,g3⟩ :=bE h;have hk:=hks k (jQ g1);obtain⟨s',c1,c2⟩ :=hS.kid a x j k hx g1;rw [hs]at c1;cases c1;have hkn: ((k.toNat:Nat) :Int) =k:=by omega
    have w:=aIf hp hS f k.toNat (s+dF x j) (by omega) (by omega) c2;rw [hkn]at w;rw [aHj,dS,w,ih (j+1) g2];constructor
    · intro⟨h1,h2⟩ q hq;rcases zq7.1 hq with rfl|hq
      ·exact h1
      ·exact h2 q hq
    · intro h;exact⟨h k (cQ ..),fun q hq=>h q (cL _ hq)⟩
  rw [e];constructor
  · intro h m hr;split at h
    ·cases h
    · rename_i hno;rcases hr.first with rfl| ⟨y,k,h1,h2,h3⟩
      ·exact ok.2 hno
      · rw [hx]at h1;cases h1;exact(fold x.kids 0 rfl).1 h k h2 m h3
  · intro h;have h0:=ok.1 (h a (Reach.refl _));rw [if_neg h0];refine(fold x.kids 0 rfl).2 fun k hk m hr=>h m ?_;have all:∀ {b m:Nat},Reach p b m→∀ {a:Nat} {x:Node} {k:Int},p.nodes[a]?=some x→k∈x.kids→b=k.toNat→Reach p a m:=by
     intro b m hr
     induction hr with
     |refl=>intro a x k hx hk e;rw [e];exact(Reach.refl a).step hx hk
     |step h hx' hk' ih=>intro a x k hx hk e;exact(ih hx hk e).step hx' hk'
    exact all hr hx hk rfl
theorem aNr {p:Prog}(hp:FineP p){S:List Int}(hS:Sprop p S) :∀ (t:List Int),(∀f∈t,f∈p.funs) → (aUI p t=true↔∀f∈t,∀m:Nat,Reach p f.toNat m→oQ p S m=true)
 | [],_=> ⟨fun _ f hf=> (by cases hf),fun _=>rfl⟩
 | a ::t,ht=>by
  have ha:=hp.funs a (ht a (cQ ..));have han: ((a.toNat:Nat) :Int) =a:=by omega
  have w:=aIf hp hS p.nodes.length a.toNat 1 (by omega) (by omega) (hS.root a (ht a (cQ ..)));rw [han]at w;rw [aUI,dS,w,aNr hp hS t (fun f hf=>ht f (cL _ hf))];constructor
  · intro⟨h1,h2⟩ q hq;rcases zq7.1 hq with rfl|hq
    ·exact h1
    ·exact h2 q hq
  · intro h;exact⟨h a (cQ ..),fun q hq=>h q (cL _ hq)⟩
theorem vH (p:Prog)(S:List Int) :∀ (t:List Int) (i:Nat),gW p S i t=true↔∀j,j<t.length→oQ p S (i+j) =true
 | [],i=>by simp [gW]
 | a ::t,i=>by
  rw [gW,dS,vH p S t (i+1)];constructor
  · intro⟨h1,h2⟩ j hj;cases j with
    |zero=>exact h1
    |succ j=>have:=h2 j (by simpa using hj);rw [show i+ (j+1) =i+1+j by omega];exact this
  · intro h;refine⟨h 0 (by simp),fun j hj=>?_⟩;have:=h (j+1) (by simpa using hj);rw [show i+1+j=i+ (j+1)by omega];exact this
theorem aUQ {p:Prog}(hp:FineP p){S:List Int}(hS:Sprop p S)(hc:zW p) :aUI p p.funs=gW p S 0 S:=by
 rw [Bool.eq_iff_iff,aNr hp hS p.funs (fun f hf=>hf),vH];constructor
 · intro h j hj;rw [hS.len]at hj;obtain⟨f,h1,h2⟩ :=aHk hc j hj;rw [fE];exact h f h1 j h2
 · intro h f hf m hr;by_cases hm:m<S.length
   ·have:=h m hm;rwa [fE]at this
   · unfold oQ;rw [aIy (by rw [hS.len]at hm;omega)]
def cP (p:Prog) :Bool×Int:=if aM p=true then(gW p (kF p) 0 (kF p),0)else(false,2)
theorem yC {p:Prog}(hs:aJ p=true) :aK PP 45 [Prog.av p] (.int .i64 (checkN (aM p))) :=by
 have h2:=aM6 p hs;rw [aUs]at h2;exact h2
theorem vI {p:Prog}(hs:aJ p=true) :aK PP 46 [Prog.av p] (.tup [.bool (cP p).1,.int .i64 (cP p).2]) :=by
 refine aG aC rfl rfl ?_;have hc:=yC hs;have e0: (start PP 46 [Prog.av p]).as= (bER p).as:=by kernel_rfl
 rw [e0];cases hf:aM p
 case false=>
  rw [hf]at hc;exact Ends.eqv (bBJ p _ hc (by rfl)) (by simp [cP,hf,checkN])
 rw [hf]at hc;obtain⟨q1,q2,q3⟩ :=iF hs hf;refine(bBK p _ hc (by rfl)).ends ?_;exact Ends.eqv (aNp q1 p.funs 0 rfl) (by rw [aUQ q1 q2 q3];simp [cP,hf])
def bIb (cons:List Int)(f n:Int) :Option Int:=if f=6 then(if 0≤n then cons[n.toNat]? else none)else some n
mutual
def bJg (cons:List Int) :Pat→Option Pat
 | .mk f n t ps=>match bIb cons f n with
  | some n'=>match aYb cons ps with
   |some ps'=>some (.mk f n' t ps')
   |none=>none
  |none=>none
def aYb (cons:List Int) :List Pat→Option (List Pat)
 | [] =>some []
 | p::ps=>match bJg cons p with
  | some p'=>match aYb cons ps with
   |some ps'=>some (p'::ps')
   |none=>none
  |none=>none
end
def mN (funs cons:List Int)(op n:Int) :Option Int:=
 if op=4∧n<0 then
  match funs[(-1-n).toNat]? with
  |some g=>if -1000000000≤n∧ -1000000000≤g∧g≤1000000000 then some (-1-g)else none
  |none=>none
 else if op=14 then(if 0≤n then cons[n.toNat]? else none)else some n
def bE3 (f:Nat→Int→Option (List Node)) :Nat→List Int→Option (List Int×List Node)
 |_,[] =>some ([],[])
 | len,c::cs=>match f len c with
  | some ns=>match bE3 f (len+ns.length) cs with
   |some (ks,r) =>some ((len:Int) ::ks,ns++r)
   |none=>none
  |none=>none
def aYc (p:Prog)(funs cons:List Int) :Nat→Nat→Int→Option (List Node)
 |0,_,_=>none
 | k+1, len,at0=>if 0≤at0∧len<1000000 then
   match p.nodes[at0.toNat]? with
   | some y=>if y.kids.length<1000000∧bI y.pats<1000000 then
     match mN funs cons y.op y.n with
     | some n'=>match aYb cons y.pats with
      | some ps'=>match bE3 (aYc p funs cons k) (len+1) y.kids with
       |some (ks,r) =>some (⟨y.op,n',ks,ps'⟩ ::r)
       |none=>none
      |none=>none
     |none=>none
    else none
   |none=>none
  else none
abbrev PA (p:Prog) :AV:=.agg [(.ilst 4 (List.map Node.av p.nodes) false),(.ilst 1 (List.map cG p.funs) false),(.int .i64 p.main),(.ilst 2 (List.map Con.av p.cons) false)]
abbrev OL (L:List ONode) :AObj:=.lst 4 (List.map ONode.av L)
abbrev EndsL (s:TS)(L:List ONode) :Prop:=Ends PP 0 s.as (.ret (.gl 0 4 0 (length L) false)) (aA [(0,OL L,true)] 1)
def bDr (p:Prog)(funs cons:List Int)(c:Int)(L:List ONode)(ns:List Node) :Prop:=
 bHA PP (.enter 60 [.gl 0 4 0 (length L) false,PA p,.int .i64 c,.ilst 1 (List.map cG funs) false,.ilst 1 (List.map cG cons) false]) (aA [(0,OL L,true)] 1)
  (.ret (.gl 0 4 0 (length (L++List.map Node.o ns)) false)) (aA [(0,OL (L++List.map Node.o ns),true)] 1)
theorem bE4 (L:List ONode) : (OL L).kl:=aN _ (fun _=>dU _) _
end
end Go.Hb
