/- A machine on abstract values, its soundness, ways, plain laws. -/
import Derived.Test.YtnljmgihoioocaaGreatHF
import Derived.Test.YtnljmgihoioocaaGreatHG
import Derived.Test.YtnljmgihoioocaaGreatHH
import Derived.Test.YtnljmgihoioocaaGreatHI
set_option linter.defProp false
set_option linter.unusedVariables false
set_option linter.unusedSimpArgs false
set_option linter.unusedSectionVars false
set_option maxRecDepth 100000
set_option maxHeartbeats 1000000
namespace Go.Hb
open AV (ep ilst keylessL ptr ren)
open List (getElem?_set_ne getElem?_set_self length map_set replicate set set_set)
open Pats (av)
open Go.Proofs Tryz
noncomputable section
abbrev aKq (a:Nat)(b c:Int)(d:List XT)(e:List Pat):=oC a [(nI b),(nI c),(.gl 12 1 0 d.length false),(iP e)]
abbrev mI (a:Nat)(b c:Int)(d:Nat):=oC a [(nI b),(nI c),(.ep 1 1 d 0)]
abbrev aRw (a b c:Int)(d:Nat)(e f:Int)(g:List XT)(h:List Pat)(i:List (Nat×Nat))(j:List XT):List (Nat×AObj×Bool):=[(6,(.loop .done (some (.exit 0)) 74 (dN [kp 3 9,kp 5 5]) 41 [10] (kd f74 436) (kd f74 437) 7),false),(7,(.defd false),false),oC 8 [(.yield 6)],oC 9 [(nI a)],mI 10 b c d,aKq 11 e f g h,(12,gh,false),(13,(.zone true [11] (eV i (set (List.map some j) d none) d)),false)]
abbrev zL (a:Int):List (Nat×AObj×Bool):=[(2,(.loop .ready none 93 (dN [kp 2 8]) 19 [6] (kd f93 28) (kd f93 29) 4),false),oC 3 [(.ptr 0 0)],(4,(.defd false),false),oC 5 [(bV false)],(6,(.loop .ready none 74 (dN [kp 3 9,kp 5 5]) 41 [10] (kd f74 436) (kd f74 437) 7),false),(7,(.defd false),false),oC 8 [(.yield 6)],oC 9 [(nI a)]]
abbrev aRx (a:Int):=[oC 3 [(.ptr 0 0)],(4,(.defd false),false),oC 5 [(bV false)],(6,(.loop .ready none 74 (dN [kp 3 9,kp 5 5]) 41 [10] (kd f74 436) (kd f74 437) 7),false),(7,(.defd false),false),oC 8 [(.yield 6)],oC 9 [(nI a)]]
abbrev aEy (a:Int):List (Nat×AObj×Bool):=[(2,(.loop .busy none 93 (dN [kp 2 8]) 19 [6] (kd f93 28) (kd f93 29) 4),false),oC 3 [(.ptr 0 0)],(4,(.defd false),false),oC 5 [(bV false)],(6,(.loop .busy none 74 (dN [kp 3 9,kp 5 5]) 41 [10] (kd f74 436) (kd f74 437) 7),false),(7,(.defd false),false),oC 8 [(.yield 6)],oC 9 [(nI a)]]
abbrev pE (a:Nat)(b c:Int)(d:Nat):=oC a [(nI b),(nI c),(.ep 1 1 d 0)]
abbrev aRy (a:List (Nat×Nat))(b c d:Int)(e:Nat)(f:List XT)(g:XT):=aA ([oL 1 1 (List.map aV a)]++aEy b++[pE 10 c d e,pE 11 c d e,pE 14 c d e,(15,(.zone true [] (ZV a (set (List.map some f) e none))),false),(16,gh,false),(17,(.zone true [16] (Z1 g)),false)]) 18
abbrev aRz (a:List (Nat×Nat))(b c d:Int)(e:Nat)(f g:Int)(h:List XT)(i:List Pat)(j:List XT):=aA ([oL 1 1 (List.map aV a)]++zL b++[pE 10 c d e,oC 11 [(nI f),(nI g),(.gl 12 1 0 h.length false),(iP i)],(12,gh,false),(13,(.zone true [11] (eV a (set (List.map some j) e none) e)),false),(14,(.zone true [12] (cJ h)),false)]) 15
abbrev zM (a:List (Nat×Nat))(b c d:Int)(e:Nat)(f:List XT):=aA ([oL 1 1 (List.map aV a)]++aEy b++[pE 10 c d e,pE 11 c d e,(13,(.zone true [] (ZV a (List.map some f))),false),pE 14 c d e]) 15
abbrev aEz (a:List (Nat×Nat))(b c d:Int)(e:Nat)(f:List XT):=aA ([oL 1 1 (List.map aV a),(2,(.loop .busy none 93 (dN [kp 2 8]) 19 [6] (kd f93 28) (kd f93 29) 4),false)]++aRx b++[pE 10 c d e,pE 11 c d e,(13,(.zone true [] (ZV a (List.map some f))),false)]) 14
abbrev vE (a:Nat)(b:List (Nat×Nat)):=oL a 1 (List.map aV b)
abbrev aQh (a:Int)(b:List (Nat×Nat))(c d e:Int)(f:Nat)(g h:Int)(i:List XT)(j:List Pat)(k:List XT)(l:Int):=Spec PP (.enter 178 [(.ptr 11 0),(nI a)]) (aRz b c d e f g h i j k) (.ret (nI l)) (aRz b c d e f g h i j k)
abbrev aXq (a:Nat×Nat)(b:Int)(c:List (Nat×Nat))(d e:Int)(f:Nat)(g:List XT)(h:XT):=Spec PP (.enter 247 [(.agg []),(aV a),(nI b)]) (zM c d e b f g) (.ret (.ptr 16 0)) (aRy c d e b f g h)
abbrev aXr (a:Int)(b:Nat×Nat)(c:Int)(d:List (Nat×Nat))(e f:Int)(g:Nat)(h:List XT)(i:XT):=Spec PP (.enter 253 [(nI a),(aV b),(nI c)]) (zM d e f c g h) (.ret (.ptr 16 0)) (aRy d e f c g h i)
abbrev aXs (a:Nat×Nat)(b:List (Nat×Nat))(c d e:Int)(f:Nat)(g:List XT):=Spec PP (.enter 95 [(aV a)]) (zM b c d e f g) (.ret (.iface 191 (.agg []))) (zM b c d e f g)
abbrev aXt (a:Nat×Nat)(b:List (Nat×Nat))(c d e:Int)(f:Nat)(g:List XT)(h:Int):=Spec PP (.enter 95 [(aV a)]) (zM b c d e f g) (.ret (.iface 193 (nI h))) (zM b c d e f g)
abbrev aXu (a:Nat×Nat)(b:List (Nat×Nat))(c d e:Int)(f:Nat)(g:List XT):=Spec PP (.enter 95 [(aV a)]) (aEz b c d e f g) (.ret (.iface 191 (.agg []))) (aEz b c d e f g)
abbrev aXv (a:Nat×Nat)(b:List (Nat×Nat))(c d e:Int)(f:Nat)(g:List XT)(h:Int):=Spec PP (.enter 95 [(aV a)]) (aEz b c d e f g) (.ret (.iface 193 (nI h))) (aEz b c d e f g)
abbrev aXw (a:List (Nat×Nat))(b c d:Int)(e:Nat)(f g:Int)(h:List XT)(i:List Pat)(j:List XT):=aA ([vE 1 a,(2,(.loop .done (some .ret) 93 (dN [kp 2 8]) 19 [6] (kd f93 28) (kd f93 29) 4),false),oC 3 [(.ptr 0 0)],(4,(.defd false),false),oC 5 [(bV false)]]++aRw b c d e f g h i a j++[(15,(.zone true [12] (cJ h)),false)]) 16
abbrev aXx (a:List (Nat×Nat))(b c d:Int)(e:Nat)(f g:Int)(h:List XT)(i:List Pat)(j k:List XT):=aA ([vE 1 a,(2,(.loop .done (some .ret) 93 (dN [kp 2 8]) 19 [6] (kd f93 28) (kd f93 29) 4),false),oC 3 [(.ptr 0 0)],(4,(.defd false),false),oC 5 [(bV true)]]++aRw b c d e f g h i a j++[(15,(.zone true [12] (cJ k)),false)]) 16
abbrev aRA (a:List (Nat×Nat))(b c d:Int)(e:Nat)(f:List XT)(g:XT):=aA ([vE 1 a]++aEy b++[mI 10 c d e,mI 11 c d e,mI 14 c d e,(15,(.zone true [] (ZV a (set (List.map some f) e none))),false),(16,gh,false),(17,(.zone true [16] (Z1 g)),false)]) 18
abbrev zN (a:List (Nat×Nat))(b c d:Int)(e:Nat)(f g:Int)(h:List XT)(i:List Pat)(j:List XT):=aA ([vE 1 a]++zL b++[mI 10 c d e,aKq 11 f g h i,(12,gh,false),(13,(.zone true [11] (eV a (set (List.map some j) e none) e)),false),(14,(.zone true [12] (cJ h)),false)]) 15
abbrev aRB (a:List (Nat×Nat))(b c d:Int)(e:Nat)(f g:Int)(h:List XT)(i:List Pat)(j:List XT):=aA ([vE 1 a]++zL b++[mI 10 c d e,aKq 11 f g h i,(12,gh,false),(13,(.zone true [11] (eV a (set (List.map some j) e none) e)),false),(15,(.zone true [12] (cJ h)),false)]) 16
abbrev aRC (a:List (Nat×Nat))(b c d:Int)(e:Nat)(f:List XT):=aA ([vE 1 a]++aEy b++[mI 10 c d e,mI 11 c d e,(13,(.zone true [] (ZV a (List.map some f))),false),mI 14 c d e]) 15
abbrev aB7 (a:List (Nat×Nat))(b c d:Int)(e:Nat)(f:List XT):=aA ([vE 1 a,(2,(.loop .busy none 93 (dN [kp 2 8]) 19 [6] (kd f93 28) (kd f93 29) 4),false)]++aRx b++[mI 10 c d e,mI 11 c d e,(13,(.zone true [] (ZV a (List.map some f))),false)]) 14
abbrev aKr (a b c d:Int):AV:=.agg [(nI a),(nI (IntKind.i64.wrap (b+c))),(.ep 12 1 (0+d.toNat) 0)]
abbrev aB8 (a:Nat)(b c:Int)(d:List XT)(e:List Pat):=oC a [(nI b),(nI c),(.gl 12 1 0 d.length false),(iP e)]
abbrev nW (a:Nat)(b c:Int)(d:List XT)(e:List Pat):=oC a [(nI b),(nI c),(.gl 1 1 0 d.length false),(iP e)]
abbrev aKs (a b:Int):AV:=.agg [(nI a),(nI 1),(.ep 1 1 (0+b.toNat) 0)]
abbrev kX (a:Nat)(b:List XT)(c:Int)(d:List Con):=oC a [(.gl 1 1 0 b.length false),(nI c),(iC d)]
abbrev vF (a b:Int)(c:Nat):AV:=.agg [(nI a),(nI b),(.ep 1 1 c 0)]
abbrev gP (a:Nat)(b c:Int)(d:Nat):=oC a [(nI b),(nI c),(.ep 1 1 d 0)]
abbrev jG (a:Nat)(b:List (Nat×Nat)):=oL a 1 (List.map aV b)
abbrev aKt:AV:=.iface 191 (.agg [])
def bDN(a b:Int)(c:List XT)(d:List Pat)(e:Int):TS:=cA PP 178 [(.ptr 0 0),(nI e)] [nW 0 a b c d,(1,gh,false)] 2
def bDO(a:List XT)(b:Int)(c:List Con)(d:Int):TS:=cA PP 74 [(.ptr 0 0),(nI d)] [kX 0 a b c,(1,gh,false),(2,(.zone true [1] (cJ a)),false)] 3
def aKu(a:List XT)(b:Int)(c:List Con)(d e f:Int):TS:=⟨(tf 135 26 [(0,(.yield 2)),kp 1 3,(3,(nI e)),(9,(nI (a.length:Int))),(10,(nI f))] [kc f135 28,kl f135 28,.inBlock 0]),[(tf 93 19 [] [.inRF 2,.inBlock 0] (defers:=[.col 4])),(tf 74 41 [(4,(bV false)),kp 5 5] [.inRF 6,.inBlock 0,kc f74 55,.inScope (kd f74 6)] (defers:=[.col 7]))],[kX 0 a b c,(1,gh,false),(2,(.loop .ready none 93 (dN [kp 2 8]) 19 [6] (kd f93 28) (kd f93 29) 4),false),oC 3 [(.ptr 0 0)],(4,(.defd false),false),oC 5 [(bV false)],(6,(.loop .ready none 74 (dN [kp 3 9,kp 5 5]) 41 [10] (kd f74 436) (kd f74 437) 7),false),(7,(.defd false),false),oC 8 [(.yield 6)],oC 9 [(nI d)],(10,(.zone true [1] (cJ a)),false)],11⟩
def aXy(a b c:Int)(d:List XT)(e:Nat)(f:List (Nat×Nat))(g i:Int)(j:List XT)(k:List Pat):TS:=cA PP 136 [(vF b c e),(.yield 2)] [(1,gh,false),(2,(.loop .ready none 93 (dN [kp 2 8]) 19 [6] (kd f93 28) (kd f93 29) 4),false),oC 3 [(.ptr 0 0)],(4,(.defd false),false),oC 5 [(bV false)],(6,(.loop .ready none 74 (dN [kp 3 9,kp 5 5]) 41 [10] (kd f74 436) (kd f74 437) 7),false),(7,(.defd false),false),oC 8 [(.yield 6)],oC 9 [(nI a)],(10,(.zone true [1] (cJ d)),false)] 11
def aKv(d a b:Int)(e:List XT)(c:Nat)(f:List (Nat×Nat))(g i:Int)(j:List XT)(k:List Pat):TS:=⟨(tf 93 19 [kp 2 8,kp 3 10] [kc f93 116,kc f93 117,.inBlock 1] (roundOf:=some 2)),[(tf 136 48 [(1,(.yield 2)),kp 2 11,(4,(nI 0)),(8,(.yield 2)),(9,(vF a b c))] [ko f136 12 2,kc f136 13,kc f136 7])],[(1,gh,false),(2,(.loop .busy none 93 (dN [kp 2 8]) 19 [6] (kd f93 28) (kd f93 29) 4),false),oC 3 [(.ptr 0 0)],(4,(.defd false),false),oC 5 [(bV false)],(6,(.loop .ready none 74 (dN [kp 3 9,kp 5 5]) 41 [10] (kd f74 436) (kd f74 437) 7),false),(7,(.defd false),false),oC 8 [(.yield 6)],oC 9 [(nI d)],gP 10 a b c,gP 11 a b c,(12,(.zone true [1] (cJ e)),false)],13⟩
def iW(e a b:Int)(f:List XT)(c:Nat)(d:List (Nat×Nat))(g i:Int)(j:List XT)(k:List Pat):TS:=⟨(tf 93 19 [kp 2 8,kp 3 10] [kc f93 116,kc f93 117,.inBlock 1] (roundOf:=some 2)),[(tf 136 48 [(1,(.yield 2)),kp 2 11,(4,(nI 0)),(8,(.yield 2)),(9,(vF a b c))] [ko f136 12 2,kc f136 13,kc f136 7])],[jG 1 d,(2,(.loop .busy none 93 (dN [kp 2 8]) 19 [6] (kd f93 28) (kd f93 29) 4),false),oC 3 [(.ptr 0 0)],(4,(.defd false),false),oC 5 [(bV false)],(6,(.loop .ready none 74 (dN [kp 3 9,kp 5 5]) 41 [10] (kd f74 436) (kd f74 437) 7),false),(7,(.defd false),false),oC 8 [(.yield 6)],oC 9 [(nI e)],gP 10 a b c,gP 11 a b c,(13,(.zone true [] (ZV d (List.map some f))),false)],14⟩
def aB9(e b c:Int)(f:List XT)(a:Nat)(d:List (Nat×Nat))(i j:Int)(k:List XT)(l:List Pat)(g:XT):TS:=⟨(tf 74 41 [kp 5 5] [kc f74 27979,.inBlock 2,.inBlock 1] (roundOf:=some 6)),[(tf 93 19 [(13,(bV true)),(14,(.yield 6)),(15,(vF b c a))] [ko f93 116 9,kc f93 117,.inBlock 1] (roundOf:=some 2)),(tf 136 48 [(1,(.yield 2)),kp 2 10,(4,(nI 0)),(8,(.yield 2)),(9,(vF b c a))] [ko f136 12 2,kc f136 13,kc f136 7])],[(1,(.lst 1 ((List.map aV d).set a (.ptr 11 0))),false),(2,(.loop .busy none 93 (dN [kp 2 8]) 19 [6] (kd f93 28) (kd f93 29) 4),false),oC 3 [(.ptr 0 0)],(4,(.defd false),false),oC 5 [(bV false)],(6,(.loop .busy none 74 (dN [kp 3 9,kp 5 5]) 41 [10] (kd f74 436) (kd f74 437) 7),false),(7,(.defd false),false),oC 8 [(.yield 6)],oC 9 [(nI e)],gP 10 b c a,(11,gh,false),(12,(.zone true [11] (Z1 g)),false),(13,(.zone true [] (ZV d (set (List.map some f) a none))),false)],14⟩
def aCa(f b c:Int)(g:List XT)(a:Nat)(d:List (Nat×Nat))(j k:Int)(l:List XT)(m:List Pat)(i:XT)(e:Nat×Nat):TS:=⟨(tf 74 41 [kp 5 5] [kc f74 27979,.inBlock 2,.inBlock 1] (roundOf:=some 6)),[(tf 93 19 [(13,(bV true)),(14,(.yield 6)),(15,(vF b c a))] [ko f93 116 9,kc f93 117,.inBlock 1] (roundOf:=some 2)),(tf 136 48 [(1,(.yield 2)),kp 2 10,(4,(nI 0)),(8,(.yield 2)),(9,(vF b c a))] [ko f136 12 2,kc f136 13,kc f136 7])],[oL 1 1 (List.map aV (set d a e)),(2,(.loop .busy none 93 (dN [kp 2 8]) 19 [6] (kd f93 28) (kd f93 29) 4),false),oC 3 [(.ptr 0 0)],(4,(.defd false),false),oC 5 [(bV false)],(6,(.loop .busy none 74 (dN [kp 3 9,kp 5 5]) 41 [10] (kd f74 436) (kd f74 437) 7),false),(7,(.defd false),false),oC 8 [(.yield 6)],oC 9 [(nI f)],gP 10 b c a,(14,(.zone true [] (ZV (set d a e) (set (set (List.map some g) a none) a (some i)))),false)],15⟩
def zO(c a d:Int)(e:List XT)(f:Nat)(b:List (Nat×Nat))(i j:Int)(k:List XT)(l:List Pat)(g:Nat×Nat):TS:=⟨(tf 136 48 [(1,(.yield 2)),kp 2 10,(4,(nI 0)),(5,(nI (a+1))),(6,(aV g))] [kc f136 124,kc f136 125,kc f136 63]),[],([jG 1 b]++zL c++[gP 10 a d f,(11,(.zone true [] (ZV b (List.map some e))),false)]),12⟩
def aGj(e b f:Int)(g:List XT)(a:Nat)(c:List (Nat×Nat))(i j:Int)(d:List XT)(k:List Pat)(l:Nat×Nat):TS:=⟨(tf 136 48 [(1,(.yield 2)),kp 2 10,(4,(nI 0)),(5,(nI (b+1))),kp 6 12] [kc f136 124,kc f136 125,kc f136 63]),[],([jG 1 c]++zL e++[gP 10 b f a,oC 12 [(nI i),(nI j),(.gl 13 1 0 d.length false),(iP k)],(13,gh,false),(14,(.zone true [13] (cJ d)),false),(15,(.zone true [12] (eV c (set (List.map some g) a none) a)),false)]),16⟩
def aEA(d e f:Int)(g:List XT)(a:Nat)(c:List (Nat×Nat))(i j:Int)(b:List XT)(k:List Pat)(l m:Int):TS:=⟨(tf 136 48 [(1,(.yield 2)),kp 2 10,(4,(nI 0)),(5,(nI l)),kp 6 11,(23,(nI (b.length:Int))),(24,(nI m))] [kc f136 500,kl f136 500,.inBlock 0,kc f136 63]),[],([jG 1 c]++zL d++[gP 10 e f a,aB8 11 i j b k,(12,gh,false),(13,(.zone true [11] (eV c (set (List.map some g) a none) a)),false),(14,(.zone true [12] (cJ b)),false)]),15⟩
def aAY(a c:Int)(d:List XT)(b:List Pat)(e:Int):=tT 2 (bDN a c d b e)<|.b 14 11 (a==5) (.E 25 2 [] (nI 1) [nW 0 a c d b,(1,gh,false)] 2)<|.b 7 18 (a==27) (.E 18 2 [] (nI 1) [nW 0 a c d b,(1,gh,false)] 2)<|.b 6 24 (a==7) (.b 6 5 (e==1) (.E 6 2 [] (nI 1) [nW 0 a c d b,(1,gh,false)] 2)<|.b 9 35 (a==15) (gd 5 29 (e>0) (gw 9 44 (e-1)<|rX 0 b (e-1)<|fun f g i j=>gpI 1 201 [(.agg [(nI f),(nI g),(dR i),(iP j)])]<|fun k=>.E 3 2 [] (nI k) [nW 0 a c d b,(1,gh,false)] 2)<|.E 8 2 [] (nI 0) [nW 0 a c d b,(1,gh,false)] 2)<|.E 13 2 [] (nI 0) [nW 0 a c d b,(1,gh,false)] 2)<|.b 15 35 (a==15) (gd 5 29 (e>0) (gw 9 44 (e-1)<|rX 0 b (e-1)<|fun f g i j=>gpI 1 201 [(.agg [(nI f),(nI g),(dR i),(iP j)])]<|fun k=>.E 3 2 [] (nI k) [nW 0 a c d b,(1,gh,false)] 2)<|.E 8 2 [] (nI 0) [nW 0 a c d b,(1,gh,false)] 2)<|.E 13 2 [] (nI 0) [nW 0 a c d b,(1,gh,false)] 2
def bBI:=fun a b c d e f=>aAY a b c d e|>.t f tv
def bBJ:=fun a b c d e f g=>aAY a b c d e|>.f f|>.t g tv
def bBK:=fun a b c d e f g i j=>aAY a b c d e|>.f f|>.f g|>.t i|>.t j tv
def bBL:=fun a b c d e f g i j k=>aAY a b c d e|>.f f|>.f g|>.t i|>.f j|>.f k tv
def bBM:=fun a b c d e f g i j k l m n o p q r s t=>aAY a b c d e|>.f l|>.f m|>.f n|>.t o|>.t p q f g i j r s k t tv
def bBN:=fun a b c d e f g i j k=>aAY a b c d e|>.f f|>.f g|>.f i|>.t j|>.f k tv
def bBO:=fun a b c d e f g i j=>aAY a b c d e|>.f f|>.f g|>.f i|>.f j tv
def bBP (a:List XT)(b:Int)(c:List Con)(d:Int):=(tT 2 (bDO a b c d)<|.i [rn 33,.lkeep 7 [3,5]] []<|.i [rn 23,.lkeep 11 [2]] []<|.W 15 12 [11,9,10,4,7,6,8,3,2] (aKu a b c d 0 0)) tv
def aKw(a:List XT)(b:Int)(c:List Con)(e f d:Int):=tT 2 (aKu a b c e f d)<|gd 5 11 (d< (a.length:Int)) (.i [rn 17,.ans (.ix)] [hA (0≤d),hA (d< (a.length:Int))]<|.o (gk 2 (.enter 136 [(aKs f d),(.yield 2)]) [kX 0 a b c,(1,gh,false),(2,(.loop .ready none 93 (dN [kp 2 8]) 19 [6] (kd f93 28) (kd f93 29) 4),false),oC 3 [(.ptr 0 0)],(4,(.defd false),false),oC 5 [(bV false)],(6,(.loop .ready none 74 (dN [kp 3 9,kp 5 5]) 41 [10] (kd f74 436) (kd f74 437) 7),false),(7,(.defd false),false),oC 8 [(.yield 6)],oC 9 [(nI e)],(10,(.zone true [1] (cJ a)),false)] 11 (nI (-1)) [kX 0 a b c,(1,gh,false),(2,(.loop .done (some .ret) 93 (dN [kp 2 8]) 19 [6] (kd f93 28) (kd f93 29) 4),false),oC 3 [(.ptr 0 0)],(4,(.defd false),false),oC 5 [(bV false)],(6,(.loop .done (some (.exit 0)) 74 (dN [kp 3 9,kp 5 5]) 41 [10] (kd f74 436) (kd f74 437) 7),false),(7,(.defd false),false),oC 8 [(.yield 6)],oC 9 [(nI e)],(11,(.zone true [1] (cJ a)),false)] 12<|.E 23 12 [11] (bV false) [kX 0 a b c,(1,gh,false),(2,(.zone true [1] (cJ a)),false)] 3)<|.o (.y fun i:List XT=>gk 2 (.enter 136 [(aKs f d),(.yield 2)]) [kX 0 a b c,(1,gh,false),(2,(.loop .ready none 93 (dN [kp 2 8]) 19 [6] (kd f93 28) (kd f93 29) 4),false),oC 3 [(.ptr 0 0)],(4,(.defd false),false),oC 5 [(bV false)],(6,(.loop .ready none 74 (dN [kp 3 9,kp 5 5]) 41 [10] (kd f74 436) (kd f74 437) 7),false),(7,(.defd false),false),oC 8 [(.yield 6)],oC 9 [(nI e)],(10,(.zone true [1] (cJ a)),false)] 11 (nI (-1)) [kX 0 a b c,(1,gh,false),(2,(.loop .done (some .ret) 93 (dN [kp 2 8]) 19 [6] (kd f93 28) (kd f93 29) 4),false),oC 3 [(.ptr 0 0)],(4,(.defd false),false),oC 5 [(bV true)],(6,(.loop .done (some (.exit 0)) 74 (dN [kp 3 9,kp 5 5]) 41 [10] (kd f74 436) (kd f74 437) 7),false),(7,(.defd false),false),oC 8 [(.yield 6)],oC 9 [(nI e)],(11,(.zone true [1] (cJ i)),false)] 12<|.E 23 12 [11] (bV true) [kX 0 a b c,(1,gh,false),(2,(.zone true [1] (cJ i)),false)] 3)<|.y fun g:Int=>gk 2 (.enter 136 [(aKs f d),(.yield 2)]) [kX 0 a b c,(1,gh,false),(2,(.loop .ready none 93 (dN [kp 2 8]) 19 [6] (kd f93 28) (kd f93 29) 4),false),oC 3 [(.ptr 0 0)],(4,(.defd false),false),oC 5 [(bV false)],(6,(.loop .ready none 74 (dN [kp 3 9,kp 5 5]) 41 [10] (kd f74 436) (kd f74 437) 7),false),(7,(.defd false),false),oC 8 [(.yield 6)],oC 9 [(nI e)],(10,(.zone true [1] (cJ a)),false)] 11 (nI g) [kX 0 a b c,(1,gh,false),(2,(.loop .ready none 93 (dN [kp 2 8]) 19 [6] (kd f93 28) (kd f93 29) 4),false),oC 3 [(.ptr 0 0)],(4,(.defd false),false),oC 5 [(bV false)],(6,(.loop .ready none 74 (dN [kp 3 9,kp 5 5]) 41 [10] (kd f74 436) (kd f74 437) 7),false),(7,(.defd false),false),oC 8 [(.yield 6)],oC 9 [(nI e)],(11,(.zone true [1] (cJ a)),false)] 12<|gd 7 24 (g<0) (.E 17 12 [11] (bV false) [kX 0 a b c,(1,gh,false),(2,(.zone true [1] (cJ a)),false)] 3)<|gw 5 25 (d+1)<|.W 3 12 [2,3,4,5,6,7,8,9,11] (aKu a b c e g (d+1)))<|.E 18 11 [10] (bV false) [kX 0 a b c,(1,gh,false),(2,(.zone true [1] (cJ a)),false)] 3
def bBQ:=fun a b c d e f g i j k=>aKw a b c d e f|>.t g i j|>.1 k tv
def bBR:=fun a b c d e f g i j k l=>aKw a b c d e f|>.t i j k|>.2|>.1 g l tv
def bBS:=fun a b c d e f g i j k l m n=>aKw a b c d e f|>.t i j k|>.2|>.2 g l|>.f m n tv
def bBT:=fun a b c d e f g=>aKw a b c d e f|>.f g tv
def aXz (a b c:Int)(d:List XT)(e:Nat)(f:List (Nat×Nat))(g i:Int)(j:List XT)(k:List Pat):=(tT 10 (aXy a b c d e f g i j k)<|.W 18 13 [12,11,10] (aKv a b c d e f g i j k)) tv
def aGk(e b d:Int)(g:List XT)(c:Nat)(a:List (Nat×Nat))(i j:Int)(k:List XT)(l:List Pat):=tT 10 (iW e b d g c a i j k l)<|.y fun f:Nat×Nat=>.i [rn 4,aI (aV f)] [.a (((a)[c]?) =some f) (bC (f:=aV))]<|.o (.y fun m:Int=>gk 0 (.enter 95 [(aV f)]) [jG 1 a,(2,(.loop .busy none 93 (dN [kp 2 8]) 19 [6] (kd f93 28) (kd f93 29) 4),false),oC 3 [(.ptr 0 0)],(4,(.defd false),false),oC 5 [(bV false)],(6,(.loop .ready none 74 (dN [kp 3 9,kp 5 5]) 41 [10] (kd f74 436) (kd f74 437) 7),false),(7,(.defd false),false),oC 8 [(.yield 6)],oC 9 [(nI e)],gP 10 b d c,gP 11 b d c,(13,(.zone true [] (ZV a (List.map some g))),false)] 14 (.iface 193 (nI m)) [jG 1 a,(2,(.loop .busy none 93 (dN [kp 2 8]) 19 [6] (kd f93 28) (kd f93 29) 4),false),oC 3 [(.ptr 0 0)],(4,(.defd false),false),oC 5 [(bV false)],(6,(.loop .ready none 74 (dN [kp 3 9,kp 5 5]) 41 [10] (kd f74 436) (kd f74 437) 7),false),(7,(.defd false),false),oC 8 [(.yield 6)],oC 9 [(nI e)],gP 10 b d c,gP 11 b d c,(13,(.zone true [] (ZV a (List.map some g))),false)] 14<|.b 20 11 (b==e) .x<|gd 9 35 (b>e) (.E 15 15 [13] (nI (-1)) [jG 1 a,(2,(.loop .done (some .ret) 93 (dN [kp 2 8]) 19 [6] (kd f93 28) (kd f93 29) 4),false),oC 3 [(.ptr 0 0)],(4,(.defd false),false),oC 5 [(bV false)],(6,(.loop .done (some (.exit 0)) 74 (dN [kp 3 9,kp 5 5]) 41 [10] (kd f74 436) (kd f74 437) 7),false),(7,(.defd false),false),oC 8 [(.yield 6)],oC 9 [(nI e)],(10,(.zone true [] (ZV a (List.map some g))),false)] 11)<|gw 21 14 (b+1)<|.i [rn 7,aI (aV f)] [.a (((a)[c]?) =some f) (bC (f:=aV))]<|.W 4 15 [11,13] (zO e b d g c a i j k l f))<|.o (gk 0 (.enter 95 [(aV f)]) [jG 1 a,(2,(.loop .busy none 93 (dN [kp 2 8]) 19 [6] (kd f93 28) (kd f93 29) 4),false),oC 3 [(.ptr 0 0)],(4,(.defd false),false),oC 5 [(bV false)],(6,(.loop .ready none 74 (dN [kp 3 9,kp 5 5]) 41 [10] (kd f74 436) (kd f74 437) 7),false),(7,(.defd false),false),oC 8 [(.yield 6)],oC 9 [(nI e)],gP 10 b d c,gP 11 b d c,(13,(.zone true [] (ZV a (List.map some g))),false)] 14 aKt [jG 1 a,(2,(.loop .busy none 93 (dN [kp 2 8]) 19 [6] (kd f93 28) (kd f93 29) 4),false),oC 3 [(.ptr 0 0)],(4,(.defd false),false),oC 5 [(bV false)],(6,(.loop .ready none 74 (dN [kp 3 9,kp 5 5]) 41 [10] (kd f74 436) (kd f74 437) 7),false),(7,(.defd false),false),oC 8 [(.yield 6)],oC 9 [(nI e)],gP 10 b d c,gP 11 b d c,(13,(.zone true [] (ZV a (List.map some g))),false)] 14<|.b 20 11 (b==e) .x<|gd 9 35 (b>e) (.E 15 15 [13] (nI (-1)) [jG 1 a,(2,(.loop .done (some .ret) 93 (dN [kp 2 8]) 19 [6] (kd f93 28) (kd f93 29) 4),false),oC 3 [(.ptr 0 0)],(4,(.defd false),false),oC 5 [(bV false)],(6,(.loop .done (some (.exit 0)) 74 (dN [kp 3 9,kp 5 5]) 41 [10] (kd f74 436) (kd f74 437) 7),false),(7,(.defd false),false),oC 8 [(.yield 6)],oC 9 [(nI e)],(10,(.zone true [] (ZV a (List.map some g))),false)] 11)<|gw 21 14 (b+1)<|.i [rn 7,aI (aV f)] [.a (((a)[c]?) =some f) (bC (f:=aV))]<|.W 4 15 [11,13] (zO e b d g c a i j k l f))<|.i [.call .nili (aB7 a e b d c g)] [hA (Spec PP (.enter 95 [(aV f)]) (aB7 a e b d c g) (.ret .nili) (aB7 a e b d c g))]<|gw 21 14 (b+1)<|.i [rn 7,aI (aV f)] [.a (((a)[c]?) =some f) (bC (f:=aV))]<|.W 4 14 [11,13] (zO e b d g c a i j k l f)
def aXA:=fun a b c d e f g i j k l m n o p q=>aGk a b c d e f g i j k l n|>.1 m o|>.f p|>.t q ⟨kk,trivial⟩
def aXB:=fun b c d e f g i j k l m n a o p q r=>aGk b c d e f g i j k l m a|>.1 n o|>.f p|>.f q r a ⟨kk,trivial⟩
def aXC:=fun a b c d e f g i j k l m n o p=>aGk a b c d e f g i j k l m|>.2|>.1 n|>.f o|>.t p ⟨kk,trivial⟩
def aXD:=fun b c d e f g i j k l m a n o p q=>aGk b c d e f g i j k l m a|>.2|>.1 n|>.f o|>.f p q a ⟨kk,trivial⟩
def aXE:=fun b c d e f g i j k l m a n o=>aGk b c d e f g i j k l m a|>.2|>.2 n o a ⟨kk,trivial⟩
def aXF (d g i:Int)(e:List XT)(a:Nat)(b:List (Nat×Nat))(j k:Int)(l:List XT)(m:List Pat)(f:XT)(c:Nat×Nat):=(tT 10 (aCa d g i e a b j k l m f c)<|.E 18 15 [14] (nI (-1)) [oL 1 1 (List.map aV (set b a c)),(2,(.loop .done (some .ret) 93 (dN [kp 2 8]) 19 [6] (kd f93 28) (kd f93 29) 4),false),oC 3 [(.ptr 0 0)],(4,(.defd false),false),oC 5 [(bV true)],(6,(.loop .done (some (.exit 0)) 74 (dN [kp 3 9,kp 5 5]) 41 [10] (kd f74 436) (kd f74 437) 7),false),(7,(.defd false),false),oC 8 [(.yield 6)],oC 9 [(nI d)],(10,(.zone true [] (ZV (set b a c) (set (set (List.map some e) a none) a (some f)))),false)] 11) ⟨kk,trivial⟩
def aXG (b a c:Int)(d:List XT)(e:Nat)(f:List (Nat×Nat))(g i:Int)(j:List XT)(k:List Pat)(l:Nat×Nat):=(tT 10 (aGj b a c d e f g i j k l)<|.W 10 16 [10,12,13,15,14] (aEA b a c d e f g i j k (a+1) 0)) ⟨kk,trivial⟩
def aKx(e k d:Int)(f:List XT)(a:Nat)(c:List (Nat×Nat))(g i:Int)(b:List XT)(j:List Pat)(n l:Int):=tT 10 (aEA e k d f a c g i b j n l)<|gd 5 25 (l< (b.length:Int)) (.o (.y fun m:Int=>.i [rn 10,.reg (rd 5 (.call (nI m) (zN c e k d a g i b j f)::rd 6 [.ans (.ix),.d,.d,.call (nI (-1)) (aXw c e k d a g i b j f),.d]))] [hA (aQh l c e k d a g i b j f m),hA (0≤l),hA (l< (b.length:Int)),hA (Spec PP (.enter 136 [(aKr n d m l),(.yield 2)]) (zN c e k d a g i b j f) (.ret (nI (-1))) (aXw c e k d a g i b j f)),hr (AV.gl 12 1 0 b.length false),hr (AV.gl 12 1 0 b.length false),hr (nI d),hr (nI d)]<|.E 12 16 [13,11,12,15] (nI (-1)) [jG 1 c,(2,(.loop .done (some .ret) 93 (dN [kp 2 8]) 19 [6] (kd f93 28) (kd f93 29) 4),false),oC 3 [(.ptr 0 0)],(4,(.defd false),false),oC 5 [(bV false)],(6,(.loop .done (some (.exit 0)) 74 (dN [kp 3 9,kp 5 5]) 41 [10] (kd f74 436) (kd f74 437) 7),false),(7,(.defd false),false),oC 8 [(.yield 6)],oC 9 [(nI e)],(10,(.zone true [11] (eV c (set (List.map some f) a none) a)),false),aB8 11 g i b j,(12,gh,false),(13,(.zone true [12] (cJ b)),false)] 14)<|.o (.y fun m:Int=>.y fun p:List XT=>.i [rn 10,.reg (rd 5 (.call (nI m) (zN c e k d a g i b j f)::rd 6 [.ans (.ix),.d,.d,.call (nI (-1)) (aXx c e k d a g i b j f p),.d]))] [hA (aQh l c e k d a g i b j f m),hA (0≤l),hA (l< (b.length:Int)),hA (Spec PP (.enter 136 [(aKr n d m l),(.yield 2)]) (zN c e k d a g i b j f) (.ret (nI (-1))) (aXx c e k d a g i b j f p)),hr (AV.gl 12 1 0 b.length false),hr (AV.gl 12 1 0 b.length false),hr (nI d),hr (nI d)]<|.E 12 16 [13,11,12,15] (nI (-1)) [jG 1 c,(2,(.loop .done (some .ret) 93 (dN [kp 2 8]) 19 [6] (kd f93 28) (kd f93 29) 4),false),oC 3 [(.ptr 0 0)],(4,(.defd false),false),oC 5 [(bV true)],(6,(.loop .done (some (.exit 0)) 74 (dN [kp 3 9,kp 5 5]) 41 [10] (kd f74 436) (kd f74 437) 7),false),(7,(.defd false),false),oC 8 [(.yield 6)],oC 9 [(nI e)],(10,(.zone true [11] (eV c (set (List.map some f) a none) a)),false),aB8 11 g i b j,(12,gh,false),(13,(.zone true [12] (cJ p)),false)] 14)<|.y fun m:Int=>.y fun o:Int=>.i [rn 10,.reg (rd 5 (.call (nI m) (zN c e k d a g i b j f)::rd 6 [.ans (.ix),.d,.d,.call (nI o) (aRB c e k d a g i b j f),.d]))] [hA (aQh l c e k d a g i b j f m),hA (0≤l),hA (l< (b.length:Int)),hA (Spec PP (.enter 136 [(aKr n d m l),(.yield 2)]) (zN c e k d a g i b j f) (.ret (nI o)) (aRB c e k d a g i b j f)),hr (AV.gl 12 1 0 b.length false),hr (AV.gl 12 1 0 b.length false),hr (nI d),hr (nI d)]<|gd 5 44 (o<0) (.E 7 16 [13,11,12,15] (nI o) [jG 1 c,(2,(.loop .ready none 93 (dN [kp 2 8]) 19 [6] (kd f93 28) (kd f93 29) 4),false),oC 3 [(.ptr 0 0)],(4,(.defd false),false),oC 5 [(bV false)],(6,(.loop .ready none 74 (dN [kp 3 9,kp 5 5]) 41 [10] (kd f74 436) (kd f74 437) 7),false),(7,(.defd false),false),oC 8 [(.yield 6)],oC 9 [(nI e)],(10,(.zone true [11] (eV c (set (List.map some f) a none) a)),false),aB8 11 g i b j,(12,gh,false),(13,(.zone true [12] (cJ b)),false)] 14)<|gw 5 46 (l+1)<|.W 3 16 [10,11,12,13,15] (aEA e k d f a c g i b j o (l+1)))<|.E 8 15 [13,11,12,14] (nI n) [jG 1 c,(2,(.loop .ready none 93 (dN [kp 2 8]) 19 [6] (kd f93 28) (kd f93 29) 4),false),oC 3 [(.ptr 0 0)],(4,(.defd false),false),oC 5 [(bV false)],(6,(.loop .ready none 74 (dN [kp 3 9,kp 5 5]) 41 [10] (kd f74 436) (kd f74 437) 7),false),(7,(.defd false),false),oC 8 [(.yield 6)],oC 9 [(nI e)],(10,(.zone true [11] (eV c (set (List.map some f) a none) a)),false),aB8 11 g i b j,(12,gh,false),(13,(.zone true [12] (cJ b)),false)] 14
def aXH:=fun a b c d e f g i j k l m n o p q r s=>aKx a b c d e f g i j k l m|>.t o|>.1 n p q r s ⟨kk,trivial⟩
def aXI:=fun a b c d e f g i j k l m n o p q r s t=>aKx a b c d e f g i j k l m|>.t p|>.2|>.1 n o q r s t ⟨kk,trivial⟩
def aXJ:=fun a b c d e f g i j k l m n o p q r s t u v=>aKx a b c d e f g i j k l m|>.t p|>.2|>.2 n o q r s t|>.f u v ⟨kk,trivial⟩
def aXK:=fun a b c d e f g i j k l m n=>aKx a b c d e f g i j k l m|>.f n ⟨kk,trivial⟩
theorem bBU (node b e:Int)(xs:List XT)(ix:Nat)(c: (List (Nat×Nat)))(op d:Int)(ks:List XT)(ps:List Pat){f:Res}{hf:Hp}(i:xs≠ [])(k:∀a,a.length=xs.length→Ends PP 10 (iW node b e xs ix a op d ks ps).as f hf) :Ends PP 10 (aKv node b e xs ix c op d ks ps).as f hf:=
 mF (t:=fun a=> (iW node b e xs ix a op d ks ps).as) (ok:=fun j=>j.length=xs.length) (xP (h:= (aKv node b e xs ix c op d ks ps).as.h) (h':=fun a=> (iW node b e xs ix a op d ks ps).as.h) (k:=1) (g:=12) (o:=gh) (ts:=xs) aC rfl aC i (fun _=>Nat.le_refl _) (fun a=> (bA ⟨.inr (.inl ⟨rfl,rfl⟩),.inr (.inr ⟨by decide,by kernel_rfl⟩),.inr (.inr ⟨by decide,by kernel_rfl⟩),.inr (.inr ⟨by decide,by kernel_rfl⟩),.inr (.inr ⟨by decide,by kernel_rfl⟩),.inr (.inr ⟨by decide,by kernel_rfl⟩),.inr (.inr ⟨by decide,by kernel_rfl⟩),.inr (.inr ⟨by decide,by kernel_rfl⟩),.inr (.inr ⟨by decide,by kernel_rfl⟩),.inr (.inr ⟨by decide,by kernel_rfl⟩),.inr (.inr ⟨by decide,by kernel_rfl⟩),.inl ⟨rfl,rfl⟩,trivial⟩))) (fun a=> ⟨by kernel_rfl,by kernel_rfl⟩) k
theorem bBV (node d f:Int)(xs:List XT)(ix:Nat)(c: (List (Nat×Nat)))(op e:Int)(ks:List XT)(ps:List Pat)(b:XT){j:Res}{hf:Hp}(l: ((set (List.map some xs) ix none))[ix]?=some none)(k:∀a,Ends PP 10 (aCa node d f xs ix c op e ks ps b a).as j hf) :Ends PP 10 (aB9 node d f xs ix c op e ks ps b).as j hf:=
 mF (t:= (fun a=> (aCa node d f xs ix c op e ks ps b a).as)) (ok:=fun _=>True) (aJw (h:= (aB9 node d f xs ix c op e ks ps b).as.h) (h':=fun a=> (aCa node d f xs ix c op e ks ps b a).as.h) (k:=1) (g:=13) (gz:=12) (z:=11) (us:=c) (ts:= (set (List.map some xs) ix none)) (i:=ix) (t:=b) aC aC aC l (by decide) (fun _=>Nat.le_refl _) (fun a=> (bA ⟨.inr (.inl ⟨rfl,rfl⟩),.inr (.inr ⟨by decide,by kernel_rfl⟩),.inr (.inr ⟨by decide,by kernel_rfl⟩),.inr (.inr ⟨by decide,by kernel_rfl⟩),.inr (.inr ⟨by decide,by kernel_rfl⟩),.inr (.inr ⟨by decide,by kernel_rfl⟩),.inr (.inr ⟨by decide,by kernel_rfl⟩),.inr (.inr ⟨by decide,by kernel_rfl⟩),.inr (.inr ⟨by decide,by kernel_rfl⟩),.inr (.inr ⟨by decide,by kernel_rfl⟩),.inl ⟨rfl,rfl⟩,trivial⟩))) (fun a=> ⟨by kernel_rfl,by kernel_rfl⟩) (fun a _=>k a)
theorem bBW (node d e:Int)(xs:List XT)(ix:Nat)(b: (List (Nat×Nat)))(op c:Int)(ks:List XT)(ps:List Pat)(a: (Nat×Nat))(f:b[ix]?=some a)(k: ((List.map some xs))[ix]?=some (some (.mk op c ks ps))) :LeadsM PP 10 (zO node d e xs ix b op c ks ps a).as (aGj node d e xs ix b op c ks ps a).as:=
 xZ (j:=6) (v:=aV a) (v':=.ptr 12 0) aC (fun hm=>sS (h:= (zO node d e xs ix b op c ks ps a).as.h) (h':= (aGj node d e xs ix b op c ks ps a).as.h) (g:=11) (us:=b) (ts:= (List.map some xs)) (i:=ix) (u:=a) (op:=op) (n:=c) (ks:=ks) (ps:=ps) aC f k rfl (bA ⟨.inr (.inr (.inr (.inr ⟨by decide,by kernel_rfl⟩))),.inr (.inr (.inr (.inr ⟨by decide,by kernel_rfl⟩))),.inr (.inr (.inr (.inr ⟨by decide,by kernel_rfl⟩))),.inr (.inr (.inr (.inr ⟨by decide,by kernel_rfl⟩))),.inr (.inr (.inr (.inr ⟨by decide,by kernel_rfl⟩))),.inr (.inr (.inr (.inr ⟨by decide,by kernel_rfl⟩))),.inr (.inr (.inr (.inr ⟨by decide,by kernel_rfl⟩))),.inr (.inr (.inr (.inr ⟨by decide,by kernel_rfl⟩))),.inr (.inr (.inr (.inr ⟨by decide,by kernel_rfl⟩))),.inr (.inr (.inr (.inr ⟨by decide,by kernel_rfl⟩))),.inl ⟨rfl,rfl⟩,.inr (.inl ⟨rfl,rfl⟩),.inr (.inr (.inl ⟨rfl,rfl⟩)),.inr (.inr (.inr (.inl ⟨rfl,rfl⟩))),trivial⟩) hm) aC aC
theorem aXL (node c d:Int)(xs:List XT)(ix:Nat)(a: (List (Nat×Nat)))(op i:Int)(ks:List XT)(ps:List Pat)(b: (Nat×Nat))(g f:Int)(e:XT)(h: ((a)[ix]?) =some b)(h1:aXv b a node c d ix xs g)(h2: (c==node) =true)(k:aXt b a node c d ix xs f)(j:aXr f b d a node c ix xs e) :
  LeadsM PP 10 (iW node c d xs ix a op i ks ps).as (aB9 node c d xs ix a op i ks ps e).as:=
 lG (n1:=18) (ks:=[11,16,17,15]) (W:=[some (.lst 1 ((List.map aV a).set ix (.ptr 16 0))),some (.loop .busy none 93 (dN [kp 2 8]) 19 [6] (kd f93 28) (kd f93 29) 4),some (.cells (putCells .leaf 0 [(.ptr 0 0)]) 1 [] false),some (.defd false),some (.cells (putCells .leaf 0 [(bV false)]) 1 [] false),some (.loop .busy none 74 (dN [kp 3 9,kp 5 5]) 41 [10] (kd f74 436) (kd f74 437) 7),some (.defd false),some (.cells (putCells .leaf 0 [(.yield 6)]) 1 [] false),some (.cells (putCells .leaf 0 [(nI node)]) 1 [] false),some (.cells (putCells .leaf 0 [(nI c),(nI d),(.ep 1 1 ix 0)]) 3 [] false),some gh,some (.zone true [16] (Z1 e)),some (.zone true [] (ZV a (set (List.map some xs) ix none)))]) (wc (zA aC) (wc aC (wc aC (wc aC (wc aC (wc aC (wc aC (wc aC (wc aC (wc aC (wc aC (wc aC (wc aC wn))))))))))))) (ps:=[(List.map aV a)[ix]?=some (aV b),aXv b a node c d ix xs g,(c==node) =true,(List.map aV a)[ix]?=some (aV b),aXt b a node c d ix xs f,(List.map aV a)[ix]?=some (aV b),aXr f b d a node c ix xs e,(List.map aV a)[ix]?=some (aV b),kT (aV b) 0 [(.ptr 16 0)] =some (ptr 16 0),(ep 1 1 ix 0) = (ep 1 1 ix 0),(ep 1 1 ix 0) = (ep 1 1 ix 0)]) (is:=[.run 4,.ans (.idx (aV b)),.call (.iface 193 (nI g)) (aB7 a node c d ix xs),.run 20,.b 11 true,.run 6,.ans (.idx (aV b)),.call (.iface 193 (nI f)) (aRC a node c d ix xs),.run 3,.reg [.d,.d,.d,.d,.d,.d,.ans (.idx (aV b)),.d,.d,.d,.d,.d,.call (.ptr 16 0) (aRA a node c d ix xs e),.d,.st (aV b) (.ptr 16 0)]]) aC aC trivial ⟨(bC h),h1,h2,(bC h),k,(bC h),j,(bC h),rfl,rfl,rfl⟩
theorem aXM (node c d:Int)(xs:List XT)(ix:Nat)(a: (List (Nat×Nat)))(op g:Int)(ks:List XT)(ps:List Pat)(b: (Nat×Nat))(e:XT)(f: ((a)[ix]?) =some b)(h1:aXu b a node c d ix xs)(h2: (c==node) =true)(i:aXs b a node c d ix xs)(h:aXq b d a node c ix xs e) :
  LeadsM PP 10 (iW node c d xs ix a op g ks ps).as (aB9 node c d xs ix a op g ks ps e).as:=
 lG (n1:=18) (ks:=[11,16,17,15]) (W:=[some (.lst 1 ((List.map aV a).set ix (.ptr 16 0))),some (.loop .busy none 93 (dN [kp 2 8]) 19 [6] (kd f93 28) (kd f93 29) 4),some (.cells (putCells .leaf 0 [(.ptr 0 0)]) 1 [] false),some (.defd false),some (.cells (putCells .leaf 0 [(bV false)]) 1 [] false),some (.loop .busy none 74 (dN [kp 3 9,kp 5 5]) 41 [10] (kd f74 436) (kd f74 437) 7),some (.defd false),some (.cells (putCells .leaf 0 [(.yield 6)]) 1 [] false),some (.cells (putCells .leaf 0 [(nI node)]) 1 [] false),some (.cells (putCells .leaf 0 [(nI c),(nI d),(.ep 1 1 ix 0)]) 3 [] false),some gh,some (.zone true [16] (Z1 e)),some (.zone true [] (ZV a (set (List.map some xs) ix none)))]) (wc (zA aC) (wc aC (wc aC (wc aC (wc aC (wc aC (wc aC (wc aC (wc aC (wc aC (wc aC (wc aC (wc aC wn))))))))))))) (ps:=[(List.map aV a)[ix]?=some (aV b),aXu b a node c d ix xs,(c==node) =true,(List.map aV a)[ix]?=some (aV b),aXs b a node c d ix xs,(List.map aV a)[ix]?=some (aV b),aXq b d a node c ix xs e,(List.map aV a)[ix]?=some (aV b),kT (aV b) 0 [(.ptr 16 0)] =some (ptr 16 0),(ep 1 1 ix 0) = (ep 1 1 ix 0),(ep 1 1 ix 0) = (ep 1 1 ix 0)]) (is:=[.run 4,.ans (.idx (aV b)),.call aKt (aB7 a node c d ix xs),.run 20,.b 11 true,.run 6,.ans (.idx (aV b)),.call aKt (aRC a node c d ix xs),.run 3,.reg [.d,.d,.d,.d,.d,.d,.ans (.idx (aV b)),.d,.d,.d,.d,.d,.call (.ptr 16 0) (aRA a node c d ix xs e),.d,.st (aV b) (.ptr 16 0)]]) aC aC trivial ⟨(bC f),h1,h2,(bC f),i,(bC f),h,(bC f),rfl,rfl,rfl⟩
theorem aM7 (f n:Int)(s:bX)(ps:List Pat)(hl:ps.length<1000000)(j:∀p∈ps,aM PP 201 [Pat.av p] (.int .i64 (bnm p))) :
  ∀ (t:List Pat) (i:Nat) (a:Int),0≤a→a+aAb t≤1000000→ps.drop i=t→Ends PP 0 (aJ4 f n s ps a (i:Int)).as (.ret (.int .i64 (a+aAb t))) (aA [] 0)
 | [],i,a,_,_,h=>by
  have:=bL h;exact Ends.eqv (bAs f n s ps a i sd) (by simp [aAb])
 | .mk d e c b::t,i,a,o,hb,h=>by
  obtain⟨k,l,r⟩ :=bI h;have g:=j _ (kS k);have q:=aF9 (.mk d e c b);have m:=zG t;rw [aAb]at hb ⊢;refine(bAr f n s ps a i d e c b _ sd sd sd g sd sd).ends ?_;exact Ends.eqv (aM7 f n s ps hl j t (i+1) (a+bnm (.mk d e c b)) (by omega) (by omega) l) (by rw [Int.add_assoc])
mutual
theorem aGl :∀ (p:Pat),bZ p<100000→aM PP 201 [Pat.av p] (.int .i64 (bnm p))
 | .mk f n s a,h=>by
  refine aJ aC (by simp [keylessL,lD]) rfl ?_;simp only [bZ]at h;have:=eH a;have b:=zG a;by_cases g:f=2
  · subst g;exact Ends.eqv (bAp 2 n s a rfl) (by simp [bnm])
  · refine(bAq f n s a (by simpa using g)).ends ?_;exact Ends.eqv (aM7 f n s a (by omega) (aRD a (by omega)) a 0 0 (by omega) (by omega) rfl) (by simp [bnm,g])
theorem aRD :∀ (b:List Pat),bG b<100000→∀p∈b,aM PP 201 [Pat.av p] (.int .i64 (bnm p))
 | [],_,p,a=>by cases a
 | q::b,h,p,a=>by
  simp only [bG]at h;rcases zq7.1 a with e|a
  ·rw [e];exact aGl q (by omega)
  ·exact aRD b (by omega) p a
end
def bK (o:Int)(ps:List Pat)(k:Int) :Int:=dJ ⟨o,0,[],ps⟩ k
def eD (o:Int) :Bool:=decide (o=8) ||decide (o=15) ||decide (o=16) ||decide (o=17) ||decide (o=19) ||decide (o=20) ||decide (o=23) ||decide (o=24)
def gU (o:Int) :Bool:=decide (o=6) ||decide (o=9) ||decide (o=10) ||decide (o=11) ||decide (o=12) ||decide (o=13) ||decide (o=18) ||decide (o=22) ||decide (o=14)
def aT (o:Int)(l:Nat) :Nat:=if eD o then 1 else if gU o then l else 0
def bJ (t:XT) :Bool:=decide (t.op=1) ||decide (t.op=2) ||decide (t.op=3) ||decide (t.op=4)
mutual
def FineX (B:Int) :XT→Prop
 | .mk o n ks ps=> (o=4→n≤B) ∧ks.length≤1000∧ (∀q∈ps,bZ q≤1000) ∧ (o=15→ks.length=1+ps.length) ∧ (o=7→ks.length=2) ∧ (aT o ks.length≤ks.length∧ps.length≤900∧ (gU o=true→o≠14→ks.length=2) ∧ (∀q∈ps,bnm q=rnm q)) ∧FineXs B ks
def FineXs (B:Int) :List XT→Prop
 | [] =>True
 |t::ts=>FineX B t∧FineXs B ts
end
theorem fineXs_iff {B:Int}:∀ {ts:List XT},FineXs B ts↔∀t∈ts,FineX B t
 | [] =>by simp [FineXs]
 |t::ts=>by simp only [FineXs,fineXs_iff (ts:=ts),zq7];exact⟨fun h x a=>by rcases a with rfl|a;exact h.1;exact h.2 x a,fun h=> ⟨h t (.inl rfl),fun x a=>h x (.inr a)⟩⟩
mutual
theorem FineX.ok {B:Int}(hB:B≤1000000) :∀ {t:XT},FineX B t→OkT t
 | .mk o n a b,h=>by
  simp only [FineX]at h;simp only [OkT];exact⟨fun e=>Int.le_trans (h.1 e) hB,by omega,FineXs.ok hB h.2.2.2.2.2.2⟩
theorem FineXs.ok {B:Int}(hB:B≤1000000) :∀ {a:List XT},FineXs B a→aKi a
 | [],_=>trivial
 |t::a,h=> ⟨FineX.ok hB h.1,FineXs.ok hB h.2⟩
end
theorem oH {o:Int}{ps:List Pat}(h:∀q∈ps,bZ q≤1000)(k:Int) :0≤bK o ps k∧bK o ps k≤1000:=by
 unfold bK dJ;simp only;split
 ·omega
 · split
   · split
     · rename_i q a;have:=h q (kS a);have:=aF9 q;omega
     ·omega
   ·omega
section
variable (o n:Int) (ks:List XT) (ps:List Pat)
theorem aGm (k:Int)(R:Int→Prop)(h1:o=5∨o=27∨ (o=7∧k=1) →R 1)(h2:¬ (o=5∨o=27∨ (o=7∧k=1)) →o=15→0<k→∀q,ps[(k-1).toNat]?=some q→R (bnm q))(hp:o=15→0<k→∃q,ps[(k-1).toNat]?=some q)
  (d:¬ (o=5∨o=27∨ (o=7∧k=1)) →¬ (o=15∧0<k) →R 0) :R (bK o ps k) :=by
 unfold bK dJ;simp only;by_cases a:o=5∨o=27∨ (o=7∧k=1)
 ·rw [if_pos a];exact h1 a
 · rw [if_neg a];by_cases b:o=15∧k>0
   · rw [if_pos b];obtain⟨q,c⟩ :=hp b.1 b.2;rw [c];exact h2 a b.1 b.2 q c
   ·rw [if_neg b];exact d a b
theorem bBX (j:∀q∈ps,bZ q≤1000)(k:Int)(hk:0≤k∧k≤1000)(hp:o=15→0<k→∃q,ps[(k-1).toNat]?=some q) :
  gI PP 2 (.enter 178 [.ptr 0 0,.int .i64 k]) (aA [(0,(.cells (putCells .leaf 0 [(.int .i64 o),(.int .i64 n),(.gl 1 1 0 (length ks) false),(.ilst 4 (av ps) false)]) 4 [] false),false),(1,gh,false)] 2) (.ret (.int .i64 (bK o ps k))) (aA [(0,(.cells (putCells .leaf 0 [(.int .i64 o),(.int .i64 n),(.gl 1 1 0 (length ks) false),(.ilst 4 (av ps) false)]) 4 [] false),false),(1,gh,false)] 2) :=by
 refine⟨(bDN o n ks ps k).as.fr,by kernel_rfl,?_⟩;refine aGm o ps k (fun z=>Ends PP 2 _ (.ret (.int .i64 z)) _) (fun h=>?_) (fun h g i q f=>?_) hp (fun h l=>?_)
 · by_cases a:o=5
   ·exact bBI o n ks ps k (by simpa using a)
   · by_cases b:o=27
     ·exact bBJ o n ks ps k (by simpa using a) (by simpa using b)
     · have c:o=7∧k=1:=by omega
       exact bBK o n ks ps k (by simpa using a) (by simpa using b) (by simpa using c.1) (by simpa using c.2)
 · obtain⟨a,b,c,d⟩ :=q;have:=j _ (kS f);exact bBM o n ks ps k a b c d _ (by simp;omega) (by simp;omega) (by simp;omega) (by simpa using g) sd sd (by omega) f (aGl (.mk a b c d) (by omega))
 · have a:¬o=5:=fun e=>h (.inl e);have b:¬o=27:=fun e=>h (.inr (.inl e));by_cases c:o=7
   · have d:¬k=1:=fun e=>h (.inr (.inr ⟨c,e⟩));exact bBL o n ks ps k (by simpa using a) (by simpa using b) (by simpa using c) (by simpa using d) (by simp;omega)
   · by_cases e:o=15
     ·exact bBN o n ks ps k (by simpa using a) (by simpa using b) (by simpa using c) (by simpa using e) (by simp;omega)
     ·exact bBO o n ks ps k (by simpa using a) (by simpa using b) (by simpa using c) (by simpa using e)
theorem aM8 :aM PP 138 [XT.av (.mk o n ks ps)] (.bool (bJ (.mk o n ks ps))) :=by
 refine aJ aC (by simp [keylessL,aLM]) rfl ?_;show Ends PP 0 _ (.ret (.bool (decide (o=1) ||decide (o=2) ||decide (o=3) ||decide (o=4)))) _;by_cases a:o=1
 · rw [show(decide (o=1) ||decide (o=2) ||decide (o=3) ||decide (o=4)) =true by simp [a]];exact bAA o n ks ps (by simpa using a)
 by_cases b:o=2
 · rw [show(decide (o=1) ||decide (o=2) ||decide (o=3) ||decide (o=4)) =true by simp [b]];exact bAB o n ks ps (by simpa using a) (by simpa using b)
 by_cases c:o=3
 · rw [show(decide (o=1) ||decide (o=2) ||decide (o=3) ||decide (o=4)) =true by simp [c]];exact bAC o n ks ps (by simpa using a) (by simpa using b) (by simpa using c)
 by_cases d:o=4
 · rw [show(decide (o=1) ||decide (o=2) ||decide (o=3) ||decide (o=4)) =true by simp [d]];exact bAD o n ks ps (by simpa using a) (by simpa using b) (by simpa using c) (by simpa using d)
 rw [show(decide (o=1) ||decide (o=2) ||decide (o=3) ||decide (o=4)) =false by simp [a,b,c,d]];exact bAE o n ks ps (by simpa using a) (by simpa using b) (by simpa using c) (by simpa using d)
theorem aXN :aM PP 137 [XT.av (.mk o n ks ps)] (.int .i64 ((aT o ks.length:Nat) :Int)) :=by
 refine aJ aC (by simp [keylessL,aLM]) rfl ?_;by_cases b:o=8
 · have e:aT o ks.length=1:=by unfold aT eD;simp [b]
   rw [e];exact bAF o n ks ps (by simpa using b)
 by_cases c:o=15
 · have e:aT o ks.length=1:=by unfold aT eD;simp [c]
   rw [e];exact bAG o n ks ps (by simpa using b) (by simpa using c)
 by_cases f:o=16
 · have e:aT o ks.length=1:=by unfold aT eD;simp [f]
   rw [e];exact bAH o n ks ps (by simpa using b) (by simpa using c) (by simpa using f)
 by_cases g:o=17
 · have e:aT o ks.length=1:=by unfold aT eD;simp [g]
   rw [e];exact bAI o n ks ps (by simpa using b) (by simpa using c) (by simpa using f) (by simpa using g)
 by_cases i:o=19
 · have e:aT o ks.length=1:=by unfold aT eD;simp [i]
   rw [e];exact bAJ o n ks ps (by simpa using b) (by simpa using c) (by simpa using f) (by simpa using g) (by simpa using i)
 by_cases j:o=20
 · have e:aT o ks.length=1:=by unfold aT eD;simp [j]
   rw [e];exact bAK o n ks ps (by simpa using b) (by simpa using c) (by simpa using f) (by simpa using g) (by simpa using i) (by simpa using j)
 by_cases l:o=23
 · have e:aT o ks.length=1:=by unfold aT eD;simp [l]
   rw [e];exact bAL o n ks ps (by simpa using b) (by simpa using c) (by simpa using f) (by simpa using g) (by simpa using i) (by simpa using j) (by simpa using l)
 by_cases p:o=24
 · have e:aT o ks.length=1:=by unfold aT eD;simp [p]
   rw [e];exact bAM o n ks ps (by simpa using b) (by simpa using c) (by simpa using f) (by simpa using g) (by simpa using i) (by simpa using j) (by simpa using l) (by simpa using p)
 by_cases q:o=6
 · have e:aT o ks.length=ks.length:=by unfold aT eD gU;simp [q]
   rw [e];exact bAN o n ks ps (by simpa using b) (by simpa using c) (by simpa using f) (by simpa using g) (by simpa using i) (by simpa using j) (by simpa using l) (by simpa using p) (by simpa using q)
 by_cases r:o=9
 · have e:aT o ks.length=ks.length:=by unfold aT eD gU;simp [r]
   rw [e];exact bAO o n ks ps (by simpa using b) (by simpa using c) (by simpa using f) (by simpa using g) (by simpa using i) (by simpa using j) (by simpa using l) (by simpa using p) (by simpa using q) (by simpa using r)
 by_cases a:o=10
 · have e:aT o ks.length=ks.length:=by unfold aT eD gU;simp [a]
   rw [e];exact aWR o n ks ps (by simpa using b) (by simpa using c) (by simpa using f) (by simpa using g) (by simpa using i) (by simpa using j) (by simpa using l) (by simpa using p) (by simpa using q) (by simpa using r) (by simpa using a)
 by_cases d:o=11
 · have e:aT o ks.length=ks.length:=by unfold aT eD gU;simp [d]
   rw [e];exact aWS o n ks ps (by simpa using b) (by simpa using c) (by simpa using f) (by simpa using g) (by simpa using i) (by simpa using j) (by simpa using l) (by simpa using p) (by simpa using q) (by simpa using r) (by simpa using a) (by simpa using d)
 by_cases h:o=12
 · have e:aT o ks.length=ks.length:=by unfold aT eD gU;simp [h]
   rw [e];exact aWT o n ks ps (by simpa using b) (by simpa using c) (by simpa using f) (by simpa using g) (by simpa using i) (by simpa using j) (by simpa using l) (by simpa using p) (by simpa using q) (by simpa using r) (by simpa using a) (by simpa using d) (by simpa using h)
 by_cases k:o=13
 · have e:aT o ks.length=ks.length:=by unfold aT eD gU;simp [k]
   rw [e];exact aWU o n ks ps (by simpa using b) (by simpa using c) (by simpa using f) (by simpa using g) (by simpa using i) (by simpa using j) (by simpa using l) (by simpa using p) (by simpa using q) (by simpa using r) (by simpa using a) (by simpa using d) (by simpa using h) (by simpa using k)
 by_cases m:o=18
 · have e:aT o ks.length=ks.length:=by unfold aT eD gU;simp [m]
   rw [e];exact aWV o n ks ps (by simpa using b) (by simpa using c) (by simpa using f) (by simpa using g) (by simpa using i) (by simpa using j) (by simpa using l) (by simpa using p) (by simpa using q) (by simpa using r) (by simpa using a) (by simpa using d) (by simpa using h) (by simpa using k) (by simpa using m)
 by_cases s:o=22
 · have e:aT o ks.length=ks.length:=by unfold aT eD gU;simp [s]
   rw [e];exact aWW o n ks ps (by simpa using b) (by simpa using c) (by simpa using f) (by simpa using g) (by simpa using i) (by simpa using j) (by simpa using l) (by simpa using p) (by simpa using q) (by simpa using r) (by simpa using a) (by simpa using d) (by simpa using h) (by simpa using k) (by simpa using m) (by simpa using s)
 by_cases t:o=14
 · have e:aT o ks.length=ks.length:=by unfold aT eD gU;simp [t]
   rw [e];exact aWX o n ks ps (by simpa using b) (by simpa using c) (by simpa using f) (by simpa using g) (by simpa using i) (by simpa using j) (by simpa using l) (by simpa using p) (by simpa using q) (by simpa using r) (by simpa using a) (by simpa using d) (by simpa using h) (by simpa using k) (by simpa using m) (by simpa using s) (by simpa using t)
 have e:aT o ks.length=0:=by unfold aT eD gU;simp [b,c,f,g,i,j,l,p,q,r,a,d,h,k,m,s,t]
 rw [e];exact aWY o n ks ps (by simpa using b) (by simpa using c) (by simpa using f) (by simpa using g) (by simpa using i) (by simpa using j) (by simpa using l) (by simpa using p) (by simpa using q) (by simpa using r) (by simpa using a) (by simpa using d) (by simpa using h) (by simpa using k) (by simpa using m) (by simpa using s) (by simpa using t)
def cX :List XT→Nat→Nat→Option Nat
 | [],_,_=>none
 |_::_,_,0=>none
 |t::ts,i,m+1=>if bJ t then cX ts (i+1) m else some i
def cG :XT→Option (Option Nat)
 | .mk o _ ks _=>if o=7 then(match ks[0]? with|some t=>if t.op=7 then some none else none|none=>none)else(cX ks 0 (aT o ks.length)).map some
noncomputable def aRE:Option (Option Nat) →AV
 |none=>.nili
 |some none=>.iface 191 (.agg [])
 |some (some k) =>.iface 193 (.int .i64 (k:Int))
theorem aM9 (hl:ks.length≤1000)(k:aT o ks.length≤ks.length) :∀ (g:List XT) (i m:Nat),ks.drop i=g→i+m=aT o ks.length →
  Ends PP 0 (aJ5 o n ks ps ((aT o ks.length:Nat) :Int) (i:Int)).as (.ret (aRE ((cX g i m).map some))) (aA [] 0)
 | g,i,0,h,hm=>by
  have e:cX g i 0=none:=by cases g<;>rfl
  rw [e];exact bAU o n ks ps _ (i:Int) sd
 | [],i,m+1,h,hm=>by have:=bL h;omega
 | .mk a b c d::g,i,m+1,h,hm=>by
  obtain⟨p,l,q⟩ :=bI h;cases j:bJ (.mk a b c d)
  case false=>
   have e:cX (.mk a b c d::g) i (m+1) =some i:=by simp [cX,j]
   rw [e];have f:=aM8 a b c d;rw [j]at f;exact bAS o n ks ps _ (i:Int) a b c d false sd sd sd f rfl
  have e:cX (.mk a b c d::g) i (m+1) =cX g (i+1) m:=by simp [cX,j]
  rw [e];have f:=aM8 a b c d;rw [j]at f;refine(bAT o n ks ps _ (i:Int) a b c d true sd sd sd f rfl sd).ends ?_;exact aM9 hl k g (i+1) m l (by omega)
end
theorem aNa {B:Int}:∀ {t:XT},FineX B t→aM PP 95 [XT.av t] (aRE (cG t))
 | .mk o n f i,h=>by
  simp only [FineX]at h;obtain⟨_,p,_,_,m,l,_⟩ :=h;refine aJ aC (by simp [keylessL,aLM]) ?_ ?_
  · generalize cG (.mk o n f i) =s
    match s with
    |none=>rfl
    |some none=>rfl
    |some (some k) =>rfl
  · by_cases e:o=7
    · have hl:=m e;obtain⟨⟨a,b,c,d⟩,hk⟩ :∃t0,f[0]?=some t0:= ⟨_,kR (by omega)⟩
      · by_cases g:a=7
        · have j:cG (.mk o n f i) =some none:=by simp [cG,e,hk,XT.op,g]
          rw [j];exact bAP o n f i a b c d (by simpa using e) (by omega) hk (by simpa using g)
        · have j:cG (.mk o n f i) =none:=by simp [cG,e,hk,XT.op,g]
          rw [j];exact bAQ o n f i a b c d (by simpa using e) (by omega) hk (by simpa using g)
    · have j:cG (.mk o n f i) = (cX f 0 (aT o f.length)).map some:=by simp [cG,e]
      rw [j];refine(bAR o n f i _ (by simpa using e) (aXN o n f i)).ends ?_;exact aM9 o n f i p l.1 f 0 _ rfl (by omega)
theorem aQi (s:Option (Option Nat)) :aFP (aRE s) :=by
 match s with
 |none=>exact aSI
 |some none=>exact aFQ aSJ
 |some (some k) =>exact aFQ aLR
def dXT :XT:=.mk 0 0 [] []
def gW (sz:Int) :Option Nat→XT→XT
 |some k,.mk o n ks ps=>dnT sz k o n ks ps (ks.getD k dXT)
 |none,.mk _ _ ks _=>neT sz ((ks.getD 0 dXT).kids.getD 0 dXT) ((ks.getD 0 dXT).kids.getD 1 dXT) (ks.getD 1 dXT)
inductive AtR (α:Type) where
 |go (n:Int)
 |past
 |did (x:α)
mutual
def atT (node:Int) :XT→Int→Int→AtR XT
 | .mk o n ks ps,n0,z0=>
  match cG (.mk o n ks ps)with
  | some s=>if n0=node then .did (gW z0 s (.mk o n ks ps))else if n0>node then .past else
   (match iM node o ps ks 0 (n0+1) z0 with
   | .go m=>.go m
   | .past=>.past
   | .did ks'=>.did (.mk o n ks' ps))
  | none=> (match iM node o ps ks 0 (n0+1) z0 with
   | .go m=>.go m
   | .past=>.past
   | .did ks'=>.did (.mk o n ks' ps))
def iM (node:Int)(o:Int)(ps:List Pat) :List XT→Nat→Int→Int→AtR (List XT)
 | [],_,n,_=>.go n
 | t::ts,i,n,z=>
  match atT node t n (z+bK o ps (i:Int))with
  | .go m=> (match iM node o ps ts (i+1) m z with
   | .go m'=>.go m'
   | .past=>.past
   | .did ts'=>.did (t::ts'))
  | .past=>.past
  | .did t'=>.did (t'::ts)
end
mutual
def cB :XT→Nat
 | .mk _ _ ks _=>aD ks+1
def aD :List XT→Nat
 | [] =>0
 |t::ts=>cB t+aD ts
end
mutual
theorem aQj (node:Int) :∀ (t:XT) (a c m:Int),atT node t a c= .go m→m=a+ (cB t:Nat)
 | .mk o n d f,a,c,m,h=>by
  have hk:∀b,iM node o f d 0 (a+1) c= .go b→b=a+ ((aD d+1:Nat) :Int) :=fun b e=>by
   have:=aRF node o f d 0 (a+1) c b e;omega
  simp only [atT]at h;simp only [cB];split at h
  · split at h
    ·cases h
    · split at h
      ·cases h
      · split at h
        ·rename_i e;cases h;exact hk _ e
        ·cases h
        ·cases h
  · split at h
    ·rename_i e;cases h;exact hk _ e
    ·cases h
    ·cases h
theorem aRF (node o:Int)(ps:List Pat) :∀ (a:List XT) (i:Nat) (n z m:Int),iM node o ps a i n z= .go m→m=n+ (aD a:Nat)
 | [],i,n,z,m,h=>by simp only [iM]at h;cases h;simp [aD]
 | t ::a,i,n,z,m,h=>by
  simp only [iM]at h;split at h
  · rename_i b e;have d:=aQj node t n _ b e;split at h
    · rename_i f c;cases h;have g:=aRF node o ps a (i+1) b z _ c;simp only [aD];omega
    ·cases h
    ·cases h
  ·cases h
  ·cases h
end
abbrev ATH (o1:AObj)(f1:Bool)(s1:LoopState)(p1:Option Code)(s2:LoopState)(p2:Option Code)(b:Bool)(node:Int)(tl:HL) :HL:= (1,o1,f1) :: (2,(.loop s1 p1 93 (dN [(2,(.ptr 8 0))]) 19 [6] (cd Tryz.f93 [1,1,0,0]) (cd Tryz.f93 [1,1,0,1]) 4),false) :: (3,(.cells (putCells .leaf 0 [(.ptr 0 0)]) 1 [] false),false) :: (4,(.defd false),false) :: (5,(.cells (putCells .leaf 0 [(.bool b)]) 1 [] false),false) :: (6,(.loop s2 p2 74 (dN [(3,(.ptr 9 0)),(5,(.ptr 5 0))]) 41 [10] (cd Tryz.f74 [1,0,1,1,0,1,0,0]) (cd Tryz.f74 [1,0,1,1,0,1,0,1]) 7),false) :: (7,(.defd false),false) :: (8,(.cells (putCells .leaf 0 [(.yield 6)]) 1 [] false),false) :: (9,(.cells (putCells .leaf 0 [(.int .i64 node)]) 1 [] false),false) ::tl
abbrev ATr (node:Int)(xs:List XT) :HL:=ATH gh false .ready none .ready none false node [(10,(.zone true [1] (cJ xs)),false)]
abbrev ATd (b:Bool)(node:Int)(xs:List XT) :HL:=ATH gh false .done (some .ret) .done (some (.exit 0)) b node [(10,(.zone true [1] (cJ xs)),false)]
def btV :AtR XT→AV
 | .go n=>.int .i64 n
 |_=>.int .i64 (-1)
def btH (node:Int)(xs:List XT)(ix:Nat) :AtR XT→HL
 | .go _=>ATr node xs
 | .past=>ATd false node xs
 | .did t'=>ATd true node (xs.set ix t')
def BtS (node:Int)(xs:List XT)(ix:Nat)(n0 z0:Int)(r:AtR XT) :Prop:=gI PP 10 (.enter 136 [.agg [.int .i64 n0,.int .i64 z0,.ep 1 1 ix 0],.yield 2]) (aA (ATr node xs) 11) (.ret (btV r)) (aA (btH node xs ix r) 11)
def BtE (s:AS)(node:Int)(xs:List XT)(ix:Nat)(r:AtR XT) :Prop:=Ends PP 10 s (.ret (btV r)) (aA (btH node xs ix r) 11)
def qE (o n:Int)(ps:List Pat)(pre:List XT) :AtR (List XT) →AtR XT
 | .go m=>.go m
 | .past=>.past
 | .did ks'=>.did (.mk o n (pre++ks') ps)
section
variable {s :AS} {v:AV} {s1 s2:LoopState} {p1 p2:Option Code} {b:Bool} {node:Int}
theorem aGn {a:List (Nat×Nat)}{xs:List XT}(c:xs≠ [])(d:∀f,ren f v=v)(e:Ends PP 10 s (.ret v) (aA (ATH (.lst 1 (List.map aV a)) true s1 p1 s2 p2 b node [(10,(.zone true [] (ZV a (xs.map some))),false)]) 11)) :
  Ends PP 10 s (.ret v) (aA (ATH gh false s1 p1 s2 p2 b node [(10,(.zone true [1] (cJ xs)),false)]) 11) :=by
 have z:kP (aA (ATH (.lst 1 (List.map aV a)) true s1 p1 s2 p2 b node [(10,(.zone true [] (ZV a (xs.map some))),false)]) 11) (aA (ATH gh false s1 p1 s2 p2 b node [(11,(.zone true [1] (cJ xs)),false)]) 12) :=
  aCQ (h:=aA (ATH (.lst 1 (List.map aV a)) true s1 p1 s2 p2 b node [(10,(.zone true [] (ZV a (xs.map some))),false)]) 11) (h':=aA (ATH gh false s1 p1 s2 p2 b node [(11,(.zone true [1] (cJ xs)),false)]) 12) (k:=1) (g:=10) (us:=a) (ts:=xs) aC aC c (Nat.le_refl _)
   (bA ⟨.inl ⟨rfl,rfl⟩,.inr (.inr ⟨by decide,by decide,by kernel_rfl⟩),.inr (.inr ⟨by decide,by decide,by kernel_rfl⟩),.inr (.inr ⟨by decide,by decide,by kernel_rfl⟩),.inr (.inr ⟨by decide,by decide,by kernel_rfl⟩),.inr (.inr ⟨by decide,by decide,by kernel_rfl⟩),.inr (.inr ⟨by decide,by decide,by kernel_rfl⟩),.inr (.inr ⟨by decide,by decide,by kernel_rfl⟩),.inr (.inr ⟨by decide,by decide,by kernel_rfl⟩),.inr (.inl ⟨rfl,rfl⟩),trivial⟩)
 exact gR (ks:=[11]) (rB e z (show 10≤11 by decide)) (d _) aC aC trivial
theorem aC2 {a:List (Nat×Nat)}{xs:List XT}{ix:Nat}{op c:Int}{ks ks':List XT}{ps:List Pat}(m:xs[ix]?=some (.mk op c ks ps))(hl:ks.length=ks'.length)(f:∀o,ren o v=v)
  (e:Ends PP 10 s (.ret v) (aA (ATH (.lst 1 (List.map aV a)) true s1 p1 s2 p2 b node [(10,(.zone true [11] (eV a (set (List.map some xs) ix none) ix)),false),(11,(.cells (putCells .leaf 0 [(.int .i64 op),(.int .i64 c),(.gl 12 1 0 (length ks) false),(.ilst 4 (av ps) false)]) 4 [] false),false),(12,gh,false),(13,(.zone true [12] (cJ ks')),false)]) 14)) :
  Ends PP 10 s (.ret v) (aA (ATH gh false s1 p1 s2 p2 b node [(10,(.zone true [1] (cJ (xs.set ix (.mk op c ks' ps)))),false)]) 11) :=by
 have d:xs.set ix (.mk op c ks' ps) ≠ [] :=fun h=>by
  have t:= (zq0.1 m).1;have p:=congrArg length h;simp only [fN,List.length_nil]at p;omega
 have j:kP (aA (ATH (.lst 1 (List.map aV a)) true s1 p1 s2 p2 b node [(10,(.zone true [11] (eV a (set (List.map some xs) ix none) ix)),false),(11,(.cells (putCells .leaf 0 [(.int .i64 op),(.int .i64 c),(.gl 12 1 0 (length ks) false),(.ilst 4 (av ps) false)]) 4 [] false),false),(12,gh,false),(13,(.zone true [12] (cJ ks')),false)]) 14) (aA (ATH (.lst 1 (List.map aV a)) true s1 p1 s2 p2 b node [(14,(.zone true [] (ZV a (List.map some (xs.set ix (.mk op c ks' ps))))),false)]) 15) :=by
  refine aFO (h:=aA (ATH (.lst 1 (List.map aV a)) true s1 p1 s2 p2 b node [(10,(.zone true [11] (eV a (set (List.map some xs) ix none) ix)),false),(11,(.cells (putCells .leaf 0 [(.int .i64 op),(.int .i64 c),(.gl 12 1 0 (length ks) false),(.ilst 4 (av ps) false)]) 4 [] false),false),(12,gh,false),(13,(.zone true [12] (cJ ks')),false)]) 14) (h':=aA (ATH (.lst 1 (List.map aV a)) true s1 p1 s2 p2 b node [(14,(.zone true [] (ZV a (List.map some (xs.set ix (.mk op c ks' ps))))),false)]) 15)
   (b:=11) (k:=12) (gk:=13) (g:=10) (us:=a) (ts:=set (List.map some xs) ix none) (i:=ix) (op:=op) (n:=c) (ks:=ks') (ps:=ps) (len:=ks.length) (ex:=false) (pv:=.ilst 4 (av ps) false) aC hl (fun _ _ h=>h) aC aC (by decide) (Nat.le_refl _) ?_
  have r: (set (List.map some xs) ix none).set ix (some (.mk op c ks' ps)) =List.map some (xs.set ix (.mk op c ks' ps)) :=by rw [set_set,map_set]
  rw [r];exact bA ⟨.inr ⟨by decide,by kernel_rfl⟩,.inr ⟨by decide,by kernel_rfl⟩,.inr ⟨by decide,by kernel_rfl⟩,.inr ⟨by decide,by kernel_rfl⟩,.inr ⟨by decide,by kernel_rfl⟩,.inr ⟨by decide,by kernel_rfl⟩,.inr ⟨by decide,by kernel_rfl⟩,.inr ⟨by decide,by kernel_rfl⟩,.inr ⟨by decide,by kernel_rfl⟩,.inl ⟨rfl,rfl⟩,trivial⟩
 have q:=gR (ks:=[14]) (l:=ATH (.lst 1 (List.map aV a)) true s1 p1 s2 p2 b node [(10,(.zone true [] (ZV a (List.map some (xs.set ix (.mk op c ks' ps))))),false)]) (nb:=11) (rB e j (show 10≤14 by decide)) (f _) aC aC ⟨aKl _,trivial⟩;exact aGn d f q
end
theorem aC3 {B:Int}{h:Hp}{g:Nat}{us:List (Nat×Nat)}{ts:List (Option XT)}{i:Nat}{u:Nat×Nat}{t:XT}(k:h.look g=some (.zone true [] (ZV us ts)))(n:us[i]?=some u)(s:ts[i]?=some (some t))(p:FineX B t) :Spec PP (.enter 95 [aV u]) h (.ret (aRE (cG t))) h:=
 aDz (aNa p) (aQi _) rfl (fun E H b r hc=>by
  obtain⟨z,j,rfl,e,l⟩ :=hc.cons_inv;rw [l.nil_inv];simp only [aV,VR]at e;subst e;obtain⟨x,v,o⟩ :=r.obj g _ k;obtain⟨w,_,f,c⟩ :=gJ o;obtain⟨a,q,y,d,m,_,_⟩ :=c.out s;rw [n]at d;cases d;exact VRs.cons (aLQ r.snap t u q m) (VRs.nil _))
theorem aAZ {ks:List XT}:∀ {a:List XT} {i m k:Nat},cX a i m=some k→ks.drop i=a→∃x,ks[k]?=some x∧bJ x=false∧k<i+m
 | [],i,m,k,h,_=>by simp [cX]at h
 |_::_,i,0,k,h,_=>by simp [cX]at h
 | t ::l,i,m+1,k,h,d=>by
  obtain⟨b,f,n⟩ :=bI d;simp only [cX]at h;split at h
  · obtain⟨x,e,g,j⟩ :=aAZ (ks:=ks) h f;exact⟨x,e,g,by omega⟩
  · rename_i c;cases h;exact⟨t,b,by simpa using c,by omega⟩
theorem aA0 (node:Int)(o n:Int)(ks:List XT)(ps:List Pat)(a b:Int) :atT node (.mk o n ks ps) a b =
  match cG (.mk o n ks ps)with
  |some s=>if a=node then .did (gW b s (.mk o n ks ps))else if a>node then .past else qE o n ps [] (iM node o ps ks 0 (a+1) b)
  |none=>qE o n ps [] (iM node o ps ks 0 (a+1) b) :=by
 simp only [atT];cases cG (.mk o n ks ps)with
 |none=>cases iM node o ps ks 0 (a+1) b<;>rfl
 |some s=>cases iM node o ps ks 0 (a+1) b<;>rfl
theorem aNb {a:Type}{xs:List a}{i:Nat}{x:a}(h:xs[i]?=some x) :xs.set i x=xs:=by
 apply List.ext_getElem?;intro j;rw [List.getElem?_set];split
 · rename_i b;subst b;rw [if_pos (zq0.1 h).1,h]
 ·rfl
theorem aIg {a:Type}{xs:List a}{i:Nat}{x:a}(h:xs[i]?=some x) :xs≠ [] :=fun e=>by subst e;simp at h
theorem rG {a:Type}{l:List a}{i:Nat}{x d:a}(h:l[i]?=some x) :l.getD i d=x:=by rw [nY,h];rfl
section
variable (node B:Int) (hB:B≤1000000)
mutual
theorem aRG (hB:B≤1000000) :∀ (t:XT),FineX B t→∀ (d:List XT) (ix:Nat) (i f:Int),d[ix]?=some t→0≤i→i+ (cB t:Nat) ≤1000000→0≤f→f+1000* (cB t:Nat) ≤1000000000→BtS node d ix i f (atT node t i f)
 | .mk o n ks j,V,d,ix,i,f,D,h0,h1,h2,Q=>by
  have G:=V;simp only [FineX]at V;obtain⟨_,f2,f3,f4,f5,f6,T⟩ :=V;simp only [cB]at h1 Q;have w: (List.map some d)[ix]?=some (some (.mk o n ks j)) :=by rw [rM,D];rfl
  have I: (set (List.map some d) ix none)[ix]?=some none:=by rw [List.getElem?_set,if_pos rfl,if_pos (by rw [lB];exact(zq0.1 D).1)]
  refine⟨(aXy node i f d ix [] o n ks j).as.fr,by kernel_rfl,?_⟩;refine(aXz node i f d ix [] o n ks j).ends (bBU node i f d ix [] o n ks j (aIg D) fun p X=>?_);obtain⟨u,q⟩ :=eO X (zq0.1 D).1;have below:LeadsM PP 10 (iW node i f d ix p o n ks j).as (zO node i f d ix p o n ks j u).as→BtE (iW node i f d ix p o n ks j).as node d ix (qE o n j [] (iM node o j ks 0 (i+1) f)) :=fun hl=>
   (hl.trans ((bBW node i f d ix p o n ks j u q w).trans (aXG node i f d ix p o n ks j u))).ends
    (aRH hB d ix i f o n ks j p D f2 f3 f4 h2 ks 0 (i+1) rfl T (by omega) (by omega) (by omega))
  have did:∀H,LeadsM PP 10 (iW node i f d ix p o n ks j).as (aB9 node i f d ix p o n ks j H).as→BtE (iW node i f d ix p o n ks j).as node d ix (.did H) :=fun H hl=>by
   refine hl.ends (bBV node i f d ix p o n ks j H I fun u9=>?_);have e:=aXF node i f d ix p o n ks j H u9;have C: (set (List.map some d) ix none).set ix (some H) =List.map some (d.set ix H) :=by rw [set_set,map_set]
   rw [C]at e
   have N:d.set ix H≠ [] :=fun h=>by
    have h2:= (zq0.1 D).1;have Q:=congrArg length h;simp only [fN,List.length_nil]at Q;omega
   exact aGn N (fun _=>rfl) e
  have past:Ends PP 10 (iW node i f d ix p o n ks j).as (.ret (.int .i64 (-1))) (aA (ATH (.lst 1 (List.map aV p)) true .done (some .ret) .done (some (.exit 0)) false node [(10,(.zone true [] (ZV p (d.map some))),false)]) 11) →BtE (iW node i f d ix p o n ks j).as node d ix .past:=fun e=>aGn (aIg D) (fun _=>rfl) e;rw [aA0];cases r:cG (.mk o n ks j)with
  | none=>
   have A:∀ {l z g},(aA l z).look g=some (.zone true [] (ZV p (d.map some))) →Spec PP (.enter 95 [aV u]) (aA l z) (.ret .nili) (aA l z) :=fun K=>by
    have:=aC3 K q w G;rw [r]at this;exact this
   exact below (aXE node i f d ix p o n ks j u q (A (g:=13) aC) sd)
  | some s =>
   cases s with
   | none =>
    have A:∀ {l z g},(aA l z).look g=some (.zone true [] (ZV p (d.map some))) →Spec PP (.enter 95 [aV u]) (aA l z) (.ret (.iface 191 (.agg []))) (aA l z) :=fun K=>by
     have:=aC3 K q w G;rw [r]at this;exact this
    dsimp only;by_cases y:i=node
    · rw [if_pos y];have Z:o=7:=by
       simp only [cG]at r;by_cases g:o=7
       ·exact g
       · rw [if_neg g]at r;cases v:cX ks 0 (aT o ks.length)with
         |none=>rw [v]at r;cases r
         |some k=>rw [v]at r;cases r
      have hl:=f5 Z;obtain⟨⟨U,n2,O,p2⟩,F⟩ :∃t0,ks[0]?=some t0:= ⟨_,kR (by omega)⟩;obtain⟨c,J⟩ :∃t1,ks[1]?=some t1:= ⟨_,kR (by omega)⟩;have S:U=7:=by
       simp only [cG,if_pos Z,F,XT.op]at r;by_cases g:U=7
       ·exact g
       ·simp [g]at r
      have M:=fineXs_iff.1 T _ (kS F);have R:=fineXs_iff.1 T _ (kS J);simp only [FineX]at M;have hl2:=M.2.2.2.2.1 S;obtain⟨a,Y⟩ :∃t1,O[0]?=some t1:= ⟨_,kR (by omega)⟩;obtain⟨b,hb⟩ :∃t1,O[1]?=some t1:= ⟨_,kR (by omega)⟩;have W:gW f none (.mk o n ks j) =neT f a b c:=by
       simp only [gW,rG F,rG J,XT.kids,rG Y,rG hb]
      rw [W]
      exact did _ (aXM node i f d ix p o n ks j u (neT f a b c) q (A (g:=13) aC) (by simpa using y) (A (g:=13) aC)
       (vD (m:=0) (ks:=[13]) (bBH p (d.map some) ix u o n ks j U n2 O p2 f a b c F J Y hb (R.ok hB) q w) aC aC trivial trivial))
    · rw [if_neg y];by_cases C:i>node
      · rw [if_pos C];exact past (aXC node i f d ix p o n ks j u q (A (g:=13) aC) (by simpa using y) (by simpa using C))
      · rw [if_neg C];exact below (aXD node i f d ix p o n ks j u q (A (g:=13) aC) (by simpa using y) (by simpa using C) sd)
   | some k=>
    have A:∀ {l z g},(aA l z).look g=some (.zone true [] (ZV p (d.map some))) →Spec PP (.enter 95 [aV u]) (aA l z) (.ret (.iface 193 (.int .i64 (k:Int)))) (aA l z) :=fun K=>by
     have:=aC3 K q w G;rw [r]at this;exact this
    dsimp only;by_cases y:i=node
    · rw [if_pos y];obtain⟨x,L⟩ :∃x,ks[k]?=some x:=by
       simp only [cG]at r;by_cases g:o=7
       · rw [if_pos g]at r;split at r
         ·split at r<;>cases r
         ·cases r
       · rw [if_neg g]at r;cases v:cX ks 0 (aT o ks.length)with
         |none=>rw [v]at r;cases r
         | some k'=>
          rw [v]at r;cases r;obtain⟨x,D,_⟩ :=aAZ v (rfl:ks.drop 0=ks);exact⟨x,D⟩
      have W:gW f (some k) (.mk o n ks j) =dnT f k o n ks j x:=by simp only [gW,rG L]
      rw [W]
      exact did _ (aXL node i f d ix p o n ks j u (k:Int) (k:Int) (dnT f k o n ks j x) q (A (g:=13) aC) (by simpa using y) (A (g:=13) aC)
       (vD (m:=0) (ks:=[13]) (bBG p (d.map some) ix u o n ks j k f x L q w (G.ok hB)) aC aC trivial trivial))
    · rw [if_neg y];by_cases C:i>node
      · rw [if_pos C];exact past (aXA node i f d ix p o n ks j u (k:Int) q (A (g:=13) aC) (by simpa using y) (by simpa using C))
      · rw [if_neg C];exact below (aXB node i f d ix p o n ks j u (k:Int) q (A (g:=13) aC) (by simpa using y) (by simpa using C) sd)
theorem aRH (hB:B≤1000000)(xs:List XT)(ix:Nat)(j a:Int)(o n:Int)(ks:List XT)(ps:List Pat)(f:List (Nat×Nat))(g:xs[ix]?=some (.mk o n ks ps))(z:ks.length≤1000)(p:∀q∈ps,bZ q≤1000)(u:o=15→ks.length=1+ps.length)(h2:0≤a) :
  ∀ (tl:List XT) (i:Nat) (b:Int),ks.drop i=tl→FineXs B tl→0≤b→b+ (aD tl:Nat) ≤1000000→a+1000+1000* (aD tl:Nat) ≤1000000000→BtE (aEA node j a xs ix f o n ks ps b (i:Int)).as node xs ix (qE o n ps (ks.take i) (iM node o ps tl i b a))
 | [],i,b,h,_,_,_,_=>by
  have:=bL h;simp only [iM,qE];have e:=aC2 (ks':=ks) g rfl (fun _=>rfl) (aXK node j a xs ix f o n ks ps b (i:Int) sd);rw [aNb g]at e;exact e
 | t ::tl,i,b,h,s,F,C,x=>by
  obtain⟨v,w,y⟩ :=bI h;simp only [FineXs]at s;simp only [aD]at C x;have H:=oH (o:=o) p (i:Int);have k:IntKind.i64.wrap (a+bK o ps (i:Int)) =a+bK o ps (i:Int) :=wrap64 (by omega) (by omega);have c:0+ ((i:Nat) :Int).toNat=i:=by rw [kZ];omega
  have hb:=aRG hB t s.1 ks i b (a+bK o ps (i:Int)) v F (by omega) (by omega) (by omega);rw [←k,←c]at hb
  have D:o=15→0< (i:Int) →∃q,ps[((i:Int) -1).toNat]?=some q:=fun r I=>by
   have:=u r;exact⟨_,kR (by omega)⟩
  have d:=bBX o n ks ps p (i:Int) ⟨by omega,by omega⟩ D;simp only [iM];rw [c,k]at hb;cases hr:atT node t b (a+bK o ps (i:Int))with
  | go m=>
   rw [hr]at hb;have hm:=aQj node t b _ m hr;refine(aXJ node j a xs ix f o n ks ps b (i:Int) (bK o ps (i:Int)) m sd (vD (m:=2) (ks:=[11,12]) d aC aC trivial trivial) sd sd (aUd k c (vD (m:=10) (ks:=[0,12,2,3,4,5,6,7,8,9,14]) hb aC aC trivial trivial)) sd sd).ends ?_;have e:=aRH hB xs ix j a o n ks ps f g z p u h2 tl (i+1) m w s.2 (by omega) (by omega) (by omega);rw [←take_succ' v]at e;have G:qE o n ps (ks.take i++ [t]) (iM node o ps tl (i+1) m a) =qE o n ps (ks.take i) (match iM node o ps tl (i+1) m a with| .go m'=>.go m'| .past=>.past| .did ts'=>.did (t::ts')) :=by
    cases iM node o ps tl (i+1) m a<;>simp [qE]
   rw [G]at e;exact e
  | past=>
   rw [hr]at hb;have e:=aC2 (ks':=ks) g rfl (fun _=>rfl) (aXH node j a xs ix f o n ks ps b (i:Int) (bK o ps (i:Int)) sd (vD (m:=2) (ks:=[11,12]) d aC aC trivial trivial) sd sd (aUd k c (vD (m:=10) (ks:=[0,12,2,3,4,5,6,7,8,9,14]) hb aC aC trivial trivial)));rw [aNb g]at e;exact e
  | did l=>
   rw [hr]at hb;have e:=aC2 (ks':=ks.set i l) g (by simp) (fun _=>rfl) (aXI node j a xs ix f o n ks ps b (i:Int) (bK o ps (i:Int)) (ks.set i l) sd (vD (m:=2) (ks:=[11,12]) d aC aC trivial trivial) sd sd (aUd k c (vD (m:=10) (ks:=[0,12,2,3,4,5,6,7,8,9,14]) hb aC aC trivial trivial)));have A:ks.set i l=ks.take i++l::tl:=by rw [List.set_eq_take_append_cons_drop,if_pos y,w]
   simp only [qE];rw [←A];exact e
end
end
def atF (node:Int) :List XT→Int→AtR (List XT)
 | [],n=>.go n
 | t::ts,n=>match atT node t n 1 with
  | .go m=> (match atF node ts m with
   | .go m'=>.go m'
   | .past=>.past
   | .did ts'=>.did (t::ts'))
  | .past=>.past
  | .did t'=>.did (t'::ts)
def AtR.isDid {α:Type}:AtR α→Bool
 | .did _=>true
 |_=>false
def AtR.getD {α:Type}(d:α) :AtR α→α
 | .did x=>x
 |_=>d
def AtR.map {α β:Type}(f:α→β) :AtR α→AtR β
 | .go n=>.go n
 | .past=>.past
 | .did x=>.did (f x)
abbrev FHl (n:Nat)(mn:Int)(cs:List Con)(ts:List XT) :HL:=[(0,(.cells (putCells .leaf 0 [(.gl 1 1 0 n false),(.int .i64 mn),(.ilst 2 (List.map Con.av cs) false)]) 3 [] false),false),(1,gh,false),(2,(.zone true [1] (cJ ts)),false)]
theorem aKy (node:Int) :∀ (b:List XT) (n:Int) (a:List XT),atF node b n= .did a→a.length=b.length
 | [],n,a,h=>by simp [atF]at h
 | t ::b,n,a,h=>by
  simp only [atF]at h;split at h
  · split at h
    ·cases h
    ·cases h
    · rename_i e;cases h;rw [mO,mO,aKy node b _ _ e]
  ·cases h
  ·cases h;rfl
theorem aRI (node B:Int)(hB:B≤1000000)(ts:List XT)(mn:Int)(cs:List Con)(hl:ts.length≤1000) :∀ (tl:List XT) (i:Nat) (n:Int),ts.drop i=tl→FineXs B tl→0≤n→n+ (aD tl:Nat) ≤100000 →
  Ends PP 2 (aKu ts mn cs node n (i:Int)).as (.ret (.bool (atF node tl n).isDid)) (aA (FHl ts.length mn cs (((atF node tl n).map (fun x=>ts.take i++x)).getD ts)) 3)
 | [],i,n,h,_,_,_=>by
  have:=bL h;exact bBT ts mn cs node n (i:Int) sd
 | t ::tl,i,n,h,d,j,k=>by
  obtain⟨f,g,l⟩ :=bI h;simp only [FineXs]at d;simp only [aD]at k;have a:0+ ((i:Nat) :Int).toNat=i:=by rw [kZ];omega
  have hb:=aRG node B hB t d.1 ts i n 1 f j (by omega) (by omega) (by omega);simp only [atF];cases hr:atT node t n 1 with
  | go m=>
   rw [hr]at hb;have hm:=aQj node t n _ m hr;refine(bBS ts mn cs node n (i:Int) m sd sd sd (aUd rfl a (vD (m:=10) (ks:=[0,1,2,3,4,5,6,7,8,9,10]) hb aC aC trivial trivial)) sd sd).ends ?_;have e:=aRI node B hB ts mn cs hl tl (i+1) m g d.2 (by omega) (by omega);rw [←take_succ' f]at e;cases b:atF node tl m with
   |go q=>rw [b]at e;simp only [b];exact e
   |past=>rw [b]at e;simp only [b];exact e
   | did p=>
    rw [b]at e;simp only [b,AtR.isDid,AtR.map,AtR.getD,zq9,List.singleton_append]at e ⊢;exact e
  | past=>
   rw [hr]at hb;exact bBQ ts mn cs node n (i:Int) sd sd sd (aUd rfl a (vD (m:=10) (ks:=[0,1,2,3,4,5,6,7,8,9,10]) hb aC aC trivial trivial))
  | did c=>
   rw [hr]at hb;have o:ts.set i c=ts.take i++c::tl:=by rw [List.set_eq_take_append_cons_drop,if_pos l,g]
   have e:=bBR ts mn cs node n (i:Int) (ts.set i c) sd sd sd (aUd rfl a (vD (m:=10) (ks:=[0,1,2,3,4,5,6,7,8,9,10]) hb aC aC trivial trivial));rw [o]at e;exact e
theorem bBY (node B:Int)(hB:B≤1000000)(ts:List XT)(mn:Int)(cs:List Con)(hl:ts.length≤1000)(b:FineXs B ts)(c:aD ts≤100000) :
  gI PP 2 (.enter 74 [.ptr 0 0,.int .i64 node]) (aA (FHl ts.length mn cs ts) 3) (.ret (.bool (atF node ts 0).isDid)) (aA (FHl ts.length mn cs ((atF node ts 0).getD ts)) 3) :=by
 refine⟨(bDO ts mn cs node).as.fr,by kernel_rfl,?_⟩;have e:=aRI node B hB ts mn cs hl ts 0 0 rfl b (by omega) (by omega);have a: (AtR.map (fun x=>List.take 0 ts++x) (atF node ts 0)).getD ts= (atF node ts 0).getD ts:=by
  cases atF node ts 0<;>simp [AtR.map,AtR.getD]
 rw [a]at e;exact(bBP ts mn cs node).ends e
def aHp (g:Int→Int→Bool)(x:Node)(sz:Int) :Nat→List Int→Bool
 |_,[] =>true
 |j,k::ks=>g k (sz+dJ x j) &&aHp g x sz (j+1) ks
def jT (p:Prog) :Nat→Int→Int→Bool
 |0,_,_=>true
 | f+1,a,sz=>match p.nodes[a.toNat]? with
  |some x=>if x.op=4∧x.n≥sz then false else aHp (jT p f) x sz 0 x.kids
  |none=>true
noncomputable def aGo (p:Prog) :List (Nat×AObj×Bool) := (aGc p 0 0 0).hp
noncomputable def aXO (p:Prog)(b:Bool) :List (Nat×AObj×Bool) :=bif b then aGo p else bHS p
def sX (a fn sz:Int) :List AV:=[bE1 a fn sz,.ptr 5 0,.ptr 6 0,.ptr 0 0]
theorem aUf {p:Prog}{a fn sz b gn tz:Int}:∀ {r:Bool},Spec PP (.enter 133 (sX a fn sz)) (aA (aGo p) 8) (.ret (.bool r)) (aA (aXO p r) 8) →
  Spec PP (.enter 133 (sX a fn sz)) (aA (aGo p++ [(8,(.cells (putCells .leaf 0 [.int .i64 b,.int .i64 gn,.int .i64 tz]) 3 [] false),false)]) 9) (.ret (.bool r)) (aA (aXO p r++ [(8,(.cells (putCells .leaf 0 [.int .i64 b,.int .i64 gn,.int .i64 tz]) 3 [] false),false)]) 9)
 |true,h=>aFs h aC (by rfl) (by rfl) aC aC trivial aC aC aC
 |false,h=>aFs h aC (by rfl) (by rfl) aC aC trivial aC aC aC
theorem aUg (p:Prog)(a fn sz:Int) : (aGc p a fn sz).as= ⟨(aGc p a fn sz).as.fr,[],aA (aGo p) 8⟩ :=by kernel_rfl
theorem aUh (p:Prog)(a fn sz:Int) :dW PP (aA (aGo p) 8) (.enter 133 (sX a fn sz)) =some (aGc p a fn sz).as.fr:=by kernel_rfl
theorem aNc {p:Prog}(hp:FineP p){f:Nat}{a fn sz:Int}{x:Node}(i:0≤a)(g:p.nodes[a.toNat]?=some x)(m:0≤sz)(u:sz≤1000* (a+1))
  (o:∀ (k tz:Int),a<k→k<p.nodes.length→0≤tz→tz≤1000* (k+1) →Spec PP (.enter 133 (sX k fn tz)) (aA (aGo p) 8) (.ret (.bool (jT p f k tz))) (aA (aXO p (jT p f k tz)) 8)) :
  ∀ (t:List Int) (j:Nat),x.kids.drop j=t→Ends PP 8 (aBW p a fn sz x.kids ((length x.kids:Nat) :Int) (j:Int)).as (.ret (.bool (aHp (jT p f) x sz j t))) (aA (aXO p (aHp (jT p f) x sz j t)) 8)
 | [],j,h=>by
  have:=bL h;exact aWL p a fn sz x.kids _ j sd
 | k::t,j,h=>by
  obtain⟨s,v,y⟩ :=bI h;obtain⟨q,d,l⟩ :=hp.node _ _ g;have hk:=l k (kS s);have hb:=aM0 q (j:Int);have w:=hp.small;have n:IntKind.i64.wrap (sz+dJ x j) =sz+dJ x j:=wrap64 (by omega) (by omega);have c:=aUf (b:=a) (gn:=fn) (tz:=sz) (o k (sz+dJ x j) (by omega) (by omega) (by omega) (by omega));have e:=aPN q (k:= (j:Int)) (by omega) (by omega) d;rw [aHp];cases r:jT p f k (sz+dJ x j)
  case false=>
   rw [r]at c;rw [Bool.false_and];refine aWJ p a fn sz x.kids _ j k x _ sd sd sd i g e ?_;rw [n];exact c
  rw [r]at c;rw [nX];refine(aWK p a fn sz x.kids _ j k x _ sd sd sd i g e ?_ sd).ends ?_
  ·rw [n];exact c
  ·exact aNc hp i g m u o t (j+1) v
theorem aNd {p:Prog}(hp:FineP p)(fn:Int) :∀ (f:Nat) (a b:Int),0≤a→a<p.nodes.length→p.nodes.length-a.toNat≤f→0≤b→b≤1000* (a+1) →
  Spec PP (.enter 133 (sX a fn b)) (aA (aGo p) 8) (.ret (.bool (jT p f a b))) (aA (aXO p (jT p f a b)) 8)
 |0,a,b,d,n,q,_,_=>by omega
 | f + 1,a,b,d,n,q,m,o=>by
  refine⟨_,aUh p a fn b,?_⟩;obtain⟨x,c⟩ :∃x,p.nodes[a.toNat]?=some x:= ⟨_,kR (by omega)⟩;rw [←aUg];have l:=aNc hp (f:=f) (fn:=fn) d c m o (fun k s hk i j r=>aNd hp fn f k s (by omega) i (by omega) j r) x.kids 0 rfl;by_cases g:x.op=4
  · by_cases h:x.n≥b
    · have e:jT p (f+1) a b=false:=by rw [jT,c];simp only [g,h,and_self,if_true]
      rw [e];exact aWG p a fn b x d c (by simp [g]) (by simpa using h)
    · have e:jT p (f+1) a b=aHp (jT p f) x b 0 x.kids:=by rw [jT,c];simp only [h,and_false,if_false]
      rw [e];exact(aWH p a fn b x d c (by simp [g]) (by simpa using h)).ends l
  · have e:jT p (f+1) a b=aHp (jT p f) x b 0 x.kids:=by rw [jT,c];simp only [g,false_and,if_false]
    rw [e];exact(aWI p a fn b x d c (by simpa using g)).ends l
def aUi (p:Prog) :List Int→Bool
 | [] =>true
 |a::fs=>jT p p.nodes.length a 1&&aUi p fs
theorem aNe {p:Prog}(hp:FineP p) :∀ (t:List Int) (i:Nat),p.funs.drop i=t →
  Ends PP 0 (aJ0 p (i:Int)).as (.ret (.tup [(.bool (aUi p t)),(.int .i64 0)])) (aA [] 0)
 | [],i,h=>by
  have:=bL h;exact bAo p i sd
 | a::t,i,h=>by
  obtain⟨d,f,j⟩ :=bI h;have c:=hp.funs a (kS d);have g:=hp.fsmall;have b:=aNd hp i p.nodes.length a 1 c.1 c.2 (by omega) (by omega) (by omega);rw [aUi];cases e:jT p p.nodes.length a 1
  case false=>
   rw [e]at b;exact bAm p i a sd sd sd b
  rw [e]at b;refine(bAn p i a sd sd sd b sd).ends ?_;rw [nX];exact aNe hp t (i+1) f
abbrev aUj (a:List Int)(b c d:Int):AV:=.gl 1 1 0 (set a b.toNat (IntKind.i64.wrap (c+d))).length true
abbrev bGC (a:Prog):AV:=.gl 1 1 0 (replicate a.nodes.length (0:Int)).length true
abbrev bBZ (a:Nat)(b:Prog):=oC a [(iN b.nodes),(iI b.funs),(nI b.main),(iC b.cons)]
def zP(a:Prog)(c:Int)(b:List Int):TS:=⟨(tf 86 67 [kp 1 0,(2,.nils),(3,(.gl 1 1 0 b.length true)),(4,(nI c))] [kc f86 116,kl f86 116,.inBlock 0,kc f86 15]),[],[bBZ 0 a,oL 1 1 (jI b)],2⟩
def sY(a:Prog)(b:List Int)(c:Int):TS:=⟨(tf 86 67 [kp 1 0,(2,.nils),(3,(.gl 1 1 0 b.length true)),(5,(nI c))] [kc f86 244,kl f86 244,.inBlock 2,kc f86 31]),[],[bBZ 0 a,oL 1 1 (jI b)],2⟩
def zQ(a:Prog)(b:List Int)(c d:Int):TS:=⟨(tf 86 67 [kp 1 0,(2,.nils),(3,(.gl 1 1 0 b.length true)),(5,(nI d)),(6,(nI c))] [kc f86 15652,kl f86 15652,.inBlock 4,.inBlock 3,kc f86 979,kl f86 244,.inBlock 2,kc f86 31]),[],[bBZ 0 a,oL 1 1 (jI b)],2⟩
def yB(a:Prog)(b:List Int)(c:Int):TS:=⟨(tf 58 33 [kp 1 0,(2,(bV false)),(3,(iI b)),(4,(nI c))] [kc f58 116,kl f58 116,.inBlock 0,kc f58 15]),[],[bBZ 0 a],1⟩
def aQk (a:Prog):=fun b=>(tT 0 (start PP 86 [(Prog.av a)])<|gl 9 Node.av a.nodes<|.i [.mk a.nodes.length] [hr ((a.nodes.length:Nat) :Int),hr ((a.nodes.length:Nat) :Int),hA (a.nodes.length<100000)]<|.i [.lset 1 (jI (replicate a.nodes.length (0:Int)))] [.q (p:=replicate a.nodes.length (cC (0:Int)) = (jI (replicate a.nodes.length (0:Int)))) (aJo _ _ _)]<|.i [.set 10 (bGC a)] [.q (p:=(AV.gl 1 1 0 a.nodes.length true) = (bGC a)) (cF (aIz ..).symm)]<|.W 9 2 [0,1] (zP a 0 (replicate a.nodes.length (0:Int)))) b ⟨kk,trivial⟩
def bGD(c:Prog)(d:Int)(a:List Int):=tT 0 (zP c d a)<|gl 6 cC c.funs<|gd 2 15 (d< (c.funs.length:Int)) (gX cC 9 c.funs d<|fun b=>.i [rn 1,.ans (.ix)] [hA (0≤b),hA (b< (a.length:Int))]<|.y fun e:Int=>.i [.st (cC e) (cC 1)] [.a (((a)[b.toNat]?) =some e) (cU (f:=cC)),hr (some (cC 1))]<|.i [.lset 1 (jI (set a b.toNat 1))] [.q (p:=(jI a).set (0+b.toNat) (cC 1) = (jI (set a b.toNat 1))) (pX _ _ _ _)]<|.i [.set 3 (.gl 1 1 0 (set a b.toNat 1).length true)] [.q (p:=(AV.gl 1 1 0 a.length true) = (.gl 1 1 0 (set a b.toNat 1).length true)) (cF (fN ..).symm)]<|.i [.set 18 (.gl 1 1 0 (set a b.toNat 1).length true)] [.q (p:=(AV.gl 1 1 0 a.length true) = (.gl 1 1 0 (set a b.toNat 1).length true)) (cF (fN ..).symm)]<|gw 5 17 (d+1)<|.W 3 2 [0,1] (zP c (d+1) (set a b.toNat 1)))<|.W 9 2 [0,1] (sY c a 0)
def aQl:=fun a b c d e f g i j k l m=>bGD a b c|>.t f d g i j k e l m ⟨kk,trivial⟩
def aQm:=fun a b c d=>bGD a b c|>.f d ⟨kk,trivial⟩
def bGE(a:Prog)(b:List Int)(c:Int):=tT 0 (sY a b c)<|gl 6 Node.av a.nodes<|gd 2 29 (c< (a.nodes.length:Int)) (.W 10 2 [0,1] (zQ a b 0 c))<|gz 8 2 1 1 cC b true<|gE 0 2 (.ilst 1 (jI b) true)
def aQn:=fun a b c d=>bGE a b c|>.t d ⟨kk,trivial⟩
def aQo:=fun a b c d=>bGE a b c|>.f d tv
def bGF(g:Prog)(a:List Int)(i d:Int):=tT 0 (zQ g a i d)<|gX Node.av 7 g.nodes d<|fun f=>gl 2 cC f.kids<|gd 2 40 (i< (f.kids.length:Int)) (.y fun c:Int=>.y fun b:Int=>.y fun e:Int=>.y fun j:Int=>.i [rn 4,.regA (rd 4 (.ans (.idx (Node.av f))::rd 3 (.ans (.idx (cC c))::rd 3 (.ans (.ix)::.ans (.idx (cC b))::rd 3 [.ans (.idx (Node.av f)),.d,.d,.pure (nI e),.d,.ans (.ix),.st (cC j) (cC (IntKind.i64.wrap (b+e)))])))) [(some (.idx (cC b))),none,none,none]] [hA (0≤d),.a (((g.nodes)[d.toNat]?) =some f) (bC (f:=Node.av)),hA (0≤i),.a (((f.kids)[i.toNat]?) =some c) (bC (f:=cC)),hA (0≤d),hA (d< ((a.length:Nat) :Int)),.a (((a)[d.toNat]?) =some b) (cU (f:=cC)),hA (0≤d),.a (((g.nodes)[d.toNat]?) =some f) (bC (f:=Node.av)),hA (aM PP 121 [(Node.av f),(nI i)] (nI e)),hA (0≤c),hA (c< ((a.length:Nat) :Int)),.a (((a)[c.toNat]?) =some j) (cU (f:=cC)),hr (some (cC (IntKind.i64.wrap (b+e)))),hr (nI b),.a (((a)[d.toNat]?) =some b) (cU (f:=cC)),hr (nI b),.a (((a)[d.toNat]?) =some b) (cU (f:=cC)),hr (nI c),hr (nI c),hr (ilst 1 (jI f.kids) false),hr (ilst 1 (jI f.kids) false),hr (ilst 4 (jN g.nodes) false),hr (ilst 4 (jN g.nodes) false)]<|.i [.lset 1 (jI (set a c.toNat (IntKind.i64.wrap (b+e))))] [.q (p:=(jI a).set (0+c.toNat) (cC (IntKind.i64.wrap (b+e))) = (jI (set a c.toNat (IntKind.i64.wrap (b+e))))) (pX _ _ _ _)]<|.i [.set 3 (aUj a c b e)] [.q (p:=(AV.gl 1 1 0 a.length true) = (aUj a c b e)) (cF (fN ..).symm)]<|.i [.set 43 (aUj a c b e)] [.q (p:=(AV.gl 1 1 0 a.length true) = (aUj a c b e)) (cF (fN ..).symm)]<|.i [.set 53 (aUj a c b e)] [.q (p:=(AV.gl 1 1 0 a.length true) = (aUj a c b e)) (cF (fN ..).symm)]<|gw 4 42 (i+ (1:Int))<|.W 3 2 [0,1] (zQ g (set a c.toNat (IntKind.i64.wrap (b+e))) (i+ (1:Int)) d))<|gw 6 31 (d+ (1:Int))<|.W 3 2 [0,1] (sY g a (d+ (1:Int)))
def aQp:=fun d e f g i j k l m a b n o p q c r s t u v=>bGF d e f g i a b|>.t n j k l m a b o p a q c a b r s t u c c v ⟨kk,trivial⟩
def aQq:=fun a b c d e f g i j=>bGF a b c d e f g|>.f i j ⟨kk,trivial⟩
def aUk (b:Prog):=fun a c=>(tT 0 (start PP 58 [(Prog.av b)])<|.y fun a:List Int=>gp 8 86 [(Prog.av b)] (iI a)<|.W 9 1 [0] (yB b a 0)) a c tv
def bB0(c:Prog)(d:List Int)(a:Int):=tT 0 (yB c d a)<|gl 5 cC d<|gd 2 10 (a< (d.length:Int)) (.o (.y fun b:Node=>.y fun e:Int=>.i [rn 5,.reg (rd 3 (.ans (.idx (Node.av b))::rd 4 (.b 20 true::rd 3 (.ans (.idx (Node.av b))::rd 4 (.ans (.idx (cC e))::rd 3 [])))))] [hA (0≤a),.a (((c.nodes)[a.toNat]?) =some b) (bC (f:=Node.av)),hA ((b.op==4) =true),hA (0≤a),.a (((c.nodes)[a.toNat]?) =some b) (bC (f:=Node.av)),hA (0≤a),.a (((d)[a.toNat]?) =some e) (bC (f:=cC))]<|gd 0 32 (b.n≥e) (gE 6 1 (bV false))<|gw 6 12 (a+1)<|.W 3 1 [0] (yB c d (a+1)))<|.y fun b:Node=>.i [rn 5,.reg (rd 3 (.ans (.idx (Node.av b))::rd 4 (.b 20 false::rd 12 [])))] [hA (0≤a),.a (((c.nodes)[a.toNat]?) =some b) (bC (f:=Node.av)),hA ((b.op==4) =false)]<|gw 6 12 (a+1)<|.W 3 1 [0] (yB c d (a+1)))<|gE 7 1 (bV true)
def aUl:=fun c d e f g i a b j k l=>bB0 c d e|>.t i|>.1 f g a b j a b a k|>.t l tv
def aUm:=fun c d e f g i a b j k l m=>bB0 c d e|>.t i|>.1 f g a b j a b a k|>.f l m tv
def aUn:=fun a b c d e f g i j=>bB0 a b c|>.t e|>.2 d f g i j tv
def aUo:=fun a b c d=>bB0 a b c|>.f d tv
def jU (x:Node)(i:Nat) :Nat→List Int→List Int→List Int
 |_,[],l=>l
 |j,k::ks,l=>jU x i (j+1) ks (l.set k.toNat (l.getD i 0+dJ x j))
def iO :Nat→List Node→List Int→List Int
 |_,[],l=>l
 |i,x::t,l=>iO (i+1) t (jU x i 0 x.kids l)
def nF :List Int→List Int→List Int
 | [],l=>l
 |f::fs,l=>nF fs (l.set f.toNat 1)
def kJ (p:Prog) :List Int:=iO 0 p.nodes (nF p.funs (replicate p.nodes.length 0))
theorem qF (x:Node)(i:Nat) :∀ (t:List Int) (j:Nat) (l:List Int),(jU x i j t l).length=l.length
 | [],_,_=>rfl
 |k::t,j,l=>by rw [jU,qF x i t];simp
theorem aDJ :∀ (t:List Node) (i:Nat) (l:List Int),(iO i t l).length=l.length
 | [],_,_=>rfl
 |x::t,i,l=>by rw [iO,aDJ t,qF]
theorem vG :∀ (t:List Int) (l:List Int),(nF t l).length=l.length
 | [],_=>rfl
 |f::t,l=>by rw [nF,vG t];simp
theorem aA1 (p:Prog) : (kJ p).length=p.nodes.length:=by rw [kJ,aDJ,vG];simp
def upTo (B:Int)(l:List Int) :Prop:=∀z∈l,0≤z∧z≤B
theorem aXP {B:Int}{l:List Int}(h:upTo B l){i:Nat}(a:i<l.length) :0≤l.getD i 0∧l.getD i 0≤B:=by
 rw [nY,kR a];exact h _ (List.getElem_mem a)
theorem aNf {B C:Int}{l:List Int}(h:upTo B l)(b:B≤C){i:Nat}{z:Int}(a:0≤z)(h1:z≤C) :upTo C (l.set i z) :=fun k hk=>by
 rcases List.mem_or_eq_of_mem_set hk with g|g
 ·have:=h k g;omega
 ·rw [g];exact⟨a,h1⟩
theorem aUp {B C:Int}{l:List Int}(h:upTo B l)(a:B≤C) :upTo C l:=fun k hk=>by have:=h k hk;omega
theorem bGG {p:Prog}(hp:FineP p){i:Nat}{x:Node}(c:p.nodes[i]?=some x){b:AV}{h':Hp} :
  ∀ (t:List Int) (j:Nat) (l:List Int) (B:Int),l.length=p.nodes.length→0≤B→upTo B l→B+12*t.length≤1000000→x.kids.drop j=t →
   (upTo (B+12*t.length) (jU x i j t l) →Ends PP 0 (sY p (jU x i j t l) ((i:Int) +1)).as (.ret b) h') →Ends PP 0 (zQ p l (j:Int) (i:Int)).as (.ret b) h'
 | [],j,l,B,hl,o,hB,hb,h,hk=>by
  have:=bL h;have v:= (zq0.1 c).1;have q:=hp.small;refine(aQq p l j i x sd sd sd sd).ends (hk ?_);simpa [jU]using hB
 | k::t,j,l,B,hl,o,hB,hb,h,hk=>by
  obtain⟨m,u,z⟩ :=bI h;obtain⟨e,a,d⟩ :=hp.node _ _ c;have n:=d k (kS m);have v:= (zq0.1 c).1;have q:=hp.small;have w:=aM0 e (j:Int);have hz:=aXP hB (i:=i) (by omega);have r:l[i]?=some (l.getD i 0) :=by rw [nY,kR (by omega)];rfl
  obtain⟨y,g⟩ :∃y,l[k.toNat]?=some y:= ⟨_,kR (by omega)⟩;simp only [mO]at hb;have f:IntKind.i64.wrap (l.getD i 0+dJ x j) =l.getD i 0+dJ x j:=wrap64 (by omega) (by omega);have st:=aQp p l j i x k (l.getD i 0) (dJ x j) y sd sd sd sd sd (by omega) sd (aPO e (by omega) (by omega) a) (by omega) (by omega) g sd;rw [f]at st;refine st.ends ?_;refine bGG hp c t (j+1) (l.set k.toNat (l.getD i 0+dJ x j)) (B+12) (by simpa using hl) (by omega) (aNf hB (by omega) (by omega) (by omega)) (by omega) u (fun s=>?_);have:=hk (by rw [jU];exact aUp s (by simp only [mO];omega));rw [jU]at this;exact this
theorem rS1 {p:Prog}(hp:FineP p) :∀ (t:List Node) (i:Nat) (l:List Int) (B:Int),l.length=p.nodes.length→0≤B→upTo B l→B+120*t.length≤1000000→p.nodes.drop i=t →
  Ends PP 0 (sY p l (i:Int)).as (.ret (.ilst 1 (List.map cC (iO i t l)) true)) (aA [] 0)
 | [],i,l,B,hl,b,hB,hb,h=>by
  have:=bL h;exact aQo p l i sd
 | x::t,i,l,B,hl,b,hB,hb,h=>by
  obtain⟨a,e,j⟩ :=bI h;obtain⟨g,c,f⟩ :=hp.node _ _ a;simp only [mO]at hb;refine(aQn p l i sd).ends ?_;refine bGG hp a x.kids 0 l B hl b hB (by omega) rfl (fun d=>?_);rw [iO];exact rS1 hp t (i+1) _ (B+12*x.kids.length) (by rw [qF,hl]) (by omega) d (by omega) e
theorem rS0 {p:Prog}(hp:FineP p) :∀ (t:List Int) (i:Nat) (l:List Int),l.length=p.nodes.length→upTo 1 l→p.funs.drop i=t →
  Ends PP 0 (zP p (i:Int) l).as (.ret (.ilst 1 (List.map cC (iO 0 p.nodes (nF t l))) true)) (aA [] 0)
 | [],i,l,hl,hB,h=>by
  have:=bL h;have e:=hp.small;refine(aQm p i l sd).ends ?_;exact rS1 hp p.nodes 0 l 1 hl (by omega) hB (by omega) rfl
 | a::t,i,l,hl,hB,h=>by
  obtain⟨c,d,j⟩ :=bI h;have f:=hp.funs a (kS c);have g:=hp.fsmall;obtain⟨y,b⟩ :∃y,l[a.toNat]?=some y:= ⟨_,kR (by omega)⟩;refine(aQl p i l a y sd sd sd (by omega) (by omega) b sd).ends ?_;exact rS0 hp t (i+1) _ (by simpa using hl) (aNf hB (by omega) (by omega) (by omega)) d
theorem aNg {p:Prog}(hp:FineP p) :aM PP 86 [Prog.av p] (.ilst 1 (List.map cC (kJ p)) false) :=by
 refine aJ aC rfl rfl ?_;have a:=hp.small;refine Ends.val ?_ (fun E b=>qD);refine(aQk p (by omega)).ends ?_;exact rS0 hp p.funs 0 _ (by simp) (fun z hz=>by have:= (List.mem_replicate.1 hz).2;omega) rfl
def nG (p:Prog)(S:List Int)(i:Nat) :Bool:=match p.nodes[i]?,S[i]? with
 |some x,some s=> !(decide (x.op=4) &&decide (x.n≥s))
 |_,_=>true
def iD (p:Prog)(S:List Int) :Nat→List Int→Bool
 |_,[] =>true
 |i,_::t=>nG p S i&&iD p S (i+1) t
theorem rSh {p:Prog}(f:p.nodes.length≤320)(S:List Int)(g:S.length=p.nodes.length) :∀ (t:List Int) (i:Nat),S.drop i=t→Ends PP 0 (yB p S (i:Int)).as (.ret (.bool (iD p S i t))) (aA [] 0)
 | [],i,h=>by
  have:=bL h;exact aUo p S i sd
 | s ::t,i,h=>by
  obtain⟨c,j,k⟩ :=bI h;obtain⟨x,d⟩ :∃x,p.nodes[i]?=some x:= ⟨_,kR (by omega)⟩;have e:=rSh f S g t (i+1) j;by_cases a:x.op=4
  · by_cases b:x.n≥s
    ·exact Ends.eqv (aUl p S i x s sd sd sd (by simp [a]) sd (by simpa using b)) (by simp only [iD,nG,d,c,a,b];simp)
    · refine(aUm p S i x s sd sd sd (by simp [a]) sd (by simpa using b) sd).ends ?_;exact Ends.eqv e (by simp only [iD,nG,d,c,a,b];simp)
  · refine(aUn p S i x sd sd sd (by simpa using a) sd).ends ?_;exact Ends.eqv e (by simp only [iD,nG,d,c,a];simp)
theorem aQr {p:Prog}(hp:FineP p) :aM PP 58 [Prog.av p] (.bool (iD p (kJ p) 0 (kJ p))) :=by
 refine aJ aC rfl rfl ?_;refine(aUk p (kJ p) (aNg hp)).ends ?_;exact rSh hp.small (kJ p) (aA1 p) (kJ p) 0 rfl
theorem qG {lo n:Int}:∀ {b:List Int} {u v:List Bool},marks lo n b u=some v→∀k∈b,lo≤k∧k≤n-1
 | [],_,_,_,k,hk=>by cases hk
 | a ::b,u,v,h,k,hk=>by
  simp only [marks]at h;split at h
  · rename_i g;rcases zq7.1 hk with rfl|hk
    ·exact inB_iff.1 g.1
    ·exact qG h k hk
  ·cases h
theorem zR {lo n:Int}:∀ {b:List Int} {u v:List Bool},marks lo n b u=some v→∀m:Nat,v[m]?=some true→u[m]?=some true∨∃k∈b,k.toNat=m
 | [],u,v,h,m,hm=>by simp only [marks,Option.some.injEq]at h;rw [h];exact .inl hm
 | a ::b,u,v,h,m,hm=>by
  simp only [marks]at h;split at h
  · rcases zR h m hm with g| ⟨k,hk,e⟩
    · by_cases e:a.toNat=m
      ·exact .inr ⟨a,cQ ..,e⟩
      ·rw [getElem?_set_ne e]at g;exact .inl g
    ·exact .inr ⟨k,cH _ hk,e⟩
  ·cases h
theorem qH {lo n:Int}:∀ {b:List Int} {u v:List Bool},marks lo n b u=some v→∀m:Nat,u[m]?=some true→v[m]?=some true
 | [],u,v,h,m,hm=>by simp only [marks,Option.some.injEq]at h;rw [←h];exact hm
 | a ::b,u,v,h,m,hm=>by
  simp only [marks]at h;split at h
  · rename_i g;refine qH h m ?_;by_cases e:a.toNat=m
    ·subst e;rw [hm]at g;exact absurd g.2 (by simp)
    ·rw [getElem?_set_ne e];exact hm
  ·cases h
theorem lH {lo n k:Int}{ks:List Int}{u v:List Bool}(h:marks lo n (k::ks) u=some v) :u[k.toNat]?=some false∧marks lo n ks (u.set k.toNat true) =some v:=by
 simp only [marks]at h;split at h
 ·rename_i g;exact⟨g.2,h⟩
 ·cases h
theorem gV {p:Prog}{i:Nat}{x:Node}{t:List Node}{u v:List Bool}(h:bT p i (x::t) u=some v) :aP p x=true∧∃w,marks ((i:Int) +1) p.nodes.length x.kids u=some w∧bT p (i+1) t w=some v:=by
 simp only [bT]at h;split at h
 · rename_i g;split at h
   ·rename_i w a;exact⟨g,w,a,h⟩
   ·cases h
 ·cases h
theorem aCb {p:Prog}:∀ {t:List Node} {i:Nat} {u v:List Bool},bT p i t u=some v→∀m:Nat,m≤i→v[m]?=some true→u[m]?=some true
 | [],i,u,v,h,m,_,hm=>by simp only [bT,Option.some.injEq]at h;rw [h];exact hm
 | x::t,i,u,v,h,m,c,hm=>by
  obtain⟨_,w,a,b⟩ :=gV h;rcases zR a m (aCb b m (by omega) hm)with g| ⟨k,hk,e⟩
  ·exact g
  ·have:=qG a k hk;omega
theorem mJ {p:Prog}:∀ {t:List Node} {i:Nat} {u v:List Bool},bT p i t u=some v→v.length=u.length
 | [],i,u,v,h=>by simp only [bT,Option.some.injEq]at h;rw [h]
 | x::t,i,u,v,h=>by
  obtain⟨_,w,b,a⟩ :=gV h;rw [mJ a,kB b]
theorem mK {p:Prog}:∀ {t:List Node} {i:Nat} {u v:List Bool},bT p i t u=some v→∀ (j:Nat) (x:Node),t[j]?=some x→aP p x=true∧∀k∈x.kids,((i+j:Nat) :Int) <k∧k<p.nodes.length
 | [],i,u,v,h,j,x,a=>by simp at a
 | y::t,i,u,v,h,j,x,a=>by
  obtain⟨g,w,c,b⟩ :=gV h;cases j with
  | zero=>
   simp at a;subst a;exact⟨g,fun k hk=>by have:=qG c k hk;omega⟩
  | succ j=>
   have:=mK b j x (by simpa using a);exact⟨this.1,fun k hk=>by have:=this.2 k hk;omega⟩
theorem aCc {p:Prog}:∀ {t:List Node} {i:Nat} {u v:List Bool},bT p i t u=some v→∀m:Nat,v[m]?=some true→u[m]?=some true∨∃ (j:Nat) (x:Node) (k:Int),t[j]?=some x∧k∈x.kids∧k.toNat=m
 | [],i,u,v,h,m,hm=>by simp only [bT,Option.some.injEq]at h;rw [h];exact .inl hm
 | y ::t,i,u,v,h,m,hm=>by
  obtain⟨g,w,o,n⟩ :=gV h;rcases aCc n m hm with a| ⟨j,x,k,l,d,f⟩
  · rcases zR o m a with b| ⟨k,e,c⟩
    ·exact .inl b
    ·exact .inr ⟨0,y,k,rfl,e,c⟩
  ·exact .inr ⟨j+1,x,k,by simpa using l,d,f⟩
theorem rH {x:Node}{i:Nat}{lo n:Int}:∀ {t:List Int} {j:Nat} {u v:List Bool} {l:List Int},marks lo n t u=some v→∀m:Nat,u[m]?=some true→ (jU x i j t l)[m]?=l[m]?
 | [],_,_,_,_,_,_,_=>rfl
 | k::t,j,u,v,l,h,m,hm=>by
  obtain⟨b,c⟩ :=lH h;have a:k.toNat≠m:=fun e=>by rw [e,hm]at b;cases b
  rw [jU,rH c m (by rw [getElem?_set_ne a];exact hm),getElem?_set_ne a]
theorem pF {p:Prog}:∀ {t:List Node} {i:Nat} {u v:List Bool} {l:List Int},bT p i t u=some v→∀m:Nat,u[m]?=some true→ (iO i t l)[m]?=l[m]?
 | [],_,_,_,_,_,_,_=>rfl
 | x::t,i,u,v,l,h,m,hm=>by
  obtain⟨_,w,a,b⟩ :=gV h;rw [iO,pF b m (qH a m hm),rH a m hm]
theorem aDK {lo n:Int}:∀ {t:List Int} {u v:List Bool} {l:List Int},marks lo n t u=some v→∀m:Nat,u[m]?=some true→ (nF t l)[m]?=l[m]?
 | [],_,_,_,_,_,_=>rfl
 | k::t,u,v,l,h,m,hm=>by
  obtain⟨b,c⟩ :=lH h;have a:k.toNat≠m:=fun e=>by rw [e,hm]at b;cases b
  rw [nF,aDK c m (by rw [getElem?_set_ne a];exact hm),getElem?_set_ne a]
theorem aGp {x:Node}{i:Nat}{lo n:Int}:∀ {t:List Int} {j:Nat} {u v:List Bool} {l:List Int},marks lo n t u=some v→u.length=l.length→u[i]?=some true→∀ (d:Nat) (k:Int),t[d]?=some k→ (jU x i j t l)[k.toNat]?=some (l.getD i 0+dJ x ((j+d:Nat) :Int))
 | [],_,_,_,_,_,_,_,d,k,hk=>by simp at hk
 | a::t,j,u,v,l,h,f,m,d,k,hk=>by
  obtain⟨c,o⟩ :=lH h;have b:a.toNat≠i:=fun e=>by rw [e,m]at c;cases c
  have g:a.toNat<u.length:= (zq0.1 c).1;rw [jU];cases d with
  | zero=>
   simp at hk;subst hk;rw [rH o _ (by rw [getElem?_set_self g]),getElem?_set_self (by omega)];simp
  | succ d=>
   have:=aGp (x:=x) (i:=i) (j:=j+1) (l:=l.set a.toNat (l.getD i 0+dJ x j)) o (by simpa using f) (by rw [getElem?_set_ne b];exact m) d k (by simpa using hk);rw [this,nY,getElem?_set_ne b,←nY];congr 3;omega
theorem aDL {p:Prog}:∀ {t:List Node} {i:Nat} {u v:List Bool} {l:List Int},bT p i t u=some v→ (∀m,m<v.length→v[m]?=some true) →u.length=l.length→i+t.length≤u.length→∀ (j:Nat) (x:Node) (d:Nat) (k:Int),t[j]?=some x→x.kids[d]?=some k →
  ∃s,(iO i t l)[i+j]?=some s∧ (iO i t l)[k.toNat]?=some (s+dJ x d)
 | [],_,_,_,_,_,_,_,_,j,x,d,k,e,_=>by simp at e
 | y ::t,i,u,v,l,h,D,f,o,j,x,d,k,e,hk=>by
  obtain⟨_,w,b,c⟩ :=gV h;have q:=kB b;simp only [mO]at o;rw [iO];cases j with
  | zero=>
   simp at e;subst e;have H:=mJ h;have A:u[i]?=some true:=aCb h i (Nat.le_refl _) (D i (by omega));have r:=aGp (x:=y) (i:=i) (j:=0) (l:=l) b f A d k hk;have z:w[k.toNat]?=some true:=by
    have C:=qG b k (kS hk);have all:∀ {B n:Int} {g:List Int} {u v:List Bool},marks B n g u=some v→∀k∈g,v[k.toNat]?=some true:=by
     intro B n g
     induction g with
     |nil=>intro u v _ k hk;cases hk
     | cons a g I=>
      intro u v h k hk;obtain⟨F,c⟩ :=lH h;rcases zq7.1 hk with rfl|hk
      ·exact qH c _ (getElem?_set_self (zq0.1 F).1)
      ·exact I c k hk
    exact all b k (kS hk)
   refine⟨l.getD i 0,?_,?_⟩
   · show(iO (i+1) t (jU y i 0 y.kids l))[i]?=some (l.getD i 0);rw [pF c i (qH b i A),rH b i A,nY,kR (by omega)];rfl
   ·rw [pF c _ z,r];simp
  | succ j=>
   obtain⟨s,G,J⟩ :=aDL (l:=jU y i 0 y.kids l) c D (by rw [qF,q,f]) (by omega) j x d k (by simpa using e) hk;exact⟨s,by rw [←G];congr 1;omega,J⟩
structure Sprop (p:Prog) (S:List Int) :Prop where
 len:S.length=p.nodes.length
 root:∀f∈p.funs,S[f.toNat]?=some 1
 kid:∀ (i:Nat) (x:Node) (d:Nat) (k:Int),p.nodes[i]?=some x→x.kids[d]?=some k→∃s,S[i]?=some s∧S[k.toNat]?=some (s+dJ x d)
def zS (p:Prog) :Prop:=∀m,m<p.nodes.length→ (∃f∈p.funs,f.toNat=m) ∨∃ (i:Nat) (x:Node) (k:Int),p.nodes[i]?=some x∧k∈x.kids∧k.toNat=m∧i<m
theorem aDM {lo n:Int}:∀ {t:List Int} {u v:List Bool} {l:List Int},marks lo n t u=some v→u.length=l.length→∀f∈t,(nF t l)[f.toNat]?=some 1
 | [],_,_,_,_,_,f,b=>by cases b
 | a::t,u,v,l,h,c,f,b=>by
  obtain⟨g,e⟩ :=lH h;have d:a.toNat<u.length:= (zq0.1 g).1;rw [nF];rcases zq7.1 b with rfl|b
  ·rw [aDK e _ (getElem?_set_self d),getElem?_set_self (by omega)]
  ·exact aDM e (by simpa using c) f b
theorem kC {p:Prog}(hp:aF p=true)(c:aK p=true) :FineP p∧Sprop p (kJ p) ∧zS p:=by
 have D:=hp;simp only [aF,cP,decide_eq_true_eq]at D;obtain⟨⟨⟨⟨J,N⟩,Q⟩,_⟩,K⟩ :=D;simp only [aK,cP]at c;obtain⟨_,c⟩ :=c;split at c
 · rename_i u t;unfold allT at c;split at c
   · rename_i v w;have o:u.length=p.nodes.length:=by rw [kB t];simp
     have I:v.length=p.nodes.length:=by rw [mJ w,o]
     have e:∀m,m<v.length→v[m]?=some true:=fun m hm=>by
      rw [kR hm];have:=zq27.1 c _ (List.getElem_mem hm);simpa using this
     have b:=mK w;refine⟨⟨J,N,fun i x y=>?_,fun f c=>?_⟩,⟨aA1 p,fun f c=>?_,fun i x d k y hk=>?_⟩,fun m hm=>?_⟩
     · have:=b i x y;have r:=zq27.1 K x (kS y);simp only [bD,cP,decide_eq_true_eq]at r;exact⟨aJZ this.1,r.1.1,fun k hk=>by have:=this.2 k hk;omega⟩
     ·have:=qG t f c;omega
     · rw [kJ];have z:u[f.toNat]?=some true:=by
        have all:∀ {C n:Int} {q:List Int} {u v:List Bool},marks C n q u=some v→∀k∈q,v[k.toNat]?=some true:=by
         intro C n q
         induction q with
         |nil=>intro u v _ k hk;cases hk
         | cons a q O=>
          intro u v h k hk;obtain⟨L,F⟩ :=lH h;rcases zq7.1 hk with rfl|hk
          ·exact qH F _ (getElem?_set_self (zq0.1 L).1)
          ·exact O F k hk
        exact all t f c
       rw [pF w _ z];exact aDM t (by simp) f c
     · obtain⟨s,A,B⟩ :=aDL (l:=nF p.funs (replicate p.nodes.length 0)) w e (by rw [vG,o];simp) (by omega) i x d k y hk;exact⟨s,by rw [kJ,←A];congr 1;omega,B⟩
     · rcases aCc w m (e m (by omega))with g| ⟨j,x,k,G,H,M⟩
       · rcases zR t m g with a| ⟨f,A,B⟩
         ·rw [List.getElem?_replicate]at a;split at a<;>simp at a
         ·exact .inl ⟨f,A,B⟩
       · have:= (b j x G).2 k H;exact .inr ⟨j,x,k,G,H,M,by omega⟩
   ·cases c
 ·cases c
inductive Reach (p:Prog) :Nat→Nat→Prop where
 |refl (a:Nat) :Reach p a a
 |step {a i:Nat} {x:Node} {k:Int}:Reach p a i→p.nodes[i]?=some x→k∈x.kids→Reach p a k.toNat
theorem Reach.first {p:Prog}{a m:Nat}(h:Reach p a m) :m=a∨∃ (x:Node) (k:Int),p.nodes[a]?=some x∧k∈x.kids∧Reach p k.toNat m:=by
 induction h with
 |refl=>exact .inl rfl
 | step h hx hk ih=>
  rename_i i x k;rcases ih with rfl| ⟨y,q,h1,h2,h3⟩
  ·exact .inr ⟨x,k,hx,hk,Reach.refl _⟩
  ·exact .inr ⟨y,q,h1,h2,h3.step hx hk⟩
theorem aHq {p:Prog}(hc:zS p) :∀m,m<p.nodes.length→∃f∈p.funs,Reach p f.toNat m:=by
 intro m
 induction m using Nat.strongRecOn with
 | ind m ih=>
  intro hm;rcases hc m hm with⟨f,h1,h2⟩ | ⟨i,x,k,h1,h2,h3,h4⟩
  ·exact⟨f,h1,h2 ▸ Reach.refl _⟩
  · obtain⟨f,g1,g2⟩ :=ih i h4 (by omega);exact⟨f,g1,h3 ▸ g2.step h1 h2⟩
theorem aIh {p:Prog}(hp:FineP p){S:List Int}(hS:Sprop p S) :∀ (f:Nat) (a:Nat) (s:Int),a<p.nodes.length→p.nodes.length-a≤f→S[a]?=some s →
  (jT p f (a:Int) s=true↔∀m:Nat,Reach p a m→nG p S m=true)
 |0,a,s,ha,hf,_=>by omega
 | f + 1,a,s,ha,hf,hs=>by
  obtain⟨x,hx⟩ :∃x,p.nodes[a]?=some x:= ⟨_,kR ha⟩;obtain⟨_,_,hks⟩ :=hp.node a x hx;have e:jT p (f+1) (a:Int) s= (if x.op=4∧x.n≥s then false else aHp (jT p f) x s 0 x.kids) :=by
   rw [jT];simp only [kZ,hx]
  have ok:nG p S a=true↔¬ (x.op=4∧x.n≥s) :=by
   unfold nG;rw [hx,hs];by_cases h4:x.op=4<;>by_cases hn:x.n≥s<;>simp [h4,hn]
  have fold:∀ (t:List Int) (j:Nat),x.kids.drop j=t→ (aHp (jT p f) x s j t=true↔∀k∈t,∀m:Nat,Reach p k.toNat m→nG p S m=true) :=by
   intro t
   induction t with
   |nil=>intro j _;exact⟨fun _ k hk=> (by cases hk),fun _=>rfl⟩
   | cons k t ih=>
    intro j h;obtain⟨g1,g2,g3⟩ :=bI h;have hk:=hks k (kS g1);obtain⟨s',c1,c2⟩ :=hS.kid a x j k hx g1;rw [hs]at c1;cases c1;have hkn: ((k.toNat:Nat) :Int) =k:=by omega
    have w:=aIh hp hS f k.toNat (s+dJ x j) (by omega) (by omega) c2;rw [hkn]at w;rw [aHp,cP,w,ih (j+1) g2];constructor
    · intro⟨h1,h2⟩ q hq;rcases zq7.1 hq with rfl|hq
      ·exact h1
      ·exact h2 q hq
    · intro h;exact⟨h k (cQ ..),fun q hq=>h q (cH _ hq)⟩
  rw [e];constructor
  · intro h m hr;split at h
    ·cases h
    · rename_i hno;rcases hr.first with rfl| ⟨y,k,h1,h2,h3⟩
      ·exact ok.2 hno
      · rw [hx]at h1;cases h1;exact(fold x.kids 0 rfl).1 h k h2 m h3
  · intro h;have h0:=ok.1 (h a (Reach.refl _));rw [if_neg h0];refine(fold x.kids 0 rfl).2 fun k hk m hr=>h m ?_;have all:∀ {b m:Nat},Reach p b m→∀ {a:Nat} {x:Node} {k:Int},p.nodes[a]?=some x→k∈x.kids→b=k.toNat→Reach p a m:=by
     intro b m hr
     induction hr with
     |refl=>intro a x k hx hk e;rw [e];exact(Reach.refl a).step hx hk
     |step h hx' hk' ih=>intro a x k hx hk e;exact(ih hx hk e).step hx' hk'
    exact all hr hx hk rfl
theorem aNh {p:Prog}(hp:FineP p){S:List Int}(hS:Sprop p S) :∀ (t:List Int),(∀f∈t,f∈p.funs) → (aUi p t=true↔∀f∈t,∀m:Nat,Reach p f.toNat m→nG p S m=true)
 | [],_=> ⟨fun _ f hf=> (by cases hf),fun _=>rfl⟩
 | a ::t,ht=>by
  have ha:=hp.funs a (ht a (cQ ..));have han: ((a.toNat:Nat) :Int) =a:=by omega
  have w:=aIh hp hS p.nodes.length a.toNat 1 (by omega) (by omega) (hS.root a (ht a (cQ ..)));rw [han]at w;rw [aUi,cP,w,aNh hp hS t (fun f hf=>ht f (cH _ hf))];constructor
  · intro⟨h1,h2⟩ q hq;rcases zq7.1 hq with rfl|hq
    ·exact h1
    ·exact h2 q hq
  · intro h;exact⟨h a (cQ ..),fun q hq=>h q (cH _ hq)⟩
theorem pG (p:Prog)(S:List Int) :∀ (t:List Int) (i:Nat),iD p S i t=true↔∀j,j<t.length→nG p S (i+j) =true
 | [],i=>by simp [iD]
 | a ::t,i=>by
  rw [iD,cP,pG p S t (i+1)];constructor
  · intro⟨h1,h2⟩ j hj;cases j with
    |zero=>exact h1
    |succ j=>have:=h2 j (by simpa using hj);rw [show i+ (j+1) =i+1+j by omega];exact this
  · intro h;refine⟨h 0 (by simp),fun j hj=>?_⟩;have:=h (j+1) (by simpa using hj);rw [show i+1+j=i+ (j+1)by omega];exact this
theorem aUq {p:Prog}(hp:FineP p){S:List Int}(hS:Sprop p S)(hc:zS p) :aUi p p.funs=iD p S 0 S:=by
 rw [Bool.eq_iff_iff,aNh hp hS p.funs (fun f hf=>hf),pG];constructor
 · intro h j hj;rw [hS.len]at hj;obtain⟨f,h1,h2⟩ :=aHq hc j hj;rw [eM];exact h f h1 j h2
 · intro h f hf m hr;by_cases hm:m<S.length
   ·have:=h m hm;rwa [eM]at this
   · unfold nG;rw [aEQ (by rw [hS.len]at hm;omega)]
def dD (p:Prog) :Bool×Int:=if aK p=true then(iD p (kJ p) 0 (kJ p),0)else(false,2)
theorem yC {p:Prog}(hs:aF p=true) :aM PP 45 [Prog.av p] (.int .i64 (checkN (aK p))) :=by
 have h2:=aMW p hs;rw [aTV]at h2;exact h2
theorem vH {p:Prog}(hs:aF p=true) :aM PP 46 [Prog.av p] (.tup [.bool (dD p).1,.int .i64 (dD p).2]) :=by
 refine aJ aC rfl rfl ?_;have hc:=yC hs;have e0: (start PP 46 [Prog.av p]).as= (bDD p).as:=by kernel_rfl
 rw [e0];cases hf:aK p
 case false=>
  rw [hf]at hc;exact Ends.eqv (bAk p _ hc (by rfl)) (by simp [dD,hf,checkN])
 rw [hf]at hc;obtain⟨q1,q2,q3⟩ :=kC hs hf;refine(bAl p _ hc (by rfl)).ends ?_;exact Ends.eqv (aNe q1 p.funs 0 rfl) (by rw [aUq q1 q2 q3];simp [dD,hf])
abbrev aDN(a:Prog):Nat ×AObj×Bool:=oC 1 [(iN a.nodes),(iI a.funs),(nI a.main),(iC a.cons)]
abbrev aRJ(a:Option Addr)(b c:Nat)(d:List Int):Nat×AObj×Bool:=(2,(.lstv (Value.slice a b c) 1 (jI d)),true)
def aXQ(b:Prog)(a:List ONode)(c:Int)(d e:List Int):TS:=cA PP 60 [(.gl 0 4 0 a.length false),(Prog.av b),(nI c),(iI d),(iI e)] [oL 0 4 (List.map ONode.av a)] 1
def aA2(c:Prog)(a:List ONode)(l:Int)(d e:List Int)(f g:Int)(i:List Int)(j:List Pat)(k:Int)(b:List Pat):TS:=⟨(tf 60 104 [(0,(.gl 0 4 0 a.length false)),(3,(iI d)),(4,(iI e)),kp 6 1,(10,.nils),kp 11 2,(12,(nI (a.length:Int))),(13,(.gl 3 4 0 b.length false)),(14,(nI k))] [kc f60 2036,kl f60 2036,.inBlock 0,kc f60 255]),[],[oL 0 4 (List.map ONode.av a),aDN c,oC 2 [(nI f),(nI g),(iI i),(iP j)],oL 3 4 (av b)],4⟩
def aKz(b:Prog)(c:List ONode)(g:Int)(d e f:List Int)(a:List ONode):TS:=⟨(tf 60 104 [(0,(.gl 0 4 0 a.length false)),(3,(iI d)),(4,(iI e)),kp 6 1,(10,.nils),(12,(nI (c.length:Int))),(15,(iI f)),(16,(nI 0))] [kc f60 65524,kl f60 65524,.inBlock 2,kc f60 8191]),[],[oL 0 4 (List.map ONode.av a),aDN b],2⟩
def yD(d:Prog)(a:List ONode)(j:Int)(e f g:List Int)(b:List ONode)(c:List Int)(i:Int):TS:=⟨(tf 60 104 [(0,(.gl 0 4 0 b.length false)),(3,(iI e)),(4,(iI f)),kp 6 1,(10,.nils),(12,(nI (a.length:Int))),(15,(iI g)),(16,(nI i)),(91,(.gl 2 1 0 c.length false)),(93,(.ep 0 4 (0+ (a.length:Int).toNat) 2))] [ko f60 1048392 13,kc f60 1048393,.inBlock 3,kc f60 262099,kl f60 65524,.inBlock 2,kc f60 8191]),[],[oL 0 4 (List.map ONode.av b),aDN d,oL 2 1 (jI c)],3⟩
def aKA(f:Prog)(a:List ONode)(m:Int)(g i j:List Int)(b:List ONode)(k:List Int)(l:Int)(c:Option Addr)(d e:Nat):TS:=⟨(tf 60 104 [(0,(.gl 0 4 0 b.length false)),(3,(iI g)),(4,(iI i)),kp 6 1,(10,.nils),(12,(nI (a.length:Int))),(15,(iI j)),(16,(nI l)),(91,(.val (Value.slice c d e))),(93,(.ep 0 4 (0+ (a.length:Int).toNat) 2))] [ko f60 1048392 13,kc f60 1048393,.inBlock 3,kc f60 262099,kl f60 65524,.inBlock 2,kc f60 8191]),[],[oL 0 4 (List.map ONode.av b),aDN f,aRJ c d e k],3⟩
def aKB(b:Prog)(c:List ONode)(k:Int)(d e f:List Int)(a:List ONode)(g:List Int)(i:Value)(j:Int):TS:=⟨(tf 60 104 [(0,(.gl 0 4 0 a.length false)),(3,(iI d)),(4,(iI e)),kp 6 1,(10,.nils),(12,(nI (c.length:Int))),(15,(iI f)),(16,(nI j))] [kc f60 65524,kl f60 65524,.inBlock 2,kc f60 8191]),[],[oL 0 4 (List.map ONode.av a),aDN b,(2,(.lstv i 1 (jI g)),true)],3⟩
def bB1(b:Prog)(f:List ONode)(c:Int)(d e:List Int):=tT 0 (aXQ b f c d e)<|gX Node.av 10 b.nodes c<|fun a=>.b 17 27 (a.op==4) (gd 5 31 (a.n<0) (gw 6 35 ((-1:Int) -a.n)<|gX cC 0 d ((-1:Int) -a.n)<|fun g=>gw 2 38 ((-1:Int) -g)<|.b 10 42 (a.op==14) .x<|.i [rn 13,.nilL 13 4] []<|gu 0 3 (av ([] :List Pat))<|gs 0 13 (.gl 3 4 0 ([] :List Pat).length false)<|.W 0 4 [0,1,2,3] (aA2 b f c d e a.op ((-1:Int) -g) a.kids a.pats 0 ([] :List Pat)))<|.b 9 42 (a.op==14) .x<|.i [rn 13,.nilL 13 4] []<|gu 0 3 (av ([] :List Pat))<|gs 0 13 (.gl 3 4 0 ([] :List Pat).length false)<|.W 0 4 [0,1,2,3] (aA2 b f c d e a.op a.n a.kids a.pats 0 ([] :List Pat)))<|.b 14 42 (a.op==14) (gX cC 5 e a.n<|fun g=>.i [rn 15,.nilL 13 4] []<|gu 0 3 (av ([] :List Pat))<|gs 0 13 (.gl 3 4 0 ([] :List Pat).length false)<|.W 0 4 [0,1,2,3] (aA2 b f c d e a.op g a.kids a.pats 0 ([] :List Pat)))<|.i [rn 13,.nilL 13 4] []<|gu 0 3 (av ([] :List Pat))<|gs 0 13 (.gl 3 4 0 ([] :List Pat).length false)<|.W 0 4 [0,1,2,3] (aA2 b f c d e a.op a.n a.kids a.pats 0 ([] :List Pat))
def bB2:=fun a b c d e f g i j k l m n o p q=>bB1 a b c d e f i j|>.t k|>.t l m g n o p|>.f q ⟨(aH _ (fun _=>dK _) _),⟨fK,trivial⟩⟩
def bB3:=fun a b c d e f g i j k l=>bB1 a b c d e f g i|>.t j|>.f k|>.f l ⟨(aH _ (fun _=>dK _) _),⟨fK,trivial⟩⟩
def bB4:=fun a b c d e f g i j k l m n=>bB1 a b c d e f i j|>.f k|>.t l g m n ⟨(aH _ (fun _=>dK _) _),⟨fK,trivial⟩⟩
def bB5:=fun a b c d e f g i j k=>bB1 a b c d e f g i|>.f j|>.f k ⟨(aH _ (fun _=>dK _) _),⟨fK,trivial⟩⟩
def bGH(i:Prog)(b:List ONode)(j:Int)(k e:List Int)(f g:Int)(l:List Int)(c:List Pat)(d:Int)(a:List Pat):=tT 0 (aA2 i b j k e f g l c d a)<|gm 6 aE c<|gd 2 53 (d< (c.length:Int)) (rX 9 c d<|fun q r s t=>.y fun m:Int=>.y fun n:Int=>.y fun o:bX=>.y fun p:List Pat=>gp 2 101 [(.agg [(nI q),(nI r),(dR s),(iP t)]),(iI e)] (.agg [(nI m),(nI n),(dR o),(iP p)])<|gA 1 aE a [(Pat.mk m n o p)]<|gw 6 55 (d+1)<|.W 3 6 [0,1,2,5] (aA2 i b j k e f g l c (d+1) (a++ [(Pat.mk m n o p)])))<|gZ 6 66 3 4 aE fK a false<|ga 18 ONode.av b [(ONode.mk f g KV.nil a)]<|.W 9 6 [5,1] (aKz i b j k e l (b++ [(ONode.mk f g KV.nil a)]))
def bB6:=fun a b c d e f g i j k l m n o p q r s t u v w x y z=>bGH a b c d e f g i j k l|>.t u m n o p v w q r s t x y z ⟨(aH _ (fun _=>dK _) _),⟨fK,trivial⟩⟩
def bB7:=fun a b c d e f g i j k l m n=>bGH a b c d e f g i j k l|>.f m n ⟨(aH _ (fun _=>dK _) _),trivial⟩
def bGI(e:Prog)(c:List ONode)(f:Int)(g i d:List Int)(b:List ONode):=tT 0 (aKz e c f g i d b)<|gl 5 cC d<|gd 2 78 (0< (d.length:Int)) (.i [rn 10,.ans (.ix)] [hA (0≤ (c.length:Int)),hA ((c.length:Int) < (b.length:Int))]<|.y fun a:ONode=>gj ONode.av 1 b ((c.length:Int).toNat) a<|.i [.set 87 .nils] [.a (a.kv=KV.nil) (congrArg KV.av)]<|.i [rn 3,.nilL 87 1] []<|gu 0 3 (jI ([] :List Int))<|gs 0 87 (.gl 3 1 0 ([] :List Int).length false)<|ga 0 cC ([] :List Int) [(b.length:Int)]<|.i [.ans (.ix)] [hA (0≤ (c.length:Int)),hA ((c.length:Int) < (b.length:Int))]<|.W 1 5 [0,1,4] (yD e c f g i d b (([] :List Int) ++ [(b.length:Int)]) 0))<|.y fun a:ONode=>.i [rn 8,.lw 0 (List.map ONode.av (set b c.length (ONode.mk a.op a.n (KV.row []) a.pats)))] [.a (b[c.length]?=some a) (p':=(List.map ONode.av b) ≠ []) aJ3,.a (b[c.length]?=some a∧a.kv=KV.nil) (p':=VW (List.map ONode.av b) (List.map ONode.av (set b c.length (ONode.mk a.op a.n (KV.row []) a.pats)))) fun⟨ha,hb⟩=>(aWN ha hb)]<|.i [.set 0 (.gl 0 4 0 (set b c.length (ONode.mk a.op a.n (KV.row []) a.pats)).length false)] [.q (p:=(AV.gl 0 4 0 b.length false) = (.gl 0 4 0 (set b c.length (ONode.mk a.op a.n (KV.row []) a.pats)).length false)) (cF (fN ..).symm)]<|.i [.set 10 (.gl 0 4 0 (set b c.length (ONode.mk a.op a.n (KV.row []) a.pats)).length false)] [.q (p:=(AV.gl 0 4 0 b.length false) = (.gl 0 4 0 (set b c.length (ONode.mk a.op a.n (KV.row []) a.pats)).length false)) (cF (fN ..).symm)]<|.i [.set 103 (.gl 0 4 0 (set b c.length (ONode.mk a.op a.n (KV.row []) a.pats)).length false)] [.q (p:=(AV.gl 0 4 0 b.length false) = (.gl 0 4 0 (set b c.length (ONode.mk a.op a.n (KV.row []) a.pats)).length false)) (cF (fN ..).symm)]<|.E 0 2 [0] (.gl 0 4 0 (set b c.length (ONode.mk a.op a.n (KV.row []) a.pats)).length false) [oL 0 4 (List.map ONode.av (set b c.length (ONode.mk a.op a.n (KV.row []) a.pats)))] 1
def bB8:=fun c d e f g i j k l a b m n o=>bGI c d e f g i j|>.t l a b k m n o a b ⟨(aH _ (fun _=>dK _) _),⟨kk,trivial⟩⟩
def bB9:=fun b c d e f g i j k a l=>bGI b c d e f g i|>.f k j a ⟨a,l⟩ ⟨(aH _ (fun _=>dK _) _),trivial⟩
def bCa (i:Prog)(e:List ONode)(p:Int)(m n o:List Int)(f:List ONode)(j:List Int)(k:Int)(b:Option Addr)(c d:Nat):=fun a l g q r s t u=>(tT 0 (aKA i e p m n o f j k b c d)<|.y fun a:ONode=>.i [.st (ONode.av a) (ONode.av (ONode.mk a.op a.n (KV.val (Value.slice b c d)) a.pats))] [.a (((f)[(e.length:Int).toNat]?) =some a) (cU (f:=ONode.av)),hr (some (ONode.av (ONode.mk a.op a.n (KV.val (Value.slice b c d)) a.pats)))]<|.i [.lset 0 (List.map ONode.av (set f ((e.length:Int).toNat) (ONode.mk a.op a.n (KV.val (Value.slice b c d)) a.pats)))] [.q (p:=(List.map ONode.av f).set (0+ (e.length:Int).toNat) (ONode.av (ONode.mk a.op a.n (KV.val (Value.slice b c d)) a.pats)) = (List.map ONode.av (set f ((e.length:Int).toNat) (ONode.mk a.op a.n (KV.val (Value.slice b c d)) a.pats)))) (pX _ _ _ _)]<|.i [.set 0 (.gl 0 4 0 (set f ((e.length:Int).toNat) (ONode.mk a.op a.n (KV.val (Value.slice b c d)) a.pats)).length false)] [.q (p:=(AV.gl 0 4 0 f.length false) = (.gl 0 4 0 (set f ((e.length:Int).toNat) (ONode.mk a.op a.n (KV.val (Value.slice b c d)) a.pats)).length false)) (cF (fN ..).symm)]<|.y fun l:Int=>.y fun g:List Node=>.i [rn 1,.reg (rd 4 (.ans (.idx (cC l))::rd 3 [.call (.gl 3 4 0 ((set f ((e.length:Int).toNat) (ONode.mk a.op a.n (KV.val (Value.slice b c d)) a.pats)) ++List.map Node.o g).length false) (aA [aDN i,aRJ b c d j,oL 3 4 (List.map ONode.av ((set f ((e.length:Int).toNat) (ONode.mk a.op a.n (KV.val (Value.slice b c d)) a.pats)) ++List.map Node.o g))] 4),.d]))] [hA (0≤k),.a (((o)[k.toNat]?) =some l) (bC (f:=cC)),hA (Spec PP (.enter 60 [(.gl 0 4 0 (set f ((e.length:Int).toNat) (ONode.mk a.op a.n (KV.val (Value.slice b c d)) a.pats)).length false),(Prog.av i),(nI l),(iI m),(iI n)]) (aA [oL 0 4 (List.map ONode.av (set f ((e.length:Int).toNat) (ONode.mk a.op a.n (KV.val (Value.slice b c d)) a.pats))),aDN i,aRJ b c d j] 3) (.ret (.gl 3 4 0 ((set f ((e.length:Int).toNat) (ONode.mk a.op a.n (KV.val (Value.slice b c d)) a.pats)) ++List.map Node.o g).length false)) (aA [aDN i,aRJ b c d j,oL 3 4 (List.map ONode.av ((set f ((e.length:Int).toNat) (ONode.mk a.op a.n (KV.val (Value.slice b c d)) a.pats)) ++List.map Node.o g))] 4))]<|gw 4 80 (k+1)<|.W 3 4 [3,1,2] (aKB i e p m n o ((set f ((e.length:Int).toNat) (ONode.mk a.op a.n (KV.val (Value.slice b c d)) a.pats)) ++List.map Node.o g) j (Value.slice b c d) (k+1))) a q l g r s t u ⟨(aH _ (fun _=>dK _) _),⟨kk,trivial⟩⟩
def bGJ(i:Prog)(c:List ONode)(j:Int)(k l f:List Int)(b:List ONode)(d:List Int)(e:Value)(g:Int):=tT 0 (aKB i c j k l f b d e g)<|gl 5 cC f<|gd 2 78 (g< (f.length:Int)) (.i [rn 10,.ans (.ix)] [hA (0≤ (c.length:Int)),hA ((c.length:Int) < (b.length:Int))]<|.y fun a:ONode=>gj ONode.av 1 b ((c.length:Int).toNat) a<|.i [.set 87 (.val e)] [.a (a.kv=KV.val e) (congrArg KV.av)]<|.i [.unname 87 2] [hr e]<|.i [.set 87 (.gl 2 1 0 d.length false)] [.q (p:=(AV.gl 2 1 0 (jI d).length false) = (.gl 2 1 0 d.length false)) (cF (lB ..))]<|ga 3 cC d [(b.length:Int)]<|.i [.ans (.ix)] [hA (0≤ (c.length:Int)),hA ((c.length:Int) < (b.length:Int))]<|.W 1 5 [0,1,4] (yD i c j k l f b (d++ [(b.length:Int)]) g))<|.y fun a:ONode=>.i [rn 8,.vfrz 2 0 (List.map ONode.av (set b c.length (ONode.mk a.op a.n (KV.row d) a.pats)))] [.a (b[c.length]?=some a) (p':=(List.map ONode.av b) ≠ []) aJ3,hk cC d,.a (b[c.length]?=some a∧a.kv=KV.val e) (p':=VQ e 1 (jI d) (List.map ONode.av b) (List.map ONode.av (set b c.length (ONode.mk a.op a.n (KV.row d) a.pats)))) fun⟨ha,hb⟩=>(aWO ha hb)]<|.i [.set 0 (.gl 0 4 0 (set b c.length (ONode.mk a.op a.n (KV.row d) a.pats)).length false)] [.q (p:=(AV.gl 0 4 0 b.length false) = (.gl 0 4 0 (set b c.length (ONode.mk a.op a.n (KV.row d) a.pats)).length false)) (cF (fN ..).symm)]<|.i [.set 10 (.gl 0 4 0 (set b c.length (ONode.mk a.op a.n (KV.row d) a.pats)).length false)] [.q (p:=(AV.gl 0 4 0 b.length false) = (.gl 0 4 0 (set b c.length (ONode.mk a.op a.n (KV.row d) a.pats)).length false)) (cF (fN ..).symm)]<|.i [.set 103 (.gl 0 4 0 (set b c.length (ONode.mk a.op a.n (KV.row d) a.pats)).length false)] [.q (p:=(AV.gl 0 4 0 b.length false) = (.gl 0 4 0 (set b c.length (ONode.mk a.op a.n (KV.row d) a.pats)).length false)) (cF (fN ..).symm)]<|.E 0 3 [0] (.gl 0 4 0 (set b c.length (ONode.mk a.op a.n (KV.row d) a.pats)).length false) [oL 0 4 (List.map ONode.av (set b c.length (ONode.mk a.op a.n (KV.row d) a.pats)))] 1
def bCb:=fun c d e f g i j k l m n o a b p q r=>bGJ c d e f g i j k l m|>.t o a b n p q r a b ⟨(aH _ (fun _=>dK _) _),⟨kk,trivial⟩⟩
def bCc:=fun b c d e f g i j k l m n a o=>bGJ b c d e f g i j k l|>.f n m a ⟨a,o⟩ ⟨(aH _ (fun _=>dK _) _),trivial⟩
def aCd(b i:Int)(c:bX)(d:List Pat)(e:List Int)(f g:Int)(a:List Pat):TS:=⟨(tf 101 36 [(1,(iI e)),kp 2 0,kp 4 1,(5,(.gl 2 4 0 a.length false)),(6,(nI g))] [kc f101 244,kl f101 244,.inBlock 0,kc f101 31]),[],[oC 0 [(nI b),(nI f),(dR c),(iP d)],oC 1 [(nI 0),(nI 0),(.str 0 0),.nils],oL 2 4 (av a)],3⟩
def aEC(b c d:Int)(a:List Int):TS:=⟨(tf 61 19 [(0,(nI b)),(1,(nI c)),(4,.nils),(5,(.gl 0 1 0 a.length false)),(6,(nI d))] [kc f61 116,kl f61 116,.inBlock 0,kc f61 15]),[],[oL 0 1 (jI a)],1⟩
def bGK(b a:Int)(d:bX)(e:List Pat)(c:List Int):=tT 0 (start PP 101 [(.agg [(nI b),(nI a),(dR d),(iP e)]),(iI c)])<|.b 12 9 (b==6) (gX cC 5 c a<|fun f=>.i [rn 15,.nilL 5 4] []<|gu 0 2 (av ([] :List Pat))<|gs 0 5 (.gl 2 4 0 ([] :List Pat).length false)<|.W 0 3 [0,1,2] (aCd b a d e c f 0 ([] :List Pat)))<|.i [rn 13,.nilL 5 4] []<|gu 0 2 (av ([] :List Pat))<|gs 0 5 (.gl 2 4 0 ([] :List Pat).length false)<|.W 0 3 [0,1,2] (aCd b a d e c a 0 ([] :List Pat))
def aXR:=fun a b c d e f g i j=>bGK a b c d e|>.t g f i j ⟨fK,trivial⟩
def aXS:=fun a b c d e f=>bGK a b c d e|>.f f ⟨fK,trivial⟩
def bGL(d m:Int)(e:bX)(a:List Pat)(f:List Int)(g b:Int)(c:List Pat):=tT 0 (aCd d m e a f g b c)<|gm 6 aE a<|gd 2 20 (b< (a.length:Int)) (rX 9 a b<|fun n o p q=>.y fun i:Int=>.y fun j:Int=>.y fun k:bX=>.y fun l:List Pat=>gp 2 101 [(.agg [(nI n),(nI o),(dR p),(iP q)]),(iI f)] (.agg [(nI i),(nI j),(dR k),(iP l)])<|gA 1 aE c [(Pat.mk i j k l)]<|gw 6 22 (b+1)<|.W 3 5 [0,1,4] (aCd d m e a f g (b+1) (c++ [(Pat.mk i j k l)])))<|gZ 6 33 2 4 aE fK c false<|gE 8 3 (.agg [(nI d),(nI g),(dR e),(iP c)])
def aXT:=fun a b c d e f g i j k l m n o p q r s t u v w=>bGL a b c d e f g i|>.t r j k l m s t n o p q u v w ⟨fK,trivial⟩
def aXU:=fun a b c d e f g i j=>bGL a b c d e f g i|>.f j tv
def aXV (a b:Int):=(tT 0 (start PP 61 [(nI a),(nI b)])<|.i [rn 15,.nilL 5 1] []<|gu 0 0 (jI ([] :List Int))<|gs 0 5 (.gl 0 1 0 ([] :List Int).length false)<|.W 0 1 [0] (aEC a b 0 ([] :List Int))) ⟨kk,trivial⟩
def bGM(b d a:Int)(c:List Int):=tT 0 (aEC b d a c)<|gd 7 9 (a<d) (gw 9 15 (b+a)<|ga 1 cC c [(b+a)]<|gw 6 11 (a+1)<|.W 3 3 [2] (aEC b d (a+1) (c++ [(b+a)])))<|gz 8 4 0 1 cC c false<|gE 0 1 (iI c)
def aXW:=fun a b c d e f g i=>bGM a b c d|>.t e f g i ⟨kk,trivial⟩
def aXX:=fun a b c d e=>bGM a b c d|>.f e tv
def aRK (cons:List Int)(f n:Int) :Option Int:=if f=6 then(if 0≤n then cons[n.toNat]? else none)else some n
mutual
def aQs (cons:List Int) :Pat→Option Pat
 | .mk f n t ps=>match aRK cons f n with
  | some n'=>match aCe cons ps with
   |some ps'=>some (.mk f n' t ps')
   |none=>none
  |none=>none
def aCe (cons:List Int) :List Pat→Option (List Pat)
 | [] =>some []
 | p::ps=>match aQs cons p with
  | some p'=>match aCe cons ps with
   |some ps'=>some (p'::ps')
   |none=>none
  |none=>none
end
theorem aIi (f n:Int)(s:bX)(ps:List Pat)(cons:List Int)(d:Int)(hl:ps.length<1000000)(q:∀p∈ps,∀g,aQs cons p=some g→aM PP 101 [Pat.av p,.ilst 1 (List.map cC cons) false] (Pat.av g)) :
  ∀ (t:List Pat) (i:Nat) (a j:List Pat),ps.drop i=t→a.length=i→aCe cons t=some j→Ends PP 0 (aCd f n s ps cons d (i:Int) a).as (.ret (Pat.av (.mk f d s (a++j)))) (aA [] 0)
 | [],i,a,j,h,r,b=>by
  have:=bL h;cases b;rw [vZ];exact aXU f n s ps cons d i a sd
 | .mk v o m c::t,i,a,j,h,r,b=>by
  obtain⟨y,z,B⟩ :=bI h;simp only [aCe]at b;split at b
  · rename_i g l;split at b
    · rename_i A k;cases b;obtain⟨u,w,x,e⟩ :=g;refine(aXT f n s ps cons d i a v o m c u w x e sd sd sd (q (.mk v o m c) (kS y) _ l) (by simp;omega) sd).ends ?_;have:=aIi f n s ps cons d hl q t (i+1) (a++ [.mk u w x e]) A z (by simp [r]) k;rw [zq9]at this;exact this
    ·cases b
  ·cases b
mutual
theorem aUr (cons:List Int) :∀ (p:Pat),bZ p<1000000→∀g,aQs cons p=some g→aM PP 101 [Pat.av p,.ilst 1 (List.map cC cons) false] (Pat.av g)
 | .mk f n s d,h,g,b=>by
  refine aJ aC (by simp [keylessL,lD,AV.keyless]) (lD _) ?_;simp only [bZ]at h;have:=eH d;simp only [aQs]at b;split at b
  · rename_i k a;split at b
    · rename_i i e;cases b;have c:=aIi f n s d cons k (by omega) (aGq cons d (by omega)) d 0 [] i rfl rfl e;unfold aRK at a;split at a
      · rename_i j;split at a
        · rename_i l;exact(aXR f n s d cons k (by simp [j]) l a).ends c
        ·cases a
      · rename_i j;cases a;exact(aXS f n s d cons (by simp [j])).ends c
    ·cases b
  ·cases b
theorem aGq (cons:List Int) :∀ (b:List Pat),bG b<1000000→∀p∈b,∀c,aQs cons p=some c→aM PP 101 [Pat.av p,.ilst 1 (List.map cC cons) false] (Pat.av c)
 | [],_,p,a=>by cases a
 | q::b,h,p,a=>by
  simp only [bG]at h;rcases zq7.1 a with e|a
  ·rw [e];exact aUr cons q (by omega)
  ·exact aGq cons b (by omega) p a
end
def mN (funs cons:List Int)(op n:Int) :Option Int:=
 if op=4∧n<0 then
  match funs[(-1-n).toNat]? with
  |some g=>if -1000000000≤n∧ -1000000000≤g∧g≤1000000000 then some (-1-g)else none
  |none=>none
 else if op=14 then(if 0≤n then cons[n.toNat]? else none)else some n
def yE (f:Nat→Int→Option (List Node)) :Nat→List Int→Option (List Int×List Node)
 |_,[] =>some ([],[])
 | len,c::cs=>match f len c with
  | some ns=>match yE f (len+ns.length) cs with
   |some (ks,r) =>some ((len:Int) ::ks,ns++r)
   |none=>none
  |none=>none
def mL (p:Prog)(funs cons:List Int) :Nat→Nat→Int→Option (List Node)
 |0,_,_=>none
 | k+1, len,at0=>if 0≤at0∧len<1000000 then
   match p.nodes[at0.toNat]? with
   | some y=>if y.kids.length<1000000∧bG y.pats<1000000 then
     match mN funs cons y.op y.n with
     | some n'=>match aCe cons y.pats with
      | some ps'=>match yE (mL p funs cons k) (len+1) y.kids with
       |some (ks,r) =>some (⟨y.op,n',ks,ps'⟩ ::r)
       |none=>none
      |none=>none
     |none=>none
    else none
   |none=>none
  else none
abbrev PA (p:Prog) :AV:=.agg [(.ilst 4 (List.map Node.av p.nodes) false),(.ilst 1 (List.map cC p.funs) false),(.int .i64 p.main),(.ilst 2 (List.map Con.av p.cons) false)]
abbrev aDO (p:Prog) :AObj:=.cells (putCells .leaf 0 [(.ilst 4 (List.map Node.av p.nodes) false),(.ilst 1 (List.map cC p.funs) false),(.int .i64 p.main),(.ilst 2 (List.map Con.av p.cons) false)]) 4 [] false
abbrev OL (L:List ONode) :AObj:=.lst 4 (List.map ONode.av L)
abbrev EndsL (s:TS)(L:List ONode) :Prop:=Ends PP 0 s.as (.ret (.gl 0 4 0 (length L) false)) (aA [(0,OL L,true)] 1)
def aCf (p:Prog)(funs cons:List Int)(c:Int)(L:List ONode)(ns:List Node) :Prop:=
 aVv PP (.enter 60 [.gl 0 4 0 (length L) false,PA p,.int .i64 c,.ilst 1 (List.map cC funs) false,.ilst 1 (List.map cC cons) false]) (aA [(0,OL L,true)] 1)
  (.ret (.gl 0 4 0 (length (L++List.map Node.o ns)) false)) (aA [(0,OL (L++List.map Node.o ns),true)] 1)
theorem aXY (L:List ONode) : (OL L).kl:=aH _ (fun _=>dK _) _
theorem aXZ {p:Prog}{a cons:List Int}{c:Int}{L:List ONode}{d:List Node}(h:aCf p a cons c L d)(u:Value)(b:List Int) :
  Spec PP (.enter 60 [.gl 0 4 0 (length L) false,PA p,.int .i64 c,.ilst 1 (List.map cC a) false,.ilst 1 (List.map cC cons) false])
   (aA [(0,OL L,true),(1,aDO p,false),(2,.lstv u 1 (List.map cC b),true)] 3)
   (.ret (.gl 3 4 0 (length (L++List.map Node.o d)) false))
   (aA [(1,aDO p,false),(2,.lstv u 1 (List.map cC b),true),(3,OL (L++List.map Node.o d),true)] 4) :=
 Eq.mp aC (aLx (ks:=[0]) (n2:=3) (lc:=[(0,OL L,true),(1,aDO p,false),(2,.lstv u 1 (List.map cC b),true)])
  (x:=[(1,aDO p,false),(2,.lstv u 1 (List.map cC b),true)])
  (args':=[.gl 0 4 0 (length L) false,PA p,.int .i64 c,.ilst 1 (List.map cC a) false,.ilst 1 (List.map cC cons) false])
  h aC aC aC ⟨aXY L,trivial⟩ aC aC aC aC ⟨aXY _,trivial⟩ aC)
theorem aUs (p:Prog)(l:List ONode)(c:Int)(b cons a:List Int)(e:List ONode)(f:List Int)(d:Int)(i:Option Addr)(h g:Nat) :
  (⟨{(yD p l c b cons a e f d).as.fr with tm:= (yD p l c b cons a e f d).as.fr.tm.put 91 (.val (.slice i h g))},(yD p l c b cons a e f d).as.cs,(yD p l c b cons a e f d).as.h.set 2 (.lstv (.slice i h g) 1 (List.map cC f))⟩ :AS) = (aKA p l c b cons a e f d i h g).as:=by kernel_rfl
theorem aX0 {p:Prog}{l:List ONode}{f:Int}{c cons a:List Int}{h:List ONode}{d:List Int}{g:Int}{L:List ONode}(o:0<d.length)
  (hk:∀m k i,EndsL (aKA p l f c cons a h d g m k i) L) :EndsL (yD p l f c cons a h d g) L:=by
 refine aSz (j:=91) (b:=2) (e:=1) (n:=length d) (ex:=false) (xs:=List.map cC d) aC aC (lB ..) o (fun m k i=>?_);have:=hk m k i;unfold EndsL at this;rw [←aUs]at this;exact this
end
end Go.Hb
