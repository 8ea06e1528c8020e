/- A machine on abstract values, its soundness, ways, plain laws. -/
import Derived.Test.YtnljmgihoioocaaGreatHF
import Derived.Test.YtnljmgihoioocaaGreatHG
import Derived.Test.YtnljmgihoioocaaGreatHH
import Derived.Test.YtnljmgihoioocaaGreatHI
set_option linter.defProp false
set_option linter.unusedVariables false
set_option linter.unusedSimpArgs false
set_option linter.unusedSectionVars false
set_option maxRecDepth 100000
set_option maxHeartbeats 1000000
namespace Go.Hb
open AV (ep ilst keylessL ptr ren)
open List (getElem?_set_ne getElem?_set_self length map_set replicate set set_set)
open Pats (av)
open Go.Proofs Tryz
noncomputable section
abbrev aKr (a:Nat)(b c:Int)(d:List XT)(e:List Pat):=oC a [(nI b),(nI c),(.gl 12 1 0 d.length false),(iP e)]
abbrev mC (a:Nat)(b c:Int)(d:Nat):=oC a [(nI b),(nI c),(.ep 1 1 d 0)]
abbrev aRC (a b c:Int)(d:Nat)(e f:Int)(g:List XT)(h:List Pat)(i:List (Nat×Nat))(j:List XT):List (Nat×AObj×Bool):=[(6,(.loop .done (some (.exit 0)) 74 (cE [kp 3 9,kp 5 5]) 41 [10] (kd f74 436) (kd f74 437) 7),false),(7,(.defd false),false),oC 8 [(.yield 6)],oC 9 [(nI a)],mC 10 b c d,aKr 11 e f g h,(12,gh,false),(13,(.zone true [11] (dK i (set (List.map some j) d none) d)),false)]
abbrev zK (a:Int):List (Nat×AObj×Bool):=[(2,(.loop .ready none 93 (cE [kp 2 8]) 19 [6] (kd f93 28) (kd f93 29) 4),false),oC 3 [(.ptr 0 0)],(4,(.defd false),false),oC 5 [(bV false)],(6,(.loop .ready none 74 (cE [kp 3 9,kp 5 5]) 41 [10] (kd f74 436) (kd f74 437) 7),false),(7,(.defd false),false),oC 8 [(.yield 6)],oC 9 [(nI a)]]
abbrev aRD (a:Int):=[oC 3 [(.ptr 0 0)],(4,(.defd false),false),oC 5 [(bV false)],(6,(.loop .ready none 74 (cE [kp 3 9,kp 5 5]) 41 [10] (kd f74 436) (kd f74 437) 7),false),(7,(.defd false),false),oC 8 [(.yield 6)],oC 9 [(nI a)]]
abbrev aEB (a:Int):List (Nat×AObj×Bool):=[(2,(.loop .busy none 93 (cE [kp 2 8]) 19 [6] (kd f93 28) (kd f93 29) 4),false),oC 3 [(.ptr 0 0)],(4,(.defd false),false),oC 5 [(bV false)],(6,(.loop .busy none 74 (cE [kp 3 9,kp 5 5]) 41 [10] (kd f74 436) (kd f74 437) 7),false),(7,(.defd false),false),oC 8 [(.yield 6)],oC 9 [(nI a)]]
abbrev pG (a:Nat)(b c:Int)(d:Nat):=oC a [(nI b),(nI c),(.ep 1 1 d 0)]
abbrev aRE (a:List (Nat×Nat))(b c d:Int)(e:Nat)(f:List XT)(g:XT):=aA ([oL 1 1 (List.map aR a)]++aEB b++[pG 10 c d e,pG 11 c d e,pG 14 c d e,(15,(.zone true [] (ZV a (set (List.map some f) e none))),false),(16,gh,false),(17,(.zone true [16] (Z1 g)),false)]) 18
abbrev aRF (a:List (Nat×Nat))(b c d:Int)(e:Nat)(f g:Int)(h:List XT)(i:List Pat)(j:List XT):=aA ([oL 1 1 (List.map aR a)]++zK b++[pG 10 c d e,oC 11 [(nI f),(nI g),(.gl 12 1 0 h.length false),(iP i)],(12,gh,false),(13,(.zone true [11] (dK a (set (List.map some j) e none) e)),false),(14,(.zone true [12] (bH h)),false)]) 15
abbrev zL (a:List (Nat×Nat))(b c d:Int)(e:Nat)(f:List XT):=aA ([oL 1 1 (List.map aR a)]++aEB b++[pG 10 c d e,pG 11 c d e,(13,(.zone true [] (ZV a (List.map some f))),false),pG 14 c d e]) 15
abbrev aEC (a:List (Nat×Nat))(b c d:Int)(e:Nat)(f:List XT):=aA ([oL 1 1 (List.map aR a),(2,(.loop .busy none 93 (cE [kp 2 8]) 19 [6] (kd f93 28) (kd f93 29) 4),false)]++aRD b++[pG 10 c d e,pG 11 c d e,(13,(.zone true [] (ZV a (List.map some f))),false)]) 14
abbrev vF (a:Nat)(b:List (Nat×Nat)):=oL a 1 (List.map aR b)
abbrev aQn (a:Int)(b:List (Nat×Nat))(c d e:Int)(f:Nat)(g h:Int)(i:List XT)(j:List Pat)(k:List XT)(l:Int):=Spec PP (.enter 178 [(.ptr 11 0),(nI a)]) (aRF b c d e f g h i j k) (.ret (nI l)) (aRF b c d e f g h i j k)
abbrev aXr (a:Nat×Nat)(b:Int)(c:List (Nat×Nat))(d e:Int)(f:Nat)(g:List XT)(h:XT):=Spec PP (.enter 247 [(.agg []),(aR a),(nI b)]) (zL c d e b f g) (.ret (.ptr 16 0)) (aRE c d e b f g h)
abbrev aXs (a:Int)(b:Nat×Nat)(c:Int)(d:List (Nat×Nat))(e f:Int)(g:Nat)(h:List XT)(i:XT):=Spec PP (.enter 253 [(nI a),(aR b),(nI c)]) (zL d e f c g h) (.ret (.ptr 16 0)) (aRE d e f c g h i)
abbrev aXt (a:Nat×Nat)(b:List (Nat×Nat))(c d e:Int)(f:Nat)(g:List XT):=Spec PP (.enter 95 [(aR a)]) (zL b c d e f g) (.ret (.iface 191 (.agg []))) (zL b c d e f g)
abbrev aXu (a:Nat×Nat)(b:List (Nat×Nat))(c d e:Int)(f:Nat)(g:List XT)(h:Int):=Spec PP (.enter 95 [(aR a)]) (zL b c d e f g) (.ret (.iface 193 (nI h))) (zL b c d e f g)
abbrev aXv (a:Nat×Nat)(b:List (Nat×Nat))(c d e:Int)(f:Nat)(g:List XT):=Spec PP (.enter 95 [(aR a)]) (aEC b c d e f g) (.ret (.iface 191 (.agg []))) (aEC b c d e f g)
abbrev aXw (a:Nat×Nat)(b:List (Nat×Nat))(c d e:Int)(f:Nat)(g:List XT)(h:Int):=Spec PP (.enter 95 [(aR a)]) (aEC b c d e f g) (.ret (.iface 193 (nI h))) (aEC b c d e f g)
abbrev aXx (a:List (Nat×Nat))(b c d:Int)(e:Nat)(f g:Int)(h:List XT)(i:List Pat)(j:List XT):=aA ([vF 1 a,(2,(.loop .done (some .ret) 93 (cE [kp 2 8]) 19 [6] (kd f93 28) (kd f93 29) 4),false),oC 3 [(.ptr 0 0)],(4,(.defd false),false),oC 5 [(bV false)]]++aRC b c d e f g h i a j++[(15,(.zone true [12] (bH h)),false)]) 16
abbrev aXy (a:List (Nat×Nat))(b c d:Int)(e:Nat)(f g:Int)(h:List XT)(i:List Pat)(j k:List XT):=aA ([vF 1 a,(2,(.loop .done (some .ret) 93 (cE [kp 2 8]) 19 [6] (kd f93 28) (kd f93 29) 4),false),oC 3 [(.ptr 0 0)],(4,(.defd false),false),oC 5 [(bV true)]]++aRC b c d e f g h i a j++[(15,(.zone true [12] (bH k)),false)]) 16
abbrev aRG (a:List (Nat×Nat))(b c d:Int)(e:Nat)(f:List XT)(g:XT):=aA ([vF 1 a]++aEB b++[mC 10 c d e,mC 11 c d e,mC 14 c d e,(15,(.zone true [] (ZV a (set (List.map some f) e none))),false),(16,gh,false),(17,(.zone true [16] (Z1 g)),false)]) 18
abbrev zM (a:List (Nat×Nat))(b c d:Int)(e:Nat)(f g:Int)(h:List XT)(i:List Pat)(j:List XT):=aA ([vF 1 a]++zK b++[mC 10 c d e,aKr 11 f g h i,(12,gh,false),(13,(.zone true [11] (dK a (set (List.map some j) e none) e)),false),(14,(.zone true [12] (bH h)),false)]) 15
abbrev aRH (a:List (Nat×Nat))(b c d:Int)(e:Nat)(f g:Int)(h:List XT)(i:List Pat)(j:List XT):=aA ([vF 1 a]++zK b++[mC 10 c d e,aKr 11 f g h i,(12,gh,false),(13,(.zone true [11] (dK a (set (List.map some j) e none) e)),false),(15,(.zone true [12] (bH h)),false)]) 16
abbrev aRI (a:List (Nat×Nat))(b c d:Int)(e:Nat)(f:List XT):=aA ([vF 1 a]++aEB b++[mC 10 c d e,mC 11 c d e,(13,(.zone true [] (ZV a (List.map some f))),false),mC 14 c d e]) 15
abbrev aB7 (a:List (Nat×Nat))(b c d:Int)(e:Nat)(f:List XT):=aA ([vF 1 a,(2,(.loop .busy none 93 (cE [kp 2 8]) 19 [6] (kd f93 28) (kd f93 29) 4),false)]++aRD b++[mC 10 c d e,mC 11 c d e,(13,(.zone true [] (ZV a (List.map some f))),false)]) 14
abbrev aKs (a b c d:Int):AV:=.agg [(nI a),(nI (IntKind.i64.wrap (b+c))),(.ep 12 1 (0+d.toNat) 0)]
abbrev aB8 (a:Nat)(b c:Int)(d:List XT)(e:List Pat):=oC a [(nI b),(nI c),(.gl 12 1 0 d.length false),(iP e)]
abbrev nU (a:Nat)(b c:Int)(d:List XT)(e:List Pat):=oC a [(nI b),(nI c),(.gl 1 1 0 d.length false),(iP e)]
abbrev aKt (a b:Int):AV:=.agg [(nI a),(nI 1),(.ep 1 1 (0+b.toNat) 0)]
abbrev kT (a:Nat)(b:List XT)(c:Int)(d:List Con):=oC a [(.gl 1 1 0 b.length false),(nI c),(iC d)]
abbrev vG (a b:Int)(c:Nat):AV:=.agg [(nI a),(nI b),(.ep 1 1 c 0)]
abbrev gI (a:Nat)(b c:Int)(d:Nat):=oC a [(nI b),(nI c),(.ep 1 1 d 0)]
abbrev iZ (a:Nat)(b:List (Nat×Nat)):=oL a 1 (List.map aR b)
abbrev aKu:AV:=.iface 191 (.agg [])
def bDQ(a b:Int)(c:List XT)(d:List Pat)(e:Int):TS:=cH PP 178 [(.ptr 0 0),(nI e)] [nU 0 a b c d,(1,gh,false)] 2
def bDR(a:List XT)(b:Int)(c:List Con)(d:Int):TS:=cH PP 74 [(.ptr 0 0),(nI d)] [kT 0 a b c,(1,gh,false),(2,(.zone true [1] (bH a)),false)] 3
def aKv(a:List XT)(b:Int)(c:List Con)(d e f:Int):TS:=⟨(tf 135 26 [(0,(.yield 2)),kp 1 3,(3,(nI e)),(9,(nI (a.length:Int))),(10,(nI f))] [kc f135 28,kl f135 28,.inBlock 0]),[(tf 93 19 [] [.inRF 2,.inBlock 0] (defers:=[.col 4])),(tf 74 41 [(4,(bV false)),kp 5 5] [.inRF 6,.inBlock 0,kc f74 55,.inScope (kd f74 6)] (defers:=[.col 7]))],[kT 0 a b c,(1,gh,false),(2,(.loop .ready none 93 (cE [kp 2 8]) 19 [6] (kd f93 28) (kd f93 29) 4),false),oC 3 [(.ptr 0 0)],(4,(.defd false),false),oC 5 [(bV false)],(6,(.loop .ready none 74 (cE [kp 3 9,kp 5 5]) 41 [10] (kd f74 436) (kd f74 437) 7),false),(7,(.defd false),false),oC 8 [(.yield 6)],oC 9 [(nI d)],(10,(.zone true [1] (bH a)),false)],11⟩
def aXz(a b c:Int)(d:List XT)(e:Nat)(f:List (Nat×Nat))(g i:Int)(j:List XT)(k:List Pat):TS:=cH PP 136 [(vG b c e),(.yield 2)] [(1,gh,false),(2,(.loop .ready none 93 (cE [kp 2 8]) 19 [6] (kd f93 28) (kd f93 29) 4),false),oC 3 [(.ptr 0 0)],(4,(.defd false),false),oC 5 [(bV false)],(6,(.loop .ready none 74 (cE [kp 3 9,kp 5 5]) 41 [10] (kd f74 436) (kd f74 437) 7),false),(7,(.defd false),false),oC 8 [(.yield 6)],oC 9 [(nI a)],(10,(.zone true [1] (bH d)),false)] 11
def aKw(d a b:Int)(e:List XT)(c:Nat)(f:List (Nat×Nat))(g i:Int)(j:List XT)(k:List Pat):TS:=⟨(tf 93 19 [kp 2 8,kp 3 10] [kc f93 116,kc f93 117,.inBlock 1] (roundOf:=some 2)),[(tf 136 48 [(1,(.yield 2)),kp 2 11,(4,(nI 0)),(8,(.yield 2)),(9,(vG a b c))] [ko f136 12 2,kc f136 13,kc f136 7])],[(1,gh,false),(2,(.loop .busy none 93 (cE [kp 2 8]) 19 [6] (kd f93 28) (kd f93 29) 4),false),oC 3 [(.ptr 0 0)],(4,(.defd false),false),oC 5 [(bV false)],(6,(.loop .ready none 74 (cE [kp 3 9,kp 5 5]) 41 [10] (kd f74 436) (kd f74 437) 7),false),(7,(.defd false),false),oC 8 [(.yield 6)],oC 9 [(nI d)],gI 10 a b c,gI 11 a b c,(12,(.zone true [1] (bH e)),false)],13⟩
def iO(e a b:Int)(f:List XT)(c:Nat)(d:List (Nat×Nat))(g i:Int)(j:List XT)(k:List Pat):TS:=⟨(tf 93 19 [kp 2 8,kp 3 10] [kc f93 116,kc f93 117,.inBlock 1] (roundOf:=some 2)),[(tf 136 48 [(1,(.yield 2)),kp 2 11,(4,(nI 0)),(8,(.yield 2)),(9,(vG a b c))] [ko f136 12 2,kc f136 13,kc f136 7])],[iZ 1 d,(2,(.loop .busy none 93 (cE [kp 2 8]) 19 [6] (kd f93 28) (kd f93 29) 4),false),oC 3 [(.ptr 0 0)],(4,(.defd false),false),oC 5 [(bV false)],(6,(.loop .ready none 74 (cE [kp 3 9,kp 5 5]) 41 [10] (kd f74 436) (kd f74 437) 7),false),(7,(.defd false),false),oC 8 [(.yield 6)],oC 9 [(nI e)],gI 10 a b c,gI 11 a b c,(13,(.zone true [] (ZV d (List.map some f))),false)],14⟩
def aB9(e b c:Int)(f:List XT)(a:Nat)(d:List (Nat×Nat))(i j:Int)(k:List XT)(l:List Pat)(g:XT):TS:=⟨(tf 74 41 [kp 5 5] [kc f74 27979,.inBlock 2,.inBlock 1] (roundOf:=some 6)),[(tf 93 19 [(13,(bV true)),(14,(.yield 6)),(15,(vG b c a))] [ko f93 116 9,kc f93 117,.inBlock 1] (roundOf:=some 2)),(tf 136 48 [(1,(.yield 2)),kp 2 10,(4,(nI 0)),(8,(.yield 2)),(9,(vG b c a))] [ko f136 12 2,kc f136 13,kc f136 7])],[(1,(.lst 1 ((List.map aR d).set a (.ptr 11 0))),false),(2,(.loop .busy none 93 (cE [kp 2 8]) 19 [6] (kd f93 28) (kd f93 29) 4),false),oC 3 [(.ptr 0 0)],(4,(.defd false),false),oC 5 [(bV false)],(6,(.loop .busy none 74 (cE [kp 3 9,kp 5 5]) 41 [10] (kd f74 436) (kd f74 437) 7),false),(7,(.defd false),false),oC 8 [(.yield 6)],oC 9 [(nI e)],gI 10 b c a,(11,gh,false),(12,(.zone true [11] (Z1 g)),false),(13,(.zone true [] (ZV d (set (List.map some f) a none))),false)],14⟩
def aCa(f b c:Int)(g:List XT)(a:Nat)(d:List (Nat×Nat))(j k:Int)(l:List XT)(m:List Pat)(i:XT)(e:Nat×Nat):TS:=⟨(tf 74 41 [kp 5 5] [kc f74 27979,.inBlock 2,.inBlock 1] (roundOf:=some 6)),[(tf 93 19 [(13,(bV true)),(14,(.yield 6)),(15,(vG b c a))] [ko f93 116 9,kc f93 117,.inBlock 1] (roundOf:=some 2)),(tf 136 48 [(1,(.yield 2)),kp 2 10,(4,(nI 0)),(8,(.yield 2)),(9,(vG b c a))] [ko f136 12 2,kc f136 13,kc f136 7])],[oL 1 1 (List.map aR (set d a e)),(2,(.loop .busy none 93 (cE [kp 2 8]) 19 [6] (kd f93 28) (kd f93 29) 4),false),oC 3 [(.ptr 0 0)],(4,(.defd false),false),oC 5 [(bV false)],(6,(.loop .busy none 74 (cE [kp 3 9,kp 5 5]) 41 [10] (kd f74 436) (kd f74 437) 7),false),(7,(.defd false),false),oC 8 [(.yield 6)],oC 9 [(nI f)],gI 10 b c a,(14,(.zone true [] (ZV (set d a e) (set (set (List.map some g) a none) a (some i)))),false)],15⟩
def zN(c a d:Int)(e:List XT)(f:Nat)(b:List (Nat×Nat))(i j:Int)(k:List XT)(l:List Pat)(g:Nat×Nat):TS:=⟨(tf 136 48 [(1,(.yield 2)),kp 2 10,(4,(nI 0)),(5,(nI (a+1))),(6,(aR g))] [kc f136 124,kc f136 125,kc f136 63]),[],([iZ 1 b]++zK c++[gI 10 a d f,(11,(.zone true [] (ZV b (List.map some e))),false)]),12⟩
def aGh(e b f:Int)(g:List XT)(a:Nat)(c:List (Nat×Nat))(i j:Int)(d:List XT)(k:List Pat)(l:Nat×Nat):TS:=⟨(tf 136 48 [(1,(.yield 2)),kp 2 10,(4,(nI 0)),(5,(nI (b+1))),kp 6 12] [kc f136 124,kc f136 125,kc f136 63]),[],([iZ 1 c]++zK e++[gI 10 b f a,oC 12 [(nI i),(nI j),(.gl 13 1 0 d.length false),(iP k)],(13,gh,false),(14,(.zone true [13] (bH d)),false),(15,(.zone true [12] (dK c (set (List.map some g) a none) a)),false)]),16⟩
def aED(d e f:Int)(g:List XT)(a:Nat)(c:List (Nat×Nat))(i j:Int)(b:List XT)(k:List Pat)(l m:Int):TS:=⟨(tf 136 48 [(1,(.yield 2)),kp 2 10,(4,(nI 0)),(5,(nI l)),kp 6 11,(23,(nI (b.length:Int))),(24,(nI m))] [kc f136 500,kl f136 500,.inBlock 0,kc f136 63]),[],([iZ 1 c]++zK d++[gI 10 e f a,aB8 11 i j b k,(12,gh,false),(13,(.zone true [11] (dK c (set (List.map some g) a none) a)),false),(14,(.zone true [12] (bH b)),false)]),15⟩
def aA3(a c:Int)(d:List XT)(b:List Pat)(e:Int):=tT 2 (bDQ a c d b e)<|.b 14 11 (a==5) (.E 25 2 [] (nI 1) [nU 0 a c d b,(1,gh,false)] 2)<|.b 7 18 (a==27) (.E 18 2 [] (nI 1) [nU 0 a c d b,(1,gh,false)] 2)<|.b 6 24 (a==7) (.b 6 5 (e==1) (.E 6 2 [] (nI 1) [nU 0 a c d b,(1,gh,false)] 2)<|.b 9 35 (a==15) (gd 5 29 (e>0) (gw 9 44 (e-1)<|rW 0 b (e-1)<|fun f g i j=>gpI 1 201 [(.agg [(nI f),(nI g),(dO i),(iP j)])]<|fun k=>.E 3 2 [] (nI k) [nU 0 a c d b,(1,gh,false)] 2)<|.E 8 2 [] (nI 0) [nU 0 a c d b,(1,gh,false)] 2)<|.E 13 2 [] (nI 0) [nU 0 a c d b,(1,gh,false)] 2)<|.b 15 35 (a==15) (gd 5 29 (e>0) (gw 9 44 (e-1)<|rW 0 b (e-1)<|fun f g i j=>gpI 1 201 [(.agg [(nI f),(nI g),(dO i),(iP j)])]<|fun k=>.E 3 2 [] (nI k) [nU 0 a c d b,(1,gh,false)] 2)<|.E 8 2 [] (nI 0) [nU 0 a c d b,(1,gh,false)] 2)<|.E 13 2 [] (nI 0) [nU 0 a c d b,(1,gh,false)] 2
def bBz:=fun a b c d e f=>aA3 a b c d e|>.t f tv
def bBA:=fun a b c d e f g=>aA3 a b c d e|>.f f|>.t g tv
def bBB:=fun a b c d e f g i j=>aA3 a b c d e|>.f f|>.f g|>.t i|>.t j tv
def bBC:=fun a b c d e f g i j k=>aA3 a b c d e|>.f f|>.f g|>.t i|>.f j|>.f k tv
def bBD:=fun a b c d e f g i j k l m n o p q r s t=>aA3 a b c d e|>.f l|>.f m|>.f n|>.t o|>.t p q f g i j r s k t tv
def bBE:=fun a b c d e f g i j k=>aA3 a b c d e|>.f f|>.f g|>.f i|>.t j|>.f k tv
def bBF:=fun a b c d e f g i j=>aA3 a b c d e|>.f f|>.f g|>.f i|>.f j tv
def bBG (a:List XT)(b:Int)(c:List Con)(d:Int):=(tT 2 (bDR a b c d)<|.i [rn 33,.lkeep 7 [3,5]] []<|.i [rn 23,.lkeep 11 [2]] []<|.W 15 12 [11,9,10,4,7,6,8,3,2] (aKv a b c d 0 0)) tv
def aKx(a:List XT)(b:Int)(c:List Con)(e f d:Int):=tT 2 (aKv a b c e f d)<|gd 5 11 (d< (a.length:Int)) (.i [rn 17,.ans (.ix)] [hA (0≤d),hA (d< (a.length:Int))]<|.o (gk 2 (.enter 136 [(aKt f d),(.yield 2)]) [kT 0 a b c,(1,gh,false),(2,(.loop .ready none 93 (cE [kp 2 8]) 19 [6] (kd f93 28) (kd f93 29) 4),false),oC 3 [(.ptr 0 0)],(4,(.defd false),false),oC 5 [(bV false)],(6,(.loop .ready none 74 (cE [kp 3 9,kp 5 5]) 41 [10] (kd f74 436) (kd f74 437) 7),false),(7,(.defd false),false),oC 8 [(.yield 6)],oC 9 [(nI e)],(10,(.zone true [1] (bH a)),false)] 11 (nI (-1)) [kT 0 a b c,(1,gh,false),(2,(.loop .done (some .ret) 93 (cE [kp 2 8]) 19 [6] (kd f93 28) (kd f93 29) 4),false),oC 3 [(.ptr 0 0)],(4,(.defd false),false),oC 5 [(bV false)],(6,(.loop .done (some (.exit 0)) 74 (cE [kp 3 9,kp 5 5]) 41 [10] (kd f74 436) (kd f74 437) 7),false),(7,(.defd false),false),oC 8 [(.yield 6)],oC 9 [(nI e)],(11,(.zone true [1] (bH a)),false)] 12<|.E 23 12 [11] (bV false) [kT 0 a b c,(1,gh,false),(2,(.zone true [1] (bH a)),false)] 3)<|.o (.y fun i:List XT=>gk 2 (.enter 136 [(aKt f d),(.yield 2)]) [kT 0 a b c,(1,gh,false),(2,(.loop .ready none 93 (cE [kp 2 8]) 19 [6] (kd f93 28) (kd f93 29) 4),false),oC 3 [(.ptr 0 0)],(4,(.defd false),false),oC 5 [(bV false)],(6,(.loop .ready none 74 (cE [kp 3 9,kp 5 5]) 41 [10] (kd f74 436) (kd f74 437) 7),false),(7,(.defd false),false),oC 8 [(.yield 6)],oC 9 [(nI e)],(10,(.zone true [1] (bH a)),false)] 11 (nI (-1)) [kT 0 a b c,(1,gh,false),(2,(.loop .done (some .ret) 93 (cE [kp 2 8]) 19 [6] (kd f93 28) (kd f93 29) 4),false),oC 3 [(.ptr 0 0)],(4,(.defd false),false),oC 5 [(bV true)],(6,(.loop .done (some (.exit 0)) 74 (cE [kp 3 9,kp 5 5]) 41 [10] (kd f74 436) (kd f74 437) 7),false),(7,(.defd false),false),oC 8 [(.yield 6)],oC 9 [(nI e)],(11,(.zone true [1] (bH i)),false)] 12<|.E 23 12 [11] (bV true) [kT 0 a b c,(1,gh,false),(2,(.zone true [1] (bH i)),false)] 3)<|.y fun g:Int=>gk 2 (.enter 136 [(aKt f d),(.yield 2)]) [kT 0 a b c,(1,gh,false),(2,(.loop .ready none 93 (cE [kp 2 8]) 19 [6] (kd f93 28) (kd f93 29) 4),false),oC 3 [(.ptr 0 0)],(4,(.defd false),false),oC 5 [(bV false)],(6,(.loop .ready none 74 (cE [kp 3 9,kp 5 5]) 41 [10] (kd f74 436) (kd f74 437) 7),false),(7,(.defd false),false),oC 8 [(.yield 6)],oC 9 [(nI e)],(10,(.zone true [1] (bH a)),false)] 11 (nI g) [kT 0 a b c,(1,gh,false),(2,(.loop .ready none 93 (cE [kp 2 8]) 19 [6] (kd f93 28) (kd f93 29) 4),false),oC 3 [(.ptr 0 0)],(4,(.defd false),false),oC 5 [(bV false)],(6,(.loop .ready none 74 (cE [kp 3 9,kp 5 5]) 41 [10] (kd f74 436) (kd f74 437) 7),false),(7,(.defd false),false),oC 8 [(.yield 6)],oC 9 [(nI e)],(11,(.zone true [1] (bH a)),false)] 12<|gd 7 24 (g<0) (.E 17 12 [11] (bV false) [kT 0 a b c,(1,gh,false),(2,(.zone true [1] (bH a)),false)] 3)<|gw 5 25 (d+1)<|.W 3 12 [2,3,4,5,6,7,8,9,11] (aKv a b c e g (d+1)))<|.E 18 11 [10] (bV false) [kT 0 a b c,(1,gh,false),(2,(.zone true [1] (bH a)),false)] 3
def bBH:=fun a b c d e f g i j k=>aKx a b c d e f|>.t g i j|>.1 k tv
def bBI:=fun a b c d e f g i j k l=>aKx a b c d e f|>.t i j k|>.2|>.1 g l tv
def bBJ:=fun a b c d e f g i j k l m n=>aKx a b c d e f|>.t i j k|>.2|>.2 g l|>.f m n tv
def bBK:=fun a b c d e f g=>aKx a b c d e f|>.f g tv
def aXA (a b c:Int)(d:List XT)(e:Nat)(f:List (Nat×Nat))(g i:Int)(j:List XT)(k:List Pat):=(tT 10 (aXz a b c d e f g i j k)<|.W 18 13 [12,11,10] (aKw a b c d e f g i j k)) tv
def aGi(e b d:Int)(g:List XT)(c:Nat)(a:List (Nat×Nat))(i j:Int)(k:List XT)(l:List Pat):=tT 10 (iO e b d g c a i j k l)<|.y fun f:Nat×Nat=>.i [rn 4,aI (aR f)] [.a (((a)[c]?) =some f) (aZ (f:=aR))]<|.o (.y fun m:Int=>gk 0 (.enter 95 [(aR f)]) [iZ 1 a,(2,(.loop .busy none 93 (cE [kp 2 8]) 19 [6] (kd f93 28) (kd f93 29) 4),false),oC 3 [(.ptr 0 0)],(4,(.defd false),false),oC 5 [(bV false)],(6,(.loop .ready none 74 (cE [kp 3 9,kp 5 5]) 41 [10] (kd f74 436) (kd f74 437) 7),false),(7,(.defd false),false),oC 8 [(.yield 6)],oC 9 [(nI e)],gI 10 b d c,gI 11 b d c,(13,(.zone true [] (ZV a (List.map some g))),false)] 14 (.iface 193 (nI m)) [iZ 1 a,(2,(.loop .busy none 93 (cE [kp 2 8]) 19 [6] (kd f93 28) (kd f93 29) 4),false),oC 3 [(.ptr 0 0)],(4,(.defd false),false),oC 5 [(bV false)],(6,(.loop .ready none 74 (cE [kp 3 9,kp 5 5]) 41 [10] (kd f74 436) (kd f74 437) 7),false),(7,(.defd false),false),oC 8 [(.yield 6)],oC 9 [(nI e)],gI 10 b d c,gI 11 b d c,(13,(.zone true [] (ZV a (List.map some g))),false)] 14<|.b 20 11 (b==e) .x<|gd 9 35 (b>e) (.E 15 15 [13] (nI (-1)) [iZ 1 a,(2,(.loop .done (some .ret) 93 (cE [kp 2 8]) 19 [6] (kd f93 28) (kd f93 29) 4),false),oC 3 [(.ptr 0 0)],(4,(.defd false),false),oC 5 [(bV false)],(6,(.loop .done (some (.exit 0)) 74 (cE [kp 3 9,kp 5 5]) 41 [10] (kd f74 436) (kd f74 437) 7),false),(7,(.defd false),false),oC 8 [(.yield 6)],oC 9 [(nI e)],(10,(.zone true [] (ZV a (List.map some g))),false)] 11)<|gw 21 14 (b+1)<|.i [rn 7,aI (aR f)] [.a (((a)[c]?) =some f) (aZ (f:=aR))]<|.W 4 15 [11,13] (zN e b d g c a i j k l f))<|.o (gk 0 (.enter 95 [(aR f)]) [iZ 1 a,(2,(.loop .busy none 93 (cE [kp 2 8]) 19 [6] (kd f93 28) (kd f93 29) 4),false),oC 3 [(.ptr 0 0)],(4,(.defd false),false),oC 5 [(bV false)],(6,(.loop .ready none 74 (cE [kp 3 9,kp 5 5]) 41 [10] (kd f74 436) (kd f74 437) 7),false),(7,(.defd false),false),oC 8 [(.yield 6)],oC 9 [(nI e)],gI 10 b d c,gI 11 b d c,(13,(.zone true [] (ZV a (List.map some g))),false)] 14 aKu [iZ 1 a,(2,(.loop .busy none 93 (cE [kp 2 8]) 19 [6] (kd f93 28) (kd f93 29) 4),false),oC 3 [(.ptr 0 0)],(4,(.defd false),false),oC 5 [(bV false)],(6,(.loop .ready none 74 (cE [kp 3 9,kp 5 5]) 41 [10] (kd f74 436) (kd f74 437) 7),false),(7,(.defd false),false),oC 8 [(.yield 6)],oC 9 [(nI e)],gI 10 b d c,gI 11 b d c,(13,(.zone true [] (ZV a (List.map some g))),false)] 14<|.b 20 11 (b==e) .x<|gd 9 35 (b>e) (.E 15 15 [13] (nI (-1)) [iZ 1 a,(2,(.loop .done (some .ret) 93 (cE [kp 2 8]) 19 [6] (kd f93 28) (kd f93 29) 4),false),oC 3 [(.ptr 0 0)],(4,(.defd false),false),oC 5 [(bV false)],(6,(.loop .done (some (.exit 0)) 74 (cE [kp 3 9,kp 5 5]) 41 [10] (kd f74 436) (kd f74 437) 7),false),(7,(.defd false),false),oC 8 [(.yield 6)],oC 9 [(nI e)],(10,(.zone true [] (ZV a (List.map some g))),false)] 11)<|gw 21 14 (b+1)<|.i [rn 7,aI (aR f)] [.a (((a)[c]?) =some f) (aZ (f:=aR))]<|.W 4 15 [11,13] (zN e b d g c a i j k l f))<|.i [.call .nili (aB7 a e b d c g)] [hA (Spec PP (.enter 95 [(aR f)]) (aB7 a e b d c g) (.ret .nili) (aB7 a e b d c g))]<|gw 21 14 (b+1)<|.i [rn 7,aI (aR f)] [.a (((a)[c]?) =some f) (aZ (f:=aR))]<|.W 4 14 [11,13] (zN e b d g c a i j k l f)
def aXB:=fun a b c d e f g i j k l m n o p q=>aGi a b c d e f g i j k l n|>.1 m o|>.f p|>.t q ⟨kk,trivial⟩
def aXC:=fun b c d e f g i j k l m n a o p q r=>aGi b c d e f g i j k l m a|>.1 n o|>.f p|>.f q r a ⟨kk,trivial⟩
def aXD:=fun a b c d e f g i j k l m n o p=>aGi a b c d e f g i j k l m|>.2|>.1 n|>.f o|>.t p ⟨kk,trivial⟩
def aXE:=fun b c d e f g i j k l m a n o p q=>aGi b c d e f g i j k l m a|>.2|>.1 n|>.f o|>.f p q a ⟨kk,trivial⟩
def aXF:=fun b c d e f g i j k l m a n o=>aGi b c d e f g i j k l m a|>.2|>.2 n o a ⟨kk,trivial⟩
def aXG (d g i:Int)(e:List XT)(a:Nat)(b:List (Nat×Nat))(j k:Int)(l:List XT)(m:List Pat)(f:XT)(c:Nat×Nat):=(tT 10 (aCa d g i e a b j k l m f c)<|.E 18 15 [14] (nI (-1)) [oL 1 1 (List.map aR (set b a c)),(2,(.loop .done (some .ret) 93 (cE [kp 2 8]) 19 [6] (kd f93 28) (kd f93 29) 4),false),oC 3 [(.ptr 0 0)],(4,(.defd false),false),oC 5 [(bV true)],(6,(.loop .done (some (.exit 0)) 74 (cE [kp 3 9,kp 5 5]) 41 [10] (kd f74 436) (kd f74 437) 7),false),(7,(.defd false),false),oC 8 [(.yield 6)],oC 9 [(nI d)],(10,(.zone true [] (ZV (set b a c) (set (set (List.map some e) a none) a (some f)))),false)] 11) ⟨kk,trivial⟩
def aXH (b a c:Int)(d:List XT)(e:Nat)(f:List (Nat×Nat))(g i:Int)(j:List XT)(k:List Pat)(l:Nat×Nat):=(tT 10 (aGh b a c d e f g i j k l)<|.W 10 16 [10,12,13,15,14] (aED b a c d e f g i j k (a+1) 0)) ⟨kk,trivial⟩
def aKy(e k d:Int)(f:List XT)(a:Nat)(c:List (Nat×Nat))(g i:Int)(b:List XT)(j:List Pat)(n l:Int):=tT 10 (aED e k d f a c g i b j n l)<|gd 5 25 (l< (b.length:Int)) (.o (.y fun m:Int=>.i [rn 10,.reg (rd 5 (.call (nI m) (zM c e k d a g i b j f)::rd 6 [.ans (.ix),.d,.d,.call (nI (-1)) (aXx c e k d a g i b j f),.d]))] [hA (aQn l c e k d a g i b j f m),hA (0≤l),hA (l< (b.length:Int)),hA (Spec PP (.enter 136 [(aKs n d m l),(.yield 2)]) (zM c e k d a g i b j f) (.ret (nI (-1))) (aXx c e k d a g i b j f)),hr (AV.gl 12 1 0 b.length false),hr (AV.gl 12 1 0 b.length false),hr (nI d),hr (nI d)]<|.E 12 16 [13,11,12,15] (nI (-1)) [iZ 1 c,(2,(.loop .done (some .ret) 93 (cE [kp 2 8]) 19 [6] (kd f93 28) (kd f93 29) 4),false),oC 3 [(.ptr 0 0)],(4,(.defd false),false),oC 5 [(bV false)],(6,(.loop .done (some (.exit 0)) 74 (cE [kp 3 9,kp 5 5]) 41 [10] (kd f74 436) (kd f74 437) 7),false),(7,(.defd false),false),oC 8 [(.yield 6)],oC 9 [(nI e)],(10,(.zone true [11] (dK c (set (List.map some f) a none) a)),false),aB8 11 g i b j,(12,gh,false),(13,(.zone true [12] (bH b)),false)] 14)<|.o (.y fun m:Int=>.y fun p:List XT=>.i [rn 10,.reg (rd 5 (.call (nI m) (zM c e k d a g i b j f)::rd 6 [.ans (.ix),.d,.d,.call (nI (-1)) (aXy c e k d a g i b j f p),.d]))] [hA (aQn l c e k d a g i b j f m),hA (0≤l),hA (l< (b.length:Int)),hA (Spec PP (.enter 136 [(aKs n d m l),(.yield 2)]) (zM c e k d a g i b j f) (.ret (nI (-1))) (aXy c e k d a g i b j f p)),hr (AV.gl 12 1 0 b.length false),hr (AV.gl 12 1 0 b.length false),hr (nI d),hr (nI d)]<|.E 12 16 [13,11,12,15] (nI (-1)) [iZ 1 c,(2,(.loop .done (some .ret) 93 (cE [kp 2 8]) 19 [6] (kd f93 28) (kd f93 29) 4),false),oC 3 [(.ptr 0 0)],(4,(.defd false),false),oC 5 [(bV true)],(6,(.loop .done (some (.exit 0)) 74 (cE [kp 3 9,kp 5 5]) 41 [10] (kd f74 436) (kd f74 437) 7),false),(7,(.defd false),false),oC 8 [(.yield 6)],oC 9 [(nI e)],(10,(.zone true [11] (dK c (set (List.map some f) a none) a)),false),aB8 11 g i b j,(12,gh,false),(13,(.zone true [12] (bH p)),false)] 14)<|.y fun m:Int=>.y fun o:Int=>.i [rn 10,.reg (rd 5 (.call (nI m) (zM c e k d a g i b j f)::rd 6 [.ans (.ix),.d,.d,.call (nI o) (aRH c e k d a g i b j f),.d]))] [hA (aQn l c e k d a g i b j f m),hA (0≤l),hA (l< (b.length:Int)),hA (Spec PP (.enter 136 [(aKs n d m l),(.yield 2)]) (zM c e k d a g i b j f) (.ret (nI o)) (aRH c e k d a g i b j f)),hr (AV.gl 12 1 0 b.length false),hr (AV.gl 12 1 0 b.length false),hr (nI d),hr (nI d)]<|gd 5 44 (o<0) (.E 7 16 [13,11,12,15] (nI o) [iZ 1 c,(2,(.loop .ready none 93 (cE [kp 2 8]) 19 [6] (kd f93 28) (kd f93 29) 4),false),oC 3 [(.ptr 0 0)],(4,(.defd false),false),oC 5 [(bV false)],(6,(.loop .ready none 74 (cE [kp 3 9,kp 5 5]) 41 [10] (kd f74 436) (kd f74 437) 7),false),(7,(.defd false),false),oC 8 [(.yield 6)],oC 9 [(nI e)],(10,(.zone true [11] (dK c (set (List.map some f) a none) a)),false),aB8 11 g i b j,(12,gh,false),(13,(.zone true [12] (bH b)),false)] 14)<|gw 5 46 (l+1)<|.W 3 16 [10,11,12,13,15] (aED e k d f a c g i b j o (l+1)))<|.E 8 15 [13,11,12,14] (nI n) [iZ 1 c,(2,(.loop .ready none 93 (cE [kp 2 8]) 19 [6] (kd f93 28) (kd f93 29) 4),false),oC 3 [(.ptr 0 0)],(4,(.defd false),false),oC 5 [(bV false)],(6,(.loop .ready none 74 (cE [kp 3 9,kp 5 5]) 41 [10] (kd f74 436) (kd f74 437) 7),false),(7,(.defd false),false),oC 8 [(.yield 6)],oC 9 [(nI e)],(10,(.zone true [11] (dK c (set (List.map some f) a none) a)),false),aB8 11 g i b j,(12,gh,false),(13,(.zone true [12] (bH b)),false)] 14
def aXI:=fun a b c d e f g i j k l m n o p q r s=>aKy a b c d e f g i j k l m|>.t o|>.1 n p q r s ⟨kk,trivial⟩
def aXJ:=fun a b c d e f g i j k l m n o p q r s t=>aKy a b c d e f g i j k l m|>.t p|>.2|>.1 n o q r s t ⟨kk,trivial⟩
def aXK:=fun a b c d e f g i j k l m n o p q r s t u v=>aKy a b c d e f g i j k l m|>.t p|>.2|>.2 n o q r s t|>.f u v ⟨kk,trivial⟩
def aXL:=fun a b c d e f g i j k l m n=>aKy a b c d e f g i j k l m|>.f n ⟨kk,trivial⟩
theorem bBL (node b e:Int)(xs:List XT)(ix:Nat)(f: (List (Nat×Nat)))(op c:Int)(ks:List XT)(ps:List Pat){d:Res}{hf:Hp}(i:xs≠ [])(k:∀a,a.length=xs.length→Ends PP 10 (iO node b e xs ix a op c ks ps).as d hf) :Ends PP 10 (aKw node b e xs ix f op c ks ps).as d hf:=
 kS (t:=fun a=> (iO node b e xs ix a op c ks ps).as) (ok:=fun j=>j.length=xs.length) (sV (h:= (aKw node b e xs ix f op c ks ps).as.h) (h':=fun a=> (iO node b e xs ix a op c ks ps).as.h) (k:=1) (g:=12) (o:=gh) (ts:=xs) aC rfl aC i (fun _=>Nat.le_refl _) (fun a=> (aU ⟨.inr (.inl ⟨rfl,rfl⟩),.inr (.inr ⟨by decide,by kernel_rfl⟩),.inr (.inr ⟨by decide,by kernel_rfl⟩),.inr (.inr ⟨by decide,by kernel_rfl⟩),.inr (.inr ⟨by decide,by kernel_rfl⟩),.inr (.inr ⟨by decide,by kernel_rfl⟩),.inr (.inr ⟨by decide,by kernel_rfl⟩),.inr (.inr ⟨by decide,by kernel_rfl⟩),.inr (.inr ⟨by decide,by kernel_rfl⟩),.inr (.inr ⟨by decide,by kernel_rfl⟩),.inr (.inr ⟨by decide,by kernel_rfl⟩),.inl ⟨rfl,rfl⟩,trivial⟩))) (fun a=> ⟨by kernel_rfl,by kernel_rfl⟩) k
theorem bBM (node f e:Int)(xs:List XT)(ix:Nat)(c: (List (Nat×Nat)))(op j:Int)(ks:List XT)(ps:List Pat)(b:XT){d:Res}{hf:Hp}(l: ((set (List.map some xs) ix none))[ix]?=some none)(k:∀a,Ends PP 10 (aCa node f e xs ix c op j ks ps b a).as d hf) :Ends PP 10 (aB9 node f e xs ix c op j ks ps b).as d hf:=
 kS (t:= (fun a=> (aCa node f e xs ix c op j ks ps b a).as)) (ok:=fun _=>True) (aJx (h:= (aB9 node f e xs ix c op j ks ps b).as.h) (h':=fun a=> (aCa node f e xs ix c op j ks ps b a).as.h) (k:=1) (g:=13) (gz:=12) (z:=11) (us:=c) (ts:= (set (List.map some xs) ix none)) (i:=ix) (t:=b) aC aC aC l (by decide) (fun _=>Nat.le_refl _) (fun a=> (aU ⟨.inr (.inl ⟨rfl,rfl⟩),.inr (.inr ⟨by decide,by kernel_rfl⟩),.inr (.inr ⟨by decide,by kernel_rfl⟩),.inr (.inr ⟨by decide,by kernel_rfl⟩),.inr (.inr ⟨by decide,by kernel_rfl⟩),.inr (.inr ⟨by decide,by kernel_rfl⟩),.inr (.inr ⟨by decide,by kernel_rfl⟩),.inr (.inr ⟨by decide,by kernel_rfl⟩),.inr (.inr ⟨by decide,by kernel_rfl⟩),.inr (.inr ⟨by decide,by kernel_rfl⟩),.inl ⟨rfl,rfl⟩,trivial⟩))) (fun a=> ⟨by kernel_rfl,by kernel_rfl⟩) (fun a _=>k a)
theorem bBN (node d e:Int)(xs:List XT)(ix:Nat)(c: (List (Nat×Nat)))(op b:Int)(ks:List XT)(ps:List Pat)(a: (Nat×Nat))(f:c[ix]?=some a)(k: ((List.map some xs))[ix]?=some (some (.mk op b ks ps))) :LeadsM PP 10 (zN node d e xs ix c op b ks ps a).as (aGh node d e xs ix c op b ks ps a).as:=
 sZ (j:=6) (v:=aR a) (v':=.ptr 12 0) aC (fun hm=>pM (h:= (zN node d e xs ix c op b ks ps a).as.h) (h':= (aGh node d e xs ix c op b ks ps a).as.h) (g:=11) (us:=c) (ts:= (List.map some xs)) (i:=ix) (u:=a) (op:=op) (n:=b) (ks:=ks) (ps:=ps) aC f k rfl (aU ⟨.inr (.inr (.inr (.inr ⟨by decide,by kernel_rfl⟩))),.inr (.inr (.inr (.inr ⟨by decide,by kernel_rfl⟩))),.inr (.inr (.inr (.inr ⟨by decide,by kernel_rfl⟩))),.inr (.inr (.inr (.inr ⟨by decide,by kernel_rfl⟩))),.inr (.inr (.inr (.inr ⟨by decide,by kernel_rfl⟩))),.inr (.inr (.inr (.inr ⟨by decide,by kernel_rfl⟩))),.inr (.inr (.inr (.inr ⟨by decide,by kernel_rfl⟩))),.inr (.inr (.inr (.inr ⟨by decide,by kernel_rfl⟩))),.inr (.inr (.inr (.inr ⟨by decide,by kernel_rfl⟩))),.inr (.inr (.inr (.inr ⟨by decide,by kernel_rfl⟩))),.inl ⟨rfl,rfl⟩,.inr (.inl ⟨rfl,rfl⟩),.inr (.inr (.inl ⟨rfl,rfl⟩)),.inr (.inr (.inr (.inl ⟨rfl,rfl⟩))),trivial⟩) hm) aC aC
theorem aXM (node c d:Int)(xs:List XT)(ix:Nat)(a: (List (Nat×Nat)))(op i:Int)(ks:List XT)(ps:List Pat)(b: (Nat×Nat))(g f:Int)(e:XT)(h: ((a)[ix]?) =some b)(h1:aXw b a node c d ix xs g)(h2: (c==node) =true)(k:aXu b a node c d ix xs f)(j:aXs f b d a node c ix xs e) :
  LeadsM PP 10 (iO node c d xs ix a op i ks ps).as (aB9 node c d xs ix a op i ks ps e).as:=
 kZ (n1:=18) (ks:=[11,16,17,15]) (W:=[some (.lst 1 ((List.map aR a).set ix (.ptr 16 0))),some (.loop .busy none 93 (cE [kp 2 8]) 19 [6] (kd f93 28) (kd f93 29) 4),some (.cells (putCells .leaf 0 [(.ptr 0 0)]) 1 [] false),some (.defd false),some (.cells (putCells .leaf 0 [(bV false)]) 1 [] false),some (.loop .busy none 74 (cE [kp 3 9,kp 5 5]) 41 [10] (kd f74 436) (kd f74 437) 7),some (.defd false),some (.cells (putCells .leaf 0 [(.yield 6)]) 1 [] false),some (.cells (putCells .leaf 0 [(nI node)]) 1 [] false),some (.cells (putCells .leaf 0 [(nI c),(nI d),(.ep 1 1 ix 0)]) 3 [] false),some gh,some (.zone true [16] (Z1 e)),some (.zone true [] (ZV a (set (List.map some xs) ix none)))]) (wc (yZ aC) (wc aC (wc aC (wc aC (wc aC (wc aC (wc aC (wc aC (wc aC (wc aC (wc aC (wc aC (wc aC wn))))))))))))) (ps:=[(List.map aR a)[ix]?=some (aR b),aXw b a node c d ix xs g,(c==node) =true,(List.map aR a)[ix]?=some (aR b),aXu b a node c d ix xs f,(List.map aR a)[ix]?=some (aR b),aXs f b d a node c ix xs e,(List.map aR a)[ix]?=some (aR b),kO (aR b) 0 [(.ptr 16 0)] =some (ptr 16 0),(ep 1 1 ix 0) = (ep 1 1 ix 0),(ep 1 1 ix 0) = (ep 1 1 ix 0)]) (is:=[.run 4,.ans (.idx (aR b)),.call (.iface 193 (nI g)) (aB7 a node c d ix xs),.run 20,.b 11 true,.run 6,.ans (.idx (aR b)),.call (.iface 193 (nI f)) (aRI a node c d ix xs),.run 3,.reg [.d,.d,.d,.d,.d,.d,.ans (.idx (aR b)),.d,.d,.d,.d,.d,.call (.ptr 16 0) (aRG a node c d ix xs e),.d,.st (aR b) (.ptr 16 0)]]) aC aC trivial ⟨(aZ h),h1,h2,(aZ h),k,(aZ h),j,(aZ h),rfl,rfl,rfl⟩
theorem aXN (node c d:Int)(xs:List XT)(ix:Nat)(a: (List (Nat×Nat)))(op g:Int)(ks:List XT)(ps:List Pat)(b: (Nat×Nat))(e:XT)(f: ((a)[ix]?) =some b)(h1:aXv b a node c d ix xs)(h2: (c==node) =true)(i:aXt b a node c d ix xs)(h:aXr b d a node c ix xs e) :
  LeadsM PP 10 (iO node c d xs ix a op g ks ps).as (aB9 node c d xs ix a op g ks ps e).as:=
 kZ (n1:=18) (ks:=[11,16,17,15]) (W:=[some (.lst 1 ((List.map aR a).set ix (.ptr 16 0))),some (.loop .busy none 93 (cE [kp 2 8]) 19 [6] (kd f93 28) (kd f93 29) 4),some (.cells (putCells .leaf 0 [(.ptr 0 0)]) 1 [] false),some (.defd false),some (.cells (putCells .leaf 0 [(bV false)]) 1 [] false),some (.loop .busy none 74 (cE [kp 3 9,kp 5 5]) 41 [10] (kd f74 436) (kd f74 437) 7),some (.defd false),some (.cells (putCells .leaf 0 [(.yield 6)]) 1 [] false),some (.cells (putCells .leaf 0 [(nI node)]) 1 [] false),some (.cells (putCells .leaf 0 [(nI c),(nI d),(.ep 1 1 ix 0)]) 3 [] false),some gh,some (.zone true [16] (Z1 e)),some (.zone true [] (ZV a (set (List.map some xs) ix none)))]) (wc (yZ aC) (wc aC (wc aC (wc aC (wc aC (wc aC (wc aC (wc aC (wc aC (wc aC (wc aC (wc aC (wc aC wn))))))))))))) (ps:=[(List.map aR a)[ix]?=some (aR b),aXv b a node c d ix xs,(c==node) =true,(List.map aR a)[ix]?=some (aR b),aXt b a node c d ix xs,(List.map aR a)[ix]?=some (aR b),aXr b d a node c ix xs e,(List.map aR a)[ix]?=some (aR b),kO (aR b) 0 [(.ptr 16 0)] =some (ptr 16 0),(ep 1 1 ix 0) = (ep 1 1 ix 0),(ep 1 1 ix 0) = (ep 1 1 ix 0)]) (is:=[.run 4,.ans (.idx (aR b)),.call aKu (aB7 a node c d ix xs),.run 20,.b 11 true,.run 6,.ans (.idx (aR b)),.call aKu (aRI a node c d ix xs),.run 3,.reg [.d,.d,.d,.d,.d,.d,.ans (.idx (aR b)),.d,.d,.d,.d,.d,.call (.ptr 16 0) (aRG a node c d ix xs e),.d,.st (aR b) (.ptr 16 0)]]) aC aC trivial ⟨(aZ f),h1,h2,(aZ f),i,(aZ f),h,(aZ f),rfl,rfl,rfl⟩
theorem aNd (f n:Int)(s:cC)(ps:List Pat)(hl:ps.length<1000000)(j:∀p∈ps,aM PP 201 [Pat.av p] (.int .i64 (bnm p))) :
  ∀ (t:List Pat) (i:Nat) (a:Int),0≤a→a+aAf t≤1000000→ps.drop i=t→Ends PP 0 (aJ5 f n s ps a (i:Int)).as (.ret (.int .i64 (a+aAf t))) (aA [] 0)
 | [],i,a,_,_,h=>by
  have:=bL h;exact Ends.eqv (bAj f n s ps a i sd) (by simp [aAf])
 | .mk d g c b::t,i,a,o,hb,h=>by
  obtain⟨k,l,r⟩ :=bI h;have e:=j _ (kN k);have q:=aF7 (.mk d g c b);have m:=zE t;rw [aAf]at hb ⊢;refine(bAi f n s ps a i d g c b _ sd sd sd e sd sd).ends ?_;exact Ends.eqv (aNd f n s ps hl j t (i+1) (a+bnm (.mk d g c b)) (by omega) (by omega) l) (by rw [Int.add_assoc])
mutual
theorem aGj :∀ (p:Pat),bX p<100000→aM PP 201 [Pat.av p] (.int .i64 (bnm p))
 | .mk f n s a,h=>by
  refine aK aC (by simp [keylessL,kW]) rfl ?_;simp only [bX]at h;have:=eD a;have b:=zE a;by_cases g:f=2
  · subst g;exact Ends.eqv (bAg 2 n s a rfl) (by simp [bnm])
  · refine(bAh f n s a (by simpa using g)).ends ?_;exact Ends.eqv (aNd f n s a (by omega) (aRJ a (by omega)) a 0 0 (by omega) (by omega) rfl) (by simp [bnm,g])
theorem aRJ :∀ (b:List Pat),bD b<100000→∀p∈b,aM PP 201 [Pat.av p] (.int .i64 (bnm p))
 | [],_,p,a=>by cases a
 | q::b,h,p,a=>by
  simp only [bD]at h;rcases zq7.1 a with e|a
  ·rw [e];exact aGj q (by omega)
  ·exact aRJ b (by omega) p a
end
def bJ (o:Int)(ps:List Pat)(k:Int) :Int:=dI ⟨o,0,[],ps⟩ k
def fE (o:Int) :Bool:=decide (o=8) ||decide (o=15) ||decide (o=16) ||decide (o=17) ||decide (o=19) ||decide (o=20) ||decide (o=23) ||decide (o=24)
def kB (o:Int) :Bool:=decide (o=6) ||decide (o=9) ||decide (o=10) ||decide (o=11) ||decide (o=12) ||decide (o=13) ||decide (o=18) ||decide (o=22) ||decide (o=14)
def bF (o:Int)(l:Nat) :Nat:=if fE o then 1 else if kB o then l else 0
def bP (t:XT) :Bool:=decide (t.op=1) ||decide (t.op=2) ||decide (t.op=3) ||decide (t.op=4)
mutual
def FineX (B:Int) :XT→Prop
 | .mk o n ks ps=> (o=4→n≤B) ∧ks.length≤1000∧ (∀q∈ps,bX q≤1000) ∧ (o=15→ks.length=1+ps.length) ∧ (o=7→ks.length=2) ∧ (bF o ks.length≤ks.length∧ps.length≤900∧ (kB o=true→o≠14→ks.length=2) ∧ (∀q∈ps,bnm q=rnm q)) ∧FineXs B ks
def FineXs (B:Int) :List XT→Prop
 | [] =>True
 |t::ts=>FineX B t∧FineXs B ts
end
theorem fineXs_iff {B:Int}:∀ {ts:List XT},FineXs B ts↔∀t∈ts,FineX B t
 | [] =>by simp [FineXs]
 |t::ts=>by simp only [FineXs,fineXs_iff (ts:=ts),zq7];exact⟨fun h x a=>by rcases a with rfl|a;exact h.1;exact h.2 x a,fun h=> ⟨h t (.inl rfl),fun x a=>h x (.inr a)⟩⟩
mutual
theorem FineX.ok {B:Int}(hB:B≤1000000) :∀ {t:XT},FineX B t→OkT t
 | .mk o n a b,h=>by
  simp only [FineX]at h;simp only [OkT];exact⟨fun e=>Int.le_trans (h.1 e) hB,by omega,FineXs.ok hB h.2.2.2.2.2.2⟩
theorem FineXs.ok {B:Int}(hB:B≤1000000) :∀ {a:List XT},FineXs B a→aKj a
 | [],_=>trivial
 |t::a,h=> ⟨FineX.ok hB h.1,FineXs.ok hB h.2⟩
end
theorem mD {o:Int}{ps:List Pat}(h:∀q∈ps,bX q≤1000)(k:Int) :0≤bJ o ps k∧bJ o ps k≤1000:=by
 unfold bJ dI;simp only;split
 ·omega
 · split
   · split
     · rename_i q a;have:=h q (kN a);have:=aF7 q;omega
     ·omega
   ·omega
section
variable (o n:Int) (ks:List XT) (ps:List Pat)
theorem aGk (k:Int)(R:Int→Prop)(h1:o=5∨o=27∨ (o=7∧k=1) →R 1)(h2:¬ (o=5∨o=27∨ (o=7∧k=1)) →o=15→0<k→∀q,ps[(k-1).toNat]?=some q→R (bnm q))(hp:o=15→0<k→∃q,ps[(k-1).toNat]?=some q)
  (d:¬ (o=5∨o=27∨ (o=7∧k=1)) →¬ (o=15∧0<k) →R 0) :R (bJ o ps k) :=by
 unfold bJ dI;simp only;by_cases a:o=5∨o=27∨ (o=7∧k=1)
 ·rw [if_pos a];exact h1 a
 · rw [if_neg a];by_cases b:o=15∧k>0
   · rw [if_pos b];obtain⟨q,c⟩ :=hp b.1 b.2;rw [c];exact h2 a b.1 b.2 q c
   ·rw [if_neg b];exact d a b
theorem aRK (i:∀q∈ps,bX q≤1000)(k:Int)(hk:0≤k∧k≤1000)(hp:o=15→0<k→∃q,ps[(k-1).toNat]?=some q) :
  fC PP 2 (.enter 178 [.ptr 0 0,.int .i64 k]) (aA [(0,(.cells (putCells .leaf 0 [(.int .i64 o),(.int .i64 n),(.gl 1 1 0 (length ks) false),(.ilst 4 (av ps) false)]) 4 [] false),false),(1,gh,false)] 2) (.ret (.int .i64 (bJ o ps k))) (aA [(0,(.cells (putCells .leaf 0 [(.int .i64 o),(.int .i64 n),(.gl 1 1 0 (length ks) false),(.ilst 4 (av ps) false)]) 4 [] false),false),(1,gh,false)] 2) :=by
 refine⟨(bDQ o n ks ps k).as.fr,by kernel_rfl,?_⟩;refine aGk o ps k (fun z=>Ends PP 2 _ (.ret (.int .i64 z)) _) (fun h=>?_) (fun h g j q f=>?_) hp (fun h l=>?_)
 · by_cases a:o=5
   ·exact bBz o n ks ps k (by simpa using a)
   · by_cases b:o=27
     ·exact bBA o n ks ps k (by simpa using a) (by simpa using b)
     · have c:o=7∧k=1:=by omega
       exact bBB o n ks ps k (by simpa using a) (by simpa using b) (by simpa using c.1) (by simpa using c.2)
 · obtain⟨a,b,c,d⟩ :=q;have:=i _ (kN f);exact bBD o n ks ps k a b c d _ (by simp;omega) (by simp;omega) (by simp;omega) (by simpa using g) sd sd (by omega) f (aGj (.mk a b c d) (by omega))
 · have a:¬o=5:=fun e=>h (.inl e);have b:¬o=27:=fun e=>h (.inr (.inl e));by_cases c:o=7
   · have d:¬k=1:=fun e=>h (.inr (.inr ⟨c,e⟩));exact bBC o n ks ps k (by simpa using a) (by simpa using b) (by simpa using c) (by simpa using d) (by simp;omega)
   · by_cases e:o=15
     ·exact bBE o n ks ps k (by simpa using a) (by simpa using b) (by simpa using c) (by simpa using e) (by simp;omega)
     ·exact bBF o n ks ps k (by simpa using a) (by simpa using b) (by simpa using c) (by simpa using e)
theorem aNe :aM PP 138 [XT.av (.mk o n ks ps)] (.bool (bP (.mk o n ks ps))) :=by
 refine aK aC (by simp [keylessL,aLQ]) rfl ?_;show Ends PP 0 _ (.ret (.bool (decide (o=1) ||decide (o=2) ||decide (o=3) ||decide (o=4)))) _;by_cases a:o=1
 · rw [show(decide (o=1) ||decide (o=2) ||decide (o=3) ||decide (o=4)) =true by simp [a]];exact bAr o n ks ps (by simpa using a)
 by_cases b:o=2
 · rw [show(decide (o=1) ||decide (o=2) ||decide (o=3) ||decide (o=4)) =true by simp [b]];exact bAs o n ks ps (by simpa using a) (by simpa using b)
 by_cases c:o=3
 · rw [show(decide (o=1) ||decide (o=2) ||decide (o=3) ||decide (o=4)) =true by simp [c]];exact bAt o n ks ps (by simpa using a) (by simpa using b) (by simpa using c)
 by_cases d:o=4
 · rw [show(decide (o=1) ||decide (o=2) ||decide (o=3) ||decide (o=4)) =true by simp [d]];exact bAu o n ks ps (by simpa using a) (by simpa using b) (by simpa using c) (by simpa using d)
 rw [show(decide (o=1) ||decide (o=2) ||decide (o=3) ||decide (o=4)) =false by simp [a,b,c,d]];exact bAv o n ks ps (by simpa using a) (by simpa using b) (by simpa using c) (by simpa using d)
theorem aXO :aM PP 137 [XT.av (.mk o n ks ps)] (.int .i64 ((bF o ks.length:Nat) :Int)) :=by
 refine aK aC (by simp [keylessL,aLQ]) rfl ?_;by_cases b:o=8
 · have e:bF o ks.length=1:=by unfold bF fE;simp [b]
   rw [e];exact bAw o n ks ps (by simpa using b)
 by_cases d:o=15
 · have e:bF o ks.length=1:=by unfold bF fE;simp [d]
   rw [e];exact bAx o n ks ps (by simpa using b) (by simpa using d)
 by_cases f:o=16
 · have e:bF o ks.length=1:=by unfold bF fE;simp [f]
   rw [e];exact bAy o n ks ps (by simpa using b) (by simpa using d) (by simpa using f)
 by_cases h:o=17
 · have e:bF o ks.length=1:=by unfold bF fE;simp [h]
   rw [e];exact bAz o n ks ps (by simpa using b) (by simpa using d) (by simpa using f) (by simpa using h)
 by_cases i:o=19
 · have e:bF o ks.length=1:=by unfold bF fE;simp [i]
   rw [e];exact bAA o n ks ps (by simpa using b) (by simpa using d) (by simpa using f) (by simpa using h) (by simpa using i)
 by_cases k:o=20
 · have e:bF o ks.length=1:=by unfold bF fE;simp [k]
   rw [e];exact bAB o n ks ps (by simpa using b) (by simpa using d) (by simpa using f) (by simpa using h) (by simpa using i) (by simpa using k)
 by_cases l:o=23
 · have e:bF o ks.length=1:=by unfold bF fE;simp [l]
   rw [e];exact bAC o n ks ps (by simpa using b) (by simpa using d) (by simpa using f) (by simpa using h) (by simpa using i) (by simpa using k) (by simpa using l)
 by_cases m:o=24
 · have e:bF o ks.length=1:=by unfold bF fE;simp [m]
   rw [e];exact bAD o n ks ps (by simpa using b) (by simpa using d) (by simpa using f) (by simpa using h) (by simpa using i) (by simpa using k) (by simpa using l) (by simpa using m)
 by_cases q:o=6
 · have e:bF o ks.length=ks.length:=by unfold bF fE kB;simp [q]
   rw [e];exact bAE o n ks ps (by simpa using b) (by simpa using d) (by simpa using f) (by simpa using h) (by simpa using i) (by simpa using k) (by simpa using l) (by simpa using m) (by simpa using q)
 by_cases s:o=9
 · have e:bF o ks.length=ks.length:=by unfold bF fE kB;simp [s]
   rw [e];exact bAF o n ks ps (by simpa using b) (by simpa using d) (by simpa using f) (by simpa using h) (by simpa using i) (by simpa using k) (by simpa using l) (by simpa using m) (by simpa using q) (by simpa using s)
 by_cases a:o=10
 · have e:bF o ks.length=ks.length:=by unfold bF fE kB;simp [a]
   rw [e];exact aWT o n ks ps (by simpa using b) (by simpa using d) (by simpa using f) (by simpa using h) (by simpa using i) (by simpa using k) (by simpa using l) (by simpa using m) (by simpa using q) (by simpa using s) (by simpa using a)
 by_cases c:o=11
 · have e:bF o ks.length=ks.length:=by unfold bF fE kB;simp [c]
   rw [e];exact aWU o n ks ps (by simpa using b) (by simpa using d) (by simpa using f) (by simpa using h) (by simpa using i) (by simpa using k) (by simpa using l) (by simpa using m) (by simpa using q) (by simpa using s) (by simpa using a) (by simpa using c)
 by_cases g:o=12
 · have e:bF o ks.length=ks.length:=by unfold bF fE kB;simp [g]
   rw [e];exact aWV o n ks ps (by simpa using b) (by simpa using d) (by simpa using f) (by simpa using h) (by simpa using i) (by simpa using k) (by simpa using l) (by simpa using m) (by simpa using q) (by simpa using s) (by simpa using a) (by simpa using c) (by simpa using g)
 by_cases j:o=13
 · have e:bF o ks.length=ks.length:=by unfold bF fE kB;simp [j]
   rw [e];exact aWW o n ks ps (by simpa using b) (by simpa using d) (by simpa using f) (by simpa using h) (by simpa using i) (by simpa using k) (by simpa using l) (by simpa using m) (by simpa using q) (by simpa using s) (by simpa using a) (by simpa using c) (by simpa using g) (by simpa using j)
 by_cases p:o=18
 · have e:bF o ks.length=ks.length:=by unfold bF fE kB;simp [p]
   rw [e];exact aWX o n ks ps (by simpa using b) (by simpa using d) (by simpa using f) (by simpa using h) (by simpa using i) (by simpa using k) (by simpa using l) (by simpa using m) (by simpa using q) (by simpa using s) (by simpa using a) (by simpa using c) (by simpa using g) (by simpa using j) (by simpa using p)
 by_cases r:o=22
 · have e:bF o ks.length=ks.length:=by unfold bF fE kB;simp [r]
   rw [e];exact aWY o n ks ps (by simpa using b) (by simpa using d) (by simpa using f) (by simpa using h) (by simpa using i) (by simpa using k) (by simpa using l) (by simpa using m) (by simpa using q) (by simpa using s) (by simpa using a) (by simpa using c) (by simpa using g) (by simpa using j) (by simpa using p) (by simpa using r)
 by_cases t:o=14
 · have e:bF o ks.length=ks.length:=by unfold bF fE kB;simp [t]
   rw [e];exact aWZ o n ks ps (by simpa using b) (by simpa using d) (by simpa using f) (by simpa using h) (by simpa using i) (by simpa using k) (by simpa using l) (by simpa using m) (by simpa using q) (by simpa using s) (by simpa using a) (by simpa using c) (by simpa using g) (by simpa using j) (by simpa using p) (by simpa using r) (by simpa using t)
 have e:bF o ks.length=0:=by unfold bF fE kB;simp [b,d,f,h,i,k,l,m,q,s,a,c,g,j,p,r,t]
 rw [e];exact aW0 o n ks ps (by simpa using b) (by simpa using d) (by simpa using f) (by simpa using h) (by simpa using i) (by simpa using k) (by simpa using l) (by simpa using m) (by simpa using q) (by simpa using s) (by simpa using a) (by simpa using c) (by simpa using g) (by simpa using j) (by simpa using p) (by simpa using r) (by simpa using t)
def cU :List XT→Nat→Nat→Option Nat
 | [],_,_=>none
 |_::_,_,0=>none
 |t::ts,i,m+1=>if bP t then cU ts (i+1) m else some i
def cO :XT→Option (Option Nat)
 | .mk o _ ks _=>if o=7 then(match ks[0]? with|some t=>if t.op=7 then some none else none|none=>none)else(cU ks 0 (bF o ks.length)).map some
noncomputable def aNf:Option (Option Nat) →AV
 |none=>.nili
 |some none=>.iface 191 (.agg [])
 |some (some k) =>.iface 193 (.int .i64 (k:Int))
theorem aNg (hl:ks.length≤1000)(k:bF o ks.length≤ks.length) :∀ (g:List XT) (i m:Nat),ks.drop i=g→i+m=bF o ks.length →
  Ends PP 0 (aJ6 o n ks ps ((bF o ks.length:Nat) :Int) (i:Int)).as (.ret (aNf ((cU g i m).map some))) (aA [] 0)
 | g,i,0,h,hm=>by
  have e:cU g i 0=none:=by cases g<;>rfl
  rw [e];exact bAL o n ks ps _ (i:Int) sd
 | [],i,m+1,h,hm=>by have:=bL h;omega
 | .mk a b c d::g,i,m+1,h,hm=>by
  obtain⟨p,l,q⟩ :=bI h;cases j:bP (.mk a b c d)
  case false=>
   have e:cU (.mk a b c d::g) i (m+1) =some i:=by simp [cU,j]
   rw [e];have f:=aNe a b c d;rw [j]at f;exact bAJ o n ks ps _ (i:Int) a b c d false sd sd sd f rfl
  have e:cU (.mk a b c d::g) i (m+1) =cU g (i+1) m:=by simp [cU,j]
  rw [e];have f:=aNe a b c d;rw [j]at f;refine(bAK o n ks ps _ (i:Int) a b c d true sd sd sd f rfl sd).ends ?_;exact aNg hl k g (i+1) m l (by omega)
end
theorem aNh {B:Int}:∀ {t:XT},FineX B t→aM PP 95 [XT.av t] (aNf (cO t))
 | .mk o n f i,h=>by
  simp only [FineX]at h;obtain⟨_,m,_,_,p,l,_⟩ :=h;refine aK aC (by simp [keylessL,aLQ]) ?_ ?_
  · generalize cO (.mk o n f i) =s
    match s with
    |none=>rfl
    |some none=>rfl
    |some (some k) =>rfl
  · by_cases e:o=7
    · have hl:=p e;obtain⟨⟨a,b,c,d⟩,hk⟩ :∃t0,f[0]?=some t0:= ⟨_,kF (by omega)⟩
      · by_cases g:a=7
        · have j:cO (.mk o n f i) =some none:=by simp [cO,e,hk,XT.op,g]
          rw [j];exact bAG o n f i a b c d (by simpa using e) (by omega) hk (by simpa using g)
        · have j:cO (.mk o n f i) =none:=by simp [cO,e,hk,XT.op,g]
          rw [j];exact bAH o n f i a b c d (by simpa using e) (by omega) hk (by simpa using g)
    · have j:cO (.mk o n f i) = (cU f 0 (bF o f.length)).map some:=by simp [cO,e]
      rw [j];refine(bAI o n f i _ (by simpa using e) (aXO o n f i)).ends ?_;exact aNg o n f i m l.1 f 0 _ rfl (by omega)
theorem aQo (s:Option (Option Nat)) :aFN (aNf s) :=by
 match s with
 |none=>exact aSU
 |some none=>exact aFO aSV
 |some (some k) =>exact aFO aLV
def dXT :XT:=.mk 0 0 [] []
def gK (sz:Int) :Option Nat→XT→XT
 |some k,.mk o n ks ps=>dnT sz k o n ks ps (ks.getD k dXT)
 |none,.mk _ _ ks _=>neT sz ((ks.getD 0 dXT).kids.getD 0 dXT) ((ks.getD 0 dXT).kids.getD 1 dXT) (ks.getD 1 dXT)
inductive AtR (α:Type) where
 |go (n:Int)
 |past
 |did (x:α)
mutual
def atT (node:Int) :XT→Int→Int→AtR XT
 | .mk o n ks ps,n0,z0=>
  match cO (.mk o n ks ps)with
  | some s=>if n0=node then .did (gK z0 s (.mk o n ks ps))else if n0>node then .past else
   (match iF node o ps ks 0 (n0+1) z0 with
   | .go m=>.go m
   | .past=>.past
   | .did ks'=>.did (.mk o n ks' ps))
  | none=> (match iF node o ps ks 0 (n0+1) z0 with
   | .go m=>.go m
   | .past=>.past
   | .did ks'=>.did (.mk o n ks' ps))
def iF (node:Int)(o:Int)(ps:List Pat) :List XT→Nat→Int→Int→AtR (List XT)
 | [],_,n,_=>.go n
 | t::ts,i,n,z=>
  match atT node t n (z+bJ o ps (i:Int))with
  | .go m=> (match iF node o ps ts (i+1) m z with
   | .go m'=>.go m'
   | .past=>.past
   | .did ts'=>.did (t::ts'))
  | .past=>.past
  | .did t'=>.did (t'::ts)
end
mutual
def cB :XT→Nat
 | .mk _ _ ks _=>aD ks+1
def aD :List XT→Nat
 | [] =>0
 |t::ts=>cB t+aD ts
end
mutual
theorem aQp (node:Int) :∀ (t:XT) (a b m:Int),atT node t a b= .go m→m=a+ (cB t:Nat)
 | .mk o n d f,a,b,m,h=>by
  have hk:∀c,iF node o f d 0 (a+1) b= .go c→c=a+ ((aD d+1:Nat) :Int) :=fun c e=>by
   have:=aRL node o f d 0 (a+1) b c e;omega
  simp only [atT]at h;simp only [cB];split at h
  · split at h
    ·cases h
    · split at h
      ·cases h
      · split at h
        ·rename_i e;cases h;exact hk _ e
        ·cases h
        ·cases h
  · split at h
    ·rename_i e;cases h;exact hk _ e
    ·cases h
    ·cases h
theorem aRL (node o:Int)(ps:List Pat) :∀ (a:List XT) (i:Nat) (n z m:Int),iF node o ps a i n z= .go m→m=n+ (aD a:Nat)
 | [],i,n,z,m,h=>by simp only [iF]at h;cases h;simp [aD]
 | t ::a,i,n,z,m,h=>by
  simp only [iF]at h;split at h
  · rename_i b e;have d:=aQp node t n _ b e;split at h
    · rename_i f c;cases h;have g:=aRL node o ps a (i+1) b z _ c;simp only [aD];omega
    ·cases h
    ·cases h
  ·cases h
  ·cases h
end
abbrev ATH (o1:AObj)(f1:Bool)(s1:LoopState)(p1:Option Code)(s2:LoopState)(p2:Option Code)(b:Bool)(node:Int)(tl:HL) :HL:= (1,o1,f1) :: (2,(.loop s1 p1 93 (cE [(2,(.ptr 8 0))]) 19 [6] (cd Tryz.f93 [1,1,0,0]) (cd Tryz.f93 [1,1,0,1]) 4),false) :: (3,(.cells (putCells .leaf 0 [(.ptr 0 0)]) 1 [] false),false) :: (4,(.defd false),false) :: (5,(.cells (putCells .leaf 0 [(.bool b)]) 1 [] false),false) :: (6,(.loop s2 p2 74 (cE [(3,(.ptr 9 0)),(5,(.ptr 5 0))]) 41 [10] (cd Tryz.f74 [1,0,1,1,0,1,0,0]) (cd Tryz.f74 [1,0,1,1,0,1,0,1]) 7),false) :: (7,(.defd false),false) :: (8,(.cells (putCells .leaf 0 [(.yield 6)]) 1 [] false),false) :: (9,(.cells (putCells .leaf 0 [(.int .i64 node)]) 1 [] false),false) ::tl
abbrev ATr (node:Int)(xs:List XT) :HL:=ATH gh false .ready none .ready none false node [(10,(.zone true [1] (bH xs)),false)]
abbrev ATd (b:Bool)(node:Int)(xs:List XT) :HL:=ATH gh false .done (some .ret) .done (some (.exit 0)) b node [(10,(.zone true [1] (bH xs)),false)]
def btV :AtR XT→AV
 | .go n=>.int .i64 n
 |_=>.int .i64 (-1)
def btH (node:Int)(xs:List XT)(ix:Nat) :AtR XT→HL
 | .go _=>ATr node xs
 | .past=>ATd false node xs
 | .did t'=>ATd true node (xs.set ix t')
def BtS (node:Int)(xs:List XT)(ix:Nat)(n0 z0:Int)(r:AtR XT) :Prop:=fC PP 10 (.enter 136 [.agg [.int .i64 n0,.int .i64 z0,.ep 1 1 ix 0],.yield 2]) (aA (ATr node xs) 11) (.ret (btV r)) (aA (btH node xs ix r) 11)
def BtE (s:AS)(node:Int)(xs:List XT)(ix:Nat)(r:AtR XT) :Prop:=Ends PP 10 s (.ret (btV r)) (aA (btH node xs ix r) 11)
def qH (o n:Int)(ps:List Pat)(pre:List XT) :AtR (List XT) →AtR XT
 | .go m=>.go m
 | .past=>.past
 | .did ks'=>.did (.mk o n (pre++ks') ps)
section
variable {s :AS} {v:AV} {s1 s2:LoopState} {p1 p2:Option Code} {b:Bool} {node:Int}
theorem aGl {a:List (Nat×Nat)}{xs:List XT}(c:xs≠ [])(d:∀f,ren f v=v)(e:Ends PP 10 s (.ret v) (aA (ATH (.lst 1 (List.map aR a)) true s1 p1 s2 p2 b node [(10,(.zone true [] (ZV a (xs.map some))),false)]) 11)) :
  Ends PP 10 s (.ret v) (aA (ATH gh false s1 p1 s2 p2 b node [(10,(.zone true [1] (bH xs)),false)]) 11) :=by
 have z:jJ (aA (ATH (.lst 1 (List.map aR a)) true s1 p1 s2 p2 b node [(10,(.zone true [] (ZV a (xs.map some))),false)]) 11) (aA (ATH gh false s1 p1 s2 p2 b node [(11,(.zone true [1] (bH xs)),false)]) 12) :=
  yY (h:=aA (ATH (.lst 1 (List.map aR a)) true s1 p1 s2 p2 b node [(10,(.zone true [] (ZV a (xs.map some))),false)]) 11) (h':=aA (ATH gh false s1 p1 s2 p2 b node [(11,(.zone true [1] (bH xs)),false)]) 12) (k:=1) (g:=10) (us:=a) (ts:=xs) aC aC c (Nat.le_refl _)
   (aU ⟨.inl ⟨rfl,rfl⟩,.inr (.inr ⟨by decide,by decide,by kernel_rfl⟩),.inr (.inr ⟨by decide,by decide,by kernel_rfl⟩),.inr (.inr ⟨by decide,by decide,by kernel_rfl⟩),.inr (.inr ⟨by decide,by decide,by kernel_rfl⟩),.inr (.inr ⟨by decide,by decide,by kernel_rfl⟩),.inr (.inr ⟨by decide,by decide,by kernel_rfl⟩),.inr (.inr ⟨by decide,by decide,by kernel_rfl⟩),.inr (.inr ⟨by decide,by decide,by kernel_rfl⟩),.inr (.inl ⟨rfl,rfl⟩),trivial⟩)
 exact eE (ks:=[11]) (nS e z (show 10≤11 by decide)) (d _) aC aC trivial
theorem aC6 {a:List (Nat×Nat)}{xs:List XT}{ix:Nat}{op c:Int}{ks ks':List XT}{ps:List Pat}(j:xs[ix]?=some (.mk op c ks ps))(hl:ks.length=ks'.length)(f:∀m,ren m v=v)
  (e:Ends PP 10 s (.ret v) (aA (ATH (.lst 1 (List.map aR a)) true s1 p1 s2 p2 b node [(10,(.zone true [11] (dK a (set (List.map some xs) ix none) ix)),false),(11,(.cells (putCells .leaf 0 [(.int .i64 op),(.int .i64 c),(.gl 12 1 0 (length ks) false),(.ilst 4 (av ps) false)]) 4 [] false),false),(12,gh,false),(13,(.zone true [12] (bH ks')),false)]) 14)) :
  Ends PP 10 s (.ret v) (aA (ATH gh false s1 p1 s2 p2 b node [(10,(.zone true [1] (bH (xs.set ix (.mk op c ks' ps)))),false)]) 11) :=by
 have d:xs.set ix (.mk op c ks' ps) ≠ [] :=fun h=>by
  have t:= (zq0.1 j).1;have p:=congrArg length h;simp only [fK,List.length_nil]at p;omega
 have q:jJ (aA (ATH (.lst 1 (List.map aR a)) true s1 p1 s2 p2 b node [(10,(.zone true [11] (dK a (set (List.map some xs) ix none) ix)),false),(11,(.cells (putCells .leaf 0 [(.int .i64 op),(.int .i64 c),(.gl 12 1 0 (length ks) false),(.ilst 4 (av ps) false)]) 4 [] false),false),(12,gh,false),(13,(.zone true [12] (bH ks')),false)]) 14) (aA (ATH (.lst 1 (List.map aR a)) true s1 p1 s2 p2 b node [(14,(.zone true [] (ZV a (List.map some (xs.set ix (.mk op c ks' ps))))),false)]) 15) :=by
  refine aAS (h:=aA (ATH (.lst 1 (List.map aR a)) true s1 p1 s2 p2 b node [(10,(.zone true [11] (dK a (set (List.map some xs) ix none) ix)),false),(11,(.cells (putCells .leaf 0 [(.int .i64 op),(.int .i64 c),(.gl 12 1 0 (length ks) false),(.ilst 4 (av ps) false)]) 4 [] false),false),(12,gh,false),(13,(.zone true [12] (bH ks')),false)]) 14) (h':=aA (ATH (.lst 1 (List.map aR a)) true s1 p1 s2 p2 b node [(14,(.zone true [] (ZV a (List.map some (xs.set ix (.mk op c ks' ps))))),false)]) 15)
   (b:=11) (k:=12) (gk:=13) (g:=10) (us:=a) (ts:=set (List.map some xs) ix none) (i:=ix) (op:=op) (n:=c) (ks:=ks') (ps:=ps) (len:=ks.length) (ex:=false) (pv:=.ilst 4 (av ps) false) aC hl (fun _ _ h=>h) aC aC (by decide) (Nat.le_refl _) ?_
  have o: (set (List.map some xs) ix none).set ix (some (.mk op c ks' ps)) =List.map some (xs.set ix (.mk op c ks' ps)) :=by rw [set_set,map_set]
  rw [o];exact aU ⟨.inr ⟨by decide,by kernel_rfl⟩,.inr ⟨by decide,by kernel_rfl⟩,.inr ⟨by decide,by kernel_rfl⟩,.inr ⟨by decide,by kernel_rfl⟩,.inr ⟨by decide,by kernel_rfl⟩,.inr ⟨by decide,by kernel_rfl⟩,.inr ⟨by decide,by kernel_rfl⟩,.inr ⟨by decide,by kernel_rfl⟩,.inr ⟨by decide,by kernel_rfl⟩,.inl ⟨rfl,rfl⟩,trivial⟩
 have r:=eE (ks:=[14]) (l:=ATH (.lst 1 (List.map aR a)) true s1 p1 s2 p2 b node [(10,(.zone true [] (ZV a (List.map some (xs.set ix (.mk op c ks' ps))))),false)]) (nb:=11) (nS e q (show 10≤14 by decide)) (f _) aC aC ⟨aKm _,trivial⟩;exact aGl d f r
end
theorem zO {B:Int}{h:Hp}{g:Nat}{us:List (Nat×Nat)}{ts:List (Option XT)}{i:Nat}{u:Nat×Nat}{t:XT}(p:h.look g=some (.zone true [] (ZV us ts)))(q:us[i]?=some u)(n:ts[i]?=some (some t))(j:FineX B t) :Spec PP (.enter 95 [aR u]) h (.ret (aNf (cO t))) h:=
 aDE (aNh j) (aQo _) rfl (fun E H b r hc=>by
  obtain⟨x,m,rfl,e,k⟩ :=hc.cons_inv;rw [k.nil_inv];simp only [aR,VR]at e;subst e;obtain⟨z,w,l⟩ :=r.obj g _ p;obtain⟨v,_,o,c⟩ :=gC l;obtain⟨a,s,y,d,f,_,_⟩ :=c.out n;rw [q]at d;cases d;exact VRs.cons (aLU r.snap t u s f) (VRs.nil _))
theorem aA4 {ks:List XT}:∀ {a:List XT} {i m k:Nat},cU a i m=some k→ks.drop i=a→∃x,ks[k]?=some x∧bP x=false∧k<i+m
 | [],i,m,k,h,_=>by simp [cU]at h
 |_::_,i,0,k,h,_=>by simp [cU]at h
 | t ::l,i,m+1,k,h,c=>by
  obtain⟨b,d,n⟩ :=bI c;simp only [cU]at h;split at h
  · obtain⟨x,f,g,j⟩ :=aA4 (ks:=ks) h d;exact⟨x,f,g,by omega⟩
  · rename_i e;cases h;exact⟨t,b,by simpa using e,by omega⟩
theorem aA5 (node:Int)(o n:Int)(ks:List XT)(ps:List Pat)(a b:Int) :atT node (.mk o n ks ps) a b =
  match cO (.mk o n ks ps)with
  |some s=>if a=node then .did (gK b s (.mk o n ks ps))else if a>node then .past else qH o n ps [] (iF node o ps ks 0 (a+1) b)
  |none=>qH o n ps [] (iF node o ps ks 0 (a+1) b) :=by
 simp only [atT];cases cO (.mk o n ks ps)with
 |none=>cases iF node o ps ks 0 (a+1) b<;>rfl
 |some s=>cases iF node o ps ks 0 (a+1) b<;>rfl
theorem aNi {a:Type}{xs:List a}{i:Nat}{x:a}(h:xs[i]?=some x) :xs.set i x=xs:=by
 apply List.ext_getElem?;intro j;rw [List.getElem?_set];split
 · rename_i b;subst b;rw [if_pos (zq0.1 h).1,h]
 ·rfl
theorem zP {a:Type}{xs:List a}{i:Nat}{x:a}(h:xs[i]?=some x) :xs≠ [] :=fun e=>by subst e;simp at h
theorem rJ {a:Type}{l:List a}{i:Nat}{x d:a}(h:l[i]?=some x) :l.getD i d=x:=by rw [nW,h];rfl
section
variable (node B:Int) (hB:B≤1000000)
mutual
theorem aRM (hB:B≤1000000) :∀ (t:XT),FineX B t→∀ (d:List XT) (ix:Nat) (i f:Int),d[ix]?=some t→0≤i→i+ (cB t:Nat) ≤1000000→0≤f→f+1000* (cB t:Nat) ≤1000000000→BtS node d ix i f (atT node t i f)
 | .mk o n ks j,O,d,ix,i,f,D,h0,h1,Z,S=>by
  have G:=O;simp only [FineX]at O;obtain⟨_,f2,f3,f4,f5,f6,Q⟩ :=O;simp only [cB]at h1 S;have v: (List.map some d)[ix]?=some (some (.mk o n ks j)) :=by rw [pT,D];rfl
  have I: (set (List.map some d) ix none)[ix]?=some none:=by rw [List.getElem?_set,if_pos rfl,if_pos (by rw [lN];exact(zq0.1 D).1)]
  refine⟨(aXz node i f d ix [] o n ks j).as.fr,by kernel_rfl,?_⟩;refine(aXA node i f d ix [] o n ks j).ends (bBL node i f d ix [] o n ks j (zP D) fun q V=>?_);obtain⟨u,p⟩ :=eA V (zq0.1 D).1;have below:LeadsM PP 10 (iO node i f d ix q o n ks j).as (zN node i f d ix q o n ks j u).as→BtE (iO node i f d ix q o n ks j).as node d ix (qH o n j [] (iF node o j ks 0 (i+1) f)) :=fun hl=>
   (hl.trans ((bBN node i f d ix q o n ks j u p v).trans (aXH node i f d ix q o n ks j u))).ends
    (aRN hB d ix i f o n ks j q D f2 f3 f4 Z ks 0 (i+1) rfl Q (by omega) (by omega) (by omega))
  have did:∀H,LeadsM PP 10 (iO node i f d ix q o n ks j).as (aB9 node i f d ix q o n ks j H).as→BtE (iO node i f d ix q o n ks j).as node d ix (.did H) :=fun H hl=>by
   refine hl.ends (bBM node i f d ix q o n ks j H I fun u9=>?_);have e:=aXG node i f d ix q o n ks j H u9;have z: (set (List.map some d) ix none).set ix (some H) =List.map some (d.set ix H) :=by rw [set_set,map_set]
   rw [z]at e
   have R:d.set ix H≠ [] :=fun h=>by
    have Z:= (zq0.1 D).1;have S:=congrArg length h;simp only [fK,List.length_nil]at S;omega
   exact aGl R (fun _=>rfl) e
  have past:Ends PP 10 (iO node i f d ix q o n ks j).as (.ret (.int .i64 (-1))) (aA (ATH (.lst 1 (List.map aR q)) true .done (some .ret) .done (some (.exit 0)) false node [(10,(.zone true [] (ZV q (d.map some))),false)]) 11) →BtE (iO node i f d ix q o n ks j).as node d ix .past:=fun e=>aGl (zP D) (fun _=>rfl) e;rw [aA5];cases r:cO (.mk o n ks j)with
  | none=>
   have y:∀ {l C g},(aA l C).look g=some (.zone true [] (ZV q (d.map some))) →Spec PP (.enter 95 [aR u]) (aA l C) (.ret .nili) (aA l C) :=fun L=>by
    have:=zO L p v G;rw [r]at this;exact this
   exact below (aXF node i f d ix q o n ks j u p (y (g:=13) aC) sd)
  | some s =>
   cases s with
   | none =>
    have y:∀ {l C g},(aA l C).look g=some (.zone true [] (ZV q (d.map some))) →Spec PP (.enter 95 [aR u]) (aA l C) (.ret (.iface 191 (.agg []))) (aA l C) :=fun L=>by
     have:=zO L p v G;rw [r]at this;exact this
    dsimp only;by_cases A:i=node
    · rw [if_pos A];have h7:o=7:=by
       simp only [cO]at r;by_cases g:o=7
       ·exact g
       · rw [if_neg g]at r;cases w:cU ks 0 (bF o ks.length)with
         |none=>rw [w]at r;cases r
         |some k=>rw [w]at r;cases r
      have hl:=f5 h7;obtain⟨⟨N,n2,U,p2⟩,F⟩ :∃t0,ks[0]?=some t0:= ⟨_,kF (by omega)⟩;obtain⟨c,J⟩ :∃t1,ks[1]?=some t1:= ⟨_,kF (by omega)⟩;have W:N=7:=by
       simp only [cO,if_pos h7,F,XT.op]at r;by_cases g:N=7
       ·exact g
       ·simp [g]at r
      have M:=fineXs_iff.1 Q _ (kN F);have T:=fineXs_iff.1 Q _ (kN J);simp only [FineX]at M;have hl2:=M.2.2.2.2.1 W;obtain⟨a,Y⟩ :∃t1,U[0]?=some t1:= ⟨_,kF (by omega)⟩;obtain⟨b,hb⟩ :∃t1,U[1]?=some t1:= ⟨_,kF (by omega)⟩;have X:gK f none (.mk o n ks j) =neT f a b c:=by
       simp only [gK,rJ F,rJ J,XT.kids,rJ Y,rJ hb]
      rw [X]
      exact did _ (aXN node i f d ix q o n ks j u (neT f a b c) p (y (g:=13) aC) (by simpa using A) (y (g:=13) aC)
       (oQ (m:=0) (ks:=[13]) (bBy q (d.map some) ix u o n ks j N n2 U p2 f a b c F J Y hb (T.ok hB) p v) aC aC trivial trivial))
    · rw [if_neg A];by_cases z:i>node
      · rw [if_pos z];exact past (aXD node i f d ix q o n ks j u p (y (g:=13) aC) (by simpa using A) (by simpa using z))
      · rw [if_neg z];exact below (aXE node i f d ix q o n ks j u p (y (g:=13) aC) (by simpa using A) (by simpa using z) sd)
   | some k=>
    have y:∀ {l C g},(aA l C).look g=some (.zone true [] (ZV q (d.map some))) →Spec PP (.enter 95 [aR u]) (aA l C) (.ret (.iface 193 (.int .i64 (k:Int)))) (aA l C) :=fun L=>by
     have:=zO L p v G;rw [r]at this;exact this
    dsimp only;by_cases A:i=node
    · rw [if_pos A];obtain⟨x,K⟩ :∃x,ks[k]?=some x:=by
       simp only [cO]at r;by_cases g:o=7
       · rw [if_pos g]at r;split at r
         ·split at r<;>cases r
         ·cases r
       · rw [if_neg g]at r;cases w:cU ks 0 (bF o ks.length)with
         |none=>rw [w]at r;cases r
         | some k'=>
          rw [w]at r;cases r;obtain⟨x,D,_⟩ :=aA4 w (rfl:ks.drop 0=ks);exact⟨x,D⟩
      have X:gK f (some k) (.mk o n ks j) =dnT f k o n ks j x:=by simp only [gK,rJ K]
      rw [X]
      exact did _ (aXM node i f d ix q o n ks j u (k:Int) (k:Int) (dnT f k o n ks j x) p (y (g:=13) aC) (by simpa using A) (y (g:=13) aC)
       (oQ (m:=0) (ks:=[13]) (bBx q (d.map some) ix u o n ks j k f x K p v (G.ok hB)) aC aC trivial trivial))
    · rw [if_neg A];by_cases z:i>node
      · rw [if_pos z];exact past (aXB node i f d ix q o n ks j u (k:Int) p (y (g:=13) aC) (by simpa using A) (by simpa using z))
      · rw [if_neg z];exact below (aXC node i f d ix q o n ks j u (k:Int) p (y (g:=13) aC) (by simpa using A) (by simpa using z) sd)
theorem aRN (hB:B≤1000000)(xs:List XT)(ix:Nat)(g a:Int)(o n:Int)(ks:List XT)(ps:List Pat)(j:List (Nat×Nat))(f:xs[ix]?=some (.mk o n ks ps))(C:ks.length≤1000)(s:∀q∈ps,bX q≤1000)(w:o=15→ks.length=1+ps.length)(h2:0≤a) :
  ∀ (tl:List XT) (i:Nat) (b:Int),ks.drop i=tl→FineXs B tl→0≤b→b+ (aD tl:Nat) ≤1000000→a+1000+1000* (aD tl:Nat) ≤1000000000→BtE (aED node g a xs ix j o n ks ps b (i:Int)).as node xs ix (qH o n ps (ks.take i) (iF node o ps tl i b a))
 | [],i,b,h,_,_,_,_=>by
  have:=bL h;simp only [iF,qH];have e:=aC6 (ks':=ks) f rfl (fun _=>rfl) (aXL node g a xs ix j o n ks ps b (i:Int) sd);rw [aNi f]at e;exact e
 | t ::tl,i,b,h,r,A,y,F=>by
  obtain⟨u,v,G⟩ :=bI h;simp only [FineXs]at r;simp only [aD]at y F;have H:=mD (o:=o) s (i:Int);have k:IntKind.i64.wrap (a+bJ o ps (i:Int)) =a+bJ o ps (i:Int) :=wrap64 (by omega) (by omega);have c:0+ ((i:Nat) :Int).toNat=i:=by rw [oY];omega
  have hb:=aRM hB t r.1 ks i b (a+bJ o ps (i:Int)) u A (by omega) (by omega) (by omega);rw [←k,←c]at hb
  have z:o=15→0< (i:Int) →∃q,ps[((i:Int) -1).toNat]?=some q:=fun p I=>by
   have:=w p;exact⟨_,kF (by omega)⟩
  have d:=aRK o n ks ps s (i:Int) ⟨by omega,by omega⟩ z;simp only [iF];rw [c,k]at hb;cases hr:atT node t b (a+bJ o ps (i:Int))with
  | go m=>
   rw [hr]at hb;have hm:=aQp node t b _ m hr;refine(aXK node g a xs ix j o n ks ps b (i:Int) (bJ o ps (i:Int)) m sd (oQ (m:=2) (ks:=[11,12]) d aC aC trivial trivial) sd sd (aM9 k c (oQ (m:=10) (ks:=[0,12,2,3,4,5,6,7,8,9,14]) hb aC aC trivial trivial)) sd sd).ends ?_;have e:=aRN hB xs ix g a o n ks ps j f C s w h2 tl (i+1) m v r.2 (by omega) (by omega) (by omega);rw [←take_succ' u]at e;have D:qH o n ps (ks.take i++ [t]) (iF node o ps tl (i+1) m a) =qH o n ps (ks.take i) (match iF node o ps tl (i+1) m a with| .go m'=>.go m'| .past=>.past| .did ts'=>.did (t::ts')) :=by
    cases iF node o ps tl (i+1) m a<;>simp [qH]
   rw [D]at e;exact e
  | past=>
   rw [hr]at hb;have e:=aC6 (ks':=ks) f rfl (fun _=>rfl) (aXI node g a xs ix j o n ks ps b (i:Int) (bJ o ps (i:Int)) sd (oQ (m:=2) (ks:=[11,12]) d aC aC trivial trivial) sd sd (aM9 k c (oQ (m:=10) (ks:=[0,12,2,3,4,5,6,7,8,9,14]) hb aC aC trivial trivial)));rw [aNi f]at e;exact e
  | did l=>
   rw [hr]at hb;have e:=aC6 (ks':=ks.set i l) f (by simp) (fun _=>rfl) (aXJ node g a xs ix j o n ks ps b (i:Int) (bJ o ps (i:Int)) (ks.set i l) sd (oQ (m:=2) (ks:=[11,12]) d aC aC trivial trivial) sd sd (aM9 k c (oQ (m:=10) (ks:=[0,12,2,3,4,5,6,7,8,9,14]) hb aC aC trivial trivial)));have x:ks.set i l=ks.take i++l::tl:=by rw [List.set_eq_take_append_cons_drop,if_pos G,v]
   simp only [qH];rw [←x];exact e
end
end
def vW (node:Int) :List XT→Int→AtR (List XT)
 | [],n=>.go n
 | t::ts,n=>match atT node t n 1 with
  | .go m=> (match vW node ts m with
   | .go m'=>.go m'
   | .past=>.past
   | .did ts'=>.did (t::ts'))
  | .past=>.past
  | .did t'=>.did (t'::ts)
def AtR.isDid {α:Type}:AtR α→Bool
 | .did _=>true
 |_=>false
def AtR.getD {α:Type}(d:α) :AtR α→α
 | .did x=>x
 |_=>d
def AtR.map {α β:Type}(f:α→β) :AtR α→AtR β
 | .go n=>.go n
 | .past=>.past
 | .did x=>.did (f x)
abbrev FHl (n:Nat)(mn:Int)(cs:List Con)(ts:List XT) :HL:=[(0,(.cells (putCells .leaf 0 [(.gl 1 1 0 n false),(.int .i64 mn),(.ilst 2 (List.map Con.av cs) false)]) 3 [] false),false),(1,gh,false),(2,(.zone true [1] (bH ts)),false)]
theorem aCb (node:Int) :∀ (b:List XT) (n:Int) (a:List XT),vW node b n= .did a→a.length=b.length
 | [],n,a,h=>by simp [vW]at h
 | t ::b,n,a,h=>by
  simp only [vW]at h;split at h
  · split at h
    ·cases h
    ·cases h
    · rename_i e;cases h;rw [oI,oI,aCb node b _ _ e]
  ·cases h
  ·cases h;rfl
theorem aRO (node B:Int)(hB:B≤1000000)(ts:List XT)(mn:Int)(cs:List Con)(hl:ts.length≤1000) :∀ (tl:List XT) (i:Nat) (n:Int),ts.drop i=tl→FineXs B tl→0≤n→n+ (aD tl:Nat) ≤100000 →
  Ends PP 2 (aKv ts mn cs node n (i:Int)).as (.ret (.bool (vW node tl n).isDid)) (aA (FHl ts.length mn cs (((vW node tl n).map (fun x=>ts.take i++x)).getD ts)) 3)
 | [],i,n,h,_,_,_=>by
  have:=bL h;exact bBK ts mn cs node n (i:Int) sd
 | t ::tl,i,n,h,c,j,o=>by
  obtain⟨f,g,p⟩ :=bI h;simp only [FineXs]at c;simp only [aD]at o;have a:0+ ((i:Nat) :Int).toNat=i:=by rw [oY];omega
  have hb:=aRM node B hB t c.1 ts i n 1 f j (by omega) (by omega) (by omega);simp only [vW];cases hr:atT node t n 1 with
  | go m=>
   rw [hr]at hb;have hm:=aQp node t n _ m hr;refine(bBJ ts mn cs node n (i:Int) m sd sd sd (aM9 rfl a (oQ (m:=10) (ks:=[0,1,2,3,4,5,6,7,8,9,10]) hb aC aC trivial trivial)) sd sd).ends ?_;have e:=aRO node B hB ts mn cs hl tl (i+1) m g c.2 (by omega) (by omega);rw [←take_succ' f]at e;cases b:vW node tl m with
   |go q=>rw [b]at e;simp only [b];exact e
   |past=>rw [b]at e;simp only [b];exact e
   | did l=>
    rw [b]at e;simp only [b,AtR.isDid,AtR.map,AtR.getD,zq9,List.singleton_append]at e ⊢;exact e
  | past=>
   rw [hr]at hb;exact bBH ts mn cs node n (i:Int) sd sd sd (aM9 rfl a (oQ (m:=10) (ks:=[0,1,2,3,4,5,6,7,8,9,10]) hb aC aC trivial trivial))
  | did d=>
   rw [hr]at hb;have k:ts.set i d=ts.take i++d::tl:=by rw [List.set_eq_take_append_cons_drop,if_pos p,g]
   have e:=bBI ts mn cs node n (i:Int) (ts.set i d) sd sd sd (aM9 rfl a (oQ (m:=10) (ks:=[0,1,2,3,4,5,6,7,8,9,10]) hb aC aC trivial trivial));rw [k]at e;exact e
theorem aRP (node B:Int)(hB:B≤1000000)(ts:List XT)(mn:Int)(cs:List Con)(hl:ts.length≤1000)(b:FineXs B ts)(c:aD ts≤100000) :
  fC PP 2 (.enter 74 [.ptr 0 0,.int .i64 node]) (aA (FHl ts.length mn cs ts) 3) (.ret (.bool (vW node ts 0).isDid)) (aA (FHl ts.length mn cs ((vW node ts 0).getD ts)) 3) :=by
 refine⟨(bDR ts mn cs node).as.fr,by kernel_rfl,?_⟩;have e:=aRO node B hB ts mn cs hl ts 0 0 rfl b (by omega) (by omega);have a: (AtR.map (fun x=>List.take 0 ts++x) (vW node ts 0)).getD ts= (vW node ts 0).getD ts:=by
  cases vW node ts 0<;>simp [AtR.map,AtR.getD]
 rw [a]at e;exact(bBG ts mn cs node).ends e
def aHr (g:Int→Int→Bool)(x:Node)(sz:Int) :Nat→List Int→Bool
 |_,[] =>true
 |j,k::ks=>g k (sz+dI x j) &&aHr g x sz (j+1) ks
def jL (p:Prog) :Nat→Int→Int→Bool
 |0,_,_=>true
 | f+1,a,sz=>match p.nodes[a.toNat]? with
  |some x=>if x.op=4∧x.n≥sz then false else aHr (jL p f) x sz 0 x.kids
  |none=>true
noncomputable def aGm (p:Prog) :List (Nat×AObj×Bool) := (aGa p 0 0 0).hp
noncomputable def aXP (p:Prog)(b:Bool) :List (Nat×AObj×Bool) :=bif b then aGm p else bHR p
def tA (a fn sz:Int) :List AV:=[bE4 a fn sz,.ptr 5 0,.ptr 6 0,.ptr 0 0]
theorem aUq {p:Prog}{a fn sz b gn tz:Int}:∀ {r:Bool},Spec PP (.enter 133 (tA a fn sz)) (aA (aGm p) 8) (.ret (.bool r)) (aA (aXP p r) 8) →
  Spec PP (.enter 133 (tA a fn sz)) (aA (aGm p++ [(8,(.cells (putCells .leaf 0 [.int .i64 b,.int .i64 gn,.int .i64 tz]) 3 [] false),false)]) 9) (.ret (.bool r)) (aA (aXP p r++ [(8,(.cells (putCells .leaf 0 [.int .i64 b,.int .i64 gn,.int .i64 tz]) 3 [] false),false)]) 9)
 |true,h=>aFr h aC (by rfl) (by rfl) aC aC trivial aC aC aC
 |false,h=>aFr h aC (by rfl) (by rfl) aC aC trivial aC aC aC
theorem aUr (p:Prog)(a fn sz:Int) : (aGa p a fn sz).as= ⟨(aGa p a fn sz).as.fr,[],aA (aGm p) 8⟩ :=by kernel_rfl
theorem aUs (p:Prog)(a fn sz:Int) :dT PP (aA (aGm p) 8) (.enter 133 (tA a fn sz)) =some (aGa p a fn sz).as.fr:=by kernel_rfl
theorem aNj {p:Prog}(hp:FineP p){f:Nat}{a fn sz:Int}{x:Node}(i:0≤a)(g:p.nodes[a.toNat]?=some x)(m:0≤sz)(s:sz≤1000* (a+1))
  (r:∀ (k tz:Int),a<k→k<p.nodes.length→0≤tz→tz≤1000* (k+1) →Spec PP (.enter 133 (tA k fn tz)) (aA (aGm p) 8) (.ret (.bool (jL p f k tz))) (aA (aXP p (jL p f k tz)) 8)) :
  ∀ (t:List Int) (j:Nat),x.kids.drop j=t→Ends PP 8 (aBW p a fn sz x.kids ((length x.kids:Nat) :Int) (j:Int)).as (.ret (.bool (aHr (jL p f) x sz j t))) (aA (aXP p (aHr (jL p f) x sz j t)) 8)
 | [],j,h=>by
  have:=bL h;exact aWN p a fn sz x.kids _ j sd
 | k::t,j,h=>by
  obtain⟨u,v,y⟩ :=bI h;obtain⟨n,e,l⟩ :=hp.node _ _ g;have hk:=l k (kN u);have hb:=aM4 n (j:Int);have w:=hp.small;have q:IntKind.i64.wrap (sz+dI x j) =sz+dI x j:=wrap64 (by omega) (by omega);have c:=aUq (b:=a) (gn:=fn) (tz:=sz) (r k (sz+dI x j) (by omega) (by omega) (by omega) (by omega));have d:=aPT n (k:= (j:Int)) (by omega) (by omega) e;rw [aHr];cases o:jL p f k (sz+dI x j)
  case false=>
   rw [o]at c;rw [Bool.false_and];refine aWL p a fn sz x.kids _ j k x _ sd sd sd i g d ?_;rw [q];exact c
  rw [o]at c;rw [nV];refine(aWM p a fn sz x.kids _ j k x _ sd sd sd i g d ?_ sd).ends ?_
  ·rw [q];exact c
  ·exact aNj hp i g m s r t (j+1) v
theorem aNk {p:Prog}(hp:FineP p)(fn:Int) :∀ (f:Nat) (a b:Int),0≤a→a<p.nodes.length→p.nodes.length-a.toNat≤f→0≤b→b≤1000* (a+1) →
  Spec PP (.enter 133 (tA a fn b)) (aA (aGm p) 8) (.ret (.bool (jL p f a b))) (aA (aXP p (jL p f a b)) 8)
 |0,a,b,g,o,n,_,_=>by omega
 | f + 1,a,b,g,o,n,m,q=>by
  refine⟨_,aUs p a fn b,?_⟩;obtain⟨x,c⟩ :∃x,p.nodes[a.toNat]?=some x:= ⟨_,kF (by omega)⟩;rw [←aUr];have l:=aNj hp (f:=f) (fn:=fn) g c m q (fun k r hk j i s=>aNk hp fn f k r (by omega) j (by omega) i s) x.kids 0 rfl;by_cases d:x.op=4
  · by_cases h:x.n≥b
    · have e:jL p (f+1) a b=false:=by rw [jL,c];simp only [d,h,and_self,if_true]
      rw [e];exact aWI p a fn b x g c (by simp [d]) (by simpa using h)
    · have e:jL p (f+1) a b=aHr (jL p f) x b 0 x.kids:=by rw [jL,c];simp only [h,and_false,if_false]
      rw [e];exact(aWJ p a fn b x g c (by simp [d]) (by simpa using h)).ends l
  · have e:jL p (f+1) a b=aHr (jL p f) x b 0 x.kids:=by rw [jL,c];simp only [d,false_and,if_false]
    rw [e];exact(aWK p a fn b x g c (by simpa using d)).ends l
def aUt (p:Prog) :List Int→Bool
 | [] =>true
 |a::fs=>jL p p.nodes.length a 1&&aUt p fs
theorem aNl {p:Prog}(hp:FineP p) :∀ (t:List Int) (i:Nat),p.funs.drop i=t →
  Ends PP 0 (aJ1 p (i:Int)).as (.ret (.tup [(.bool (aUt p t)),(.int .i64 0)])) (aA [] 0)
 | [],i,h=>by
  have:=bL h;exact bAf p i sd
 | a::t,i,h=>by
  obtain⟨d,f,j⟩ :=bI h;have c:=hp.funs a (kN d);have g:=hp.fsmall;have b:=aNk hp i p.nodes.length a 1 c.1 c.2 (by omega) (by omega) (by omega);rw [aUt];cases e:jL p p.nodes.length a 1
  case false=>
   rw [e]at b;exact bAd p i a sd sd sd b
  rw [e]at b;refine(bAe p i a sd sd sd b sd).ends ?_;rw [nV];exact aNl hp t (i+1) f
abbrev aUu (a:List Int)(b c d:Int):AV:=.gl 1 1 0 (set a b.toNat (IntKind.i64.wrap (c+d))).length true
abbrev bGA (a:Prog):AV:=.gl 1 1 0 (replicate a.nodes.length (0:Int)).length true
abbrev bBO (a:Nat)(b:Prog):=oC a [(iN b.nodes),(iI b.funs),(nI b.main),(iC b.cons)]
def zQ(a:Prog)(c:Int)(b:List Int):TS:=⟨(tf 86 67 [kp 1 0,(2,.nils),(3,(.gl 1 1 0 b.length true)),(4,(nI c))] [kc f86 116,kl f86 116,.inBlock 0,kc f86 15]),[],[bBO 0 a,oL 1 1 (jI b)],2⟩
def tB(a:Prog)(b:List Int)(c:Int):TS:=⟨(tf 86 67 [kp 1 0,(2,.nils),(3,(.gl 1 1 0 b.length true)),(5,(nI c))] [kc f86 244,kl f86 244,.inBlock 2,kc f86 31]),[],[bBO 0 a,oL 1 1 (jI b)],2⟩
def zR(a:Prog)(b:List Int)(c d:Int):TS:=⟨(tf 86 67 [kp 1 0,(2,.nils),(3,(.gl 1 1 0 b.length true)),(5,(nI d)),(6,(nI c))] [kc f86 15652,kl f86 15652,.inBlock 4,.inBlock 3,kc f86 979,kl f86 244,.inBlock 2,kc f86 31]),[],[bBO 0 a,oL 1 1 (jI b)],2⟩
def xY(a:Prog)(b:List Int)(c:Int):TS:=⟨(tf 58 33 [kp 1 0,(2,(bV false)),(3,(iI b)),(4,(nI c))] [kc f58 116,kl f58 116,.inBlock 0,kc f58 15]),[],[bBO 0 a],1⟩
def aQq (a:Prog):=fun b=>(tT 0 (start PP 86 [(Prog.av a)])<|gl 9 Node.av a.nodes<|.i [.mk a.nodes.length] [hr ((a.nodes.length:Nat) :Int),hr ((a.nodes.length:Nat) :Int),hA (a.nodes.length<100000)]<|.i [.lset 1 (jI (replicate a.nodes.length (0:Int)))] [.q (p:=replicate a.nodes.length (cA (0:Int)) = (jI (replicate a.nodes.length (0:Int)))) (aJp _ _ _)]<|.i [.set 10 (bGA a)] [.q (p:=(AV.gl 1 1 0 a.nodes.length true) = (bGA a)) (cI (aIA ..).symm)]<|.W 9 2 [0,1] (zQ a 0 (replicate a.nodes.length (0:Int)))) b ⟨kk,trivial⟩
def bGB(c:Prog)(d:Int)(a:List Int):=tT 0 (zQ c d a)<|gl 6 cA c.funs<|gd 2 15 (d< (c.funs.length:Int)) (gX cA 9 c.funs d<|fun b=>.i [rn 1,.ans (.ix)] [hA (0≤b),hA (b< (a.length:Int))]<|.y fun e:Int=>.i [.st (cA e) (cA 1)] [.a (((a)[b.toNat]?) =some e) (cS (f:=cA)),hr (some (cA 1))]<|.i [.lset 1 (jI (set a b.toNat 1))] [.q (p:=(jI a).set (0+b.toNat) (cA 1) = (jI (set a b.toNat 1))) (qC _ _ _ _)]<|.i [.set 3 (.gl 1 1 0 (set a b.toNat 1).length true)] [.q (p:=(AV.gl 1 1 0 a.length true) = (.gl 1 1 0 (set a b.toNat 1).length true)) (cI (fK ..).symm)]<|.i [.set 18 (.gl 1 1 0 (set a b.toNat 1).length true)] [.q (p:=(AV.gl 1 1 0 a.length true) = (.gl 1 1 0 (set a b.toNat 1).length true)) (cI (fK ..).symm)]<|gw 5 17 (d+1)<|.W 3 2 [0,1] (zQ c (d+1) (set a b.toNat 1)))<|.W 9 2 [0,1] (tB c a 0)
def aQr:=fun a b c d e f g i j k l m=>bGB a b c|>.t f d g i j k e l m ⟨kk,trivial⟩
def aQs:=fun a b c d=>bGB a b c|>.f d ⟨kk,trivial⟩
def bGC(a:Prog)(b:List Int)(c:Int):=tT 0 (tB a b c)<|gl 6 Node.av a.nodes<|gd 2 29 (c< (a.nodes.length:Int)) (.W 10 2 [0,1] (zR a b 0 c))<|gz 8 2 1 1 cA b true<|gE 0 2 (.ilst 1 (jI b) true)
def aQt:=fun a b c d=>bGC a b c|>.t d ⟨kk,trivial⟩
def aQu:=fun a b c d=>bGC a b c|>.f d tv
def bGD(g:Prog)(a:List Int)(i d:Int):=tT 0 (zR g a i d)<|gX Node.av 7 g.nodes d<|fun f=>gl 2 cA f.kids<|gd 2 40 (i< (f.kids.length:Int)) (.y fun c:Int=>.y fun b:Int=>.y fun e:Int=>.y fun j:Int=>.i [rn 4,.regA (rd 4 (.ans (.idx (Node.av f))::rd 3 (.ans (.idx (cA c))::rd 3 (.ans (.ix)::.ans (.idx (cA b))::rd 3 [.ans (.idx (Node.av f)),.d,.d,.pure (nI e),.d,.ans (.ix),.st (cA j) (cA (IntKind.i64.wrap (b+e)))])))) [(some (.idx (cA b))),none,none,none]] [hA (0≤d),.a (((g.nodes)[d.toNat]?) =some f) (aZ (f:=Node.av)),hA (0≤i),.a (((f.kids)[i.toNat]?) =some c) (aZ (f:=cA)),hA (0≤d),hA (d< ((a.length:Nat) :Int)),.a (((a)[d.toNat]?) =some b) (cS (f:=cA)),hA (0≤d),.a (((g.nodes)[d.toNat]?) =some f) (aZ (f:=Node.av)),hA (aM PP 121 [(Node.av f),(nI i)] (nI e)),hA (0≤c),hA (c< ((a.length:Nat) :Int)),.a (((a)[c.toNat]?) =some j) (cS (f:=cA)),hr (some (cA (IntKind.i64.wrap (b+e)))),hr (nI b),.a (((a)[d.toNat]?) =some b) (cS (f:=cA)),hr (nI b),.a (((a)[d.toNat]?) =some b) (cS (f:=cA)),hr (nI c),hr (nI c),hr (ilst 1 (jI f.kids) false),hr (ilst 1 (jI f.kids) false),hr (ilst 4 (jN g.nodes) false),hr (ilst 4 (jN g.nodes) false)]<|.i [.lset 1 (jI (set a c.toNat (IntKind.i64.wrap (b+e))))] [.q (p:=(jI a).set (0+c.toNat) (cA (IntKind.i64.wrap (b+e))) = (jI (set a c.toNat (IntKind.i64.wrap (b+e))))) (qC _ _ _ _)]<|.i [.set 3 (aUu a c b e)] [.q (p:=(AV.gl 1 1 0 a.length true) = (aUu a c b e)) (cI (fK ..).symm)]<|.i [.set 43 (aUu a c b e)] [.q (p:=(AV.gl 1 1 0 a.length true) = (aUu a c b e)) (cI (fK ..).symm)]<|.i [.set 53 (aUu a c b e)] [.q (p:=(AV.gl 1 1 0 a.length true) = (aUu a c b e)) (cI (fK ..).symm)]<|gw 4 42 (i+ (1:Int))<|.W 3 2 [0,1] (zR g (set a c.toNat (IntKind.i64.wrap (b+e))) (i+ (1:Int)) d))<|gw 6 31 (d+ (1:Int))<|.W 3 2 [0,1] (tB g a (d+ (1:Int)))
def aQv:=fun d e f g i j k l m a b n o p q c r s t u v=>bGD d e f g i a b|>.t n j k l m a b o p a q c a b r s t u c c v ⟨kk,trivial⟩
def aQw:=fun a b c d e f g i j=>bGD a b c d e f g|>.f i j ⟨kk,trivial⟩
def aUv (b:Prog):=fun a c=>(tT 0 (start PP 58 [(Prog.av b)])<|.y fun a:List Int=>gp 8 86 [(Prog.av b)] (iI a)<|.W 9 1 [0] (xY b a 0)) a c tv
def bBP(c:Prog)(d:List Int)(a:Int):=tT 0 (xY c d a)<|gl 5 cA d<|gd 2 10 (a< (d.length:Int)) (.o (.y fun b:Node=>.y fun e:Int=>.i [rn 5,.reg (rd 3 (.ans (.idx (Node.av b))::rd 4 (.b 20 true::rd 3 (.ans (.idx (Node.av b))::rd 4 (.ans (.idx (cA e))::rd 3 [])))))] [hA (0≤a),.a (((c.nodes)[a.toNat]?) =some b) (aZ (f:=Node.av)),hA ((b.op==4) =true),hA (0≤a),.a (((c.nodes)[a.toNat]?) =some b) (aZ (f:=Node.av)),hA (0≤a),.a (((d)[a.toNat]?) =some e) (aZ (f:=cA))]<|gd 0 32 (b.n≥e) (gE 6 1 (bV false))<|gw 6 12 (a+1)<|.W 3 1 [0] (xY c d (a+1)))<|.y fun b:Node=>.i [rn 5,.reg (rd 3 (.ans (.idx (Node.av b))::rd 4 (.b 20 false::rd 12 [])))] [hA (0≤a),.a (((c.nodes)[a.toNat]?) =some b) (aZ (f:=Node.av)),hA ((b.op==4) =false)]<|gw 6 12 (a+1)<|.W 3 1 [0] (xY c d (a+1)))<|gE 7 1 (bV true)
def aUw:=fun c d e f g i a b j k l=>bBP c d e|>.t i|>.1 f g a b j a b a k|>.t l tv
def aUx:=fun c d e f g i a b j k l m=>bBP c d e|>.t i|>.1 f g a b j a b a k|>.f l m tv
def aUy:=fun a b c d e f g i j=>bBP a b c|>.t e|>.2 d f g i j tv
def aUz:=fun a b c d=>bBP a b c|>.f d tv
def jM (x:Node)(i:Nat) :Nat→List Int→List Int→List Int
 |_,[],l=>l
 |j,k::ks,l=>jM x i (j+1) ks (l.set k.toNat (l.getD i 0+dI x j))
def iG :Nat→List Node→List Int→List Int
 |_,[],l=>l
 |i,x::t,l=>iG (i+1) t (jM x i 0 x.kids l)
def nD :List Int→List Int→List Int
 | [],l=>l
 |f::fs,l=>nD fs (l.set f.toNat 1)
def kC (p:Prog) :List Int:=iG 0 p.nodes (nD p.funs (replicate p.nodes.length 0))
theorem qI (x:Node)(i:Nat) :∀ (t:List Int) (j:Nat) (l:List Int),(jM x i j t l).length=l.length
 | [],_,_=>rfl
 |k::t,j,l=>by rw [jM,qI x i t];simp
theorem aDO :∀ (t:List Node) (i:Nat) (l:List Int),(iG i t l).length=l.length
 | [],_,_=>rfl
 |x::t,i,l=>by rw [iG,aDO t,qI]
theorem vH :∀ (t:List Int) (l:List Int),(nD t l).length=l.length
 | [],_=>rfl
 |f::t,l=>by rw [nD,vH t];simp
theorem aA6 (p:Prog) : (kC p).length=p.nodes.length:=by rw [kC,aDO,vH];simp
def upTo (B:Int)(l:List Int) :Prop:=∀z∈l,0≤z∧z≤B
theorem aXQ {B:Int}{l:List Int}(h:upTo B l){i:Nat}(a:i<l.length) :0≤l.getD i 0∧l.getD i 0≤B:=by
 rw [nW,kF a];exact h _ (List.getElem_mem a)
theorem aNm {B C:Int}{l:List Int}(h:upTo B l)(b:B≤C){i:Nat}{z:Int}(a:0≤z)(h1:z≤C) :upTo C (l.set i z) :=fun k hk=>by
 rcases List.mem_or_eq_of_mem_set hk with g|g
 ·have:=h k g;omega
 ·rw [g];exact⟨a,h1⟩
theorem aUA {B C:Int}{l:List Int}(h:upTo B l)(a:B≤C) :upTo C l:=fun k hk=>by have:=h k hk;omega
theorem bGE {p:Prog}(hp:FineP p){i:Nat}{x:Node}(c:p.nodes[i]?=some x){a:AV}{h':Hp} :
  ∀ (t:List Int) (j:Nat) (l:List Int) (B:Int),l.length=p.nodes.length→0≤B→upTo B l→B+12*t.length≤1000000→x.kids.drop j=t →
   (upTo (B+12*t.length) (jM x i j t l) →Ends PP 0 (tB p (jM x i j t l) ((i:Int) +1)).as (.ret a) h') →Ends PP 0 (zR p l (j:Int) (i:Int)).as (.ret a) h'
 | [],j,l,B,hl,g,hB,hb,h,hk=>by
  have:=bL h;have u:= (zq0.1 c).1;have m:=hp.small;refine(aQw p l j i x sd sd sd sd).ends (hk ?_);simpa [jM]using hB
 | k::t,j,l,B,hl,g,hB,hb,h,hk=>by
  obtain⟨f,o,z⟩ :=bI h;obtain⟨e,b,d⟩ :=hp.node _ _ c;have r:=d k (kN f);have u:= (zq0.1 c).1;have m:=hp.small;have w:=aM4 e (j:Int);have hz:=aXQ hB (i:=i) (by omega);have n:l[i]?=some (l.getD i 0) :=by rw [nW,kF (by omega)];rfl
  obtain⟨y,v⟩ :∃y,l[k.toNat]?=some y:= ⟨_,kF (by omega)⟩;simp only [oI]at hb;have q:IntKind.i64.wrap (l.getD i 0+dI x j) =l.getD i 0+dI x j:=wrap64 (by omega) (by omega);have st:=aQv p l j i x k (l.getD i 0) (dI x j) y sd sd sd sd sd (by omega) sd (aPU e (by omega) (by omega) b) (by omega) (by omega) v sd;rw [q]at st;refine st.ends ?_;refine bGE hp c t (j+1) (l.set k.toNat (l.getD i 0+dI x j)) (B+12) (by simpa using hl) (by omega) (aNm hB (by omega) (by omega) (by omega)) (by omega) o (fun s=>?_);have:=hk (by rw [jM];exact aUA s (by simp only [oI];omega));rw [jM]at this;exact this
theorem rS1 {p:Prog}(hp:FineP p) :∀ (t:List Node) (i:Nat) (l:List Int) (B:Int),l.length=p.nodes.length→0≤B→upTo B l→B+120*t.length≤1000000→p.nodes.drop i=t →
  Ends PP 0 (tB p l (i:Int)).as (.ret (.ilst 1 (List.map cA (iG i t l)) true)) (aA [] 0)
 | [],i,l,B,hl,b,hB,hb,h=>by
  have:=bL h;exact aQu p l i sd
 | x::t,i,l,B,hl,b,hB,hb,h=>by
  obtain⟨a,d,j⟩ :=bI h;obtain⟨g,c,e⟩ :=hp.node _ _ a;simp only [oI]at hb;refine(aQt p l i sd).ends ?_;refine bGE hp a x.kids 0 l B hl b hB (by omega) rfl (fun f=>?_);rw [iG];exact rS1 hp t (i+1) _ (B+12*x.kids.length) (by rw [qI,hl]) (by omega) f (by omega) d
theorem rS0 {p:Prog}(hp:FineP p) :∀ (t:List Int) (i:Nat) (l:List Int),l.length=p.nodes.length→upTo 1 l→p.funs.drop i=t →
  Ends PP 0 (zQ p (i:Int) l).as (.ret (.ilst 1 (List.map cA (iG 0 p.nodes (nD t l))) true)) (aA [] 0)
 | [],i,l,hl,hB,h=>by
  have:=bL h;have f:=hp.small;refine(aQs p i l sd).ends ?_;exact rS1 hp p.nodes 0 l 1 hl (by omega) hB (by omega) rfl
 | a::t,i,l,hl,hB,h=>by
  obtain⟨b,c,g⟩ :=bI h;have j:=hp.funs a (kN b);have e:=hp.fsmall;obtain⟨y,d⟩ :∃y,l[a.toNat]?=some y:= ⟨_,kF (by omega)⟩;refine(aQr p i l a y sd sd sd (by omega) (by omega) d sd).ends ?_;exact rS0 hp t (i+1) _ (by simpa using hl) (aNm hB (by omega) (by omega) (by omega)) c
theorem aNn {p:Prog}(hp:FineP p) :aM PP 86 [Prog.av p] (.ilst 1 (List.map cA (kC p)) false) :=by
 refine aK aC rfl rfl ?_;have a:=hp.small;refine Ends.val ?_ (fun E b=>nB);refine(aQq p (by omega)).ends ?_;exact rS0 hp p.funs 0 _ (by simp) (fun z hz=>by have:= (List.mem_replicate.1 hz).2;omega) rfl
def nE (p:Prog)(S:List Int)(i:Nat) :Bool:=match p.nodes[i]?,S[i]? with
 |some x,some s=> !(decide (x.op=4) &&decide (x.n≥s))
 |_,_=>true
def hO (p:Prog)(S:List Int) :Nat→List Int→Bool
 |_,[] =>true
 |i,_::t=>nE p S i&&hO p S (i+1) t
theorem rSh {p:Prog}(g:p.nodes.length≤320)(S:List Int)(f:S.length=p.nodes.length) :∀ (t:List Int) (i:Nat),S.drop i=t→Ends PP 0 (xY p S (i:Int)).as (.ret (.bool (hO p S i t))) (aA [] 0)
 | [],i,h=>by
  have:=bL h;exact aUz p S i sd
 | s ::t,i,h=>by
  obtain⟨c,j,k⟩ :=bI h;obtain⟨x,d⟩ :∃x,p.nodes[i]?=some x:= ⟨_,kF (by omega)⟩;have e:=rSh g S f t (i+1) j;by_cases a:x.op=4
  · by_cases b:x.n≥s
    ·exact Ends.eqv (aUw p S i x s sd sd sd (by simp [a]) sd (by simpa using b)) (by simp only [hO,nE,d,c,a,b];simp)
    · refine(aUx p S i x s sd sd sd (by simp [a]) sd (by simpa using b) sd).ends ?_;exact Ends.eqv e (by simp only [hO,nE,d,c,a,b];simp)
  · refine(aUy p S i x sd sd sd (by simpa using a) sd).ends ?_;exact Ends.eqv e (by simp only [hO,nE,d,c,a];simp)
theorem aQx {p:Prog}(hp:FineP p) :aM PP 58 [Prog.av p] (.bool (hO p (kC p) 0 (kC p))) :=by
 refine aK aC rfl rfl ?_;refine(aUv p (kC p) (aNn hp)).ends ?_;exact rSh hp.small (kC p) (aA6 p) (kC p) 0 rfl
theorem qJ {lo n:Int}:∀ {b:List Int} {u v:List Bool},marks lo n b u=some v→∀k∈b,lo≤k∧k≤n-1
 | [],_,_,_,k,hk=>by cases hk
 | a ::b,u,v,h,k,hk=>by
  simp only [marks]at h;split at h
  · rename_i g;rcases zq7.1 hk with rfl|hk
    ·exact inB_iff.1 g.1
    ·exact qJ h k hk
  ·cases h
theorem zS {lo n:Int}:∀ {b:List Int} {u v:List Bool},marks lo n b u=some v→∀m:Nat,v[m]?=some true→u[m]?=some true∨∃k∈b,k.toNat=m
 | [],u,v,h,m,hm=>by simp only [marks,Option.some.injEq]at h;rw [h];exact .inl hm
 | a ::b,u,v,h,m,hm=>by
  simp only [marks]at h;split at h
  · rcases zS h m hm with g| ⟨k,hk,e⟩
    · by_cases e:a.toNat=m
      ·exact .inr ⟨a,cN ..,e⟩
      ·rw [getElem?_set_ne e]at g;exact .inl g
    ·exact .inr ⟨k,cJ _ hk,e⟩
  ·cases h
theorem qK {lo n:Int}:∀ {b:List Int} {u v:List Bool},marks lo n b u=some v→∀m:Nat,u[m]?=some true→v[m]?=some true
 | [],u,v,h,m,hm=>by simp only [marks,Option.some.injEq]at h;rw [←h];exact hm
 | a ::b,u,v,h,m,hm=>by
  simp only [marks]at h;split at h
  · rename_i g;refine qK h m ?_;by_cases e:a.toNat=m
    ·subst e;rw [hm]at g;exact absurd g.2 (by simp)
    ·rw [getElem?_set_ne e];exact hm
  ·cases h
theorem lB {lo n k:Int}{ks:List Int}{u v:List Bool}(h:marks lo n (k::ks) u=some v) :u[k.toNat]?=some false∧marks lo n ks (u.set k.toNat true) =some v:=by
 simp only [marks]at h;split at h
 ·rename_i g;exact⟨g.2,h⟩
 ·cases h
theorem gJ {p:Prog}{i:Nat}{x:Node}{t:List Node}{u v:List Bool}(h:bW p i (x::t) u=some v) :aO p x=true∧∃w,marks ((i:Int) +1) p.nodes.length x.kids u=some w∧bW p (i+1) t w=some v:=by
 simp only [bW]at h;split at h
 · rename_i g;split at h
   ·rename_i w a;exact⟨g,w,a,h⟩
   ·cases h
 ·cases h
theorem aCc {p:Prog}:∀ {t:List Node} {i:Nat} {u v:List Bool},bW p i t u=some v→∀m:Nat,m≤i→v[m]?=some true→u[m]?=some true
 | [],i,u,v,h,m,_,hm=>by simp only [bW,Option.some.injEq]at h;rw [h];exact hm
 | x::t,i,u,v,h,m,c,hm=>by
  obtain⟨_,w,a,b⟩ :=gJ h;rcases zS a m (aCc b m (by omega) hm)with g| ⟨k,hk,e⟩
  ·exact g
  ·have:=qJ a k hk;omega
theorem mE {p:Prog}:∀ {t:List Node} {i:Nat} {u v:List Bool},bW p i t u=some v→v.length=u.length
 | [],i,u,v,h=>by simp only [bW,Option.some.injEq]at h;rw [h]
 | x::t,i,u,v,h=>by
  obtain⟨_,w,b,a⟩ :=gJ h;rw [mE a,jV b]
theorem mF {p:Prog}:∀ {t:List Node} {i:Nat} {u v:List Bool},bW p i t u=some v→∀ (j:Nat) (x:Node),t[j]?=some x→aO p x=true∧∀k∈x.kids,((i+j:Nat) :Int) <k∧k<p.nodes.length
 | [],i,u,v,h,j,x,a=>by simp at a
 | y::t,i,u,v,h,j,x,a=>by
  obtain⟨g,w,b,c⟩ :=gJ h;cases j with
  | zero=>
   simp at a;subst a;exact⟨g,fun k hk=>by have:=qJ b k hk;omega⟩
  | succ j=>
   have:=mF c j x (by simpa using a);exact⟨this.1,fun k hk=>by have:=this.2 k hk;omega⟩
theorem aCd {p:Prog}:∀ {t:List Node} {i:Nat} {u v:List Bool},bW p i t u=some v→∀m:Nat,v[m]?=some true→u[m]?=some true∨∃ (j:Nat) (x:Node) (k:Int),t[j]?=some x∧k∈x.kids∧k.toNat=m
 | [],i,u,v,h,m,hm=>by simp only [bW,Option.some.injEq]at h;rw [h];exact .inl hm
 | y ::t,i,u,v,h,m,hm=>by
  obtain⟨g,w,d,l⟩ :=gJ h;rcases aCd l m hm with a| ⟨j,x,k,n,o,e⟩
  · rcases zS d m a with b| ⟨k,f,c⟩
    ·exact .inl b
    ·exact .inr ⟨0,y,k,rfl,f,c⟩
  ·exact .inr ⟨j+1,x,k,by simpa using n,o,e⟩
theorem rK {x:Node}{i:Nat}{lo n:Int}:∀ {t:List Int} {j:Nat} {u v:List Bool} {l:List Int},marks lo n t u=some v→∀m:Nat,u[m]?=some true→ (jM x i j t l)[m]?=l[m]?
 | [],_,_,_,_,_,_,_=>rfl
 | k::t,j,u,v,l,h,m,hm=>by
  obtain⟨b,c⟩ :=lB h;have a:k.toNat≠m:=fun e=>by rw [e,hm]at b;cases b
  rw [jM,rK c m (by rw [getElem?_set_ne a];exact hm),getElem?_set_ne a]
theorem pH {p:Prog}:∀ {t:List Node} {i:Nat} {u v:List Bool} {l:List Int},bW p i t u=some v→∀m:Nat,u[m]?=some true→ (iG i t l)[m]?=l[m]?
 | [],_,_,_,_,_,_,_=>rfl
 | x::t,i,u,v,l,h,m,hm=>by
  obtain⟨_,w,a,b⟩ :=gJ h;rw [iG,pH b m (qK a m hm),rK a m hm]
theorem aDP {lo n:Int}:∀ {t:List Int} {u v:List Bool} {l:List Int},marks lo n t u=some v→∀m:Nat,u[m]?=some true→ (nD t l)[m]?=l[m]?
 | [],_,_,_,_,_,_=>rfl
 | k::t,u,v,l,h,m,hm=>by
  obtain⟨b,c⟩ :=lB h;have a:k.toNat≠m:=fun e=>by rw [e,hm]at b;cases b
  rw [nD,aDP c m (by rw [getElem?_set_ne a];exact hm),getElem?_set_ne a]
theorem aGn {x:Node}{i:Nat}{lo n:Int}:∀ {t:List Int} {j:Nat} {u v:List Bool} {l:List Int},marks lo n t u=some v→u.length=l.length→u[i]?=some true→∀ (d:Nat) (k:Int),t[d]?=some k→ (jM x i j t l)[k.toNat]?=some (l.getD i 0+dI x ((j+d:Nat) :Int))
 | [],_,_,_,_,_,_,_,d,k,hk=>by simp at hk
 | a::t,j,u,v,l,h,g,o,d,k,hk=>by
  obtain⟨c,m⟩ :=lB h;have b:a.toNat≠i:=fun e=>by rw [e,o]at c;cases c
  have f:a.toNat<u.length:= (zq0.1 c).1;rw [jM];cases d with
  | zero=>
   simp at hk;subst hk;rw [rK m _ (by rw [getElem?_set_self f]),getElem?_set_self (by omega)];simp
  | succ d=>
   have:=aGn (x:=x) (i:=i) (j:=j+1) (l:=l.set a.toNat (l.getD i 0+dI x j)) m (by simpa using g) (by rw [getElem?_set_ne b];exact o) d k (by simpa using hk);rw [this,nW,getElem?_set_ne b,←nW];congr 3;omega
theorem aDQ {p:Prog}:∀ {t:List Node} {i:Nat} {u v:List Bool} {l:List Int},bW p i t u=some v→ (∀m,m<v.length→v[m]?=some true) →u.length=l.length→i+t.length≤u.length→∀ (j:Nat) (x:Node) (d:Nat) (k:Int),t[j]?=some x→x.kids[d]?=some k →
  ∃s,(iG i t l)[i+j]?=some s∧ (iG i t l)[k.toNat]?=some (s+dI x d)
 | [],_,_,_,_,_,_,_,_,j,x,d,k,e,_=>by simp at e
 | y ::t,i,u,v,l,h,D,g,q,j,x,d,k,e,hk=>by
  obtain⟨_,w,b,c⟩ :=gJ h;have o:=jV b;simp only [oI]at q;rw [iG];cases j with
  | zero=>
   simp at e;subst e;have F:=mE h;have A:u[i]?=some true:=aCc h i (Nat.le_refl _) (D i (by omega));have r:=aGn (x:=y) (i:=i) (j:=0) (l:=l) b g A d k hk;have z:w[k.toNat]?=some true:=by
    have C:=qJ b k (kN hk);have all:∀ {B n:Int} {f:List Int} {u v:List Bool},marks B n f u=some v→∀k∈f,v[k.toNat]?=some true:=by
     intro B n f
     induction f with
     |nil=>intro u v _ k hk;cases hk
     | cons a f H=>
      intro u v h k hk;obtain⟨G,c⟩ :=lB h;rcases zq7.1 hk with rfl|hk
      ·exact qK c _ (getElem?_set_self (zq0.1 G).1)
      ·exact H c k hk
    exact all b k (kN hk)
   refine⟨l.getD i 0,?_,?_⟩
   · show(iG (i+1) t (jM y i 0 y.kids l))[i]?=some (l.getD i 0);rw [pH c i (qK b i A),rK b i A,nW,kF (by omega)];rfl
   ·rw [pH c _ z,r];simp
  | succ j=>
   obtain⟨s,I,J⟩ :=aDQ (l:=jM y i 0 y.kids l) c D (by rw [qI,o,g]) (by omega) j x d k (by simpa using e) hk;exact⟨s,by rw [←I];congr 1;omega,J⟩
structure Sprop (p:Prog) (S:List Int) :Prop where
 len:S.length=p.nodes.length
 root:∀f∈p.funs,S[f.toNat]?=some 1
 kid:∀ (i:Nat) (x:Node) (d:Nat) (k:Int),p.nodes[i]?=some x→x.kids[d]?=some k→∃s,S[i]?=some s∧S[k.toNat]?=some (s+dI x d)
def zU (p:Prog) :Prop:=∀m,m<p.nodes.length→ (∃f∈p.funs,f.toNat=m) ∨∃ (i:Nat) (x:Node) (k:Int),p.nodes[i]?=some x∧k∈x.kids∧k.toNat=m∧i<m
theorem aDR {lo n:Int}:∀ {t:List Int} {u v:List Bool} {l:List Int},marks lo n t u=some v→u.length=l.length→∀f∈t,(nD t l)[f.toNat]?=some 1
 | [],_,_,_,_,_,f,b=>by cases b
 | a::t,u,v,l,h,d,f,b=>by
  obtain⟨g,e⟩ :=lB h;have c:a.toNat<u.length:= (zq0.1 g).1;rw [nD];rcases zq7.1 b with rfl|b
  ·rw [aDP e _ (getElem?_set_self c),getElem?_set_self (by omega)]
  ·exact aDR e (by simpa using d) f b
theorem iH {p:Prog}(hp:aF p=true)(b:aJ p=true) :FineP p∧Sprop p (kC p) ∧zU p:=by
 have D:=hp;simp only [aF,cM,decide_eq_true_eq]at D;obtain⟨⟨⟨⟨I,L⟩,Q⟩,_⟩,N⟩ :=D;simp only [aJ,cM]at b;obtain⟨_,b⟩ :=b;split at b
 · rename_i u t;unfold allT at b;split at b
   · rename_i v r;have q:u.length=p.nodes.length:=by rw [jV t];simp
     have M:v.length=p.nodes.length:=by rw [mE r,q]
     have e:∀m,m<v.length→v[m]?=some true:=fun m hm=>by
      rw [kF hm];have:=zq27.1 b _ (List.getElem_mem hm);simpa using this
     have c:=mF r;refine⟨⟨I,L,fun i x y=>?_,fun f b=>?_⟩,⟨aA6 p,fun f b=>?_,fun i x d k y hk=>?_⟩,fun m hm=>?_⟩
     · have:=c i x y;have w:=zq27.1 N x (kN y);simp only [bA,cM,decide_eq_true_eq]at w;exact⟨aJ0 this.1,w.1.1,fun k hk=>by have:=this.2 k hk;omega⟩
     ·have:=qJ t f b;omega
     · rw [kC];have A:u[f.toNat]?=some true:=by
        have all:∀ {F n:Int} {o:List Int} {u v:List Bool},marks F n o u=some v→∀k∈o,v[k.toNat]?=some true:=by
         intro F n o
         induction o with
         |nil=>intro u v _ k hk;cases hk
         | cons a o K=>
          intro u v h k hk;obtain⟨J,C⟩ :=lB h;rcases zq7.1 hk with rfl|hk
          ·exact qK C _ (getElem?_set_self (zq0.1 J).1)
          ·exact K C k hk
        exact all t f b
       rw [pH r _ A];exact aDR t (by simp) f b
     · obtain⟨s,z,B⟩ :=aDQ (l:=nD p.funs (replicate p.nodes.length 0)) r e (by rw [vH,q];simp) (by omega) i x d k y hk;exact⟨s,by rw [kC,←z];congr 1;omega,B⟩
     · rcases aCd r m (e m (by omega))with g| ⟨j,x,k,G,H,O⟩
       · rcases zS t m g with a| ⟨f,z,B⟩
         ·rw [List.getElem?_replicate]at a;split at a<;>simp at a
         ·exact .inl ⟨f,z,B⟩
       · have:= (c j x G).2 k H;exact .inr ⟨j,x,k,G,H,O,by omega⟩
   ·cases b
 ·cases b
inductive Reach (p:Prog) :Nat→Nat→Prop where
 |refl (a:Nat) :Reach p a a
 |step {a i:Nat} {x:Node} {k:Int}:Reach p a i→p.nodes[i]?=some x→k∈x.kids→Reach p a k.toNat
theorem Reach.first {p:Prog}{a m:Nat}(h:Reach p a m) :m=a∨∃ (x:Node) (k:Int),p.nodes[a]?=some x∧k∈x.kids∧Reach p k.toNat m:=by
 induction h with
 |refl=>exact .inl rfl
 | step h hx hk ih=>
  rename_i i x k;rcases ih with rfl| ⟨y,q,h1,h2,h3⟩
  ·exact .inr ⟨x,k,hx,hk,Reach.refl _⟩
  ·exact .inr ⟨y,q,h1,h2,h3.step hx hk⟩
theorem aHs {p:Prog}(hc:zU p) :∀m,m<p.nodes.length→∃f∈p.funs,Reach p f.toNat m:=by
 intro m
 induction m using Nat.strongRecOn with
 | ind m ih=>
  intro hm;rcases hc m hm with⟨f,h1,h2⟩ | ⟨i,x,k,h1,h2,h3,h4⟩
  ·exact⟨f,h1,h2 ▸ Reach.refl _⟩
  · obtain⟨f,g1,g2⟩ :=ih i h4 (by omega);exact⟨f,g1,h3 ▸ g2.step h1 h2⟩
theorem aIj {p:Prog}(hp:FineP p){S:List Int}(hS:Sprop p S) :∀ (f:Nat) (a:Nat) (s:Int),a<p.nodes.length→p.nodes.length-a≤f→S[a]?=some s →
  (jL p f (a:Int) s=true↔∀m:Nat,Reach p a m→nE p S m=true)
 |0,a,s,ha,hf,_=>by omega
 | f + 1,a,s,ha,hf,hs=>by
  obtain⟨x,hx⟩ :∃x,p.nodes[a]?=some x:= ⟨_,kF ha⟩;obtain⟨_,_,hks⟩ :=hp.node a x hx;have e:jL p (f+1) (a:Int) s= (if x.op=4∧x.n≥s then false else aHr (jL p f) x s 0 x.kids) :=by
   rw [jL];simp only [oY,hx]
  have ok:nE p S a=true↔¬ (x.op=4∧x.n≥s) :=by
   unfold nE;rw [hx,hs];by_cases h4:x.op=4<;>by_cases hn:x.n≥s<;>simp [h4,hn]
  have fold:∀ (t:List Int) (j:Nat),x.kids.drop j=t→ (aHr (jL p f) x s j t=true↔∀k∈t,∀m:Nat,Reach p k.toNat m→nE p S m=true) :=by
   intro t
   induction t with
   |nil=>intro j _;exact⟨fun _ k hk=> (by cases hk),fun _=>rfl⟩
   | cons k t ih=>
    intro j h;obtain⟨g1,g2,g3⟩ :=bI h;have hk:=hks k (kN g1);obtain⟨s',c1,c2⟩ :=hS.kid a x j k hx g1;rw [hs]at c1;cases c1;have hkn: ((k.toNat:Nat) :Int) =k:=by omega
    have w:=aIj hp hS f k.toNat (s+dI x j) (by omega) (by omega) c2;rw [hkn]at w;rw [aHr,cM,w,ih (j+1) g2];constructor
    · intro⟨h1,h2⟩ q hq;rcases zq7.1 hq with rfl|hq
      ·exact h1
      ·exact h2 q hq
    · intro h;exact⟨h k (cN ..),fun q hq=>h q (cJ _ hq)⟩
  rw [e];constructor
  · intro h m hr;split at h
    ·cases h
    · rename_i hno;rcases hr.first with rfl| ⟨y,k,h1,h2,h3⟩
      ·exact ok.2 hno
      · rw [hx]at h1;cases h1;exact(fold x.kids 0 rfl).1 h k h2 m h3
  · intro h;have h0:=ok.1 (h a (Reach.refl _));rw [if_neg h0];refine(fold x.kids 0 rfl).2 fun k hk m hr=>h m ?_;have all:∀ {b m:Nat},Reach p b m→∀ {a:Nat} {x:Node} {k:Int},p.nodes[a]?=some x→k∈x.kids→b=k.toNat→Reach p a m:=by
     intro b m hr
     induction hr with
     |refl=>intro a x k hx hk e;rw [e];exact(Reach.refl a).step hx hk
     |step h hx' hk' ih=>intro a x k hx hk e;exact(ih hx hk e).step hx' hk'
    exact all hr hx hk rfl
theorem aNo {p:Prog}(hp:FineP p){S:List Int}(hS:Sprop p S) :∀ (t:List Int),(∀f∈t,f∈p.funs) → (aUt p t=true↔∀f∈t,∀m:Nat,Reach p f.toNat m→nE p S m=true)
 | [],_=> ⟨fun _ f hf=> (by cases hf),fun _=>rfl⟩
 | a ::t,ht=>by
  have ha:=hp.funs a (ht a (cN ..));have han: ((a.toNat:Nat) :Int) =a:=by omega
  have w:=aIj hp hS p.nodes.length a.toNat 1 (by omega) (by omega) (hS.root a (ht a (cN ..)));rw [han]at w;rw [aUt,cM,w,aNo hp hS t (fun f hf=>ht f (cJ _ hf))];constructor
  · intro⟨h1,h2⟩ q hq;rcases zq7.1 hq with rfl|hq
    ·exact h1
    ·exact h2 q hq
  · intro h;exact⟨h a (cN ..),fun q hq=>h q (cJ _ hq)⟩
theorem pI (p:Prog)(S:List Int) :∀ (t:List Int) (i:Nat),hO p S i t=true↔∀j,j<t.length→nE p S (i+j) =true
 | [],i=>by simp [hO]
 | a ::t,i=>by
  rw [hO,cM,pI p S t (i+1)];constructor
  · intro⟨h1,h2⟩ j hj;cases j with
    |zero=>exact h1
    |succ j=>have:=h2 j (by simpa using hj);rw [show i+ (j+1) =i+1+j by omega];exact this
  · intro h;refine⟨h 0 (by simp),fun j hj=>?_⟩;have:=h (j+1) (by simpa using hj);rw [show i+1+j=i+ (j+1)by omega];exact this
theorem aUB {p:Prog}(hp:FineP p){S:List Int}(hS:Sprop p S)(hc:zU p) :aUt p p.funs=hO p S 0 S:=by
 rw [Bool.eq_iff_iff,aNo hp hS p.funs (fun f hf=>hf),pI];constructor
 · intro h j hj;rw [hS.len]at hj;obtain⟨f,h1,h2⟩ :=aHs hc j hj;rw [eS];exact h f h1 j h2
 · intro h f hf m hr;by_cases hm:m<S.length
   ·have:=h m hm;rwa [eS]at this
   · unfold nE;rw [aEP (by rw [hS.len]at hm;omega)]
def cV (p:Prog) :Bool×Int:=if aJ p=true then(hO p (kC p) 0 (kC p),0)else(false,2)
theorem bFk {E:Emb}{e:Nat}{xs:List AV}{n:AV}{cv:Value}(h:VR E (.tup [.ilst e xs true,n]) cv) :VR E (.tup [.ilst e xs false,n]) cv:=by
 simp only [VR]at h ⊢;obtain⟨us,h1,h2⟩ :=h;obtain⟨u,us',rfl,h3,h4⟩ :=h2.cons_inv;exact⟨_,h1,VRs.cons (nB h3) h4⟩
theorem aCe {p:Prog}(hs:aF p=true) :aM PP 45 [Prog.av p] (.int .i64 (checkN (aJ p))) :=by
 have h2:=aM0 p hs;rw [aT7]at h2;exact h2
theorem aCf {p:Prog}(hs:aF p=true) :aM PP 46 [Prog.av p] (.tup [.bool (cV p).1,.int .i64 (cV p).2]) :=by
 refine aK aC rfl rfl ?_;have hc:=aCe hs;have e0: (start PP 46 [Prog.av p]).as= (bDG p).as:=by kernel_rfl
 rw [e0];cases hf:aJ p
 case false=>
  rw [hf]at hc;exact Ends.eqv (bAb p _ hc (by rfl)) (by simp [cV,hf,checkN])
 rw [hf]at hc;obtain⟨q1,q2,q3⟩ :=iH hs hf;refine(bAc p _ hc (by rfl)).ends ?_;exact Ends.eqv (aNl q1 p.funs 0 rfl) (by rw [aUB q1 q2 q3];simp [cV,hf])
abbrev aDS(a:Prog):Nat ×AObj×Bool:=oC 1 [(iN a.nodes),(iI a.funs),(nI a.main),(iC a.cons)]
abbrev aRQ(a:Option Addr)(b c:Nat)(d:List Int):Nat×AObj×Bool:=(2,(.lstv (Value.slice a b c) 1 (jI d)),true)
def aXR(b:Prog)(a:List ONode)(c:Int)(d e:List Int):TS:=cH PP 60 [(.gl 0 4 0 a.length false),(Prog.av b),(nI c),(iI d),(iI e)] [oL 0 4 (List.map ONode.av a)] 1
def aA7(c:Prog)(a:List ONode)(l:Int)(d e:List Int)(f g:Int)(i:List Int)(j:List Pat)(k:Int)(b:List Pat):TS:=⟨(tf 60 104 [(0,(.gl 0 4 0 a.length false)),(3,(iI d)),(4,(iI e)),kp 6 1,(10,.nils),kp 11 2,(12,(nI (a.length:Int))),(13,(.gl 3 4 0 b.length false)),(14,(nI k))] [kc f60 2036,kl f60 2036,.inBlock 0,kc f60 255]),[],[oL 0 4 (List.map ONode.av a),aDS c,oC 2 [(nI f),(nI g),(iI i),(iP j)],oL 3 4 (av b)],4⟩
def aKz(b:Prog)(c:List ONode)(g:Int)(d e f:List Int)(a:List ONode):TS:=⟨(tf 60 104 [(0,(.gl 0 4 0 a.length false)),(3,(iI d)),(4,(iI e)),kp 6 1,(10,.nils),(12,(nI (c.length:Int))),(15,(iI f)),(16,(nI 0))] [kc f60 65524,kl f60 65524,.inBlock 2,kc f60 8191]),[],[oL 0 4 (List.map ONode.av a),aDS b],2⟩
def xZ(d:Prog)(a:List ONode)(j:Int)(e f g:List Int)(b:List ONode)(c:List Int)(i:Int):TS:=⟨(tf 60 104 [(0,(.gl 0 4 0 b.length false)),(3,(iI e)),(4,(iI f)),kp 6 1,(10,.nils),(12,(nI (a.length:Int))),(15,(iI g)),(16,(nI i)),(91,(.gl 2 1 0 c.length false)),(93,(.ep 0 4 (0+ (a.length:Int).toNat) 2))] [ko f60 1048392 13,kc f60 1048393,.inBlock 3,kc f60 262099,kl f60 65524,.inBlock 2,kc f60 8191]),[],[oL 0 4 (List.map ONode.av b),aDS d,oL 2 1 (jI c)],3⟩
def aKA(f:Prog)(a:List ONode)(m:Int)(g i j:List Int)(b:List ONode)(k:List Int)(l:Int)(c:Option Addr)(d e:Nat):TS:=⟨(tf 60 104 [(0,(.gl 0 4 0 b.length false)),(3,(iI g)),(4,(iI i)),kp 6 1,(10,.nils),(12,(nI (a.length:Int))),(15,(iI j)),(16,(nI l)),(91,(.val (Value.slice c d e))),(93,(.ep 0 4 (0+ (a.length:Int).toNat) 2))] [ko f60 1048392 13,kc f60 1048393,.inBlock 3,kc f60 262099,kl f60 65524,.inBlock 2,kc f60 8191]),[],[oL 0 4 (List.map ONode.av b),aDS f,aRQ c d e k],3⟩
def aKB(b:Prog)(c:List ONode)(k:Int)(d e f:List Int)(a:List ONode)(g:List Int)(i:Value)(j:Int):TS:=⟨(tf 60 104 [(0,(.gl 0 4 0 a.length false)),(3,(iI d)),(4,(iI e)),kp 6 1,(10,.nils),(12,(nI (c.length:Int))),(15,(iI f)),(16,(nI j))] [kc f60 65524,kl f60 65524,.inBlock 2,kc f60 8191]),[],[oL 0 4 (List.map ONode.av a),aDS b,(2,(.lstv i 1 (jI g)),true)],3⟩
def bBQ(b:Prog)(f:List ONode)(c:Int)(d e:List Int):=tT 0 (aXR b f c d e)<|gX Node.av 10 b.nodes c<|fun a=>.b 17 27 (a.op==4) (gd 5 31 (a.n<0) (gw 6 35 ((-1:Int) -a.n)<|gX cA 0 d ((-1:Int) -a.n)<|fun g=>gw 2 38 ((-1:Int) -g)<|.b 10 42 (a.op==14) .x<|.i [rn 13,.nilL 13 4] []<|gu 0 3 (av ([] :List Pat))<|gs 0 13 (.gl 3 4 0 ([] :List Pat).length false)<|.W 0 4 [0,1,2,3] (aA7 b f c d e a.op ((-1:Int) -g) a.kids a.pats 0 ([] :List Pat)))<|.b 9 42 (a.op==14) .x<|.i [rn 13,.nilL 13 4] []<|gu 0 3 (av ([] :List Pat))<|gs 0 13 (.gl 3 4 0 ([] :List Pat).length false)<|.W 0 4 [0,1,2,3] (aA7 b f c d e a.op a.n a.kids a.pats 0 ([] :List Pat)))<|.b 14 42 (a.op==14) (gX cA 5 e a.n<|fun g=>.i [rn 15,.nilL 13 4] []<|gu 0 3 (av ([] :List Pat))<|gs 0 13 (.gl 3 4 0 ([] :List Pat).length false)<|.W 0 4 [0,1,2,3] (aA7 b f c d e a.op g a.kids a.pats 0 ([] :List Pat)))<|.i [rn 13,.nilL 13 4] []<|gu 0 3 (av ([] :List Pat))<|gs 0 13 (.gl 3 4 0 ([] :List Pat).length false)<|.W 0 4 [0,1,2,3] (aA7 b f c d e a.op a.n a.kids a.pats 0 ([] :List Pat))
def bBR:=fun a b c d e f g i j k l m n o p q=>bBQ a b c d e f i j|>.t k|>.t l m g n o p|>.f q ⟨(aH _ (fun _=>dJ _) _),⟨fH,trivial⟩⟩
def bBS:=fun a b c d e f g i j k l=>bBQ a b c d e f g i|>.t j|>.f k|>.f l ⟨(aH _ (fun _=>dJ _) _),⟨fH,trivial⟩⟩
def bBT:=fun a b c d e f g i j k l m n=>bBQ a b c d e f i j|>.f k|>.t l g m n ⟨(aH _ (fun _=>dJ _) _),⟨fH,trivial⟩⟩
def bBU:=fun a b c d e f g i j k=>bBQ a b c d e f g i|>.f j|>.f k ⟨(aH _ (fun _=>dJ _) _),⟨fH,trivial⟩⟩
def bGF(i:Prog)(b:List ONode)(j:Int)(k e:List Int)(f g:Int)(l:List Int)(c:List Pat)(d:Int)(a:List Pat):=tT 0 (aA7 i b j k e f g l c d a)<|gm 6 aE c<|gd 2 53 (d< (c.length:Int)) (rW 9 c d<|fun q r s t=>.y fun m:Int=>.y fun n:Int=>.y fun o:cC=>.y fun p:List Pat=>gp 2 101 [(.agg [(nI q),(nI r),(dO s),(iP t)]),(iI e)] (.agg [(nI m),(nI n),(dO o),(iP p)])<|gA 1 aE a [(Pat.mk m n o p)]<|gw 6 55 (d+1)<|.W 3 6 [0,1,2,5] (aA7 i b j k e f g l c (d+1) (a++ [(Pat.mk m n o p)])))<|gZ 6 66 3 4 aE fH a false<|ga 18 ONode.av b [(ONode.mk f g KV.nil a)]<|.W 9 6 [5,1] (aKz i b j k e l (b++ [(ONode.mk f g KV.nil a)]))
def bBV:=fun a b c d e f g i j k l m n o p q r s t u v w x y z=>bGF a b c d e f g i j k l|>.t u m n o p v w q r s t x y z ⟨(aH _ (fun _=>dJ _) _),⟨fH,trivial⟩⟩
def bBW:=fun a b c d e f g i j k l m n=>bGF a b c d e f g i j k l|>.f m n ⟨(aH _ (fun _=>dJ _) _),trivial⟩
def bGG(e:Prog)(c:List ONode)(f:Int)(g i d:List Int)(b:List ONode):=tT 0 (aKz e c f g i d b)<|gl 5 cA d<|gd 2 78 (0< (d.length:Int)) (.i [rn 10,.ans (.ix)] [hA (0≤ (c.length:Int)),hA ((c.length:Int) < (b.length:Int))]<|.y fun a:ONode=>gj ONode.av 1 b ((c.length:Int).toNat) a<|.i [.set 87 .nils] [.a (a.kv=KV.nil) (congrArg KV.av)]<|.i [rn 3,.nilL 87 1] []<|gu 0 3 (jI ([] :List Int))<|gs 0 87 (.gl 3 1 0 ([] :List Int).length false)<|ga 0 cA ([] :List Int) [(b.length:Int)]<|.i [.ans (.ix)] [hA (0≤ (c.length:Int)),hA ((c.length:Int) < (b.length:Int))]<|.W 1 5 [0,1,4] (xZ e c f g i d b (([] :List Int) ++ [(b.length:Int)]) 0))<|.y fun a:ONode=>.i [rn 8,.lw 0 (List.map ONode.av (set b c.length (ONode.mk a.op a.n (KV.row []) a.pats)))] [.a (b[c.length]?=some a) (p':=(List.map ONode.av b) ≠ []) aJ4,.a (b[c.length]?=some a∧a.kv=KV.nil) (p':=VW (List.map ONode.av b) (List.map ONode.av (set b c.length (ONode.mk a.op a.n (KV.row []) a.pats)))) fun⟨ha,hb⟩=>(aWP ha hb)]<|.i [.set 0 (.gl 0 4 0 (set b c.length (ONode.mk a.op a.n (KV.row []) a.pats)).length false)] [.q (p:=(AV.gl 0 4 0 b.length false) = (.gl 0 4 0 (set b c.length (ONode.mk a.op a.n (KV.row []) a.pats)).length false)) (cI (fK ..).symm)]<|.i [.set 10 (.gl 0 4 0 (set b c.length (ONode.mk a.op a.n (KV.row []) a.pats)).length false)] [.q (p:=(AV.gl 0 4 0 b.length false) = (.gl 0 4 0 (set b c.length (ONode.mk a.op a.n (KV.row []) a.pats)).length false)) (cI (fK ..).symm)]<|.i [.set 103 (.gl 0 4 0 (set b c.length (ONode.mk a.op a.n (KV.row []) a.pats)).length false)] [.q (p:=(AV.gl 0 4 0 b.length false) = (.gl 0 4 0 (set b c.length (ONode.mk a.op a.n (KV.row []) a.pats)).length false)) (cI (fK ..).symm)]<|.E 0 2 [0] (.gl 0 4 0 (set b c.length (ONode.mk a.op a.n (KV.row []) a.pats)).length false) [oL 0 4 (List.map ONode.av (set b c.length (ONode.mk a.op a.n (KV.row []) a.pats)))] 1
def bBX:=fun c d e f g i j k l a b m n o=>bGG c d e f g i j|>.t l a b k m n o a b ⟨(aH _ (fun _=>dJ _) _),⟨kk,trivial⟩⟩
def bBY:=fun b c d e f g i j k a l=>bGG b c d e f g i|>.f k j a ⟨a,l⟩ ⟨(aH _ (fun _=>dJ _) _),trivial⟩
def bBZ (i:Prog)(e:List ONode)(p:Int)(m n o:List Int)(f:List ONode)(j:List Int)(k:Int)(b:Option Addr)(c d:Nat):=fun a l g q r s t u=>(tT 0 (aKA i e p m n o f j k b c d)<|.y fun a:ONode=>.i [.st (ONode.av a) (ONode.av (ONode.mk a.op a.n (KV.val (Value.slice b c d)) a.pats))] [.a (((f)[(e.length:Int).toNat]?) =some a) (cS (f:=ONode.av)),hr (some (ONode.av (ONode.mk a.op a.n (KV.val (Value.slice b c d)) a.pats)))]<|.i [.lset 0 (List.map ONode.av (set f ((e.length:Int).toNat) (ONode.mk a.op a.n (KV.val (Value.slice b c d)) a.pats)))] [.q (p:=(List.map ONode.av f).set (0+ (e.length:Int).toNat) (ONode.av (ONode.mk a.op a.n (KV.val (Value.slice b c d)) a.pats)) = (List.map ONode.av (set f ((e.length:Int).toNat) (ONode.mk a.op a.n (KV.val (Value.slice b c d)) a.pats)))) (qC _ _ _ _)]<|.i [.set 0 (.gl 0 4 0 (set f ((e.length:Int).toNat) (ONode.mk a.op a.n (KV.val (Value.slice b c d)) a.pats)).length false)] [.q (p:=(AV.gl 0 4 0 f.length false) = (.gl 0 4 0 (set f ((e.length:Int).toNat) (ONode.mk a.op a.n (KV.val (Value.slice b c d)) a.pats)).length false)) (cI (fK ..).symm)]<|.y fun l:Int=>.y fun g:List Node=>.i [rn 1,.reg (rd 4 (.ans (.idx (cA l))::rd 3 [.call (.gl 3 4 0 ((set f ((e.length:Int).toNat) (ONode.mk a.op a.n (KV.val (Value.slice b c d)) a.pats)) ++List.map Node.o g).length false) (aA [aDS i,aRQ b c d j,oL 3 4 (List.map ONode.av ((set f ((e.length:Int).toNat) (ONode.mk a.op a.n (KV.val (Value.slice b c d)) a.pats)) ++List.map Node.o g))] 4),.d]))] [hA (0≤k),.a (((o)[k.toNat]?) =some l) (aZ (f:=cA)),hA (Spec PP (.enter 60 [(.gl 0 4 0 (set f ((e.length:Int).toNat) (ONode.mk a.op a.n (KV.val (Value.slice b c d)) a.pats)).length false),(Prog.av i),(nI l),(iI m),(iI n)]) (aA [oL 0 4 (List.map ONode.av (set f ((e.length:Int).toNat) (ONode.mk a.op a.n (KV.val (Value.slice b c d)) a.pats))),aDS i,aRQ b c d j] 3) (.ret (.gl 3 4 0 ((set f ((e.length:Int).toNat) (ONode.mk a.op a.n (KV.val (Value.slice b c d)) a.pats)) ++List.map Node.o g).length false)) (aA [aDS i,aRQ b c d j,oL 3 4 (List.map ONode.av ((set f ((e.length:Int).toNat) (ONode.mk a.op a.n (KV.val (Value.slice b c d)) a.pats)) ++List.map Node.o g))] 4))]<|gw 4 80 (k+1)<|.W 3 4 [3,1,2] (aKB i e p m n o ((set f ((e.length:Int).toNat) (ONode.mk a.op a.n (KV.val (Value.slice b c d)) a.pats)) ++List.map Node.o g) j (Value.slice b c d) (k+1))) a q l g r s t u ⟨(aH _ (fun _=>dJ _) _),⟨kk,trivial⟩⟩
def bGH(i:Prog)(c:List ONode)(j:Int)(k l f:List Int)(b:List ONode)(d:List Int)(e:Value)(g:Int):=tT 0 (aKB i c j k l f b d e g)<|gl 5 cA f<|gd 2 78 (g< (f.length:Int)) (.i [rn 10,.ans (.ix)] [hA (0≤ (c.length:Int)),hA ((c.length:Int) < (b.length:Int))]<|.y fun a:ONode=>gj ONode.av 1 b ((c.length:Int).toNat) a<|.i [.set 87 (.val e)] [.a (a.kv=KV.val e) (congrArg KV.av)]<|.i [.unname 87 2] [hr e]<|.i [.set 87 (.gl 2 1 0 d.length false)] [.q (p:=(AV.gl 2 1 0 (jI d).length false) = (.gl 2 1 0 d.length false)) (cI (lN ..))]<|ga 3 cA d [(b.length:Int)]<|.i [.ans (.ix)] [hA (0≤ (c.length:Int)),hA ((c.length:Int) < (b.length:Int))]<|.W 1 5 [0,1,4] (xZ i c j k l f b (d++ [(b.length:Int)]) g))<|.y fun a:ONode=>.i [rn 8,.vfrz 2 0 (List.map ONode.av (set b c.length (ONode.mk a.op a.n (KV.row d) a.pats)))] [.a (b[c.length]?=some a) (p':=(List.map ONode.av b) ≠ []) aJ4,hk cA d,.a (b[c.length]?=some a∧a.kv=KV.val e) (p':=VQ e 1 (jI d) (List.map ONode.av b) (List.map ONode.av (set b c.length (ONode.mk a.op a.n (KV.row d) a.pats)))) fun⟨ha,hb⟩=>(aWQ ha hb)]<|.i [.set 0 (.gl 0 4 0 (set b c.length (ONode.mk a.op a.n (KV.row d) a.pats)).length false)] [.q (p:=(AV.gl 0 4 0 b.length false) = (.gl 0 4 0 (set b c.length (ONode.mk a.op a.n (KV.row d) a.pats)).length false)) (cI (fK ..).symm)]<|.i [.set 10 (.gl 0 4 0 (set b c.length (ONode.mk a.op a.n (KV.row d) a.pats)).length false)] [.q (p:=(AV.gl 0 4 0 b.length false) = (.gl 0 4 0 (set b c.length (ONode.mk a.op a.n (KV.row d) a.pats)).length false)) (cI (fK ..).symm)]<|.i [.set 103 (.gl 0 4 0 (set b c.length (ONode.mk a.op a.n (KV.row d) a.pats)).length false)] [.q (p:=(AV.gl 0 4 0 b.length false) = (.gl 0 4 0 (set b c.length (ONode.mk a.op a.n (KV.row d) a.pats)).length false)) (cI (fK ..).symm)]<|.E 0 3 [0] (.gl 0 4 0 (set b c.length (ONode.mk a.op a.n (KV.row d) a.pats)).length false) [oL 0 4 (List.map ONode.av (set b c.length (ONode.mk a.op a.n (KV.row d) a.pats)))] 1
def bB0:=fun c d e f g i j k l m n o a b p q r=>bGH c d e f g i j k l m|>.t o a b n p q r a b ⟨(aH _ (fun _=>dJ _) _),⟨kk,trivial⟩⟩
def bB1:=fun b c d e f g i j k l m n a o=>bGH b c d e f g i j k l|>.f n m a ⟨a,o⟩ ⟨(aH _ (fun _=>dJ _) _),trivial⟩
def aCg(b i:Int)(c:cC)(d:List Pat)(e:List Int)(f g:Int)(a:List Pat):TS:=⟨(tf 101 36 [(1,(iI e)),kp 2 0,kp 4 1,(5,(.gl 2 4 0 a.length false)),(6,(nI g))] [kc f101 244,kl f101 244,.inBlock 0,kc f101 31]),[],[oC 0 [(nI b),(nI f),(dO c),(iP d)],oC 1 [(nI 0),(nI 0),(.str 0 0),.nils],oL 2 4 (av a)],3⟩
def aEF(b c d:Int)(a:List Int):TS:=⟨(tf 61 19 [(0,(nI b)),(1,(nI c)),(4,.nils),(5,(.gl 0 1 0 a.length false)),(6,(nI d))] [kc f61 116,kl f61 116,.inBlock 0,kc f61 15]),[],[oL 0 1 (jI a)],1⟩
def bGI(b a:Int)(d:cC)(e:List Pat)(c:List Int):=tT 0 (start PP 101 [(.agg [(nI b),(nI a),(dO d),(iP e)]),(iI c)])<|.b 12 9 (b==6) (gX cA 5 c a<|fun f=>.i [rn 15,.nilL 5 4] []<|gu 0 2 (av ([] :List Pat))<|gs 0 5 (.gl 2 4 0 ([] :List Pat).length false)<|.W 0 3 [0,1,2] (aCg b a d e c f 0 ([] :List Pat)))<|.i [rn 13,.nilL 5 4] []<|gu 0 2 (av ([] :List Pat))<|gs 0 5 (.gl 2 4 0 ([] :List Pat).length false)<|.W 0 3 [0,1,2] (aCg b a d e c a 0 ([] :List Pat))
def aXS:=fun a b c d e f g i j=>bGI a b c d e|>.t g f i j ⟨fH,trivial⟩
def aXT:=fun a b c d e f=>bGI a b c d e|>.f f ⟨fH,trivial⟩
def bGJ(d m:Int)(e:cC)(a:List Pat)(f:List Int)(g b:Int)(c:List Pat):=tT 0 (aCg d m e a f g b c)<|gm 6 aE a<|gd 2 20 (b< (a.length:Int)) (rW 9 a b<|fun n o p q=>.y fun i:Int=>.y fun j:Int=>.y fun k:cC=>.y fun l:List Pat=>gp 2 101 [(.agg [(nI n),(nI o),(dO p),(iP q)]),(iI f)] (.agg [(nI i),(nI j),(dO k),(iP l)])<|gA 1 aE c [(Pat.mk i j k l)]<|gw 6 22 (b+1)<|.W 3 5 [0,1,4] (aCg d m e a f g (b+1) (c++ [(Pat.mk i j k l)])))<|gZ 6 33 2 4 aE fH c false<|gE 8 3 (.agg [(nI d),(nI g),(dO e),(iP c)])
def aXU:=fun a b c d e f g i j k l m n o p q r s t u v w=>bGJ a b c d e f g i|>.t r j k l m s t n o p q u v w ⟨fH,trivial⟩
def aXV:=fun a b c d e f g i j=>bGJ a b c d e f g i|>.f j tv
def aXW (a b:Int):=(tT 0 (start PP 61 [(nI a),(nI b)])<|.i [rn 15,.nilL 5 1] []<|gu 0 0 (jI ([] :List Int))<|gs 0 5 (.gl 0 1 0 ([] :List Int).length false)<|.W 0 1 [0] (aEF a b 0 ([] :List Int))) ⟨kk,trivial⟩
def bGK(b d a:Int)(c:List Int):=tT 0 (aEF b d a c)<|gd 7 9 (a<d) (gw 9 15 (b+a)<|ga 1 cA c [(b+a)]<|gw 6 11 (a+1)<|.W 3 3 [2] (aEF b d (a+1) (c++ [(b+a)])))<|gz 8 4 0 1 cA c false<|gE 0 1 (iI c)
def aXX:=fun a b c d e f g i=>bGK a b c d|>.t e f g i ⟨kk,trivial⟩
def aXY:=fun a b c d e=>bGK a b c d|>.f e tv
def aRR (cons:List Int)(f n:Int) :Option Int:=if f=6 then(if 0≤n then cons[n.toNat]? else none)else some n
mutual
def aQy (cons:List Int) :Pat→Option Pat
 | .mk f n t ps=>match aRR cons f n with
  | some n'=>match aCh cons ps with
   |some ps'=>some (.mk f n' t ps')
   |none=>none
  |none=>none
def aCh (cons:List Int) :List Pat→Option (List Pat)
 | [] =>some []
 | p::ps=>match aQy cons p with
  | some p'=>match aCh cons ps with
   |some ps'=>some (p'::ps')
   |none=>none
  |none=>none
end
theorem aIk (f n:Int)(s:cC)(ps:List Pat)(cons:List Int)(d:Int)(hl:ps.length<1000000)(x:∀p∈ps,∀j,aQy cons p=some j→aM PP 101 [Pat.av p,.ilst 1 (List.map cA cons) false] (Pat.av j)) :
  ∀ (t:List Pat) (i:Nat) (a g:List Pat),ps.drop i=t→a.length=i→aCh cons t=some g→Ends PP 0 (aCg f n s ps cons d (i:Int) a).as (.ret (Pat.av (.mk f d s (a++g)))) (aA [] 0)
 | [],i,a,g,h,u,b=>by
  have:=bL h;cases b;rw [tK];exact aXV f n s ps cons d i a sd
 | .mk q r v c::t,i,a,g,h,u,b=>by
  obtain⟨y,z,B⟩ :=bI h;simp only [aCh]at b;split at b
  · rename_i j l;split at b
    · rename_i A k;cases b;obtain⟨m,o,w,e⟩ :=j;refine(aXU f n s ps cons d i a q r v c m o w e sd sd sd (x (.mk q r v c) (kN y) _ l) (by simp;omega) sd).ends ?_;have:=aIk f n s ps cons d hl x t (i+1) (a++ [.mk m o w e]) A z (by simp [u]) k;rw [zq9]at this;exact this
    ·cases b
  ·cases b
mutual
theorem aUC (cons:List Int) :∀ (p:Pat),bX p<1000000→∀i,aQy cons p=some i→aM PP 101 [Pat.av p,.ilst 1 (List.map cA cons) false] (Pat.av i)
 | .mk f n s d,h,i,b=>by
  refine aK aC (by simp [keylessL,kW,AV.keyless]) (kW _) ?_;simp only [bX]at h;have:=eD d;simp only [aQy]at b;split at b
  · rename_i k a;split at b
    · rename_i j e;cases b;have c:=aIk f n s d cons k (by omega) (aGo cons d (by omega)) d 0 [] j rfl rfl e;unfold aRR at a;split at a
      · rename_i g;split at a
        · rename_i l;exact(aXS f n s d cons k (by simp [g]) l a).ends c
        ·cases a
      · rename_i g;cases a;exact(aXT f n s d cons (by simp [g])).ends c
    ·cases b
  ·cases b
theorem aGo (cons:List Int) :∀ (b:List Pat),bD b<1000000→∀p∈b,∀c,aQy cons p=some c→aM PP 101 [Pat.av p,.ilst 1 (List.map cA cons) false] (Pat.av c)
 | [],_,p,a=>by cases a
 | q::b,h,p,a=>by
  simp only [bD]at h;rcases zq7.1 a with e|a
  ·rw [e];exact aUC cons q (by omega)
  ·exact aGo cons b (by omega) p a
end
def mN (funs cons:List Int)(op n:Int) :Option Int:=
 if op=4∧n<0 then
  match funs[(-1-n).toNat]? with
  |some g=>if -1000000000≤n∧ -1000000000≤g∧g≤1000000000 then some (-1-g)else none
  |none=>none
 else if op=14 then(if 0≤n then cons[n.toNat]? else none)else some n
def yA (f:Nat→Int→Option (List Node)) :Nat→List Int→Option (List Int×List Node)
 |_,[] =>some ([],[])
 | len,c::cs=>match f len c with
  | some ns=>match yA f (len+ns.length) cs with
   |some (ks,r) =>some ((len:Int) ::ks,ns++r)
   |none=>none
  |none=>none
def mG (p:Prog)(funs cons:List Int) :Nat→Nat→Int→Option (List Node)
 |0,_,_=>none
 | k+1, len,at0=>if 0≤at0∧len<1000000 then
   match p.nodes[at0.toNat]? with
   | some y=>if y.kids.length<1000000∧bD y.pats<1000000 then
     match mN funs cons y.op y.n with
     | some n'=>match aCh cons y.pats with
      | some ps'=>match yA (mG p funs cons k) (len+1) y.kids with
       |some (ks,r) =>some (⟨y.op,n',ks,ps'⟩ ::r)
       |none=>none
      |none=>none
     |none=>none
    else none
   |none=>none
  else none
abbrev PA (p:Prog) :AV:=.agg [(.ilst 4 (List.map Node.av p.nodes) false),(.ilst 1 (List.map cA p.funs) false),(.int .i64 p.main),(.ilst 2 (List.map Con.av p.cons) false)]
abbrev aDT (p:Prog) :AObj:=.cells (putCells .leaf 0 [(.ilst 4 (List.map Node.av p.nodes) false),(.ilst 1 (List.map cA p.funs) false),(.int .i64 p.main),(.ilst 2 (List.map Con.av p.cons) false)]) 4 [] false
abbrev OL (L:List ONode) :AObj:=.lst 4 (List.map ONode.av L)
abbrev EndsL (s:TS)(L:List ONode) :Prop:=Ends PP 0 s.as (.ret (.gl 0 4 0 (length L) false)) (aA [(0,OL L,true)] 1)
def aCi (p:Prog)(funs cons:List Int)(c:Int)(L:List ONode)(ns:List Node) :Prop:=
 aVx PP (.enter 60 [.gl 0 4 0 (length L) false,PA p,.int .i64 c,.ilst 1 (List.map cA funs) false,.ilst 1 (List.map cA cons) false]) (aA [(0,OL L,true)] 1)
  (.ret (.gl 0 4 0 (length (L++List.map Node.o ns)) false)) (aA [(0,OL (L++List.map Node.o ns),true)] 1)
theorem aXZ (L:List ONode) : (OL L).kl:=aH _ (fun _=>dJ _) _
theorem aX0 {p:Prog}{a cons:List Int}{c:Int}{L:List ONode}{d:List Node}(h:aCi p a cons c L d)(u:Value)(b:List Int) :
  Spec PP (.enter 60 [.gl 0 4 0 (length L) false,PA p,.int .i64 c,.ilst 1 (List.map cA a) false,.ilst 1 (List.map cA cons) false])
   (aA [(0,OL L,true),(1,aDT p,false),(2,.lstv u 1 (List.map cA b),true)] 3)
   (.ret (.gl 3 4 0 (length (L++List.map Node.o d)) false))
   (aA [(1,aDT p,false),(2,.lstv u 1 (List.map cA b),true),(3,OL (L++List.map Node.o d),true)] 4) :=
 Eq.mp aC (aLA (ks:=[0]) (n2:=3) (lc:=[(0,OL L,true),(1,aDT p,false),(2,.lstv u 1 (List.map cA b),true)])
  (x:=[(1,aDT p,false),(2,.lstv u 1 (List.map cA b),true)])
  (args':=[.gl 0 4 0 (length L) false,PA p,.int .i64 c,.ilst 1 (List.map cA a) false,.ilst 1 (List.map cA cons) false])
  h aC aC aC ⟨aXZ L,trivial⟩ aC aC aC aC ⟨aXZ _,trivial⟩ aC)
theorem aUD (p:Prog)(l:List ONode)(c:Int)(a cons b:List Int)(e:List ONode)(f:List Int)(d:Int)(g:Option Addr)(h i:Nat) :
  (⟨{(xZ p l c a cons b e f d).as.fr with tm:= (xZ p l c a cons b e f d).as.fr.tm.put 91 (.val (.slice g h i))},(xZ p l c a cons b e f d).as.cs,(xZ p l c a cons b e f d).as.h.set 2 (.lstv (.slice g h i) 1 (List.map cA f))⟩ :AS) = (aKA p l c a cons b e f d g h i).as:=by kernel_rfl
theorem aX1 {p:Prog}{l:List ONode}{d:Int}{a cons c:List Int}{g:List ONode}{h:List Int}{f:Int}{L:List ONode}(o:0<h.length)
  (hk:∀i k m,EndsL (aKA p l d a cons c g h f i k m) L) :EndsL (xZ p l d a cons c g h f) L:=by
 refine aSL (j:=91) (b:=2) (e:=1) (n:=length h) (ex:=false) (xs:=List.map cA h) aC aC (lN ..) o (fun i k m=>?_);have:=hk i k m;unfold EndsL at this;rw [←aUD]at this;exact this
end
end Go.Hb
