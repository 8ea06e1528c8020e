/- A machine on abstract values, its soundness, ways, plain laws. -/
import Derived.Test.YtnljmgihoioocaaGreatHF
import Derived.Test.YtnljmgihoioocaaGreatHH
import Derived.Test.YtnljmgihoioocaaGreatHI
set_option linter.defProp false
set_option linter.unusedVariables false
set_option linter.unusedSimpArgs false
set_option linter.unusedSectionVars false
set_option maxRecDepth 100000
set_option maxHeartbeats 1000000
namespace Go.Hb
open AV (ep ilst keylessL ptr ren)
open Bool (and_eq_true)
open List (getD_eq_getElem?_getD getElem?_eq_getElem getElem?_map getElem?_set getElem?_set_ne getElem?_set_self length length_cons length_set map_set mem_cons_of_mem mem_cons_self mem_of_getElem? replicate set set_set)
open Pats (av)
open Go.Proofs Tryz
noncomputable section
def dnT (sz:Int)(k:Nat)(o n:Int)(ks:List XT)(ps:List Pat)(x:XT) :XT:=.mk 7 0 [x,.mk o n ((ks.map (pJ sz 1)).set k (.mk 4 sz [] [])) ps] []
abbrev DNr (us:List (Nat×Nat))(ts:List (Option XT))(ix:Nat)(t:XT) :HL:=[(0,(.zone true [] (ZV us (ts.set ix none))),false),(1,gh,false),(2,.zone true [1] (Z1 t),false)]
section
variable (us :List (Nat×Nat)) (ts:List (Option XT)) (ix:Nat) (u:Nat×Nat) (op nn:Int) (ks:List XT) (ps:List Pat) (k:Nat) (sz:Int)
theorem bDO (x:XT)(hx:ks[k]?=some x)(u8:List (Nat×Nat))(hu8:u8.length=ks.length)(hl:ks.length<1000000)(w:List (Nat×Nat))(rs:List (Option XT))(hw:w.length=ks.length)(hr:rs.length=ks.length)
  (hi:∀j t,ks[j]?=some t→rs[j]?=some (if j≠k then some (pJ sz 1 t)else none)) :
  Ends PP 0 (wG us ts ix u op nn ks ps (k:Int) sz u8 rs ((ks.length:Nat) :Int) w).as (.ret (.ptr 1 0)) (aA (DNr us ts ix (dnT sz k op nn ks ps x)) 3) :=by
 have hk:k<ks.length:= (List.getElem?_eq_some_iff.1 hx).1;obtain⟨y0,hy0⟩ :=dG hw hk;obtain⟨y1,hy1⟩ :=dG hu8 hk;have ek: ((k:Nat) :Int).toNat=k:=Int.toNat_natCast k;refine(bAC us ts ix u op nn ks ps (k:Int) sz u8 rs _ w y0 sd (nH (m:=0) (ks:=[]) (bAz 4 sz) (by kernel_rfl) (by kernel_rfl) trivial trivial) sd sd sd).ends ?_;refine bDM us ts ix u op nn ks ps (k:Int) sz u8 _ _ rs w (by rw [ek,hi k x hx];simp) fun u9=>?_;refine(bAI us ts ix u op nn ks ps (k:Int) sz u8 _ _ rs w u9).ends ?_;rw [ek];have hrs:rs.set k (some (.mk 4 sz [] [])) =List.map some ((ks.map (pJ sz 1)).set k (.mk 4 sz [] [])) :=by
  apply List.ext_getElem?;intro j;rw [getElem?_map,getElem?_set,getElem?_set,List.length_map];by_cases h:k=j
  ·subst h;simp [hk,hr]
  · rw [if_neg h,if_neg h,getElem?_map];cases hj:ks[j]? with
    |none=>rw [List.getElem?_eq_none (by rw [List.getElem?_eq_none_iff]at hj;omega)];rfl
    |some t=>rw [hi j t hj,if_pos (fun e=>h e.symm)];rfl
 rw [hrs];refine(bDN us ts ix u op nn ks ps (k:Int) sz u8 _ _ (by simp [hu8])).ends ?_
 have:=bAJ us ts ix u op nn ks ps (k:Int) sz u8 (w.set k u9) (((ks.map (pJ sz 1)).set k (.mk 4 sz [] [])).map some) ((ks.map (pJ sz 1)).set k (.mk 4 sz [] [])) y1 (dnT sz k op nn ks ps x) sd sd sd
  (nH (m:=0) (ks:=[5,1,7]) (aIU u8 (ks.map some) k y1 x (.mk op nn ((ks.map (pJ sz 1)).set k (.mk 4 sz [] [])) ps) hy1 (by rw [getElem?_map,hx];rfl)) (by kernel_rfl) (by kernel_rfl) trivial trivial)
 exact cN (ks:=[1,0,3]) this (by kernel_rfl) (by kernel_rfl) (by kernel_rfl) trivial
theorem aIZ (x:XT)(hx:ks[k]?=some x)(u8:List (Nat×Nat))(hu8:u8.length=ks.length)(hl:ks.length<1000000)(hok:aC7 ks) :∀ (tl:List XT) (i:Nat) (w:List (Nat×Nat)) (rs:List (Option XT)),ks.drop i=tl→i≤ks.length→w.length=ks.length→rs.length=ks.length →
  (∀j t,ks[j]?=some t→rs[j]?=some (if j<i∧j≠k then some (pJ sz 1 t)else none)) →
  Ends PP 0 (wG us ts ix u op nn ks ps (k:Int) sz u8 rs (i:Int) w).as (.ret (.ptr 1 0)) (aA (DNr us ts ix (dnT sz k op nn ks ps x)) 3)
 | [],i,w,rs,h,h0,hw,hr,hi=>by
  have:=bE h;have e:i=ks.length:=by omega
  subst e;exact bDO us ts ix u op nn ks ps k sz x hx u8 hu8 hl w rs hw hr (fun j t hj=>by rw [hi j t hj];have:= (List.getElem?_eq_some_iff.1 hj).1;simp [this])
 | t ::tl,i,w,rs,h,h0,hw,hr,hi=>by
  obtain⟨g1,g2,g3⟩ :=bB h;obtain⟨y0,hy0⟩ :=dG hu8 g3;obtain⟨y2,hy2⟩ :=dG hw g3;by_cases hk:i=k
  · refine(bAG us ts ix u op nn ks ps (k:Int) sz u8 rs (i:Int) w y0 sd sd sd sd (by simp [hk]) sd).ends ?_;refine aIZ x hx u8 hu8 hl hok tl (i+1) w rs g2 (by omega) hw hr (fun j t' hj=>?_);rw [hi j t' hj];have: (j<i∧j≠k) ↔ (j<i+1∧j≠k) :=by omega
    simp only [this]
  · have hm:OkT t:=okTs_iff.1 hok t (mem_of_getElem? g1)
    refine(bAB us ts ix u op nn ks ps (k:Int) sz u8 rs (i:Int) w y0 (pJ sz 1 t) y2 sd sd sd sd (by simp;omega)
     (nH (m:=0) (ks:=[5]) (aP3 sz t hm u8 (ks.map some) i y0 hy0 (by rw [getElem?_map,g1];rfl)) (by kernel_rfl) (by kernel_rfl) trivial trivial) sd).ends ?_
    have ei: ((i:Nat) :Int).toNat=i:=Int.toNat_natCast i;refine bDL us ts ix u op nn ks ps (k:Int) sz u8 _ _ rs (i:Int) w (by rw [ei,hi i t g1];simp) fun u9=>?_;refine(bAH us ts ix u op nn ks ps (k:Int) sz u8 _ _ rs (i:Int) w u9 sd).ends ?_;rw [ei];refine aIZ x hx u8 hu8 hl hok tl (i+1) (w.set i u9) (rs.set i (some (pJ sz 1 t))) g2 (by omega) (by simp [hw]) (by simp [hr]) (fun j t' hj=>?_);rw [getElem?_set];by_cases e:i=j
    · subst e;rw [g1]at hj;cases hj;rw [if_pos rfl,if_pos (by omega),if_pos ⟨by omega,hk⟩]
    · rw [if_neg e,hi j t' hj];have: (j<i∧j≠k) ↔ (j<i+1∧j≠k) :=by omega
      simp only [this]
theorem bAN (x:XT)(hx:ks[k]?=some x)(hu:us[ix]?=some u)(ht:ts[ix]?=some (some (.mk op nn ks ps)))(hok:OkT (.mk op nn ks ps)) :
  eK PP 0 (.enter 253 [.int .i64 (k:Int),aO u,.int .i64 sz]) (aA [(0,(.zone true [] (ZV us ts)),false)] 1) (.ret (.ptr 1 0)) (aA (DNr us ts ix (dnT sz k op nn ks ps x)) 3) :=by
 simp only [OkT]at hok;obtain⟨_,hl,hoks⟩ :=hok;have hk:k<ks.length:= (List.getElem?_eq_some_iff.1 hx).1;have hne:ks≠ [] :=fun e=>by subst e;simp at hk
 refine⟨(bCo us ts ix u op nn ks ps (k:Int) sz []).as.fr,by kernel_rfl,?_⟩;refine((bAD us ts ix u op nn ks ps (k:Int) sz []).trans ((aVu us ts ix u op nn ks ps (k:Int) sz [] hu ht).trans (aVv us ts ix u op nn ks ps (k:Int) sz []))).ends (aVw us ts ix u op nn ks ps (k:Int) sz [] hne fun u8 hu8=>?_);refine((bAE us ts ix u op nn ks ps (k:Int) sz u8 hu8 (nH (m:=1) (ks:=[2]) (bAA u8 (fun e=>by subst e;simp at hu8;omega) (by omega)) (by kernel_rfl) (by kernel_rfl) ⟨aIV _,trivial⟩ ⟨aIV _,aIV _,trivial⟩)).trans ((bDK us ts ix u op nn ks ps (k:Int) sz u8).trans (bAF us ts ix u op nn ks ps (k:Int) sz u8))).ends ?_;refine aIZ us ts ix u op nn ks ps k sz x hx u8 hu8 hl hoks ks 0 u8 _ rfl (Nat.zero_le _) hu8 (by simp [hu8]) (fun j t hj=>?_);obtain⟨y,hy⟩ :=dG hu8 (List.getElem?_eq_some_iff.1 hj).1;rw [getElem?_map,hy];simp
end
def neT (sz:Int)(a b c:XT) :XT:=.mk 7 0 [a,.mk 7 0 [b,pJ sz 1 c] []] []
theorem bAO (us:List (Nat×Nat))(ts:List (Option XT))(ix:Nat)(u:Nat×Nat)(op nn:Int)(ks:List XT)(ps:List Pat)(o2 n2:Int)(k2:List XT)(p2:List Pat)(sz:Int)(a b c:XT)(hx:ks[0]?=some (.mk o2 n2 k2 p2))(hc:ks[1]?=some c)(ha:k2[0]?=some a)(hb:k2[1]?=some b)(hm:OkT c)(hu:us[ix]?=some u)(ht:ts[ix]?=some (some (.mk op nn ks ps))) :
  eK PP 0 (.enter 247 [.agg [],aO u,.int .i64 sz]) (aA [(0,(.zone true [] (ZV us ts)),false)] 1) (.ret (.ptr 1 0)) (aA (DNr us ts ix (neT sz a b c)) 3) :=by
 have hk1:1<ks.length:= (List.getElem?_eq_some_iff.1 hc).1;have hk2:1<k2.length:= (List.getElem?_eq_some_iff.1 hb).1;have hne:ks≠ [] :=fun e=>by subst e;simp at hk1
 have hne2:k2≠ [] :=fun e=>by subst e;simp at hk2
 refine⟨(bCp us ts ix u op nn ks ps o2 n2 k2 p2 sz [] []).as.fr,by kernel_rfl,?_⟩;refine((bAK us ts ix u op nn ks ps o2 n2 k2 p2 sz [] []).trans ((aVx us ts ix u op nn ks ps o2 n2 k2 p2 sz [] [] hu ht).trans (aVy us ts ix u op nn ks ps o2 n2 k2 p2 sz [] []))).ends (aVz us ts ix u op nn ks ps o2 n2 k2 p2 sz [] [] hne fun u8 hu8=>?_);obtain⟨y0,hy0⟩ :=dG hu8 (show 0<ks.length by omega);obtain⟨y1,hy1⟩ :=dG hu8 hk1;refine((bAL us ts ix u op nn ks ps o2 n2 k2 p2 sz u8 [] y0 (by omega) (by omega) hy0).trans ((aVA us ts ix u op nn ks ps o2 n2 k2 p2 sz u8 [] y0 hy0 (by rw [getElem?_map,hx];rfl)).trans (aVB us ts ix u op nn ks ps o2 n2 k2 p2 sz u8 [] y0))).ends (aVC us ts ix u op nn ks ps o2 n2 k2 p2 sz u8 [] y0 hne2 fun u7 hu7=>?_);obtain⟨z0,hz0⟩ :=dG hu7 (show 0<k2.length by omega);obtain⟨z1,hz1⟩ :=dG hu7 hk2;have hc': ((ks.map some).set 0 none)[1]?=some (some c) :=by rw [getElem?_set,if_neg (by omega),getElem?_map,hc];rfl
 have hb': (k2.map some)[1]?=some (some b) :=by rw [getElem?_map,hb];rfl
 have ha': ((k2.map some).set 1 none)[0]?=some (some a) :=by rw [getElem?_set,if_neg (by omega),getElem?_map,ha];rfl
 have:=bAM us ts ix u op nn ks ps o2 n2 k2 p2 sz u8 u7 y0 z0 z1 y1 (pJ sz 1 c) (.mk 7 0 [b,pJ sz 1 c] []) (neT sz a b c) (by omega) (by omega) hz0 (by omega) (by omega) hz1 (by omega) hy1
  (nH (m:=0) (ks:=[8]) (aP3 sz c hm u8 ((ks.map some).set 0 none) 1 y1 hy1 hc') (by kernel_rfl) (by kernel_rfl) trivial trivial)
  (nH (m:=0) (ks:=[9,11,12]) (aIU u7 (k2.map some) 1 z1 b (pJ sz 1 c) hz1 hb') (by kernel_rfl) (by kernel_rfl) trivial trivial)
  (nH (m:=0) (ks:=[13,14,15]) (aIU u7 ((k2.map some).set 1 none) 0 z0 a (.mk 7 0 [b,pJ sz 1 c] []) hz0 ha') (by kernel_rfl) (by kernel_rfl) trivial trivial)
 exact cN (ks:=[1,0,4]) this (by kernel_rfl) (by kernel_rfl) (by kernel_rfl) trivial
abbrev aI0 (a:Nat)(b c:Int)(d:List XT)(e:List Pat):=oC a [(nI b),(nI c),(.gl 12 1 0 d.length false),(iP e)]
abbrev lF (a:Nat)(b c:Int)(d:Nat):=oC a [(nI b),(nI c),(.ep 1 1 d 0)]
abbrev aP6 (a b c:Int)(d:Nat)(e f:Int)(g:List XT)(h:List Pat)(i:List (Nat×Nat))(j:List XT):List (Nat×AObj×Bool):=[(6,(.loop .done (some (.exit 0)) 74 (cP [kp 3 9,kp 5 5]) 41 [10] (kd f74 436) (kd f74 437) 7),false),(7,(.defd false),false),oC 8 [(.yield 6)],oC 9 [(nI a)],lF 10 b c d,aI0 11 e f g h,(12,gh,false),(13,(.zone true [11] (cU i (set (List.map some j) d none) d)),false)]
abbrev xW (a:Int):List (Nat×AObj×Bool):=[(2,(.loop .ready none 93 (cP [kp 2 8]) 19 [6] (kd f93 28) (kd f93 29) 4),false),oC 3 [(.ptr 0 0)],(4,(.defd false),false),oC 5 [(bV false)],(6,(.loop .ready none 74 (cP [kp 3 9,kp 5 5]) 41 [10] (kd f74 436) (kd f74 437) 7),false),(7,(.defd false),false),oC 8 [(.yield 6)],oC 9 [(nI a)]]
abbrev aP7 (a:Int):=[oC 3 [(.ptr 0 0)],(4,(.defd false),false),oC 5 [(bV false)],(6,(.loop .ready none 74 (cP [kp 3 9,kp 5 5]) 41 [10] (kd f74 436) (kd f74 437) 7),false),(7,(.defd false),false),oC 8 [(.yield 6)],oC 9 [(nI a)]]
abbrev aDF (a:Int):List (Nat×AObj×Bool):=[(2,(.loop .busy none 93 (cP [kp 2 8]) 19 [6] (kd f93 28) (kd f93 29) 4),false),oC 3 [(.ptr 0 0)],(4,(.defd false),false),oC 5 [(bV false)],(6,(.loop .busy none 74 (cP [kp 3 9,kp 5 5]) 41 [10] (kd f74 436) (kd f74 437) 7),false),(7,(.defd false),false),oC 8 [(.yield 6)],oC 9 [(nI a)]]
abbrev nP (a:Nat)(b c:Int)(d:Nat):=oC a [(nI b),(nI c),(.ep 1 1 d 0)]
abbrev aP8 (a:List (Nat×Nat))(b c d:Int)(e:Nat)(f:List XT)(g:XT):=aA ([oL 1 1 (List.map aO a)]++aDF b++[nP 10 c d e,nP 11 c d e,nP 14 c d e,(15,(.zone true [] (ZV a (set (List.map some f) e none))),false),(16,gh,false),(17,(.zone true [16] (Z1 g)),false)]) 18
abbrev aP9 (a:List (Nat×Nat))(b c d:Int)(e:Nat)(f g:Int)(h:List XT)(i:List Pat)(j:List XT):=aA ([oL 1 1 (List.map aO a)]++xW b++[nP 10 c d e,oC 11 [(nI f),(nI g),(.gl 12 1 0 h.length false),(iP i)],(12,gh,false),(13,(.zone true [11] (cU a (set (List.map some j) e none) e)),false),(14,(.zone true [12] (bN h)),false)]) 15
abbrev xX (a:List (Nat×Nat))(b c d:Int)(e:Nat)(f:List XT):=aA ([oL 1 1 (List.map aO a)]++aDF b++[nP 10 c d e,nP 11 c d e,(13,(.zone true [] (ZV a (List.map some f))),false),nP 14 c d e]) 15
abbrev aDG (a:List (Nat×Nat))(b c d:Int)(e:Nat)(f:List XT):=aA ([oL 1 1 (List.map aO a),(2,(.loop .busy none 93 (cP [kp 2 8]) 19 [6] (kd f93 28) (kd f93 29) 4),false)]++aP7 b++[nP 10 c d e,nP 11 c d e,(13,(.zone true [] (ZV a (List.map some f))),false)]) 14
abbrev tU (a:Nat)(b:List (Nat×Nat)):=oL a 1 (List.map aO b)
abbrev aOY (a:Int)(b:List (Nat×Nat))(c d e:Int)(f:Nat)(g h:Int)(i:List XT)(j:List Pat)(k:List XT)(l:Int):=Spec PP (.enter 178 [(.ptr 11 0),(nI a)]) (aP9 b c d e f g h i j k) (.ret (nI l)) (aP9 b c d e f g h i j k)
abbrev aVD (a:Nat×Nat)(b:Int)(c:List (Nat×Nat))(d e:Int)(f:Nat)(g:List XT)(h:XT):=Spec PP (.enter 247 [(.agg []),(aO a),(nI b)]) (xX c d e b f g) (.ret (.ptr 16 0)) (aP8 c d e b f g h)
abbrev aVE (a:Int)(b:Nat×Nat)(c:Int)(d:List (Nat×Nat))(e f:Int)(g:Nat)(h:List XT)(i:XT):=Spec PP (.enter 253 [(nI a),(aO b),(nI c)]) (xX d e f c g h) (.ret (.ptr 16 0)) (aP8 d e f c g h i)
abbrev aVF (a:Nat×Nat)(b:List (Nat×Nat))(c d e:Int)(f:Nat)(g:List XT):=Spec PP (.enter 95 [(aO a)]) (xX b c d e f g) (.ret (.iface 191 (.agg []))) (xX b c d e f g)
abbrev aVG (a:Nat×Nat)(b:List (Nat×Nat))(c d e:Int)(f:Nat)(g:List XT)(h:Int):=Spec PP (.enter 95 [(aO a)]) (xX b c d e f g) (.ret (.iface 193 (nI h))) (xX b c d e f g)
abbrev aVH (a:Nat×Nat)(b:List (Nat×Nat))(c d e:Int)(f:Nat)(g:List XT):=Spec PP (.enter 95 [(aO a)]) (aDG b c d e f g) (.ret (.iface 191 (.agg []))) (aDG b c d e f g)
abbrev aVI (a:Nat×Nat)(b:List (Nat×Nat))(c d e:Int)(f:Nat)(g:List XT)(h:Int):=Spec PP (.enter 95 [(aO a)]) (aDG b c d e f g) (.ret (.iface 193 (nI h))) (aDG b c d e f g)
abbrev aVJ (a:List (Nat×Nat))(b c d:Int)(e:Nat)(f g:Int)(h:List XT)(i:List Pat)(j:List XT):=aA ([tU 1 a,(2,(.loop .done (some .ret) 93 (cP [kp 2 8]) 19 [6] (kd f93 28) (kd f93 29) 4),false),oC 3 [(.ptr 0 0)],(4,(.defd false),false),oC 5 [(bV false)]]++aP6 b c d e f g h i a j++[(15,(.zone true [12] (bN h)),false)]) 16
abbrev aVK (a:List (Nat×Nat))(b c d:Int)(e:Nat)(f g:Int)(h:List XT)(i:List Pat)(j k:List XT):=aA ([tU 1 a,(2,(.loop .done (some .ret) 93 (cP [kp 2 8]) 19 [6] (kd f93 28) (kd f93 29) 4),false),oC 3 [(.ptr 0 0)],(4,(.defd false),false),oC 5 [(bV true)]]++aP6 b c d e f g h i a j++[(15,(.zone true [12] (bN k)),false)]) 16
abbrev aQa (a:List (Nat×Nat))(b c d:Int)(e:Nat)(f:List XT)(g:XT):=aA ([tU 1 a]++aDF b++[lF 10 c d e,lF 11 c d e,lF 14 c d e,(15,(.zone true [] (ZV a (set (List.map some f) e none))),false),(16,gh,false),(17,(.zone true [16] (Z1 g)),false)]) 18
abbrev xY (a:List (Nat×Nat))(b c d:Int)(e:Nat)(f g:Int)(h:List XT)(i:List Pat)(j:List XT):=aA ([tU 1 a]++xW b++[lF 10 c d e,aI0 11 f g h i,(12,gh,false),(13,(.zone true [11] (cU a (set (List.map some j) e none) e)),false),(14,(.zone true [12] (bN h)),false)]) 15
abbrev aQb (a:List (Nat×Nat))(b c d:Int)(e:Nat)(f g:Int)(h:List XT)(i:List Pat)(j:List XT):=aA ([tU 1 a]++xW b++[lF 10 c d e,aI0 11 f g h i,(12,gh,false),(13,(.zone true [11] (cU a (set (List.map some j) e none) e)),false),(15,(.zone true [12] (bN h)),false)]) 16
abbrev aQc (a:List (Nat×Nat))(b c d:Int)(e:Nat)(f:List XT):=aA ([tU 1 a]++aDF b++[lF 10 c d e,lF 11 c d e,(13,(.zone true [] (ZV a (List.map some f))),false),lF 14 c d e]) 15
abbrev aBm (a:List (Nat×Nat))(b c d:Int)(e:Nat)(f:List XT):=aA ([tU 1 a,(2,(.loop .busy none 93 (cP [kp 2 8]) 19 [6] (kd f93 28) (kd f93 29) 4),false)]++aP7 b++[lF 10 c d e,lF 11 c d e,(13,(.zone true [] (ZV a (List.map some f))),false)]) 14
abbrev aI1 (a b c d:Int):AV:=.agg [(nI a),(nI (IntKind.i64.wrap (b+c))),(.ep 12 1 (0+d.toNat) 0)]
abbrev aBn (a:Nat)(b c:Int)(d:List XT)(e:List Pat):=oC a [(nI b),(nI c),(.gl 12 1 0 d.length false),(iP e)]
abbrev mT (a:Nat)(b c:Int)(d:List XT)(e:List Pat):=oC a [(nI b),(nI c),(.gl 1 1 0 d.length false),(iP e)]
abbrev aI2 (a b:Int):AV:=.agg [(nI a),(nI 1),(.ep 1 1 (0+b.toNat) 0)]
abbrev jU (a:Nat)(b:List XT)(c:Int)(d:List Con):=oC a [(.gl 1 1 0 b.length false),(nI c),(iC d)]
abbrev tV (a b:Int)(c:Nat):AV:=.agg [(nI a),(nI b),(.ep 1 1 c 0)]
abbrev fA (a:Nat)(b c:Int)(d:Nat):=oC a [(nI b),(nI c),(.ep 1 1 d 0)]
abbrev hQ (a:Nat)(b:List (Nat×Nat)):=oL a 1 (List.map aO b)
abbrev aI3:AV:=.iface 191 (.agg [])
def bCr(a b:Int)(c:List XT)(d:List Pat)(e:Int):TS:=bC PP 178 [(.ptr 0 0),(nI e)] [mT 0 a b c d,(1,gh,false)] 2
def bCs(a:List XT)(b:Int)(c:List Con)(d:Int):TS:=bC PP 74 [(.ptr 0 0),(nI d)] [jU 0 a b c,(1,gh,false),(2,(.zone true [1] (bN a)),false)] 3
def aI4(a:List XT)(b:Int)(c:List Con)(d e f:Int):TS:=⟨(tf 135 26 [(0,(.yield 2)),kp 1 3,(3,(nI e)),(9,(nI (a.length:Int))),(10,(nI f))] [kc f135 28,kl f135 28,.inBlock 0]),[(tf 93 19 [] [.inRF 2,.inBlock 0] (defers:=[.col 4])),(tf 74 41 [(4,(bV false)),kp 5 5] [.inRF 6,.inBlock 0,kc f74 55,.inScope (kd f74 6)] (defers:=[.col 7]))],[jU 0 a b c,(1,gh,false),(2,(.loop .ready none 93 (cP [kp 2 8]) 19 [6] (kd f93 28) (kd f93 29) 4),false),oC 3 [(.ptr 0 0)],(4,(.defd false),false),oC 5 [(bV false)],(6,(.loop .ready none 74 (cP [kp 3 9,kp 5 5]) 41 [10] (kd f74 436) (kd f74 437) 7),false),(7,(.defd false),false),oC 8 [(.yield 6)],oC 9 [(nI d)],(10,(.zone true [1] (bN a)),false)],11⟩
def aVL(a b c:Int)(d:List XT)(e:Nat)(f:List (Nat×Nat))(g i:Int)(j:List XT)(k:List Pat):TS:=bC PP 136 [(tV b c e),(.yield 2)] [(1,gh,false),(2,(.loop .ready none 93 (cP [kp 2 8]) 19 [6] (kd f93 28) (kd f93 29) 4),false),oC 3 [(.ptr 0 0)],(4,(.defd false),false),oC 5 [(bV false)],(6,(.loop .ready none 74 (cP [kp 3 9,kp 5 5]) 41 [10] (kd f74 436) (kd f74 437) 7),false),(7,(.defd false),false),oC 8 [(.yield 6)],oC 9 [(nI a)],(10,(.zone true [1] (bN d)),false)] 11
def aI5(d a b:Int)(e:List XT)(c:Nat)(f:List (Nat×Nat))(g i:Int)(j:List XT)(k:List Pat):TS:=⟨(tf 93 19 [kp 2 8,kp 3 10] [kc f93 116,kc f93 117,.inBlock 1] (roundOf:=some 2)),[(tf 136 48 [(1,(.yield 2)),kp 2 11,(4,(nI 0)),(8,(.yield 2)),(9,(tV a b c))] [ko f136 12 2,kc f136 13,kc f136 7])],[(1,gh,false),(2,(.loop .busy none 93 (cP [kp 2 8]) 19 [6] (kd f93 28) (kd f93 29) 4),false),oC 3 [(.ptr 0 0)],(4,(.defd false),false),oC 5 [(bV false)],(6,(.loop .ready none 74 (cP [kp 3 9,kp 5 5]) 41 [10] (kd f74 436) (kd f74 437) 7),false),(7,(.defd false),false),oC 8 [(.yield 6)],oC 9 [(nI d)],fA 10 a b c,fA 11 a b c,(12,(.zone true [1] (bN e)),false)],13⟩
def gP(e a b:Int)(f:List XT)(c:Nat)(d:List (Nat×Nat))(g i:Int)(j:List XT)(k:List Pat):TS:=⟨(tf 93 19 [kp 2 8,kp 3 10] [kc f93 116,kc f93 117,.inBlock 1] (roundOf:=some 2)),[(tf 136 48 [(1,(.yield 2)),kp 2 11,(4,(nI 0)),(8,(.yield 2)),(9,(tV a b c))] [ko f136 12 2,kc f136 13,kc f136 7])],[hQ 1 d,(2,(.loop .busy none 93 (cP [kp 2 8]) 19 [6] (kd f93 28) (kd f93 29) 4),false),oC 3 [(.ptr 0 0)],(4,(.defd false),false),oC 5 [(bV false)],(6,(.loop .ready none 74 (cP [kp 3 9,kp 5 5]) 41 [10] (kd f74 436) (kd f74 437) 7),false),(7,(.defd false),false),oC 8 [(.yield 6)],oC 9 [(nI e)],fA 10 a b c,fA 11 a b c,(13,(.zone true [] (ZV d (List.map some f))),false)],14⟩
def aBo(e b c:Int)(f:List XT)(a:Nat)(d:List (Nat×Nat))(i j:Int)(k:List XT)(l:List Pat)(g:XT):TS:=⟨(tf 74 41 [kp 5 5] [kc f74 27979,.inBlock 2,.inBlock 1] (roundOf:=some 6)),[(tf 93 19 [(13,(bV true)),(14,(.yield 6)),(15,(tV b c a))] [ko f93 116 9,kc f93 117,.inBlock 1] (roundOf:=some 2)),(tf 136 48 [(1,(.yield 2)),kp 2 10,(4,(nI 0)),(8,(.yield 2)),(9,(tV b c a))] [ko f136 12 2,kc f136 13,kc f136 7])],[(1,(.lst 1 ((List.map aO d).set a (.ptr 11 0))),false),(2,(.loop .busy none 93 (cP [kp 2 8]) 19 [6] (kd f93 28) (kd f93 29) 4),false),oC 3 [(.ptr 0 0)],(4,(.defd false),false),oC 5 [(bV false)],(6,(.loop .busy none 74 (cP [kp 3 9,kp 5 5]) 41 [10] (kd f74 436) (kd f74 437) 7),false),(7,(.defd false),false),oC 8 [(.yield 6)],oC 9 [(nI e)],fA 10 b c a,(11,gh,false),(12,(.zone true [11] (Z1 g)),false),(13,(.zone true [] (ZV d (set (List.map some f) a none))),false)],14⟩
def aBp(f b c:Int)(g:List XT)(a:Nat)(d:List (Nat×Nat))(j k:Int)(l:List XT)(m:List Pat)(i:XT)(e:Nat×Nat):TS:=⟨(tf 74 41 [kp 5 5] [kc f74 27979,.inBlock 2,.inBlock 1] (roundOf:=some 6)),[(tf 93 19 [(13,(bV true)),(14,(.yield 6)),(15,(tV b c a))] [ko f93 116 9,kc f93 117,.inBlock 1] (roundOf:=some 2)),(tf 136 48 [(1,(.yield 2)),kp 2 10,(4,(nI 0)),(8,(.yield 2)),(9,(tV b c a))] [ko f136 12 2,kc f136 13,kc f136 7])],[oL 1 1 (List.map aO (set d a e)),(2,(.loop .busy none 93 (cP [kp 2 8]) 19 [6] (kd f93 28) (kd f93 29) 4),false),oC 3 [(.ptr 0 0)],(4,(.defd false),false),oC 5 [(bV false)],(6,(.loop .busy none 74 (cP [kp 3 9,kp 5 5]) 41 [10] (kd f74 436) (kd f74 437) 7),false),(7,(.defd false),false),oC 8 [(.yield 6)],oC 9 [(nI f)],fA 10 b c a,(14,(.zone true [] (ZV (set d a e) (set (set (List.map some g) a none) a (some i)))),false)],15⟩
def xZ(c a d:Int)(e:List XT)(f:Nat)(b:List (Nat×Nat))(i j:Int)(k:List XT)(l:List Pat)(g:Nat×Nat):TS:=⟨(tf 136 48 [(1,(.yield 2)),kp 2 10,(4,(nI 0)),(5,(nI (a+1))),(6,(aO g))] [kc f136 124,kc f136 125,kc f136 63]),[],([hQ 1 b]++xW c++[fA 10 a d f,(11,(.zone true [] (ZV b (List.map some e))),false)]),12⟩
def aFg(e b f:Int)(g:List XT)(a:Nat)(c:List (Nat×Nat))(i j:Int)(d:List XT)(k:List Pat)(l:Nat×Nat):TS:=⟨(tf 136 48 [(1,(.yield 2)),kp 2 10,(4,(nI 0)),(5,(nI (b+1))),kp 6 12] [kc f136 124,kc f136 125,kc f136 63]),[],([hQ 1 c]++xW e++[fA 10 b f a,oC 12 [(nI i),(nI j),(.gl 13 1 0 d.length false),(iP k)],(13,gh,false),(14,(.zone true [13] (bN d)),false),(15,(.zone true [12] (cU c (set (List.map some g) a none) a)),false)]),16⟩
def aDH(d e f:Int)(g:List XT)(a:Nat)(c:List (Nat×Nat))(i j:Int)(b:List XT)(k:List Pat)(l m:Int):TS:=⟨(tf 136 48 [(1,(.yield 2)),kp 2 10,(4,(nI 0)),(5,(nI l)),kp 6 11,(23,(nI (b.length:Int))),(24,(nI m))] [kc f136 500,kl f136 500,.inBlock 0,kc f136 63]),[],([hQ 1 c]++xW d++[fA 10 e f a,aBn 11 i j b k,(12,gh,false),(13,(.zone true [11] (cU c (set (List.map some g) a none) a)),false),(14,(.zone true [12] (bN b)),false)]),15⟩
def aAm(a c:Int)(d:List XT)(b:List Pat)(e:Int):=tT 2 (bCr a c d b e)<|.b 14 11 (a==5) (.E 25 2 [] (nI 1) [mT 0 a c d b,(1,gh,false)] 2)<|.b 7 18 (a==27) (.E 18 2 [] (nI 1) [mT 0 a c d b,(1,gh,false)] 2)<|.b 6 24 (a==7) (.b 6 5 (e==1) (.E 6 2 [] (nI 1) [mT 0 a c d b,(1,gh,false)] 2)<|.b 9 35 (a==15) (gd 5 29 (e>0) (gw 9 44 (e-1)<|tC 0 b (e-1)<|fun f g i j=>gpI 1 201 [(.agg [(nI f),(nI g),(dD i),(iP j)])]<|fun k=>.E 3 2 [] (nI k) [mT 0 a c d b,(1,gh,false)] 2)<|.E 8 2 [] (nI 0) [mT 0 a c d b,(1,gh,false)] 2)<|.E 13 2 [] (nI 0) [mT 0 a c d b,(1,gh,false)] 2)<|.b 15 35 (a==15) (gd 5 29 (e>0) (gw 9 44 (e-1)<|tC 0 b (e-1)<|fun f g i j=>gpI 1 201 [(.agg [(nI f),(nI g),(dD i),(iP j)])]<|fun k=>.E 3 2 [] (nI k) [mT 0 a c d b,(1,gh,false)] 2)<|.E 8 2 [] (nI 0) [mT 0 a c d b,(1,gh,false)] 2)<|.E 13 2 [] (nI 0) [mT 0 a c d b,(1,gh,false)] 2
def bAP:=fun a b c d e f=>aAm a b c d e|>.t f tv
def bAQ:=fun a b c d e f g=>aAm a b c d e|>.f f|>.t g tv
def bAR:=fun a b c d e f g i j=>aAm a b c d e|>.f f|>.f g|>.t i|>.t j tv
def bAS:=fun a b c d e f g i j k=>aAm a b c d e|>.f f|>.f g|>.t i|>.f j|>.f k tv
def bAT:=fun a b c d e f g i j k l m n o p q r s t=>aAm a b c d e|>.f l|>.f m|>.f n|>.t o|>.t p q f g i j r s k t tv
def bAU:=fun a b c d e f g i j k=>aAm a b c d e|>.f f|>.f g|>.f i|>.t j|>.f k tv
def bAV:=fun a b c d e f g i j=>aAm a b c d e|>.f f|>.f g|>.f i|>.f j tv
def bAW (a:List XT)(b:Int)(c:List Con)(d:Int):=(tT 2 (bCs a b c d)<|.i [rn 33,.lkeep 7 [3,5]] []<|.i [rn 23,.lkeep 11 [2]] []<|.W 15 12 [11,9,10,4,7,6,8,3,2] (aI4 a b c d 0 0)) tv
def aI6(a:List XT)(b:Int)(c:List Con)(e f d:Int):=tT 2 (aI4 a b c e f d)<|gd 5 11 (d< (a.length:Int)) (.i [rn 17,.ans (.ix)] [hA (0≤d),hA (d< (a.length:Int))]<|.o (gk 2 (.enter 136 [(aI2 f d),(.yield 2)]) [jU 0 a b c,(1,gh,false),(2,(.loop .ready none 93 (cP [kp 2 8]) 19 [6] (kd f93 28) (kd f93 29) 4),false),oC 3 [(.ptr 0 0)],(4,(.defd false),false),oC 5 [(bV false)],(6,(.loop .ready none 74 (cP [kp 3 9,kp 5 5]) 41 [10] (kd f74 436) (kd f74 437) 7),false),(7,(.defd false),false),oC 8 [(.yield 6)],oC 9 [(nI e)],(10,(.zone true [1] (bN a)),false)] 11 (nI (-1)) [jU 0 a b c,(1,gh,false),(2,(.loop .done (some .ret) 93 (cP [kp 2 8]) 19 [6] (kd f93 28) (kd f93 29) 4),false),oC 3 [(.ptr 0 0)],(4,(.defd false),false),oC 5 [(bV false)],(6,(.loop .done (some (.exit 0)) 74 (cP [kp 3 9,kp 5 5]) 41 [10] (kd f74 436) (kd f74 437) 7),false),(7,(.defd false),false),oC 8 [(.yield 6)],oC 9 [(nI e)],(11,(.zone true [1] (bN a)),false)] 12<|.E 23 12 [11] (bV false) [jU 0 a b c,(1,gh,false),(2,(.zone true [1] (bN a)),false)] 3)<|.o (.y fun i:List XT=>gk 2 (.enter 136 [(aI2 f d),(.yield 2)]) [jU 0 a b c,(1,gh,false),(2,(.loop .ready none 93 (cP [kp 2 8]) 19 [6] (kd f93 28) (kd f93 29) 4),false),oC 3 [(.ptr 0 0)],(4,(.defd false),false),oC 5 [(bV false)],(6,(.loop .ready none 74 (cP [kp 3 9,kp 5 5]) 41 [10] (kd f74 436) (kd f74 437) 7),false),(7,(.defd false),false),oC 8 [(.yield 6)],oC 9 [(nI e)],(10,(.zone true [1] (bN a)),false)] 11 (nI (-1)) [jU 0 a b c,(1,gh,false),(2,(.loop .done (some .ret) 93 (cP [kp 2 8]) 19 [6] (kd f93 28) (kd f93 29) 4),false),oC 3 [(.ptr 0 0)],(4,(.defd false),false),oC 5 [(bV true)],(6,(.loop .done (some (.exit 0)) 74 (cP [kp 3 9,kp 5 5]) 41 [10] (kd f74 436) (kd f74 437) 7),false),(7,(.defd false),false),oC 8 [(.yield 6)],oC 9 [(nI e)],(11,(.zone true [1] (bN i)),false)] 12<|.E 23 12 [11] (bV true) [jU 0 a b c,(1,gh,false),(2,(.zone true [1] (bN i)),false)] 3)<|.y fun g:Int=>gk 2 (.enter 136 [(aI2 f d),(.yield 2)]) [jU 0 a b c,(1,gh,false),(2,(.loop .ready none 93 (cP [kp 2 8]) 19 [6] (kd f93 28) (kd f93 29) 4),false),oC 3 [(.ptr 0 0)],(4,(.defd false),false),oC 5 [(bV false)],(6,(.loop .ready none 74 (cP [kp 3 9,kp 5 5]) 41 [10] (kd f74 436) (kd f74 437) 7),false),(7,(.defd false),false),oC 8 [(.yield 6)],oC 9 [(nI e)],(10,(.zone true [1] (bN a)),false)] 11 (nI g) [jU 0 a b c,(1,gh,false),(2,(.loop .ready none 93 (cP [kp 2 8]) 19 [6] (kd f93 28) (kd f93 29) 4),false),oC 3 [(.ptr 0 0)],(4,(.defd false),false),oC 5 [(bV false)],(6,(.loop .ready none 74 (cP [kp 3 9,kp 5 5]) 41 [10] (kd f74 436) (kd f74 437) 7),false),(7,(.defd false),false),oC 8 [(.yield 6)],oC 9 [(nI e)],(11,(.zone true [1] (bN a)),false)] 12<|gd 7 24 (g<0) (.E 17 12 [11] (bV false) [jU 0 a b c,(1,gh,false),(2,(.zone true [1] (bN a)),false)] 3)<|gw 5 25 (d+1)<|.W 3 12 [2,3,4,5,6,7,8,9,11] (aI4 a b c e g (d+1)))<|.E 18 11 [10] (bV false) [jU 0 a b c,(1,gh,false),(2,(.zone true [1] (bN a)),false)] 3
def bAX:=fun a b c d e f g i j k=>aI6 a b c d e f|>.t g i j|>.1 k tv
def bAY:=fun a b c d e f g i j k l=>aI6 a b c d e f|>.t i j k|>.2|>.1 g l tv
def bAZ:=fun a b c d e f g i j k l m n=>aI6 a b c d e f|>.t i j k|>.2|>.2 g l|>.f m n tv
def bA0:=fun a b c d e f g=>aI6 a b c d e f|>.f g tv
def aVM (a b c:Int)(d:List XT)(e:Nat)(f:List (Nat×Nat))(g i:Int)(j:List XT)(k:List Pat):=(tT 10 (aVL a b c d e f g i j k)<|.W 18 13 [12,11,10] (aI5 a b c d e f g i j k)) tv
def aFh(e b d:Int)(g:List XT)(c:Nat)(a:List (Nat×Nat))(i j:Int)(k:List XT)(l:List Pat):=tT 10 (gP e b d g c a i j k l)<|.y fun f:Nat×Nat=>.i [rn 4,aI (aO f)] [.a (((a)[c]?) =some f) (aZ (f:=aO))]<|.o (.y fun m:Int=>gk 0 (.enter 95 [(aO f)]) [hQ 1 a,(2,(.loop .busy none 93 (cP [kp 2 8]) 19 [6] (kd f93 28) (kd f93 29) 4),false),oC 3 [(.ptr 0 0)],(4,(.defd false),false),oC 5 [(bV false)],(6,(.loop .ready none 74 (cP [kp 3 9,kp 5 5]) 41 [10] (kd f74 436) (kd f74 437) 7),false),(7,(.defd false),false),oC 8 [(.yield 6)],oC 9 [(nI e)],fA 10 b d c,fA 11 b d c,(13,(.zone true [] (ZV a (List.map some g))),false)] 14 (.iface 193 (nI m)) [hQ 1 a,(2,(.loop .busy none 93 (cP [kp 2 8]) 19 [6] (kd f93 28) (kd f93 29) 4),false),oC 3 [(.ptr 0 0)],(4,(.defd false),false),oC 5 [(bV false)],(6,(.loop .ready none 74 (cP [kp 3 9,kp 5 5]) 41 [10] (kd f74 436) (kd f74 437) 7),false),(7,(.defd false),false),oC 8 [(.yield 6)],oC 9 [(nI e)],fA 10 b d c,fA 11 b d c,(13,(.zone true [] (ZV a (List.map some g))),false)] 14<|.b 20 11 (b==e) .x<|gd 9 35 (b>e) (.E 15 15 [13] (nI (-1)) [hQ 1 a,(2,(.loop .done (some .ret) 93 (cP [kp 2 8]) 19 [6] (kd f93 28) (kd f93 29) 4),false),oC 3 [(.ptr 0 0)],(4,(.defd false),false),oC 5 [(bV false)],(6,(.loop .done (some (.exit 0)) 74 (cP [kp 3 9,kp 5 5]) 41 [10] (kd f74 436) (kd f74 437) 7),false),(7,(.defd false),false),oC 8 [(.yield 6)],oC 9 [(nI e)],(10,(.zone true [] (ZV a (List.map some g))),false)] 11)<|gw 21 14 (b+1)<|.i [rn 7,aI (aO f)] [.a (((a)[c]?) =some f) (aZ (f:=aO))]<|.W 4 15 [11,13] (xZ e b d g c a i j k l f))<|.o (gk 0 (.enter 95 [(aO f)]) [hQ 1 a,(2,(.loop .busy none 93 (cP [kp 2 8]) 19 [6] (kd f93 28) (kd f93 29) 4),false),oC 3 [(.ptr 0 0)],(4,(.defd false),false),oC 5 [(bV false)],(6,(.loop .ready none 74 (cP [kp 3 9,kp 5 5]) 41 [10] (kd f74 436) (kd f74 437) 7),false),(7,(.defd false),false),oC 8 [(.yield 6)],oC 9 [(nI e)],fA 10 b d c,fA 11 b d c,(13,(.zone true [] (ZV a (List.map some g))),false)] 14 aI3 [hQ 1 a,(2,(.loop .busy none 93 (cP [kp 2 8]) 19 [6] (kd f93 28) (kd f93 29) 4),false),oC 3 [(.ptr 0 0)],(4,(.defd false),false),oC 5 [(bV false)],(6,(.loop .ready none 74 (cP [kp 3 9,kp 5 5]) 41 [10] (kd f74 436) (kd f74 437) 7),false),(7,(.defd false),false),oC 8 [(.yield 6)],oC 9 [(nI e)],fA 10 b d c,fA 11 b d c,(13,(.zone true [] (ZV a (List.map some g))),false)] 14<|.b 20 11 (b==e) .x<|gd 9 35 (b>e) (.E 15 15 [13] (nI (-1)) [hQ 1 a,(2,(.loop .done (some .ret) 93 (cP [kp 2 8]) 19 [6] (kd f93 28) (kd f93 29) 4),false),oC 3 [(.ptr 0 0)],(4,(.defd false),false),oC 5 [(bV false)],(6,(.loop .done (some (.exit 0)) 74 (cP [kp 3 9,kp 5 5]) 41 [10] (kd f74 436) (kd f74 437) 7),false),(7,(.defd false),false),oC 8 [(.yield 6)],oC 9 [(nI e)],(10,(.zone true [] (ZV a (List.map some g))),false)] 11)<|gw 21 14 (b+1)<|.i [rn 7,aI (aO f)] [.a (((a)[c]?) =some f) (aZ (f:=aO))]<|.W 4 15 [11,13] (xZ e b d g c a i j k l f))<|.i [.call .nili (aBm a e b d c g)] [hA (Spec PP (.enter 95 [(aO f)]) (aBm a e b d c g) (.ret .nili) (aBm a e b d c g))]<|gw 21 14 (b+1)<|.i [rn 7,aI (aO f)] [.a (((a)[c]?) =some f) (aZ (f:=aO))]<|.W 4 14 [11,13] (xZ e b d g c a i j k l f)
def aVN:=fun a b c d e f g i j k l m n o p q=>aFh a b c d e f g i j k l n|>.1 m o|>.f p|>.t q ⟨kk,trivial⟩
def aVO:=fun b c d e f g i j k l m n a o p q r=>aFh b c d e f g i j k l m a|>.1 n o|>.f p|>.f q r a ⟨kk,trivial⟩
def aVP:=fun a b c d e f g i j k l m n o p=>aFh a b c d e f g i j k l m|>.2|>.1 n|>.f o|>.t p ⟨kk,trivial⟩
def aVQ:=fun b c d e f g i j k l m a n o p q=>aFh b c d e f g i j k l m a|>.2|>.1 n|>.f o|>.f p q a ⟨kk,trivial⟩
def aVR:=fun b c d e f g i j k l m a n o=>aFh b c d e f g i j k l m a|>.2|>.2 n o a ⟨kk,trivial⟩
def aVS (d g i:Int)(e:List XT)(a:Nat)(b:List (Nat×Nat))(j k:Int)(l:List XT)(m:List Pat)(f:XT)(c:Nat×Nat):=(tT 10 (aBp d g i e a b j k l m f c)<|.E 18 15 [14] (nI (-1)) [oL 1 1 (List.map aO (set b a c)),(2,(.loop .done (some .ret) 93 (cP [kp 2 8]) 19 [6] (kd f93 28) (kd f93 29) 4),false),oC 3 [(.ptr 0 0)],(4,(.defd false),false),oC 5 [(bV true)],(6,(.loop .done (some (.exit 0)) 74 (cP [kp 3 9,kp 5 5]) 41 [10] (kd f74 436) (kd f74 437) 7),false),(7,(.defd false),false),oC 8 [(.yield 6)],oC 9 [(nI d)],(10,(.zone true [] (ZV (set b a c) (set (set (List.map some e) a none) a (some f)))),false)] 11) ⟨kk,trivial⟩
def aVT (b a c:Int)(d:List XT)(e:Nat)(f:List (Nat×Nat))(g i:Int)(j:List XT)(k:List Pat)(l:Nat×Nat):=(tT 10 (aFg b a c d e f g i j k l)<|.W 10 16 [10,12,13,15,14] (aDH b a c d e f g i j k (a+1) 0)) ⟨kk,trivial⟩
def aI7(e k d:Int)(f:List XT)(a:Nat)(c:List (Nat×Nat))(g i:Int)(b:List XT)(j:List Pat)(n l:Int):=tT 10 (aDH e k d f a c g i b j n l)<|gd 5 25 (l< (b.length:Int)) (.o (.y fun m:Int=>.i [rn 10,.reg (rd 5 (.call (nI m) (xY c e k d a g i b j f)::rd 6 [.ans (.ix),.d,.d,.call (nI (-1)) (aVJ c e k d a g i b j f),.d]))] [hA (aOY l c e k d a g i b j f m),hA (0≤l),hA (l< (b.length:Int)),hA (Spec PP (.enter 136 [(aI1 n d m l),(.yield 2)]) (xY c e k d a g i b j f) (.ret (nI (-1))) (aVJ c e k d a g i b j f)),hr (AV.gl 12 1 0 b.length false),hr (AV.gl 12 1 0 b.length false),hr (nI d),hr (nI d)]<|.E 12 16 [13,11,12,15] (nI (-1)) [hQ 1 c,(2,(.loop .done (some .ret) 93 (cP [kp 2 8]) 19 [6] (kd f93 28) (kd f93 29) 4),false),oC 3 [(.ptr 0 0)],(4,(.defd false),false),oC 5 [(bV false)],(6,(.loop .done (some (.exit 0)) 74 (cP [kp 3 9,kp 5 5]) 41 [10] (kd f74 436) (kd f74 437) 7),false),(7,(.defd false),false),oC 8 [(.yield 6)],oC 9 [(nI e)],(10,(.zone true [11] (cU c (set (List.map some f) a none) a)),false),aBn 11 g i b j,(12,gh,false),(13,(.zone true [12] (bN b)),false)] 14)<|.o (.y fun m:Int=>.y fun p:List XT=>.i [rn 10,.reg (rd 5 (.call (nI m) (xY c e k d a g i b j f)::rd 6 [.ans (.ix),.d,.d,.call (nI (-1)) (aVK c e k d a g i b j f p),.d]))] [hA (aOY l c e k d a g i b j f m),hA (0≤l),hA (l< (b.length:Int)),hA (Spec PP (.enter 136 [(aI1 n d m l),(.yield 2)]) (xY c e k d a g i b j f) (.ret (nI (-1))) (aVK c e k d a g i b j f p)),hr (AV.gl 12 1 0 b.length false),hr (AV.gl 12 1 0 b.length false),hr (nI d),hr (nI d)]<|.E 12 16 [13,11,12,15] (nI (-1)) [hQ 1 c,(2,(.loop .done (some .ret) 93 (cP [kp 2 8]) 19 [6] (kd f93 28) (kd f93 29) 4),false),oC 3 [(.ptr 0 0)],(4,(.defd false),false),oC 5 [(bV true)],(6,(.loop .done (some (.exit 0)) 74 (cP [kp 3 9,kp 5 5]) 41 [10] (kd f74 436) (kd f74 437) 7),false),(7,(.defd false),false),oC 8 [(.yield 6)],oC 9 [(nI e)],(10,(.zone true [11] (cU c (set (List.map some f) a none) a)),false),aBn 11 g i b j,(12,gh,false),(13,(.zone true [12] (bN p)),false)] 14)<|.y fun m:Int=>.y fun o:Int=>.i [rn 10,.reg (rd 5 (.call (nI m) (xY c e k d a g i b j f)::rd 6 [.ans (.ix),.d,.d,.call (nI o) (aQb c e k d a g i b j f),.d]))] [hA (aOY l c e k d a g i b j f m),hA (0≤l),hA (l< (b.length:Int)),hA (Spec PP (.enter 136 [(aI1 n d m l),(.yield 2)]) (xY c e k d a g i b j f) (.ret (nI o)) (aQb c e k d a g i b j f)),hr (AV.gl 12 1 0 b.length false),hr (AV.gl 12 1 0 b.length false),hr (nI d),hr (nI d)]<|gd 5 44 (o<0) (.E 7 16 [13,11,12,15] (nI o) [hQ 1 c,(2,(.loop .ready none 93 (cP [kp 2 8]) 19 [6] (kd f93 28) (kd f93 29) 4),false),oC 3 [(.ptr 0 0)],(4,(.defd false),false),oC 5 [(bV false)],(6,(.loop .ready none 74 (cP [kp 3 9,kp 5 5]) 41 [10] (kd f74 436) (kd f74 437) 7),false),(7,(.defd false),false),oC 8 [(.yield 6)],oC 9 [(nI e)],(10,(.zone true [11] (cU c (set (List.map some f) a none) a)),false),aBn 11 g i b j,(12,gh,false),(13,(.zone true [12] (bN b)),false)] 14)<|gw 5 46 (l+1)<|.W 3 16 [10,11,12,13,15] (aDH e k d f a c g i b j o (l+1)))<|.E 8 15 [13,11,12,14] (nI n) [hQ 1 c,(2,(.loop .ready none 93 (cP [kp 2 8]) 19 [6] (kd f93 28) (kd f93 29) 4),false),oC 3 [(.ptr 0 0)],(4,(.defd false),false),oC 5 [(bV false)],(6,(.loop .ready none 74 (cP [kp 3 9,kp 5 5]) 41 [10] (kd f74 436) (kd f74 437) 7),false),(7,(.defd false),false),oC 8 [(.yield 6)],oC 9 [(nI e)],(10,(.zone true [11] (cU c (set (List.map some f) a none) a)),false),aBn 11 g i b j,(12,gh,false),(13,(.zone true [12] (bN b)),false)] 14
def aVU:=fun a b c d e f g i j k l m n o p q r s=>aI7 a b c d e f g i j k l m|>.t o|>.1 n p q r s ⟨kk,trivial⟩
def aVV:=fun a b c d e f g i j k l m n o p q r s t=>aI7 a b c d e f g i j k l m|>.t p|>.2|>.1 n o q r s t ⟨kk,trivial⟩
def aVW:=fun a b c d e f g i j k l m n o p q r s t u v=>aI7 a b c d e f g i j k l m|>.t p|>.2|>.2 n o q r s t|>.f u v ⟨kk,trivial⟩
def aVX:=fun a b c d e f g i j k l m n=>aI7 a b c d e f g i j k l m|>.f n ⟨kk,trivial⟩
theorem bA1 (node n0 z0:Int)(xs:List XT)(ix:Nat)(u50: (List (Nat×Nat)))(op nn:Int)(ks:List XT)(ps:List Pat){res:Res}{hf:Hp}(hne:xs≠ [])(k:∀u5,u5.length=xs.length→Ends PP 10 (gP node n0 z0 xs ix u5 op nn ks ps).as res hf) :Ends PP 10 (aI5 node n0 z0 xs ix u50 op nn ks ps).as res hf:=
 jT (t:=fun u5=> (gP node n0 z0 xs ix u5 op nn ks ps).as) (ok:=fun us=>us.length=xs.length) (rK (h:= (aI5 node n0 z0 xs ix u50 op nn ks ps).as.h) (h':=fun u5=> (gP node n0 z0 xs ix u5 op nn ks ps).as.h) (k:=1) (g:=12) (o:=gh) (ts:=xs) (by kernel_rfl) rfl (by kernel_rfl) hne (fun _=>Nat.le_refl _) (fun u5=> (aT ⟨.inr (.inl ⟨rfl,rfl⟩),.inr (.inr ⟨by decide,by kernel_rfl⟩),.inr (.inr ⟨by decide,by kernel_rfl⟩),.inr (.inr ⟨by decide,by kernel_rfl⟩),.inr (.inr ⟨by decide,by kernel_rfl⟩),.inr (.inr ⟨by decide,by kernel_rfl⟩),.inr (.inr ⟨by decide,by kernel_rfl⟩),.inr (.inr ⟨by decide,by kernel_rfl⟩),.inr (.inr ⟨by decide,by kernel_rfl⟩),.inr (.inr ⟨by decide,by kernel_rfl⟩),.inr (.inr ⟨by decide,by kernel_rfl⟩),.inl ⟨rfl,rfl⟩,trivial⟩))) (fun u5=> ⟨by kernel_rfl,by kernel_rfl⟩) k
theorem bA2 (node n0 z0:Int)(xs:List XT)(ix:Nat)(u5: (List (Nat×Nat)))(op nn:Int)(ks:List XT)(ps:List Pat)(q0:XT){res:Res}{hf:Hp}(ht: ((set (List.map some xs) ix none))[ix]?=some none)(k:∀u9,Ends PP 10 (aBp node n0 z0 xs ix u5 op nn ks ps q0 u9).as res hf) :Ends PP 10 (aBo node n0 z0 xs ix u5 op nn ks ps q0).as res hf:=
 jT (t:= (fun u9=> (aBp node n0 z0 xs ix u5 op nn ks ps q0 u9).as)) (ok:=fun _=>True) (aH9 (h:= (aBo node n0 z0 xs ix u5 op nn ks ps q0).as.h) (h':=fun u9=> (aBp node n0 z0 xs ix u5 op nn ks ps q0 u9).as.h) (k:=1) (g:=13) (gz:=12) (z:=11) (us:=u5) (ts:= (set (List.map some xs) ix none)) (i:=ix) (t:=q0) (by kernel_rfl) (by kernel_rfl) (by kernel_rfl) ht (by decide) (fun _=>Nat.le_refl _) (fun u9=> (aT ⟨.inr (.inl ⟨rfl,rfl⟩),.inr (.inr ⟨by decide,by kernel_rfl⟩),.inr (.inr ⟨by decide,by kernel_rfl⟩),.inr (.inr ⟨by decide,by kernel_rfl⟩),.inr (.inr ⟨by decide,by kernel_rfl⟩),.inr (.inr ⟨by decide,by kernel_rfl⟩),.inr (.inr ⟨by decide,by kernel_rfl⟩),.inr (.inr ⟨by decide,by kernel_rfl⟩),.inr (.inr ⟨by decide,by kernel_rfl⟩),.inr (.inr ⟨by decide,by kernel_rfl⟩),.inl ⟨rfl,rfl⟩,trivial⟩))) (fun u9=> ⟨by kernel_rfl,by kernel_rfl⟩) (fun u9 _=>k u9)
theorem bA3 (node n0 z0:Int)(xs:List XT)(ix:Nat)(u5: (List (Nat×Nat)))(op nn:Int)(ks:List XT)(ps:List Pat)(ad: (Nat×Nat))(hu:u5[ix]?=some ad)(ht: ((List.map some xs))[ix]?=some (some (.mk op nn ks ps))) :LeadsM PP 10 (xZ node n0 z0 xs ix u5 op nn ks ps ad).as (aFg node n0 z0 xs ix u5 op nn ks ps ad).as:=
 rO (j:=6) (v:=aO ad) (v':=.ptr 12 0) (by kernel_rfl) (fun hm=>nV (h:= (xZ node n0 z0 xs ix u5 op nn ks ps ad).as.h) (h':= (aFg node n0 z0 xs ix u5 op nn ks ps ad).as.h) (g:=11) (us:=u5) (ts:= (List.map some xs)) (i:=ix) (u:=ad) (op:=op) (n:=nn) (ks:=ks) (ps:=ps) (by kernel_rfl) hu ht rfl (aT ⟨.inr (.inr (.inr (.inr ⟨by decide,by kernel_rfl⟩))),.inr (.inr (.inr (.inr ⟨by decide,by kernel_rfl⟩))),.inr (.inr (.inr (.inr ⟨by decide,by kernel_rfl⟩))),.inr (.inr (.inr (.inr ⟨by decide,by kernel_rfl⟩))),.inr (.inr (.inr (.inr ⟨by decide,by kernel_rfl⟩))),.inr (.inr (.inr (.inr ⟨by decide,by kernel_rfl⟩))),.inr (.inr (.inr (.inr ⟨by decide,by kernel_rfl⟩))),.inr (.inr (.inr (.inr ⟨by decide,by kernel_rfl⟩))),.inr (.inr (.inr (.inr ⟨by decide,by kernel_rfl⟩))),.inr (.inr (.inr (.inr ⟨by decide,by kernel_rfl⟩))),.inl ⟨rfl,rfl⟩,.inr (.inl ⟨rfl,rfl⟩),.inr (.inr (.inl ⟨rfl,rfl⟩)),.inr (.inr (.inr (.inl ⟨rfl,rfl⟩))),trivial⟩) hm) (by kernel_rfl) (by kernel_rfl)
theorem aVY (node n0 z0:Int)(xs:List XT)(ix:Nat)(u5: (List (Nat×Nat)))(op nn:Int)(ks:List XT)(ps:List Pat)(y0: (Nat×Nat))(sk1 sk2:Int)(dt3:XT)(h0: ((u5)[ix]?) =some y0)(h1:aVI y0 u5 node n0 z0 ix xs sk1)(h2: (n0==node) =true)(h3:aVG y0 u5 node n0 z0 ix xs sk2)(h4:aVE sk2 y0 z0 u5 node n0 ix xs dt3) :
  LeadsM PP 10 (gP node n0 z0 xs ix u5 op nn ks ps).as (aBo node n0 z0 xs ix u5 op nn ks ps dt3).as:=
 jZ (n1:=18) (ks:=[11,16,17,15]) (W:=[some (.lst 1 ((List.map aO u5).set ix (.ptr 16 0))),some (.loop .busy none 93 (cP [kp 2 8]) 19 [6] (kd f93 28) (kd f93 29) 4),some (.cells (putCells .leaf 0 [(.ptr 0 0)]) 1 [] false),some (.defd false),some (.cells (putCells .leaf 0 [(bV false)]) 1 [] false),some (.loop .busy none 74 (cP [kp 3 9,kp 5 5]) 41 [10] (kd f74 436) (kd f74 437) 7),some (.defd false),some (.cells (putCells .leaf 0 [(.yield 6)]) 1 [] false),some (.cells (putCells .leaf 0 [(nI node)]) 1 [] false),some (.cells (putCells .leaf 0 [(nI n0),(nI z0),(.ep 1 1 ix 0)]) 3 [] false),some gh,some (.zone true [16] (Z1 dt3)),some (.zone true [] (ZV u5 (set (List.map some xs) ix none)))]) (wc (xI (by kernel_rfl)) (wc (by kernel_rfl) (wc (by kernel_rfl) (wc (by kernel_rfl) (wc (by kernel_rfl) (wc (by kernel_rfl) (wc (by kernel_rfl) (wc (by kernel_rfl) (wc (by kernel_rfl) (wc (by kernel_rfl) (wc (by kernel_rfl) (wc (by kernel_rfl) (wc (by kernel_rfl) wn))))))))))))) (ps:=[(List.map aO u5)[ix]?=some (aO y0),aVI y0 u5 node n0 z0 ix xs sk1,(n0==node) =true,(List.map aO u5)[ix]?=some (aO y0),aVG y0 u5 node n0 z0 ix xs sk2,(List.map aO u5)[ix]?=some (aO y0),aVE sk2 y0 z0 u5 node n0 ix xs dt3,(List.map aO u5)[ix]?=some (aO y0),jM (aO y0) 0 [(.ptr 16 0)] =some (ptr 16 0),(ep 1 1 ix 0) = (ep 1 1 ix 0),(ep 1 1 ix 0) = (ep 1 1 ix 0)]) (is:=[.run 4,.ans (.idx (aO y0)),.call (.iface 193 (nI sk1)) (aBm u5 node n0 z0 ix xs),.run 20,.b 11 true,.run 6,.ans (.idx (aO y0)),.call (.iface 193 (nI sk2)) (aQc u5 node n0 z0 ix xs),.run 3,.reg [.d,.d,.d,.d,.d,.d,.ans (.idx (aO y0)),.d,.d,.d,.d,.d,.call (.ptr 16 0) (aQa u5 node n0 z0 ix xs dt3),.d,.st (aO y0) (.ptr 16 0)]]) (by kernel_rfl) (by kernel_rfl) trivial ⟨(aZ h0),h1,h2,(aZ h0),h3,(aZ h0),h4,(aZ h0),rfl,rfl,rfl⟩
theorem aVZ (node n0 z0:Int)(xs:List XT)(ix:Nat)(u5: (List (Nat×Nat)))(op nn:Int)(ks:List XT)(ps:List Pat)(y0: (Nat×Nat))(dt1:XT)(h0: ((u5)[ix]?) =some y0)(h1:aVH y0 u5 node n0 z0 ix xs)(h2: (n0==node) =true)(h3:aVF y0 u5 node n0 z0 ix xs)(h4:aVD y0 z0 u5 node n0 ix xs dt1) :
  LeadsM PP 10 (gP node n0 z0 xs ix u5 op nn ks ps).as (aBo node n0 z0 xs ix u5 op nn ks ps dt1).as:=
 jZ (n1:=18) (ks:=[11,16,17,15]) (W:=[some (.lst 1 ((List.map aO u5).set ix (.ptr 16 0))),some (.loop .busy none 93 (cP [kp 2 8]) 19 [6] (kd f93 28) (kd f93 29) 4),some (.cells (putCells .leaf 0 [(.ptr 0 0)]) 1 [] false),some (.defd false),some (.cells (putCells .leaf 0 [(bV false)]) 1 [] false),some (.loop .busy none 74 (cP [kp 3 9,kp 5 5]) 41 [10] (kd f74 436) (kd f74 437) 7),some (.defd false),some (.cells (putCells .leaf 0 [(.yield 6)]) 1 [] false),some (.cells (putCells .leaf 0 [(nI node)]) 1 [] false),some (.cells (putCells .leaf 0 [(nI n0),(nI z0),(.ep 1 1 ix 0)]) 3 [] false),some gh,some (.zone true [16] (Z1 dt1)),some (.zone true [] (ZV u5 (set (List.map some xs) ix none)))]) (wc (xI (by kernel_rfl)) (wc (by kernel_rfl) (wc (by kernel_rfl) (wc (by kernel_rfl) (wc (by kernel_rfl) (wc (by kernel_rfl) (wc (by kernel_rfl) (wc (by kernel_rfl) (wc (by kernel_rfl) (wc (by kernel_rfl) (wc (by kernel_rfl) (wc (by kernel_rfl) (wc (by kernel_rfl) wn))))))))))))) (ps:=[(List.map aO u5)[ix]?=some (aO y0),aVH y0 u5 node n0 z0 ix xs,(n0==node) =true,(List.map aO u5)[ix]?=some (aO y0),aVF y0 u5 node n0 z0 ix xs,(List.map aO u5)[ix]?=some (aO y0),aVD y0 z0 u5 node n0 ix xs dt1,(List.map aO u5)[ix]?=some (aO y0),jM (aO y0) 0 [(.ptr 16 0)] =some (ptr 16 0),(ep 1 1 ix 0) = (ep 1 1 ix 0),(ep 1 1 ix 0) = (ep 1 1 ix 0)]) (is:=[.run 4,.ans (.idx (aO y0)),.call aI3 (aBm u5 node n0 z0 ix xs),.run 20,.b 11 true,.run 6,.ans (.idx (aO y0)),.call aI3 (aQc u5 node n0 z0 ix xs),.run 3,.reg [.d,.d,.d,.d,.d,.d,.ans (.idx (aO y0)),.d,.d,.d,.d,.d,.call (.ptr 16 0) (aQa u5 node n0 z0 ix xs dt1),.d,.st (aO y0) (.ptr 16 0)]]) (by kernel_rfl) (by kernel_rfl) trivial ⟨(aZ h0),h1,h2,(aZ h0),h3,(aZ h0),h4,(aZ h0),rfl,rfl,rfl⟩
theorem aLL (f n:Int)(s:cA)(ps:List Pat)(hl:ps.length<1000000)(ih:∀p∈ps,aJ PP 201 [Pat.av p] (.int .i64 (bnm p))) :
  ∀ (t:List Pat) (i:Nat) (a:Int),0≤a→a+yR t≤1000000→ps.drop i=t→Ends PP 0 (aIG f n s ps a (i:Int)).as (.ret (.int .i64 (a+yR t))) (aA [] 0)
 | [],i,a,_,_,h=>by
  have:=bE h;exact Ends.eqv (aZA f n s ps a i sd) (by simp [yR])
 | .mk f' n' s' ps'::t,i,a,ha,hb,h=>by
  obtain⟨g1,g2,g3⟩ :=bB h;have ihp:=ih _ (mem_of_getElem? g1);have b1:=aE5 (.mk f' n' s' ps');have b2:=xP t;rw [yR]at hb ⊢;refine(aZz f n s ps a i f' n' s' ps' _ sd sd sd ihp sd sd).ends ?_;exact Ends.eqv (aLL f n s ps hl ih t (i+1) (a+bnm (.mk f' n' s' ps')) (by omega) (by omega) g2) (by rw [Int.add_assoc])
mutual
theorem aFi :∀ (p:Pat),bW p<100000→aJ PP 201 [Pat.av p] (.int .i64 (bnm p))
 | .mk f n s ps,h=>by
  refine aF (by kernel_rfl) (by simp [keylessL,lV]) rfl ?_;simp only [bW]at h;have:=eP ps;have b:=xP ps;by_cases g:f=2
  · subst g;exact Ends.eqv (aZx 2 n s ps rfl) (by simp [bnm])
  · refine(aZy f n s ps (by simpa using g)).ends ?_;exact Ends.eqv (aLL f n s ps (by omega) (aQd ps (by omega)) ps 0 0 (by omega) (by omega) rfl) (by simp [bnm,g])
theorem aQd :∀ (ps:List Pat),bF ps<100000→∀p∈ps,aJ PP 201 [Pat.av p] (.int .i64 (bnm p))
 | [],_,p,hp=>by cases hp
 | q::ps,h,p,hp=>by
  simp only [bF]at h;rcases List.mem_cons.1 hp with e|hp
  ·rw [e];exact aFi q (by omega)
  ·exact aQd ps (by omega) p hp
end
def cI (o:Int)(ps:List Pat)(k:Int) :Int:=cZ ⟨o,0,[],ps⟩ k
def dY (o:Int) :Bool:=decide (o=8) ||decide (o=15) ||decide (o=16) ||decide (o=17) ||decide (o=19) ||decide (o=20) ||decide (o=23) ||decide (o=24)
def fY (o:Int) :Bool:=decide (o=6) ||decide (o=9) ||decide (o=10) ||decide (o=11) ||decide (o=12) ||decide (o=13) ||decide (o=18) ||decide (o=22) ||decide (o=14)
def dL (o:Int)(l:Nat) :Nat:=if dY o then 1 else if fY o then l else 0
def aG0 (t:XT) :Bool:=decide (t.op=1) ||decide (t.op=2) ||decide (t.op=3) ||decide (t.op=4)
mutual
def FineX (B:Int) :XT→Prop
 | .mk o n ks ps=> (o=4→n≤B) ∧ks.length≤1000∧ (∀q∈ps,bW q≤1000) ∧ (o=15→ks.length=1+ps.length) ∧ (o=7→ks.length=2) ∧ (dL o ks.length≤ks.length∧ps.length≤900∧ (fY o=true→o≠14→ks.length=2) ∧ (∀q∈ps,bnm q=rnm q)) ∧FineXs B ks
def FineXs (B:Int) :List XT→Prop
 | [] =>True
 |t::ts=>FineX B t∧FineXs B ts
end
theorem fineXs_iff {B:Int}:∀ {ts:List XT},FineXs B ts↔∀t∈ts,FineX B t
 | [] =>by simp [FineXs]
 |t::ts=>by simp only [FineXs,fineXs_iff (ts:=ts),List.mem_cons];exact⟨fun h x hx=>by rcases hx with rfl|hx;exact h.1;exact h.2 x hx,fun h=> ⟨h t (.inl rfl),fun x hx=>h x (.inr hx)⟩⟩
mutual
theorem FineX.ok {B:Int}(hB:B≤1000000) :∀ {t:XT},FineX B t→OkT t
 | .mk o n ks ps,h=>by
  simp only [FineX]at h;simp only [OkT];exact⟨fun e=>Int.le_trans (h.1 e) hB,by omega,FineXs.ok hB h.2.2.2.2.2.2⟩
theorem FineXs.ok {B:Int}(hB:B≤1000000) :∀ {ts:List XT},FineXs B ts→aC7 ts
 | [],_=>trivial
 |t::ts,h=> ⟨FineX.ok hB h.1,FineXs.ok hB h.2⟩
end
theorem wH {o:Int}{ps:List Pat}(h:∀q∈ps,bW q≤1000)(k:Int) :0≤cI o ps k∧cI o ps k≤1000:=by
 unfold cI cZ;simp only;split
 ·omega
 · split
   · split
     · rename_i q hq;have:=h q (mem_of_getElem? hq);have:=aE5 q;omega
     ·omega
   ·omega
section
variable (o n:Int) (ks:List XT) (ps:List Pat)
theorem aAn (k:Int)(R:Int→Prop)(h1:o=5∨o=27∨ (o=7∧k=1) →R 1)(h2:¬ (o=5∨o=27∨ (o=7∧k=1)) →o=15→0<k→∀q,ps[(k-1).toNat]?=some q→R (bnm q))(hp:o=15→0<k→∃q,ps[(k-1).toNat]?=some q)
  (h3:¬ (o=5∨o=27∨ (o=7∧k=1)) →¬ (o=15∧0<k) →R 0) :R (cI o ps k) :=by
 unfold cI cZ;simp only;by_cases a:o=5∨o=27∨ (o=7∧k=1)
 ·rw [if_pos a];exact h1 a
 · rw [if_neg a];by_cases b:o=15∧k>0
   · rw [if_pos b];obtain⟨q,hq⟩ :=hp b.1 b.2;rw [hq];exact h2 a b.1 b.2 q hq
   ·rw [if_neg b];exact h3 a b
theorem aQe (hq:∀q∈ps,bW q≤1000)(k:Int)(hk:0≤k∧k≤1000)(hp:o=15→0<k→∃q,ps[(k-1).toNat]?=some q) :
  eK PP 2 (.enter 178 [.ptr 0 0,.int .i64 k]) (aA [(0,(.cells (putCells .leaf 0 [(.int .i64 o),(.int .i64 n),(.gl 1 1 0 (length ks) false),(.ilst 4 (av ps) false)]) 4 [] false),false),(1,gh,false)] 2) (.ret (.int .i64 (cI o ps k))) (aA [(0,(.cells (putCells .leaf 0 [(.int .i64 o),(.int .i64 n),(.gl 1 1 0 (length ks) false),(.ilst 4 (av ps) false)]) 4 [] false),false),(1,gh,false)] 2) :=by
 refine⟨(bCr o n ks ps k).as.fr,by kernel_rfl,?_⟩;refine aAn o ps k (fun z=>Ends PP 2 _ (.ret (.int .i64 z)) _) (fun h=>?_) (fun h h15 hk0 q hq'=>?_) hp (fun h hn=>?_)
 · by_cases a:o=5
   ·exact bAP o n ks ps k (by simpa using a)
   · by_cases b:o=27
     ·exact bAQ o n ks ps k (by simpa using a) (by simpa using b)
     · have c:o=7∧k=1:=by omega
       exact bAR o n ks ps k (by simpa using a) (by simpa using b) (by simpa using c.1) (by simpa using c.2)
 · obtain⟨a,b,c,d⟩ :=q;have:=hq _ (mem_of_getElem? hq');exact bAT o n ks ps k a b c d _ (by simp;omega) (by simp;omega) (by simp;omega) (by simpa using h15) sd sd (by omega) hq' (aFi (.mk a b c d) (by omega))
 · have a:¬o=5:=fun e=>h (.inl e);have b:¬o=27:=fun e=>h (.inr (.inl e));by_cases c:o=7
   · have d:¬k=1:=fun e=>h (.inr (.inr ⟨c,e⟩));exact bAS o n ks ps k (by simpa using a) (by simpa using b) (by simpa using c) (by simpa using d) (by simp;omega)
   · by_cases e:o=15
     ·exact bAU o n ks ps k (by simpa using a) (by simpa using b) (by simpa using c) (by simpa using e) (by simp;omega)
     ·exact bAV o n ks ps k (by simpa using a) (by simpa using b) (by simpa using c) (by simpa using e)
theorem aLM :aJ PP 138 [XT.av (.mk o n ks ps)] (.bool (aG0 (.mk o n ks ps))) :=by
 refine aF (by kernel_rfl) (by simp [keylessL,aKo]) rfl ?_;show Ends PP 0 _ (.ret (.bool (decide (o=1) ||decide (o=2) ||decide (o=3) ||decide (o=4)))) _;by_cases a:o=1
 · rw [show(decide (o=1) ||decide (o=2) ||decide (o=3) ||decide (o=4)) =true by simp [a]];exact aZI o n ks ps (by simpa using a)
 by_cases b:o=2
 · rw [show(decide (o=1) ||decide (o=2) ||decide (o=3) ||decide (o=4)) =true by simp [b]];exact aZJ o n ks ps (by simpa using a) (by simpa using b)
 by_cases c:o=3
 · rw [show(decide (o=1) ||decide (o=2) ||decide (o=3) ||decide (o=4)) =true by simp [c]];exact aZK o n ks ps (by simpa using a) (by simpa using b) (by simpa using c)
 by_cases d:o=4
 · rw [show(decide (o=1) ||decide (o=2) ||decide (o=3) ||decide (o=4)) =true by simp [d]];exact aZL o n ks ps (by simpa using a) (by simpa using b) (by simpa using c) (by simpa using d)
 rw [show(decide (o=1) ||decide (o=2) ||decide (o=3) ||decide (o=4)) =false by simp [a,b,c,d]];exact aZM o n ks ps (by simpa using a) (by simpa using b) (by simpa using c) (by simpa using d)
theorem aV0 :aJ PP 137 [XT.av (.mk o n ks ps)] (.int .i64 ((dL o ks.length:Nat) :Int)) :=by
 refine aF (by kernel_rfl) (by simp [keylessL,aKo]) rfl ?_;by_cases n0:o=8
 · have e:dL o ks.length=1:=by unfold dL dY;simp [n0]
   rw [e];exact aZN o n ks ps (by simpa using n0)
 by_cases n1:o=15
 · have e:dL o ks.length=1:=by unfold dL dY;simp [n1]
   rw [e];exact aZO o n ks ps (by simpa using n0) (by simpa using n1)
 by_cases n2:o=16
 · have e:dL o ks.length=1:=by unfold dL dY;simp [n2]
   rw [e];exact aZP o n ks ps (by simpa using n0) (by simpa using n1) (by simpa using n2)
 by_cases n3:o=17
 · have e:dL o ks.length=1:=by unfold dL dY;simp [n3]
   rw [e];exact aZQ o n ks ps (by simpa using n0) (by simpa using n1) (by simpa using n2) (by simpa using n3)
 by_cases n4:o=19
 · have e:dL o ks.length=1:=by unfold dL dY;simp [n4]
   rw [e];exact aZR o n ks ps (by simpa using n0) (by simpa using n1) (by simpa using n2) (by simpa using n3) (by simpa using n4)
 by_cases n5:o=20
 · have e:dL o ks.length=1:=by unfold dL dY;simp [n5]
   rw [e];exact aZS o n ks ps (by simpa using n0) (by simpa using n1) (by simpa using n2) (by simpa using n3) (by simpa using n4) (by simpa using n5)
 by_cases n6:o=23
 · have e:dL o ks.length=1:=by unfold dL dY;simp [n6]
   rw [e];exact aZT o n ks ps (by simpa using n0) (by simpa using n1) (by simpa using n2) (by simpa using n3) (by simpa using n4) (by simpa using n5) (by simpa using n6)
 by_cases n7:o=24
 · have e:dL o ks.length=1:=by unfold dL dY;simp [n7]
   rw [e];exact aZU o n ks ps (by simpa using n0) (by simpa using n1) (by simpa using n2) (by simpa using n3) (by simpa using n4) (by simpa using n5) (by simpa using n6) (by simpa using n7)
 by_cases n8:o=6
 · have e:dL o ks.length=ks.length:=by unfold dL dY fY;simp [n8]
   rw [e];exact aZV o n ks ps (by simpa using n0) (by simpa using n1) (by simpa using n2) (by simpa using n3) (by simpa using n4) (by simpa using n5) (by simpa using n6) (by simpa using n7) (by simpa using n8)
 by_cases n9:o=9
 · have e:dL o ks.length=ks.length:=by unfold dL dY fY;simp [n9]
   rw [e];exact aZW o n ks ps (by simpa using n0) (by simpa using n1) (by simpa using n2) (by simpa using n3) (by simpa using n4) (by simpa using n5) (by simpa using n6) (by simpa using n7) (by simpa using n8) (by simpa using n9)
 by_cases n10:o=10
 · have e:dL o ks.length=ks.length:=by unfold dL dY fY;simp [n10]
   rw [e];exact aU7 o n ks ps (by simpa using n0) (by simpa using n1) (by simpa using n2) (by simpa using n3) (by simpa using n4) (by simpa using n5) (by simpa using n6) (by simpa using n7) (by simpa using n8) (by simpa using n9) (by simpa using n10)
 by_cases n11:o=11
 · have e:dL o ks.length=ks.length:=by unfold dL dY fY;simp [n11]
   rw [e];exact aU8 o n ks ps (by simpa using n0) (by simpa using n1) (by simpa using n2) (by simpa using n3) (by simpa using n4) (by simpa using n5) (by simpa using n6) (by simpa using n7) (by simpa using n8) (by simpa using n9) (by simpa using n10) (by simpa using n11)
 by_cases n12:o=12
 · have e:dL o ks.length=ks.length:=by unfold dL dY fY;simp [n12]
   rw [e];exact aU9 o n ks ps (by simpa using n0) (by simpa using n1) (by simpa using n2) (by simpa using n3) (by simpa using n4) (by simpa using n5) (by simpa using n6) (by simpa using n7) (by simpa using n8) (by simpa using n9) (by simpa using n10) (by simpa using n11) (by simpa using n12)
 by_cases n13:o=13
 · have e:dL o ks.length=ks.length:=by unfold dL dY fY;simp [n13]
   rw [e];exact aVa o n ks ps (by simpa using n0) (by simpa using n1) (by simpa using n2) (by simpa using n3) (by simpa using n4) (by simpa using n5) (by simpa using n6) (by simpa using n7) (by simpa using n8) (by simpa using n9) (by simpa using n10) (by simpa using n11) (by simpa using n12) (by simpa using n13)
 by_cases n14:o=18
 · have e:dL o ks.length=ks.length:=by unfold dL dY fY;simp [n14]
   rw [e];exact aVb o n ks ps (by simpa using n0) (by simpa using n1) (by simpa using n2) (by simpa using n3) (by simpa using n4) (by simpa using n5) (by simpa using n6) (by simpa using n7) (by simpa using n8) (by simpa using n9) (by simpa using n10) (by simpa using n11) (by simpa using n12) (by simpa using n13) (by simpa using n14)
 by_cases n15:o=22
 · have e:dL o ks.length=ks.length:=by unfold dL dY fY;simp [n15]
   rw [e];exact aVc o n ks ps (by simpa using n0) (by simpa using n1) (by simpa using n2) (by simpa using n3) (by simpa using n4) (by simpa using n5) (by simpa using n6) (by simpa using n7) (by simpa using n8) (by simpa using n9) (by simpa using n10) (by simpa using n11) (by simpa using n12) (by simpa using n13) (by simpa using n14) (by simpa using n15)
 by_cases n16:o=14
 · have e:dL o ks.length=ks.length:=by unfold dL dY fY;simp [n16]
   rw [e];exact aVd o n ks ps (by simpa using n0) (by simpa using n1) (by simpa using n2) (by simpa using n3) (by simpa using n4) (by simpa using n5) (by simpa using n6) (by simpa using n7) (by simpa using n8) (by simpa using n9) (by simpa using n10) (by simpa using n11) (by simpa using n12) (by simpa using n13) (by simpa using n14) (by simpa using n15) (by simpa using n16)
 have e:dL o ks.length=0:=by unfold dL dY fY;simp [n0,n1,n2,n3,n4,n5,n6,n7,n8,n9,n10,n11,n12,n13,n14,n15,n16]
 rw [e];exact aVe o n ks ps (by simpa using n0) (by simpa using n1) (by simpa using n2) (by simpa using n3) (by simpa using n4) (by simpa using n5) (by simpa using n6) (by simpa using n7) (by simpa using n8) (by simpa using n9) (by simpa using n10) (by simpa using n11) (by simpa using n12) (by simpa using n13) (by simpa using n14) (by simpa using n15) (by simpa using n16)
def dI :List XT→Nat→Nat→Option Nat
 | [],_,_=>none
 |_::_,_,0=>none
 |t::ts,i,m+1=>if aG0 t then dI ts (i+1) m else some i
def dM :XT→Option (Option Nat)
 | .mk o _ ks _=>if o=7 then(match ks[0]? with|some t=>if t.op=7 then some none else none|none=>none)else(dI ks 0 (dL o ks.length)).map some
noncomputable def aLN:Option (Option Nat) →AV
 |none=>.nili
 |some none=>.iface 191 (.agg [])
 |some (some k) =>.iface 193 (.int .i64 (k:Int))
theorem aLO (hl:ks.length≤1000)(ho:dL o ks.length≤ks.length) :∀ (tl:List XT) (i m:Nat),ks.drop i=tl→i+m=dL o ks.length →
  Ends PP 0 (aIH o n ks ps ((dL o ks.length:Nat) :Int) (i:Int)).as (.ret (aLN ((dI tl i m).map some))) (aA [] 0)
 | tl,i,0,h,hm=>by
  have e:dI tl i 0=none:=by cases tl<;>rfl
  rw [e];exact aZ2 o n ks ps _ (i:Int) sd
 | [],i,m+1,h,hm=>by have:=bE h;omega
 | .mk a b c d::tl,i,m+1,h,hm=>by
  obtain⟨g1,g2,g3⟩ :=bB h;cases ha:aG0 (.mk a b c d)
  case false=>
   have e:dI (.mk a b c d::tl) i (m+1) =some i:=by simp [dI,ha]
   rw [e];have hat:=aLM a b c d;rw [ha]at hat;exact aZ0 o n ks ps _ (i:Int) a b c d false sd sd sd hat rfl
  have e:dI (.mk a b c d::tl) i (m+1) =dI tl (i+1) m:=by simp [dI,ha]
  rw [e];have hat:=aLM a b c d;rw [ha]at hat;refine(aZ1 o n ks ps _ (i:Int) a b c d true sd sd sd hat rfl sd).ends ?_;exact aLO hl ho tl (i+1) m g2 (by omega)
end
theorem aV1 {B:Int}:∀ {t:XT},FineX B t→aJ PP 95 [XT.av t] (aLN (dM t))
 | .mk o n ks ps,h=>by
  simp only [FineX]at h;obtain⟨_,h2,_,_,h5,h6,_⟩ :=h;refine aF (by kernel_rfl) (by simp [keylessL,aKo]) ?_ ?_
  · generalize dM (.mk o n ks ps) =s
    match s with
    |none=>rfl
    |some none=>rfl
    |some (some k) =>rfl
  · by_cases e:o=7
    · have hl:=h5 e;obtain⟨⟨a,b,c,d⟩,hk⟩ :∃t0,ks[0]?=some t0:= ⟨_,getElem?_eq_getElem (by omega)⟩
      · by_cases g:a=7
        · have es:dM (.mk o n ks ps) =some none:=by simp [dM,e,hk,XT.op,g]
          rw [es];exact aZX o n ks ps a b c d (by simpa using e) (by omega) hk (by simpa using g)
        · have es:dM (.mk o n ks ps) =none:=by simp [dM,e,hk,XT.op,g]
          rw [es];exact aZY o n ks ps a b c d (by simpa using e) (by omega) hk (by simpa using g)
    · have es:dM (.mk o n ks ps) = (dI ks 0 (dL o ks.length)).map some:=by simp [dM,e]
      rw [es];refine(aZZ o n ks ps _ (by simpa using e) (aV0 o n ks ps)).ends ?_;exact aLO o n ks ps h2 h6.1 ks 0 _ rfl (by omega)
theorem aOZ (s:Option (Option Nat)) :aEN (aLN s) :=by
 match s with
 |none=>exact aQ6
 |some none=>exact aEO aQ7
 |some (some k) =>exact aEO aT3
def dXT :XT:=.mk 0 0 [] []
def kN (sz:Int) :Option Nat→XT→XT
 |some k,.mk o n ks ps=>dnT sz k o n ks ps (ks.getD k dXT)
 |none,.mk _ _ ks _=>neT sz ((ks.getD 0 dXT).kids.getD 0 dXT) ((ks.getD 0 dXT).kids.getD 1 dXT) (ks.getD 1 dXT)
inductive AtR (α:Type) where
 |go (n:Int)
 |past
 |did (x:α)
mutual
def atT (node:Int) :XT→Int→Int→AtR XT
 | .mk o n ks ps,n0,z0=>
  match dM (.mk o n ks ps)with
  | some s=>if n0=node then .did (kN z0 s (.mk o n ks ps))else if n0>node then .past else
   (match jE node o ps ks 0 (n0+1) z0 with
   | .go m=>.go m
   | .past=>.past
   | .did ks'=>.did (.mk o n ks' ps))
  | none=> (match jE node o ps ks 0 (n0+1) z0 with
   | .go m=>.go m
   | .past=>.past
   | .did ks'=>.did (.mk o n ks' ps))
def jE (node:Int)(o:Int)(ps:List Pat) :List XT→Nat→Int→Int→AtR (List XT)
 | [],_,n,_=>.go n
 | t::ts,i,n,z=>
  match atT node t n (z+cI o ps (i:Int))with
  | .go m=> (match jE node o ps ts (i+1) m z with
   | .go m'=>.go m'
   | .past=>.past
   | .did ts'=>.did (t::ts'))
  | .past=>.past
  | .did t'=>.did (t'::ts)
end
mutual
def eA :XT→Nat
 | .mk _ _ ks _=>aK ks+1
def aK :List XT→Nat
 | [] =>0
 |t::ts=>eA t+aK ts
end
mutual
theorem aFj (node:Int) :∀ (t:XT) (n0 z0 m:Int),atT node t n0 z0= .go m→m=n0+ (eA t:Nat)
 | .mk o n ks ps,n0,z0,m,h=>by
  have hk:∀m',jE node o ps ks 0 (n0+1) z0= .go m'→m'=n0+ ((aK ks+1:Nat) :Int) :=fun m' e=>by
   have:=aQf node o ps ks 0 (n0+1) z0 m' e;omega
  simp only [atT]at h;simp only [eA];split at h
  · split at h
    ·cases h
    · split at h
      ·cases h
      · split at h
        ·rename_i e;cases h;exact hk _ e
        ·cases h
        ·cases h
  · split at h
    ·rename_i e;cases h;exact hk _ e
    ·cases h
    ·cases h
theorem aQf (node o:Int)(ps:List Pat) :∀ (ts:List XT) (i:Nat) (n z m:Int),jE node o ps ts i n z= .go m→m=n+ (aK ts:Nat)
 | [],i,n,z,m,h=>by simp only [jE]at h;cases h;simp [aK]
 | t ::ts,i,n,z,m,h=>by
  simp only [jE]at h;split at h
  · rename_i m1 e;have h1:=aFj node t n _ m1 e;split at h
    · rename_i m2 e2;cases h;have h2:=aQf node o ps ts (i+1) m1 z _ e2;simp only [aK];omega
    ·cases h
    ·cases h
  ·cases h
  ·cases h
end
abbrev ATH (o1:AObj)(f1:Bool)(s1:LoopState)(p1:Option Code)(s2:LoopState)(p2:Option Code)(b:Bool)(node:Int)(tl:HL) :HL:= (1,o1,f1) :: (2,(.loop s1 p1 93 (cP [(2,(.ptr 8 0))]) 19 [6] (cd Tryz.f93 [1,1,0,0]) (cd Tryz.f93 [1,1,0,1]) 4),false) :: (3,(.cells (putCells .leaf 0 [(.ptr 0 0)]) 1 [] false),false) :: (4,(.defd false),false) :: (5,(.cells (putCells .leaf 0 [(.bool b)]) 1 [] false),false) :: (6,(.loop s2 p2 74 (cP [(3,(.ptr 9 0)),(5,(.ptr 5 0))]) 41 [10] (cd Tryz.f74 [1,0,1,1,0,1,0,0]) (cd Tryz.f74 [1,0,1,1,0,1,0,1]) 7),false) :: (7,(.defd false),false) :: (8,(.cells (putCells .leaf 0 [(.yield 6)]) 1 [] false),false) :: (9,(.cells (putCells .leaf 0 [(.int .i64 node)]) 1 [] false),false) ::tl
abbrev ATr (node:Int)(xs:List XT) :HL:=ATH gh false .ready none .ready none false node [(10,(.zone true [1] (bN xs)),false)]
abbrev ATd (b:Bool)(node:Int)(xs:List XT) :HL:=ATH gh false .done (some .ret) .done (some (.exit 0)) b node [(10,(.zone true [1] (bN xs)),false)]
def btV :AtR XT→AV
 | .go n=>.int .i64 n
 |_=>.int .i64 (-1)
def btH (node:Int)(xs:List XT)(ix:Nat) :AtR XT→HL
 | .go _=>ATr node xs
 | .past=>ATd false node xs
 | .did t'=>ATd true node (xs.set ix t')
def BtS (node:Int)(xs:List XT)(ix:Nat)(n0 z0:Int)(r:AtR XT) :Prop:=eK PP 10 (.enter 136 [.agg [.int .i64 n0,.int .i64 z0,.ep 1 1 ix 0],.yield 2]) (aA (ATr node xs) 11) (.ret (btV r)) (aA (btH node xs ix r) 11)
def BtE (s:AS)(node:Int)(xs:List XT)(ix:Nat)(r:AtR XT) :Prop:=Ends PP 10 s (.ret (btV r)) (aA (btH node xs ix r) 11)
def wI (o n:Int)(ps:List Pat)(pre:List XT) :AtR (List XT) →AtR XT
 | .go m=>.go m
 | .past=>.past
 | .did ks'=>.did (.mk o n (pre++ks') ps)
section
variable {s :AS} {v:AV} {s1 s2:LoopState} {p1 p2:Option Code} {b:Bool} {node:Int}
theorem aFk {u5:List (Nat×Nat)}{xs:List XT}(hne:xs≠ [])(hv:∀τ,ren τ v=v)(e:Ends PP 10 s (.ret v) (aA (ATH (.lst 1 (List.map aO u5)) true s1 p1 s2 p2 b node [(10,(.zone true [] (ZV u5 (xs.map some))),false)]) 11)) :
  Ends PP 10 s (.ret v) (aA (ATH gh false s1 p1 s2 p2 b node [(10,(.zone true [1] (bN xs)),false)]) 11) :=by
 have z:iG (aA (ATH (.lst 1 (List.map aO u5)) true s1 p1 s2 p2 b node [(10,(.zone true [] (ZV u5 (xs.map some))),false)]) 11) (aA (ATH gh false s1 p1 s2 p2 b node [(11,(.zone true [1] (bN xs)),false)]) 12) :=
  xG (h:=aA (ATH (.lst 1 (List.map aO u5)) true s1 p1 s2 p2 b node [(10,(.zone true [] (ZV u5 (xs.map some))),false)]) 11) (h':=aA (ATH gh false s1 p1 s2 p2 b node [(11,(.zone true [1] (bN xs)),false)]) 12) (k:=1) (g:=10) (us:=u5) (ts:=xs) (by kernel_rfl) (by kernel_rfl) hne (Nat.le_refl _)
   (aT ⟨.inl ⟨rfl,rfl⟩,.inr (.inr ⟨by decide,by decide,by kernel_rfl⟩),.inr (.inr ⟨by decide,by decide,by kernel_rfl⟩),.inr (.inr ⟨by decide,by decide,by kernel_rfl⟩),.inr (.inr ⟨by decide,by decide,by kernel_rfl⟩),.inr (.inr ⟨by decide,by decide,by kernel_rfl⟩),.inr (.inr ⟨by decide,by decide,by kernel_rfl⟩),.inr (.inr ⟨by decide,by decide,by kernel_rfl⟩),.inr (.inr ⟨by decide,by decide,by kernel_rfl⟩),.inr (.inl ⟨rfl,rfl⟩),trivial⟩)
 exact cN (ks:=[11]) (mR e z (show 10≤11 by decide)) (hv _) (by kernel_rfl) (by kernel_rfl) trivial
theorem aCf {u5:List (Nat×Nat)}{xs:List XT}{ix:Nat}{op nn:Int}{ks ks':List XT}{ps:List Pat}(hx:xs[ix]?=some (.mk op nn ks ps))(hl:ks.length=ks'.length)(hv:∀τ,ren τ v=v)
  (e:Ends PP 10 s (.ret v) (aA (ATH (.lst 1 (List.map aO u5)) true s1 p1 s2 p2 b node [(10,(.zone true [11] (cU u5 (set (List.map some xs) ix none) ix)),false),(11,(.cells (putCells .leaf 0 [(.int .i64 op),(.int .i64 nn),(.gl 12 1 0 (length ks) false),(.ilst 4 (av ps) false)]) 4 [] false),false),(12,gh,false),(13,(.zone true [12] (bN ks')),false)]) 14)) :
  Ends PP 10 s (.ret v) (aA (ATH gh false s1 p1 s2 p2 b node [(10,(.zone true [1] (bN (xs.set ix (.mk op nn ks' ps)))),false)]) 11) :=by
 have hne:xs.set ix (.mk op nn ks' ps) ≠ [] :=fun h=>by
  have h2:= (List.getElem?_eq_some_iff.1 hx).1;have h3:=congrArg length h;simp only [length_set,List.length_nil]at h3;omega
 have z1:iG (aA (ATH (.lst 1 (List.map aO u5)) true s1 p1 s2 p2 b node [(10,(.zone true [11] (cU u5 (set (List.map some xs) ix none) ix)),false),(11,(.cells (putCells .leaf 0 [(.int .i64 op),(.int .i64 nn),(.gl 12 1 0 (length ks) false),(.ilst 4 (av ps) false)]) 4 [] false),false),(12,gh,false),(13,(.zone true [12] (bN ks')),false)]) 14) (aA (ATH (.lst 1 (List.map aO u5)) true s1 p1 s2 p2 b node [(14,(.zone true [] (ZV u5 (List.map some (xs.set ix (.mk op nn ks' ps))))),false)]) 15) :=by
  refine aAb (h:=aA (ATH (.lst 1 (List.map aO u5)) true s1 p1 s2 p2 b node [(10,(.zone true [11] (cU u5 (set (List.map some xs) ix none) ix)),false),(11,(.cells (putCells .leaf 0 [(.int .i64 op),(.int .i64 nn),(.gl 12 1 0 (length ks) false),(.ilst 4 (av ps) false)]) 4 [] false),false),(12,gh,false),(13,(.zone true [12] (bN ks')),false)]) 14) (h':=aA (ATH (.lst 1 (List.map aO u5)) true s1 p1 s2 p2 b node [(14,(.zone true [] (ZV u5 (List.map some (xs.set ix (.mk op nn ks' ps))))),false)]) 15)
   (b:=11) (k:=12) (gk:=13) (g:=10) (us:=u5) (ts:=set (List.map some xs) ix none) (i:=ix) (op:=op) (n:=nn) (ks:=ks') (ps:=ps) (len:=ks.length) (ex:=false) (pv:=.ilst 4 (av ps) false) (by kernel_rfl) hl (fun _ _ h=>h) (by kernel_rfl) (by kernel_rfl) (by decide) (Nat.le_refl _) ?_
  have e2: (set (List.map some xs) ix none).set ix (some (.mk op nn ks' ps)) =List.map some (xs.set ix (.mk op nn ks' ps)) :=by rw [set_set,map_set]
  rw [e2];exact aT ⟨.inr ⟨by decide,by kernel_rfl⟩,.inr ⟨by decide,by kernel_rfl⟩,.inr ⟨by decide,by kernel_rfl⟩,.inr ⟨by decide,by kernel_rfl⟩,.inr ⟨by decide,by kernel_rfl⟩,.inr ⟨by decide,by kernel_rfl⟩,.inr ⟨by decide,by kernel_rfl⟩,.inr ⟨by decide,by kernel_rfl⟩,.inr ⟨by decide,by kernel_rfl⟩,.inl ⟨rfl,rfl⟩,trivial⟩
 have e1:=cN (ks:=[14]) (l:=ATH (.lst 1 (List.map aO u5)) true s1 p1 s2 p2 b node [(10,(.zone true [] (ZV u5 (List.map some (xs.set ix (.mk op nn ks' ps))))),false)]) (nb:=11) (mR e z1 (show 10≤14 by decide)) (hv _) (by kernel_rfl) (by kernel_rfl) ⟨aIV _,trivial⟩;exact aFk hne hv e1
end
theorem yA {B:Int}{h:Hp}{g:Nat}{us:List (Nat×Nat)}{ts:List (Option XT)}{i:Nat}{u:Nat×Nat}{t:XT}(hg:h.look g=some (.zone true [] (ZV us ts)))(hu:us[i]?=some u)(ht:ts[i]?=some (some t))(hf:FineX B t) :Spec PP (.enter 95 [aO u]) h (.ret (aLN (dM t))) h:=
 aKt (aV1 hf) (aOZ _) rfl (fun E H cargs r hc=>by
  obtain⟨c1,cs',rfl,q1,q2⟩ :=hc.cons_inv;rw [q2.nil_inv];simp only [aO,VR]at q1;subst q1;obtain⟨Lg,g1,g2⟩ :=r.obj g _ hg;obtain⟨Ls,_,hnd,hos⟩ :=eY g2;obtain⟨a,F1,F2,o1,o2,_,_⟩ :=hos.out ht;rw [hu]at o1;cases o1;exact VRs.cons (aKs r.snap t u F1 o2) (VRs.nil _))
theorem tW {ks:List XT}:∀ {tl:List XT} {i m k:Nat},dI tl i m=some k→ks.drop i=tl→∃x,ks[k]?=some x∧aG0 x=false∧k<i+m
 | [],i,m,k,h,_=>by simp [dI]at h
 |_::_,i,0,k,h,_=>by simp [dI]at h
 | t ::ts,i,m+1,k,h,hd=>by
  obtain⟨g1,g2,g3⟩ :=bB hd;simp only [dI]at h;split at h
  · obtain⟨x,h1,h2,h3⟩ :=tW (ks:=ks) h g2;exact⟨x,h1,h2,by omega⟩
  · rename_i ha;cases h;exact⟨t,g1,by simpa using ha,by omega⟩
theorem aV2 (node:Int)(o n:Int)(ks:List XT)(ps:List Pat)(n0 z0:Int) :atT node (.mk o n ks ps) n0 z0 =
  match dM (.mk o n ks ps)with
  |some s=>if n0=node then .did (kN z0 s (.mk o n ks ps))else if n0>node then .past else wI o n ps [] (jE node o ps ks 0 (n0+1) z0)
  |none=>wI o n ps [] (jE node o ps ks 0 (n0+1) z0) :=by
 simp only [atT];cases dM (.mk o n ks ps)with
 |none=>cases jE node o ps ks 0 (n0+1) z0<;>rfl
 |some s=>cases jE node o ps ks 0 (n0+1) z0<;>rfl
theorem aLP {α:Type}{xs:List α}{i:Nat}{x:α}(h:xs[i]?=some x) :xs.set i x=xs:=by
 apply List.ext_getElem?;intro j;rw [getElem?_set];split
 · rename_i hj;subst hj;rw [if_pos (List.getElem?_eq_some_iff.1 h).1,h]
 ·rfl
theorem yB {α:Type}{xs:List α}{i:Nat}{x:α}(h:xs[i]?=some x) :xs≠ [] :=fun e=>by subst e;simp at h
theorem lG {α:Type}{l:List α}{i:Nat}{x d:α}(h:l[i]?=some x) :l.getD i d=x:=by rw [getD_eq_getElem?_getD,h];rfl
section
variable (node B:Int) (hB:B≤1000000)
mutual
theorem aQg (hB:B≤1000000) :∀ (t:XT),FineX B t→∀ (xs:List XT) (ix:Nat) (n0 z0:Int),xs[ix]?=some t→0≤n0→n0+ (eA t:Nat) ≤1000000→0≤z0→z0+1000* (eA t:Nat) ≤1000000000→BtS node xs ix n0 z0 (atT node t n0 z0)
 | .mk o n ks ps,hf,xs,ix,n0,z0,hx,h0,h1,h2,h3=>by
  have hf':=hf;simp only [FineX]at hf;obtain⟨_,f2,f3,f4,f5,f6,f7⟩ :=hf;simp only [eA]at h1 h3;have hxm: (List.map some xs)[ix]?=some (some (.mk o n ks ps)) :=by rw [getElem?_map,hx];rfl
  have hnone: (set (List.map some xs) ix none)[ix]?=some none:=by rw [getElem?_set,if_pos rfl,if_pos (by rw [List.length_map];exact(List.getElem?_eq_some_iff.1 hx).1)]
  refine⟨(aVL node n0 z0 xs ix [] o n ks ps).as.fr,by kernel_rfl,?_⟩;refine(aVM node n0 z0 xs ix [] o n ks ps).ends (bA1 node n0 z0 xs ix [] o n ks ps (yB hx) fun u5 hu5=>?_);obtain⟨y0,hy0⟩ :=dG hu5 (List.getElem?_eq_some_iff.1 hx).1;have below:LeadsM PP 10 (gP node n0 z0 xs ix u5 o n ks ps).as (xZ node n0 z0 xs ix u5 o n ks ps y0).as→BtE (gP node n0 z0 xs ix u5 o n ks ps).as node xs ix (wI o n ps [] (jE node o ps ks 0 (n0+1) z0)) :=fun hl=>
   (hl.trans ((bA3 node n0 z0 xs ix u5 o n ks ps y0 hy0 hxm).trans (aVT node n0 z0 xs ix u5 o n ks ps y0))).ends
    (aQh hB xs ix n0 z0 o n ks ps u5 hx f2 f3 f4 h2 ks 0 (n0+1) rfl f7 (by omega) (by omega) (by omega))
  have did:∀t',LeadsM PP 10 (gP node n0 z0 xs ix u5 o n ks ps).as (aBo node n0 z0 xs ix u5 o n ks ps t').as→BtE (gP node n0 z0 xs ix u5 o n ks ps).as node xs ix (.did t') :=fun t' hl=>by
   refine hl.ends (bA2 node n0 z0 xs ix u5 o n ks ps t' hnone fun u9=>?_);have e:=aVS node n0 z0 xs ix u5 o n ks ps t' u9;have e2: (set (List.map some xs) ix none).set ix (some t') =List.map some (xs.set ix t') :=by rw [set_set,map_set]
   rw [e2]at e
   have hne:xs.set ix t'≠ [] :=fun h=>by
    have h2:= (List.getElem?_eq_some_iff.1 hx).1;have h3:=congrArg length h;simp only [length_set,List.length_nil]at h3;omega
   exact aFk hne (fun _=>rfl) e
  have past:Ends PP 10 (gP node n0 z0 xs ix u5 o n ks ps).as (.ret (.int .i64 (-1))) (aA (ATH (.lst 1 (List.map aO u5)) true .done (some .ret) .done (some (.exit 0)) false node [(10,(.zone true [] (ZV u5 (xs.map some))),false)]) 11) →BtE (gP node n0 z0 xs ix u5 o n ks ps).as node xs ix .past:=fun e=>aFk (yB hx) (fun _=>rfl) e;rw [aV2];cases hs:dM (.mk o n ks ps)with
  | none=>
   have so:∀ {l nb g},(aA l nb).look g=some (.zone true [] (ZV u5 (xs.map some))) →Spec PP (.enter 95 [aO y0]) (aA l nb) (.ret .nili) (aA l nb) :=fun hg=>by
    have:=yA hg hy0 hxm hf';rw [hs]at this;exact this
   exact below (aVR node n0 z0 xs ix u5 o n ks ps y0 hy0 (so (g:=13) (by kernel_rfl)) sd)
  | some s =>
   cases s with
   | none =>
    have so:∀ {l nb g},(aA l nb).look g=some (.zone true [] (ZV u5 (xs.map some))) →Spec PP (.enter 95 [aO y0]) (aA l nb) (.ret (.iface 191 (.agg []))) (aA l nb) :=fun hg=>by
     have:=yA hg hy0 hxm hf';rw [hs]at this;exact this
    dsimp only;by_cases e1:n0=node
    · rw [if_pos e1];have h7:o=7:=by
       simp only [dM]at hs;by_cases g:o=7
       ·exact g
       · rw [if_neg g]at hs;cases hfx:dI ks 0 (dL o ks.length)with
         |none=>rw [hfx]at hs;cases hs
         |some k=>rw [hfx]at hs;cases hs
      have hl:=f5 h7;obtain⟨⟨o2,n2,k2,p2⟩,hk0⟩ :∃t0,ks[0]?=some t0:= ⟨_,getElem?_eq_getElem (by omega)⟩;obtain⟨c,hk1⟩ :∃t1,ks[1]?=some t1:= ⟨_,getElem?_eq_getElem (by omega)⟩;have ho2:o2=7:=by
       simp only [dM,if_pos h7,hk0,XT.op]at hs;by_cases g:o2=7
       ·exact g
       ·simp [g]at hs
      have hf0:=fineXs_iff.1 f7 _ (mem_of_getElem? hk0);have hf1:=fineXs_iff.1 f7 _ (mem_of_getElem? hk1);simp only [FineX]at hf0;have hl2:=hf0.2.2.2.2.1 ho2;obtain⟨a,ha⟩ :∃t1,k2[0]?=some t1:= ⟨_,getElem?_eq_getElem (by omega)⟩;obtain⟨b,hb⟩ :∃t1,k2[1]?=some t1:= ⟨_,getElem?_eq_getElem (by omega)⟩;have ed:kN z0 none (.mk o n ks ps) =neT z0 a b c:=by
       simp only [kN,lG hk0,lG hk1,XT.kids,lG ha,lG hb]
      rw [ed]
      exact did _ (aVZ node n0 z0 xs ix u5 o n ks ps y0 (neT z0 a b c) hy0 (so (g:=13) (by kernel_rfl)) (by simpa using e1) (so (g:=13) (by kernel_rfl))
       (nH (m:=0) (ks:=[13]) (bAO u5 (xs.map some) ix y0 o n ks ps o2 n2 k2 p2 z0 a b c hk0 hk1 ha hb (hf1.ok hB) hy0 hxm) (by kernel_rfl) (by kernel_rfl) trivial trivial))
    · rw [if_neg e1];by_cases e2:n0>node
      · rw [if_pos e2];exact past (aVP node n0 z0 xs ix u5 o n ks ps y0 hy0 (so (g:=13) (by kernel_rfl)) (by simpa using e1) (by simpa using e2))
      · rw [if_neg e2];exact below (aVQ node n0 z0 xs ix u5 o n ks ps y0 hy0 (so (g:=13) (by kernel_rfl)) (by simpa using e1) (by simpa using e2) sd)
   | some k=>
    have so:∀ {l nb g},(aA l nb).look g=some (.zone true [] (ZV u5 (xs.map some))) →Spec PP (.enter 95 [aO y0]) (aA l nb) (.ret (.iface 193 (.int .i64 (k:Int)))) (aA l nb) :=fun hg=>by
     have:=yA hg hy0 hxm hf';rw [hs]at this;exact this
    dsimp only;by_cases e1:n0=node
    · rw [if_pos e1];obtain⟨x,hx1⟩ :∃x,ks[k]?=some x:=by
       simp only [dM]at hs;by_cases g:o=7
       · rw [if_pos g]at hs;split at hs
         ·split at hs<;>cases hs
         ·cases hs
       · rw [if_neg g]at hs;cases hfx:dI ks 0 (dL o ks.length)with
         |none=>rw [hfx]at hs;cases hs
         | some k'=>
          rw [hfx]at hs;cases hs;obtain⟨x,hx,_⟩ :=tW hfx (rfl:ks.drop 0=ks);exact⟨x,hx⟩
      have ed:kN z0 (some k) (.mk o n ks ps) =dnT z0 k o n ks ps x:=by simp only [kN,lG hx1]
      rw [ed]
      exact did _ (aVY node n0 z0 xs ix u5 o n ks ps y0 (k:Int) (k:Int) (dnT z0 k o n ks ps x) hy0 (so (g:=13) (by kernel_rfl)) (by simpa using e1) (so (g:=13) (by kernel_rfl))
       (nH (m:=0) (ks:=[13]) (bAN u5 (xs.map some) ix y0 o n ks ps k z0 x hx1 hy0 hxm (hf'.ok hB)) (by kernel_rfl) (by kernel_rfl) trivial trivial))
    · rw [if_neg e1];by_cases e2:n0>node
      · rw [if_pos e2];exact past (aVN node n0 z0 xs ix u5 o n ks ps y0 (k:Int) hy0 (so (g:=13) (by kernel_rfl)) (by simpa using e1) (by simpa using e2))
      · rw [if_neg e2];exact below (aVO node n0 z0 xs ix u5 o n ks ps y0 (k:Int) hy0 (so (g:=13) (by kernel_rfl)) (by simpa using e1) (by simpa using e2) sd)
theorem aQh (hB:B≤1000000)(xs:List XT)(ix:Nat)(n0 z0:Int)(o n:Int)(ks:List XT)(ps:List Pat)(u5:List (Nat×Nat))(hx:xs[ix]?=some (.mk o n ks ps))(f2:ks.length≤1000)(f3:∀q∈ps,bW q≤1000)(f4:o=15→ks.length=1+ps.length)(h2:0≤z0) :
  ∀ (tl:List XT) (i:Nat) (n5:Int),ks.drop i=tl→FineXs B tl→0≤n5→n5+ (aK tl:Nat) ≤1000000→z0+1000+1000* (aK tl:Nat) ≤1000000000→BtE (aDH node n0 z0 xs ix u5 o n ks ps n5 (i:Int)).as node xs ix (wI o n ps (ks.take i) (jE node o ps tl i n5 z0))
 | [],i,n5,h,_,_,_,_=>by
  have:=bE h;simp only [jE,wI];have e:=aCf (ks':=ks) hx rfl (fun _=>rfl) (aVX node n0 z0 xs ix u5 o n ks ps n5 (i:Int) sd);rw [aLP hx]at e;exact e
 | t ::tl,i,n5,h,hf,h5,h6,h7=>by
  obtain⟨g1,g2,g3⟩ :=bB h;simp only [FineXs]at hf;simp only [aK]at h6 h7;have ha:=wH (o:=o) f3 (i:Int);have hw:IntKind.i64.wrap (z0+cI o ps (i:Int)) =z0+cI o ps (i:Int) :=wrap64 (by omega) (by omega);have hix:0+ ((i:Nat) :Int).toNat=i:=by rw [Int.toNat_natCast];omega
  have hb:=aQg hB t hf.1 ks i n5 (z0+cI o ps (i:Int)) g1 h5 (by omega) (by omega) (by omega);rw [←hw,←hix]at hb
  have hq:o=15→0< (i:Int) →∃q,ps[((i:Int) -1).toNat]?=some q:=fun e15 hi=>by
   have:=f4 e15;exact⟨_,getElem?_eq_getElem (by omega)⟩
  have aps:=aQe o n ks ps f3 (i:Int) ⟨by omega,by omega⟩ hq;simp only [jE];rw [hix,hw]at hb;cases hr:atT node t n5 (z0+cI o ps (i:Int))with
  | go m=>
   rw [hr]at hb;have hm:=aFj node t n5 _ m hr;refine(aVW node n0 z0 xs ix u5 o n ks ps n5 (i:Int) (cI o ps (i:Int)) m sd (nH (m:=2) (ks:=[11,12]) aps (by kernel_rfl) (by kernel_rfl) trivial trivial) sd sd (aLH hw hix (nH (m:=10) (ks:=[0,12,2,3,4,5,6,7,8,9,14]) hb (by kernel_rfl) (by kernel_rfl) trivial trivial)) sd sd).ends ?_;have e:=aQh hB xs ix n0 z0 o n ks ps u5 hx f2 f3 f4 h2 tl (i+1) m g2 hf.2 (by omega) (by omega) (by omega);rw [←take_succ' g1]at e;have el:wI o n ps (ks.take i++ [t]) (jE node o ps tl (i+1) m z0) =wI o n ps (ks.take i) (match jE node o ps tl (i+1) m z0 with| .go m'=>.go m'| .past=>.past| .did ts'=>.did (t::ts')) :=by
    cases jE node o ps tl (i+1) m z0<;>simp [wI]
   rw [el]at e;exact e
  | past=>
   rw [hr]at hb;have e:=aCf (ks':=ks) hx rfl (fun _=>rfl) (aVU node n0 z0 xs ix u5 o n ks ps n5 (i:Int) (cI o ps (i:Int)) sd (nH (m:=2) (ks:=[11,12]) aps (by kernel_rfl) (by kernel_rfl) trivial trivial) sd sd (aLH hw hix (nH (m:=10) (ks:=[0,12,2,3,4,5,6,7,8,9,14]) hb (by kernel_rfl) (by kernel_rfl) trivial trivial)));rw [aLP hx]at e;exact e
  | did t'=>
   rw [hr]at hb;have e:=aCf (ks':=ks.set i t') hx (by simp) (fun _=>rfl) (aVV node n0 z0 xs ix u5 o n ks ps n5 (i:Int) (cI o ps (i:Int)) (ks.set i t') sd (nH (m:=2) (ks:=[11,12]) aps (by kernel_rfl) (by kernel_rfl) trivial trivial) sd sd (aLH hw hix (nH (m:=10) (ks:=[0,12,2,3,4,5,6,7,8,9,14]) hb (by kernel_rfl) (by kernel_rfl) trivial trivial)));have es:ks.set i t'=ks.take i++t'::tl:=by rw [List.set_eq_take_append_cons_drop,if_pos g3,g2]
   simp only [wI];rw [←es];exact e
end
end
def atF (node:Int) :List XT→Int→AtR (List XT)
 | [],n=>.go n
 | t::ts,n=>match atT node t n 1 with
  | .go m=> (match atF node ts m with
   | .go m'=>.go m'
   | .past=>.past
   | .did ts'=>.did (t::ts'))
  | .past=>.past
  | .did t'=>.did (t'::ts)
def AtR.isDid {α:Type}:AtR α→Bool
 | .did _=>true
 |_=>false
def AtR.getD {α:Type}(d:α) :AtR α→α
 | .did x=>x
 |_=>d
def AtR.map {α β:Type}(f:α→β) :AtR α→AtR β
 | .go n=>.go n
 | .past=>.past
 | .did x=>.did (f x)
abbrev FHl (n:Nat)(mn:Int)(cs:List Con)(ts:List XT) :HL:=[(0,(.cells (putCells .leaf 0 [(.gl 1 1 0 n false),(.int .i64 mn),(.ilst 2 (List.map Con.av cs) false)]) 3 [] false),false),(1,gh,false),(2,(.zone true [1] (bN ts)),false)]
theorem aQi (node:Int) :∀ (ts:List XT) (n:Int) (ts':List XT),atF node ts n= .did ts'→ts'.length=ts.length
 | [],n,ts',h=>by simp [atF]at h
 | t ::ts,n,ts',h=>by
  simp only [atF]at h;split at h
  · split at h
    ·cases h
    ·cases h
    · rename_i e;cases h;rw [length_cons,length_cons,aQi node ts _ _ e]
  ·cases h
  ·cases h;rfl
theorem aQj (node B:Int)(hB:B≤1000000)(ts:List XT)(mn:Int)(cs:List Con)(hl:ts.length≤1000) :∀ (tl:List XT) (i:Nat) (n:Int),ts.drop i=tl→FineXs B tl→0≤n→n+ (aK tl:Nat) ≤100000 →
  Ends PP 2 (aI4 ts mn cs node n (i:Int)).as (.ret (.bool (atF node tl n).isDid)) (aA (FHl ts.length mn cs (((atF node tl n).map (fun x=>ts.take i++x)).getD ts)) 3)
 | [],i,n,h,_,_,_=>by
  have:=bE h;exact bA0 ts mn cs node n (i:Int) sd
 | t ::tl,i,n,h,hf,h0,h1=>by
  obtain⟨g1,g2,g3⟩ :=bB h;simp only [FineXs]at hf;simp only [aK]at h1;have hix:0+ ((i:Nat) :Int).toNat=i:=by rw [Int.toNat_natCast];omega
  have hb:=aQg node B hB t hf.1 ts i n 1 g1 h0 (by omega) (by omega) (by omega);simp only [atF];cases hr:atT node t n 1 with
  | go m=>
   rw [hr]at hb;have hm:=aFj node t n _ m hr;refine(bAZ ts mn cs node n (i:Int) m sd sd sd (aLH rfl hix (nH (m:=10) (ks:=[0,1,2,3,4,5,6,7,8,9,10]) hb (by kernel_rfl) (by kernel_rfl) trivial trivial)) sd sd).ends ?_;have e:=aQj node B hB ts mn cs hl tl (i+1) m g2 hf.2 (by omega) (by omega);rw [←take_succ' g1]at e;cases hq:atF node tl m with
   |go m'=>rw [hq]at e;simp only [hq];exact e
   |past=>rw [hq]at e;simp only [hq];exact e
   | did ts'=>
    rw [hq]at e;simp only [hq,AtR.isDid,AtR.map,AtR.getD,List.append_assoc,List.singleton_append]at e ⊢;exact e
  | past=>
   rw [hr]at hb;exact bAX ts mn cs node n (i:Int) sd sd sd (aLH rfl hix (nH (m:=10) (ks:=[0,1,2,3,4,5,6,7,8,9,10]) hb (by kernel_rfl) (by kernel_rfl) trivial trivial))
  | did t'=>
   rw [hr]at hb;have es:ts.set i t'=ts.take i++t'::tl:=by rw [List.set_eq_take_append_cons_drop,if_pos g3,g2]
   have e:=bAY ts mn cs node n (i:Int) (ts.set i t') sd sd sd (aLH rfl hix (nH (m:=10) (ks:=[0,1,2,3,4,5,6,7,8,9,10]) hb (by kernel_rfl) (by kernel_rfl) trivial trivial));rw [es]at e;exact e
theorem bA5 (node B:Int)(hB:B≤1000000)(ts:List XT)(mn:Int)(cs:List Con)(hl:ts.length≤1000)(hf:FineXs B ts)(hs:aK ts≤100000) :
  eK PP 2 (.enter 74 [.ptr 0 0,.int .i64 node]) (aA (FHl ts.length mn cs ts) 3) (.ret (.bool (atF node ts 0).isDid)) (aA (FHl ts.length mn cs ((atF node ts 0).getD ts)) 3) :=by
 refine⟨(bCs ts mn cs node).as.fr,by kernel_rfl,?_⟩;have e:=aQj node B hB ts mn cs hl ts 0 0 rfl hf (by omega) (by omega);have em: (AtR.map (fun x=>List.take 0 ts++x) (atF node ts 0)).getD ts= (atF node ts 0).getD ts:=by
  cases atF node ts 0<;>simp [AtR.map,AtR.getD]
 rw [em]at e;exact(bAW ts mn cs node).ends e
def aF5 (g:Int→Int→Bool)(x:Node)(sz:Int) :Nat→List Int→Bool
 |_,[] =>true
 |j,k::ks=>g k (sz+cZ x j) &&aF5 g x sz (j+1) ks
def iK (p:Prog) :Nat→Int→Int→Bool
 |0,_,_=>true
 | f+1,a,sz=>match p.nodes[a.toNat]? with
  |some x=>if x.op=4∧x.n≥sz then false else aF5 (iK p f) x sz 0 x.kids
  |none=>true
noncomputable def aFl (p:Prog) :List (Nat×AObj×Bool) := (aE8 p 0 0 0).hp
noncomputable def aV3 (p:Prog)(b:Bool) :List (Nat×AObj×Bool) :=bif b then aFl p else bGg p
def rR (a fn sz:Int) :List AV:=[bDz a fn sz,.ptr 5 0,.ptr 6 0,.ptr 0 0]
theorem aSw {p:Prog}{a fn sz b gn tz:Int}:∀ {r:Bool},Spec PP (.enter 133 (rR a fn sz)) (aA (aFl p) 8) (.ret (.bool r)) (aA (aV3 p r) 8) →
  Spec PP (.enter 133 (rR a fn sz)) (aA (aFl p++ [(8,(.cells (putCells .leaf 0 [.int .i64 b,.int .i64 gn,.int .i64 tz]) 3 [] false),false)]) 9) (.ret (.bool r)) (aA (aV3 p r++ [(8,(.cells (putCells .leaf 0 [.int .i64 b,.int .i64 gn,.int .i64 tz]) 3 [] false),false)]) 9)
 |true,h=>aEr h (by kernel_rfl) (by rfl) (by rfl) (by kernel_rfl) (by kernel_rfl) trivial (by kernel_rfl) (by kernel_rfl) (by kernel_rfl)
 |false,h=>aEr h (by kernel_rfl) (by rfl) (by rfl) (by kernel_rfl) (by kernel_rfl) trivial (by kernel_rfl) (by kernel_rfl) (by kernel_rfl)
theorem aSx (p:Prog)(a fn sz:Int) : (aE8 p a fn sz).as= ⟨(aE8 p a fn sz).as.fr,[],aA (aFl p) 8⟩ :=by kernel_rfl
theorem aSy (p:Prog)(a fn sz:Int) :dB PP (aA (aFl p) 8) (.enter 133 (rR a fn sz)) =some (aE8 p a fn sz).as.fr:=by kernel_rfl
theorem aLQ {p:Prog}(hp:FineP p){f:Nat}{a fn sz:Int}{x:Node}(ha:0≤a)(hx:p.nodes[a.toNat]?=some x)(hs0:0≤sz)(hs:sz≤1000* (a+1))
  (ih:∀ (k tz:Int),a<k→k<p.nodes.length→0≤tz→tz≤1000* (k+1) →Spec PP (.enter 133 (rR k fn tz)) (aA (aFl p) 8) (.ret (.bool (iK p f k tz))) (aA (aV3 p (iK p f k tz)) 8)) :
  ∀ (t:List Int) (j:Nat),x.kids.drop j=t→Ends PP 8 (aBb p a fn sz x.kids ((length x.kids:Nat) :Int) (j:Int)).as (.ret (.bool (aF5 (iK p f) x sz j t))) (aA (aV3 p (aF5 (iK p f) x sz j t)) 8)
 | [],j,h=>by
  have:=bE h;exact aU2 p a fn sz x.kids _ j sd
 | k::t,j,h=>by
  obtain⟨g1,g2,g3⟩ :=bB h;obtain⟨hf,hk10,hks⟩ :=hp.node _ _ hx;have hk:=hks k (mem_of_getElem? g1);have hb:=aLC hf (j:Int);have hn:=hp.small;have ew:IntKind.i64.wrap (sz+cZ x j) =sz+cZ x j:=wrap64 (by omega) (by omega);have hsp:=aSw (b:=a) (gn:=fn) (tz:=sz) (ih k (sz+cZ x j) (by omega) (by omega) (by omega) (by omega));have ha':=aOw hf (k:= (j:Int)) (by omega) (by omega) hk10;rw [aF5];cases hw:iK p f k (sz+cZ x j)
  case false=>
   rw [hw]at hsp;rw [Bool.false_and];refine aU0 p a fn sz x.kids _ j k x _ sd sd sd ha hx ha' ?_;rw [ew];exact hsp
  rw [hw]at hsp;rw [Bool.true_and];refine(aU1 p a fn sz x.kids _ j k x _ sd sd sd ha hx ha' ?_ sd).ends ?_
  ·rw [ew];exact hsp
  ·exact aLQ hp ha hx hs0 hs ih t (j+1) g2
theorem aLR {p:Prog}(hp:FineP p)(fn:Int) :∀ (f:Nat) (a sz:Int),0≤a→a<p.nodes.length→p.nodes.length-a.toNat≤f→0≤sz→sz≤1000* (a+1) →
  Spec PP (.enter 133 (rR a fn sz)) (aA (aFl p) 8) (.ret (.bool (iK p f a sz))) (aA (aV3 p (iK p f a sz)) 8)
 |0,a,sz,ha,hn,hf,_,_=>by omega
 | f + 1,a,sz,ha,hn,hf,h0,h1=>by
  refine⟨_,aSy p a fn sz,?_⟩;obtain⟨x,hx⟩ :∃x,p.nodes[a.toNat]?=some x:= ⟨_,getElem?_eq_getElem (by omega)⟩;rw [←aSx];have ih:=aLQ hp (f:=f) (fn:=fn) ha hx h0 h1 (fun k tz hk hkn ht0 ht=>aLR hp fn f k tz (by omega) hkn (by omega) ht0 ht) x.kids 0 rfl;by_cases g4:x.op=4
  · by_cases gn:x.n≥sz
    · have e:iK p (f+1) a sz=false:=by rw [iK,hx];simp only [g4,gn,and_self,if_true]
      rw [e];exact aUX p a fn sz x ha hx (by simp [g4]) (by simpa using gn)
    · have e:iK p (f+1) a sz=aF5 (iK p f) x sz 0 x.kids:=by rw [iK,hx];simp only [gn,and_false,if_false]
      rw [e];exact(aUY p a fn sz x ha hx (by simp [g4]) (by simpa using gn)).ends ih
  · have e:iK p (f+1) a sz=aF5 (iK p f) x sz 0 x.kids:=by rw [iK,hx];simp only [g4,false_and,if_false]
    rw [e];exact(aUZ p a fn sz x ha hx (by simpa using g4)).ends ih
def aSz (p:Prog) :List Int→Bool
 | [] =>true
 |a::fs=>iK p p.nodes.length a 1&&aSz p fs
theorem aLS {p:Prog}(hp:FineP p) :∀ (t:List Int) (i:Nat),p.funs.drop i=t →
  Ends PP 0 (aID p (i:Int)).as (.ret (.tup [(.bool (aSz p t)),(.int .i64 0)])) (aA [] 0)
 | [],i,h=>by
  have:=bE h;exact aZv p i sd
 | a::t,i,h=>by
  obtain⟨g1,g2,g3⟩ :=bB h;have ha:=hp.funs a (mem_of_getElem? g1);have hf:=hp.fsmall;have hw:=aLR hp i p.nodes.length a 1 ha.1 ha.2 (by omega) (by omega) (by omega);rw [aSz];cases e:iK p p.nodes.length a 1
  case false=>
   rw [e]at hw;exact aZt p i a sd sd sd hw
  rw [e]at hw;refine(aZu p i a sd sd sd hw sd).ends ?_;rw [Bool.true_and];exact aLS hp t (i+1) g2
abbrev aSA (a:List Int)(b c d:Int):AV:=.gl 1 1 0 (set a b.toNat (IntKind.i64.wrap (c+d))).length true
abbrev bFd (a:Prog):AV:=.gl 1 1 0 (replicate a.nodes.length (0:Int)).length true
abbrev bA6 (a:Nat)(b:Prog):=oC a [(iN b.nodes),(iI b.funs),(nI b.main),(iC b.cons)]
def yC(a:Prog)(c:Int)(b:List Int):TS:=⟨(tf 86 67 [kp 1 0,(2,.nils),(3,(.gl 1 1 0 b.length true)),(4,(nI c))] [kc f86 116,kl f86 116,.inBlock 0,kc f86 15]),[],[bA6 0 a,oL 1 1 (jI b)],2⟩
def rS(a:Prog)(b:List Int)(c:Int):TS:=⟨(tf 86 67 [kp 1 0,(2,.nils),(3,(.gl 1 1 0 b.length true)),(5,(nI c))] [kc f86 244,kl f86 244,.inBlock 2,kc f86 31]),[],[bA6 0 a,oL 1 1 (jI b)],2⟩
def yD(a:Prog)(b:List Int)(c d:Int):TS:=⟨(tf 86 67 [kp 1 0,(2,.nils),(3,(.gl 1 1 0 b.length true)),(5,(nI d)),(6,(nI c))] [kc f86 15652,kl f86 15652,.inBlock 4,.inBlock 3,kc f86 979,kl f86 244,.inBlock 2,kc f86 31]),[],[bA6 0 a,oL 1 1 (jI b)],2⟩
def wJ(a:Prog)(b:List Int)(c:Int):TS:=⟨(tf 58 33 [kp 1 0,(2,(bV false)),(3,(iI b)),(4,(nI c))] [kc f58 116,kl f58 116,.inBlock 0,kc f58 15]),[],[bA6 0 a],1⟩
def aO0 (a:Prog):=fun b=>(tT 0 (start PP 86 [(Prog.av a)])<|gl 9 Node.av a.nodes<|.i [.mk a.nodes.length] [hr ((a.nodes.length:Nat) :Int),hr ((a.nodes.length:Nat) :Int),hA (a.nodes.length<100000)]<|.i [.lset 1 (jI (replicate a.nodes.length (0:Int)))] [.q (p:=replicate a.nodes.length (bU (0:Int)) = (jI (replicate a.nodes.length (0:Int)))) (aDi _ _ _)]<|.i [.set 10 (bFd a)] [.q (p:=(AV.gl 1 1 0 a.nodes.length true) = (bFd a)) (bG (List.length_replicate ..).symm)]<|.W 9 2 [0,1] (yC a 0 (replicate a.nodes.length (0:Int)))) b ⟨kk,trivial⟩
def bFe(c:Prog)(d:Int)(a:List Int):=tT 0 (yC c d a)<|gl 6 bU c.funs<|gd 2 15 (d< (c.funs.length:Int)) (gX bU 9 c.funs d<|fun b=>.i [rn 1,.ans (.ix)] [hA (0≤b),hA (b< (a.length:Int))]<|.y fun e:Int=>.i [.st (bU e) (bU 1)] [.a (((a)[b.toNat]?) =some e) (cB (f:=bU)),hr (some (bU 1))]<|.i [.lset 1 (jI (set a b.toNat 1))] [.q (p:=(jI a).set (0+b.toNat) (bU 1) = (jI (set a b.toNat 1))) (mX _ _ _ _)]<|.i [.set 3 (.gl 1 1 0 (set a b.toNat 1).length true)] [.q (p:=(AV.gl 1 1 0 a.length true) = (.gl 1 1 0 (set a b.toNat 1).length true)) (bG (length_set ..).symm)]<|.i [.set 18 (.gl 1 1 0 (set a b.toNat 1).length true)] [.q (p:=(AV.gl 1 1 0 a.length true) = (.gl 1 1 0 (set a b.toNat 1).length true)) (bG (length_set ..).symm)]<|gw 5 17 (d+1)<|.W 3 2 [0,1] (yC c (d+1) (set a b.toNat 1)))<|.W 9 2 [0,1] (rS c a 0)
def aO1:=fun a b c d e f g i j k l m=>bFe a b c|>.t f d g i j k e l m ⟨kk,trivial⟩
def aO2:=fun a b c d=>bFe a b c|>.f d ⟨kk,trivial⟩
def bFf(a:Prog)(b:List Int)(c:Int):=tT 0 (rS a b c)<|gl 6 Node.av a.nodes<|gd 2 29 (c< (a.nodes.length:Int)) (.W 10 2 [0,1] (yD a b 0 c))<|gz 8 2 1 1 bU b true<|gE 0 2 (.ilst 1 (jI b) true)
def aO3:=fun a b c d=>bFf a b c|>.t d ⟨kk,trivial⟩
def aO4:=fun a b c d=>bFf a b c|>.f d tv
def bFg(g:Prog)(a:List Int)(i d:Int):=tT 0 (yD g a i d)<|gX Node.av 7 g.nodes d<|fun f=>gl 2 bU f.kids<|gd 2 40 (i< (f.kids.length:Int)) (.y fun c:Int=>.y fun b:Int=>.y fun e:Int=>.y fun j:Int=>.i [rn 4,.regA (rd 4 (.ans (.idx (Node.av f))::rd 3 (.ans (.idx (bU c))::rd 3 (.ans (.ix)::.ans (.idx (bU b))::rd 3 [.ans (.idx (Node.av f)),.d,.d,.pure (nI e),.d,.ans (.ix),.st (bU j) (bU (IntKind.i64.wrap (b+e)))])))) [(some (.idx (bU b))),none,none,none]] [hA (0≤d),.a (((g.nodes)[d.toNat]?) =some f) (aZ (f:=Node.av)),hA (0≤i),.a (((f.kids)[i.toNat]?) =some c) (aZ (f:=bU)),hA (0≤d),hA (d< ((a.length:Nat) :Int)),.a (((a)[d.toNat]?) =some b) (cB (f:=bU)),hA (0≤d),.a (((g.nodes)[d.toNat]?) =some f) (aZ (f:=Node.av)),hA (aJ PP 121 [(Node.av f),(nI i)] (nI e)),hA (0≤c),hA (c< ((a.length:Nat) :Int)),.a (((a)[c.toNat]?) =some j) (cB (f:=bU)),hr (some (bU (IntKind.i64.wrap (b+e)))),hr (nI b),.a (((a)[d.toNat]?) =some b) (cB (f:=bU)),hr (nI b),.a (((a)[d.toNat]?) =some b) (cB (f:=bU)),hr (nI c),hr (nI c),hr (ilst 1 (jI f.kids) false),hr (ilst 1 (jI f.kids) false),hr (ilst 4 (jN g.nodes) false),hr (ilst 4 (jN g.nodes) false)]<|.i [.lset 1 (jI (set a c.toNat (IntKind.i64.wrap (b+e))))] [.q (p:=(jI a).set (0+c.toNat) (bU (IntKind.i64.wrap (b+e))) = (jI (set a c.toNat (IntKind.i64.wrap (b+e))))) (mX _ _ _ _)]<|.i [.set 3 (aSA a c b e)] [.q (p:=(AV.gl 1 1 0 a.length true) = (aSA a c b e)) (bG (length_set ..).symm)]<|.i [.set 43 (aSA a c b e)] [.q (p:=(AV.gl 1 1 0 a.length true) = (aSA a c b e)) (bG (length_set ..).symm)]<|.i [.set 53 (aSA a c b e)] [.q (p:=(AV.gl 1 1 0 a.length true) = (aSA a c b e)) (bG (length_set ..).symm)]<|gw 4 42 (i+ (1:Int))<|.W 3 2 [0,1] (yD g (set a c.toNat (IntKind.i64.wrap (b+e))) (i+ (1:Int)) d))<|gw 6 31 (d+ (1:Int))<|.W 3 2 [0,1] (rS g a (d+ (1:Int)))
def aO5:=fun d e f g i j k l m a b n o p q c r s t u v=>bFg d e f g i a b|>.t n j k l m a b o p a q c a b r s t u c c v ⟨kk,trivial⟩
def aO6:=fun a b c d e f g i j=>bFg a b c d e f g|>.f i j ⟨kk,trivial⟩
def aSB (b:Prog):=fun a c=>(tT 0 (start PP 58 [(Prog.av b)])<|.y fun a:List Int=>gp 8 86 [(Prog.av b)] (iI a)<|.W 9 1 [0] (wJ b a 0)) a c tv
def bA7(c:Prog)(d:List Int)(a:Int):=tT 0 (wJ c d a)<|gl 5 bU d<|gd 2 10 (a< (d.length:Int)) (.o (.y fun b:Node=>.y fun e:Int=>.i [rn 5,.reg (rd 3 (.ans (.idx (Node.av b))::rd 4 (.b 20 true::rd 3 (.ans (.idx (Node.av b))::rd 4 (.ans (.idx (bU e))::rd 3 [])))))] [hA (0≤a),.a (((c.nodes)[a.toNat]?) =some b) (aZ (f:=Node.av)),hA ((b.op==4) =true),hA (0≤a),.a (((c.nodes)[a.toNat]?) =some b) (aZ (f:=Node.av)),hA (0≤a),.a (((d)[a.toNat]?) =some e) (aZ (f:=bU))]<|gd 0 32 (b.n≥e) (gE 6 1 (bV false))<|gw 6 12 (a+1)<|.W 3 1 [0] (wJ c d (a+1)))<|.y fun b:Node=>.i [rn 5,.reg (rd 3 (.ans (.idx (Node.av b))::rd 4 (.b 20 false::rd 12 [])))] [hA (0≤a),.a (((c.nodes)[a.toNat]?) =some b) (aZ (f:=Node.av)),hA ((b.op==4) =false)]<|gw 6 12 (a+1)<|.W 3 1 [0] (wJ c d (a+1)))<|gE 7 1 (bV true)
def aSC:=fun c d e f g i a b j k l=>bA7 c d e|>.t i|>.1 f g a b j a b a k|>.t l tv
def aSD:=fun c d e f g i a b j k l m=>bA7 c d e|>.t i|>.1 f g a b j a b a k|>.f l m tv
def aSE:=fun a b c d e f g i j=>bA7 a b c|>.t e|>.2 d f g i j tv
def aSF:=fun a b c d=>bA7 a b c|>.f d tv
def qD(a b:List Int)(c:Int):TS:=⟨(tf 50 26 [(0,(iI a)),(1,(iI b)),(4,(bV false)),(5,(nI c))] [kc f50 116,kl f50 116,.inBlock 0,kc f50 15]),[(tf 21 8 [(4,(bV false)),(5,(iI a)),(6,(iI b))] [ko f21 6 2,kc f21 7])],[],0⟩
def bGj(a b:List Int):=tT 0 (start PP 21 [(iI a),(iI b)])<|gl 17 bU a<|gl 1 bU b<|.b 2 10 ((a.length:Int) != (b.length:Int)) (gE 10 0 (bV false))<|.W 9 0 [] (qD a b 0)
def aI8:=fun a b c=>bGj a b|>.f c tv
def bFh(b c:List Int)(a:Int):=tT 0 (qD b c a)<|gl 5 bU b<|gd 2 14 (a< (b.length:Int)) (.y fun d:Int=>.y fun e:Int=>.i [rn 5,.reg (.d::.d::.ans (.idx (bU d))::rd 3 [.ans (.idx (bU e)),.d,.d])] [hA (0≤a),.a (((b)[a.toNat]?) =some d) (aZ (f:=bU)),hA (0≤a),.a (((c)[a.toNat]?) =some e) (aZ (f:=bU))]<|.b 0 25 (d != e) (gE 10 0 (bV false))<|gw 6 16 (a+1)<|.W 3 0 [] (qD b c (a+1)))<|gE 11 0 (bV true)
def aI9:=fun b c d e f g a i j k l=>bFh b c d|>.t g e f a i a j|>.f k l tv
def aJa:=fun a b c d=>bFh a b c|>.f d tv
def iL (x:Node)(i:Nat) :Nat→List Int→List Int→List Int
 |_,[],l=>l
 |j,k::ks,l=>iL x i (j+1) ks (l.set k.toNat (l.getD i 0+cZ x j))
def fZ :Nat→List Node→List Int→List Int
 |_,[],l=>l
 |i,x::t,l=>fZ (i+1) t (iL x i 0 x.kids l)
def mB :List Int→List Int→List Int
 | [],l=>l
 |f::fs,l=>mB fs (l.set f.toNat 1)
def jF (p:Prog) :List Int:=fZ 0 p.nodes (mB p.funs (replicate p.nodes.length 0))
theorem pA (x:Node)(i:Nat) :∀ (t:List Int) (j:Nat) (l:List Int),(iL x i j t l).length=l.length
 | [],_,_=>rfl
 |k::t,j,l=>by rw [iL,pA x i t];simp
theorem aCT :∀ (t:List Node) (i:Nat) (l:List Int),(fZ i t l).length=l.length
 | [],_,_=>rfl
 |x::t,i,l=>by rw [fZ,aCT t,pA]
theorem tX :∀ (t:List Int) (l:List Int),(mB t l).length=l.length
 | [],_=>rfl
 |f::t,l=>by rw [mB,tX t];simp
theorem aAp (p:Prog) : (jF p).length=p.nodes.length:=by rw [jF,aCT,tX];simp
def upTo (B:Int)(l:List Int) :Prop:=∀z∈l,0≤z∧z≤B
theorem aV4 {B:Int}{l:List Int}(h:upTo B l){i:Nat}(hi:i<l.length) :0≤l.getD i 0∧l.getD i 0≤B:=by
 rw [getD_eq_getElem?_getD,getElem?_eq_getElem hi];exact h _ (List.getElem_mem hi)
theorem aLT {B C:Int}{l:List Int}(h:upTo B l)(hBC:B≤C){i:Nat}{z:Int}(h0:0≤z)(h1:z≤C) :upTo C (l.set i z) :=fun k hk=>by
 rcases List.mem_or_eq_of_mem_set hk with g|g
 ·have:=h k g;omega
 ·rw [g];exact⟨h0,h1⟩
theorem aSG {B C:Int}{l:List Int}(h:upTo B l)(hBC:B≤C) :upTo C l:=fun k hk=>by have:=h k hk;omega
theorem bFi {p:Prog}(hp:FineP p){i:Nat}{x:Node}(hx:p.nodes[i]?=some x){res:AV}{h':Hp} :
  ∀ (t:List Int) (j:Nat) (l:List Int) (B:Int),l.length=p.nodes.length→0≤B→upTo B l→B+12*t.length≤1000000→x.kids.drop j=t →
   (upTo (B+12*t.length) (iL x i j t l) →Ends PP 0 (rS p (iL x i j t l) ((i:Int) +1)).as (.ret res) h') →Ends PP 0 (yD p l (j:Int) (i:Int)).as (.ret res) h'
 | [],j,l,B,hl,h0,hB,hb,h,hk=>by
  have:=bE h;have hi:= (List.getElem?_eq_some_iff.1 hx).1;have hn:=hp.small;refine(aO6 p l j i x sd sd sd sd).ends (hk ?_);simpa [iL]using hB
 | k::t,j,l,B,hl,h0,hB,hb,h,hk=>by
  obtain⟨g1,g2,g3⟩ :=bB h;obtain⟨hf,hk10,hks⟩ :=hp.node _ _ hx;have hk':=hks k (mem_of_getElem? g1);have hi:= (List.getElem?_eq_some_iff.1 hx).1;have hn:=hp.small;have ha:=aLC hf (j:Int);have hz:=aV4 hB (i:=i) (by omega);have hli:l[i]?=some (l.getD i 0) :=by rw [getD_eq_getElem?_getD,getElem?_eq_getElem (by omega)];rfl
  obtain⟨y,hy⟩ :∃y,l[k.toNat]?=some y:= ⟨_,getElem?_eq_getElem (by omega)⟩;simp only [length_cons]at hb;have ew:IntKind.i64.wrap (l.getD i 0+cZ x j) =l.getD i 0+cZ x j:=wrap64 (by omega) (by omega);have st:=aO5 p l j i x k (l.getD i 0) (cZ x j) y sd sd sd sd sd (by omega) sd (aOx hf (by omega) (by omega) hk10) (by omega) (by omega) hy sd;rw [ew]at st;refine st.ends ?_;refine bFi hp hx t (j+1) (l.set k.toNat (l.getD i 0+cZ x j)) (B+12) (by simpa using hl) (by omega) (aLT hB (by omega) (by omega) (by omega)) (by omega) g2 (fun hu=>?_);have:=hk (by rw [iL];exact aSG hu (by simp only [length_cons];omega));rw [iL]at this;exact this
theorem rS1 {p:Prog}(hp:FineP p) :∀ (t:List Node) (i:Nat) (l:List Int) (B:Int),l.length=p.nodes.length→0≤B→upTo B l→B+120*t.length≤1000000→p.nodes.drop i=t →
  Ends PP 0 (rS p l (i:Int)).as (.ret (.ilst 1 (List.map bU (fZ i t l)) true)) (aA [] 0)
 | [],i,l,B,hl,h0,hB,hb,h=>by
  have:=bE h;exact aO4 p l i sd
 | x::t,i,l,B,hl,h0,hB,hb,h=>by
  obtain⟨g1,g2,g3⟩ :=bB h;obtain⟨hf,hk10,hks⟩ :=hp.node _ _ g1;simp only [length_cons]at hb;refine(aO3 p l i sd).ends ?_;refine bFi hp g1 x.kids 0 l B hl h0 hB (by omega) rfl (fun hu=>?_);rw [fZ];exact rS1 hp t (i+1) _ (B+12*x.kids.length) (by rw [pA,hl]) (by omega) hu (by omega) g2
theorem rS0 {p:Prog}(hp:FineP p) :∀ (t:List Int) (i:Nat) (l:List Int),l.length=p.nodes.length→upTo 1 l→p.funs.drop i=t →
  Ends PP 0 (yC p (i:Int) l).as (.ret (.ilst 1 (List.map bU (fZ 0 p.nodes (mB t l))) true)) (aA [] 0)
 | [],i,l,hl,hB,h=>by
  have:=bE h;have hn:=hp.small;refine(aO2 p i l sd).ends ?_;exact rS1 hp p.nodes 0 l 1 hl (by omega) hB (by omega) rfl
 | a::t,i,l,hl,hB,h=>by
  obtain⟨g1,g2,g3⟩ :=bB h;have ha:=hp.funs a (mem_of_getElem? g1);have hf:=hp.fsmall;obtain⟨y,hy⟩ :∃y,l[a.toNat]?=some y:= ⟨_,getElem?_eq_getElem (by omega)⟩;refine(aO1 p i l a y sd sd sd (by omega) (by omega) hy sd).ends ?_;exact rS0 hp t (i+1) _ (by simpa using hl) (aLT hB (by omega) (by omega) (by omega)) g2
theorem aCU {p:Prog}(hp:FineP p) :aJ PP 86 [Prog.av p] (.ilst 1 (List.map bU (jF p)) false) :=by
 refine aF (by kernel_rfl) rfl rfl ?_;have hn:=hp.small;refine Ends.val ?_ (fun E cv=>fX);refine(aO0 p (by omega)).ends ?_;exact rS0 hp p.funs 0 _ (by simp) (fun z hz=>by have:= (List.mem_replicate.1 hz).2;omega) rfl
def pC (p:Prog)(S:List Int)(i:Nat) :Bool:=match p.nodes[i]?,S[i]? with
 |some x,some s=> !(decide (x.op=4) &&decide (x.n≥s))
 |_,_=>true
def gQ (p:Prog)(S:List Int) :Nat→List Int→Bool
 |_,[] =>true
 |i,_::t=>pC p S i&&gQ p S (i+1) t
theorem rSh {p:Prog}(hn:p.nodes.length≤320)(S:List Int)(hS:S.length=p.nodes.length) :∀ (t:List Int) (i:Nat),S.drop i=t→Ends PP 0 (wJ p S (i:Int)).as (.ret (.bool (gQ p S i t))) (aA [] 0)
 | [],i,h=>by
  have:=bE h;exact aSF p S i sd
 | s ::t,i,h=>by
  obtain⟨g1,g2,g3⟩ :=bB h;obtain⟨x,hx⟩ :∃x,p.nodes[i]?=some x:= ⟨_,getElem?_eq_getElem (by omega)⟩;have ih:=rSh hn S hS t (i+1) g2;by_cases g4:x.op=4
  · by_cases gn:x.n≥s
    ·exact Ends.eqv (aSC p S i x s sd sd sd (by simp [g4]) sd (by simpa using gn)) (by simp only [gQ,pC,hx,g1,g4,gn];simp)
    · refine(aSD p S i x s sd sd sd (by simp [g4]) sd (by simpa using gn) sd).ends ?_;exact Ends.eqv ih (by simp only [gQ,pC,hx,g1,g4,gn];simp)
  · refine(aSE p S i x sd sd sd (by simpa using g4) sd).ends ?_;exact Ends.eqv ih (by simp only [gQ,pC,hx,g1,g4];simp)
theorem aO7 {p:Prog}(hp:FineP p) :aJ PP 58 [Prog.av p] (.bool (gQ p (jF p) 0 (jF p))) :=by
 refine aF (by kernel_rfl) rfl rfl ?_;refine(aSB p (jF p) (aCU hp)).ends ?_;exact rSh hp.small (jF p) (aAp p) (jF p) 0 rfl
theorem bFj (a:List Int)(ha:a.length≤1000) :∀ (t:List Int) (i:Nat),a.drop i=t→Ends PP 0 (qD a a (i:Int)).as (.ret (.bool true)) (aA [] 0)
 | [],i,h=>by
  have:=bE h;exact aJa a a i sd
 | y::t,i,h=>by
  obtain⟨g1,g2,g3⟩ :=bB h;refine(aI9 a a i y y sd sd sd sd (by simp) sd).ends ?_;exact bFj a ha t (i+1) g2
theorem aF6 (a:List Int)(ha:a.length≤1000) :aJ PP 21 [.ilst 1 (List.map bU a) false,.ilst 1 (List.map bU a) false] (.bool true) :=by
 refine aF (by kernel_rfl) rfl rfl ?_;exact(aI8 a a (by simp)).ends (bFj a ha a 0 rfl)
theorem pD {lo n:Int}:∀ {ks:List Int} {u v:List Bool},marks lo n ks u=some v→∀k∈ks,lo≤k∧k≤n-1
 | [],_,_,_,k,hk=>by cases hk
 | a ::ks,u,v,h,k,hk=>by
  simp only [marks]at h;split at h
  · rename_i g;rcases List.mem_cons.1 hk with rfl|hk
    ·exact inB_iff.1 g.1
    ·exact pD h k hk
  ·cases h
theorem yE {lo n:Int}:∀ {ks:List Int} {u v:List Bool},marks lo n ks u=some v→∀m:Nat,v[m]?=some true→u[m]?=some true∨∃k∈ks,k.toNat=m
 | [],u,v,h,m,hm=>by simp only [marks,Option.some.injEq]at h;rw [h];exact .inl hm
 | a ::ks,u,v,h,m,hm=>by
  simp only [marks]at h;split at h
  · rcases yE h m hm with g| ⟨k,hk,e⟩
    · by_cases e:a.toNat=m
      ·exact .inr ⟨a,mem_cons_self ..,e⟩
      ·rw [getElem?_set_ne e]at g;exact .inl g
    ·exact .inr ⟨k,mem_cons_of_mem _ hk,e⟩
  ·cases h
theorem pE {lo n:Int}:∀ {ks:List Int} {u v:List Bool},marks lo n ks u=some v→∀m:Nat,u[m]?=some true→v[m]?=some true
 | [],u,v,h,m,hm=>by simp only [marks,Option.some.injEq]at h;rw [←h];exact hm
 | a ::ks,u,v,h,m,hm=>by
  simp only [marks]at h;split at h
  · rename_i g;refine pE h m ?_;by_cases e:a.toNat=m
    ·subst e;rw [hm]at g;exact absurd g.2 (by simp)
    ·rw [getElem?_set_ne e];exact hm
  ·cases h
theorem kA {lo n k:Int}{ks:List Int}{u v:List Bool}(h:marks lo n (k::ks) u=some v) :u[k.toNat]?=some false∧marks lo n ks (u.set k.toNat true) =some v:=by
 simp only [marks]at h;split at h
 ·rename_i g;exact⟨g.2,h⟩
 ·cases h
theorem fE {p:Prog}{i:Nat}{x:Node}{t:List Node}{u v:List Bool}(h:bX p i (x::t) u=some v) :bT p x=true∧∃w,marks ((i:Int) +1) p.nodes.length x.kids u=some w∧bX p (i+1) t w=some v:=by
 simp only [bX]at h;split at h
 · rename_i g;split at h
   ·rename_i w hw;exact⟨g,w,hw,h⟩
   ·cases h
 ·cases h
theorem aBq {p:Prog}:∀ {t:List Node} {i:Nat} {u v:List Bool},bX p i t u=some v→∀m:Nat,m≤i→v[m]?=some true→u[m]?=some true
 | [],i,u,v,h,m,_,hm=>by simp only [bX,Option.some.injEq]at h;rw [h];exact hm
 | x::t,i,u,v,h,m,hi,hm=>by
  obtain⟨_,w,hw,h2⟩ :=fE h;rcases yE hw m (aBq h2 m (by omega) hm)with g| ⟨k,hk,e⟩
  ·exact g
  ·have:=pD hw k hk;omega
theorem nQ {p:Prog}:∀ {t:List Node} {i:Nat} {u v:List Bool},bX p i t u=some v→v.length=u.length
 | [],i,u,v,h=>by simp only [bX,Option.some.injEq]at h;rw [h]
 | x::t,i,u,v,h=>by
  obtain⟨_,w,hw,h2⟩ :=fE h;rw [nQ h2,lX hw]
theorem lH {p:Prog}:∀ {t:List Node} {i:Nat} {u v:List Bool},bX p i t u=some v→∀ (j:Nat) (x:Node),t[j]?=some x→bT p x=true∧∀k∈x.kids,((i+j:Nat) :Int) <k∧k<p.nodes.length
 | [],i,u,v,h,j,x,hx=>by simp at hx
 | y::t,i,u,v,h,j,x,hx=>by
  obtain⟨g,w,hw,h2⟩ :=fE h;cases j with
  | zero=>
   simp at hx;subst hx;exact⟨g,fun k hk=>by have:=pD hw k hk;omega⟩
  | succ j=>
   have:=lH h2 j x (by simpa using hx);exact⟨this.1,fun k hk=>by have:=this.2 k hk;omega⟩
theorem aBr {p:Prog}:∀ {t:List Node} {i:Nat} {u v:List Bool},bX p i t u=some v→∀m:Nat,v[m]?=some true→u[m]?=some true∨∃ (j:Nat) (x:Node) (k:Int),t[j]?=some x∧k∈x.kids∧k.toNat=m
 | [],i,u,v,h,m,hm=>by simp only [bX,Option.some.injEq]at h;rw [h];exact .inl hm
 | y ::t,i,u,v,h,m,hm=>by
  obtain⟨g,w,hw,h2⟩ :=fE h;rcases aBr h2 m hm with a| ⟨j,x,k,a1,a2,a3⟩
  · rcases yE hw m a with b| ⟨k,b1,b2⟩
    ·exact .inl b
    ·exact .inr ⟨0,y,k,rfl,b1,b2⟩
  ·exact .inr ⟨j+1,x,k,by simpa using a1,a2,a3⟩
theorem qE {x:Node}{i:Nat}{lo n:Int}:∀ {t:List Int} {j:Nat} {u v:List Bool} {l:List Int},marks lo n t u=some v→∀m:Nat,u[m]?=some true→ (iL x i j t l)[m]?=l[m]?
 | [],_,_,_,_,_,_,_=>rfl
 | k::t,j,u,v,l,h,m,hm=>by
  obtain⟨h1,h2⟩ :=kA h;have hne:k.toNat≠m:=fun e=>by rw [e,hm]at h1;cases h1
  rw [iL,qE h2 m (by rw [getElem?_set_ne hne];exact hm),getElem?_set_ne hne]
theorem nR {p:Prog}:∀ {t:List Node} {i:Nat} {u v:List Bool} {l:List Int},bX p i t u=some v→∀m:Nat,u[m]?=some true→ (fZ i t l)[m]?=l[m]?
 | [],_,_,_,_,_,_,_=>rfl
 | x::t,i,u,v,l,h,m,hm=>by
  obtain⟨_,w,hw,h2⟩ :=fE h;rw [fZ,nR h2 m (pE hw m hm),qE hw m hm]
theorem aCV {lo n:Int}:∀ {t:List Int} {u v:List Bool} {l:List Int},marks lo n t u=some v→∀m:Nat,u[m]?=some true→ (mB t l)[m]?=l[m]?
 | [],_,_,_,_,_,_=>rfl
 | k::t,u,v,l,h,m,hm=>by
  obtain⟨h1,h2⟩ :=kA h;have hne:k.toNat≠m:=fun e=>by rw [e,hm]at h1;cases h1
  rw [mB,aCV h2 m (by rw [getElem?_set_ne hne];exact hm),getElem?_set_ne hne]
theorem aFm {x:Node}{i:Nat}{lo n:Int}:∀ {t:List Int} {j:Nat} {u v:List Bool} {l:List Int},marks lo n t u=some v→u.length=l.length→u[i]?=some true→∀ (d:Nat) (k:Int),t[d]?=some k→ (iL x i j t l)[k.toNat]?=some (l.getD i 0+cZ x ((j+d:Nat) :Int))
 | [],_,_,_,_,_,_,_,d,k,hk=>by simp at hk
 | a::t,j,u,v,l,h,hul,hi,d,k,hk=>by
  obtain⟨h1,h2⟩ :=kA h;have hai:a.toNat≠i:=fun e=>by rw [e,hi]at h1;cases h1
  have hal:a.toNat<u.length:= (List.getElem?_eq_some_iff.1 h1).1;rw [iL];cases d with
  | zero=>
   simp at hk;subst hk;rw [qE h2 _ (by rw [getElem?_set_self hal]),getElem?_set_self (by omega)];simp
  | succ d=>
   have:=aFm (x:=x) (i:=i) (j:=j+1) (l:=l.set a.toNat (l.getD i 0+cZ x j)) h2 (by simpa using hul) (by rw [getElem?_set_ne hai];exact hi) d k (by simpa using hk);rw [this,getD_eq_getElem?_getD,getElem?_set_ne hai,←getD_eq_getElem?_getD];congr 3;omega
theorem aCW {p:Prog}:∀ {t:List Node} {i:Nat} {u v:List Bool} {l:List Int},bX p i t u=some v→ (∀m,m<v.length→v[m]?=some true) →u.length=l.length→i+t.length≤u.length→∀ (j:Nat) (x:Node) (d:Nat) (k:Int),t[j]?=some x→x.kids[d]?=some k →
  ∃s,(fZ i t l)[i+j]?=some s∧ (fZ i t l)[k.toNat]?=some (s+cZ x d)
 | [],_,_,_,_,_,_,_,_,j,x,d,k,hx,_=>by simp at hx
 | y ::t,i,u,v,l,h,hv,hul,hil,j,x,d,k,hx,hk=>by
  obtain⟨_,w,hw,h2⟩ :=fE h;have hwl:=lX hw;simp only [length_cons]at hil;rw [fZ];cases j with
  | zero=>
   simp at hx;subst hx;have hvl:=nQ h;have hi:u[i]?=some true:=aBq h i (Nat.le_refl _) (hv i (by omega));have hk2:=aFm (x:=y) (i:=i) (j:=0) (l:=l) hw hul hi d k hk;have hwk:w[k.toNat]?=some true:=by
    have hkin:=pD hw k (mem_of_getElem? hk);have all:∀ {lo n:Int} {ks:List Int} {u v:List Bool},marks lo n ks u=some v→∀k∈ks,v[k.toNat]?=some true:=by
     intro lo n ks
     induction ks with
     |nil=>intro u v _ k hk;cases hk
     | cons a ks ih=>
      intro u v h k hk;obtain⟨h1,h2⟩ :=kA h;rcases List.mem_cons.1 hk with rfl|hk
      ·exact pE h2 _ (getElem?_set_self (List.getElem?_eq_some_iff.1 h1).1)
      ·exact ih h2 k hk
    exact all hw k (mem_of_getElem? hk)
   refine⟨l.getD i 0,?_,?_⟩
   · show(fZ (i+1) t (iL y i 0 y.kids l))[i]?=some (l.getD i 0);rw [nR h2 i (pE hw i hi),qE hw i hi,getD_eq_getElem?_getD,getElem?_eq_getElem (by omega)];rfl
   ·rw [nR h2 _ hwk,hk2];simp
  | succ j=>
   obtain⟨s,a1,a2⟩ :=aCW (l:=iL y i 0 y.kids l) h2 hv (by rw [pA,hwl,hul]) (by omega) j x d k (by simpa using hx) hk;exact⟨s,by rw [←a1];congr 1;omega,a2⟩
structure Sprop (p:Prog) (S:List Int) :Prop where
 len:S.length=p.nodes.length
 root:∀f∈p.funs,S[f.toNat]?=some 1
 kid:∀ (i:Nat) (x:Node) (d:Nat) (k:Int),p.nodes[i]?=some x→x.kids[d]?=some k→∃s,S[i]?=some s∧S[k.toNat]?=some (s+cZ x d)
def yF (p:Prog) :Prop:=∀m,m<p.nodes.length→ (∃f∈p.funs,f.toNat=m) ∨∃ (i:Nat) (x:Node) (k:Int),p.nodes[i]?=some x∧k∈x.kids∧k.toNat=m∧i<m
theorem aCX {lo n:Int}:∀ {t:List Int} {u v:List Bool} {l:List Int},marks lo n t u=some v→u.length=l.length→∀f∈t,(mB t l)[f.toNat]?=some 1
 | [],_,_,_,_,_,f,hf=>by cases hf
 | a::t,u,v,l,h,hul,f,hf=>by
  obtain⟨h1,h2⟩ :=kA h;have hal:a.toNat<u.length:= (List.getElem?_eq_some_iff.1 h1).1;rw [mB];rcases List.mem_cons.1 hf with rfl|hf
  ·rw [aCV h2 _ (getElem?_set_self hal),getElem?_set_self (by omega)]
  ·exact aCX h2 (by simpa using hul) f hf
theorem eE {p:Prog}(hp:aE p=true)(hf:aH p=true) :FineP p∧Sprop p (jF p) ∧yF p:=by
 have hs:=hp;simp only [aE,and_eq_true,decide_eq_true_eq]at hs;obtain⟨⟨⟨⟨s1,s2⟩,s3⟩,_⟩,s5⟩ :=hs;simp only [aH,and_eq_true]at hf;obtain⟨_,hf⟩ :=hf;split at hf
 · rename_i u hu;unfold allT at hf;split at hf
   · rename_i v hv;have hul:u.length=p.nodes.length:=by rw [lX hu];simp
     have hvl:v.length=p.nodes.length:=by rw [nQ hv,hul]
     have hall:∀m,m<v.length→v[m]?=some true:=fun m hm=>by
      rw [getElem?_eq_getElem hm];have:=List.all_eq_true.1 hf _ (List.getElem_mem hm);simpa using this
     have hnodes:=lH hv;refine⟨⟨s1,s2,fun i x hx=>?_,fun f hf=>?_⟩,⟨aAp p,fun f hf=>?_,fun i x d k hx hk=>?_⟩,fun m hm=>?_⟩
     · have:=hnodes i x hx;have h10:=List.all_eq_true.1 s5 x (mem_of_getElem? hx);simp only [bJ,and_eq_true,decide_eq_true_eq]at h10;exact⟨aPX this.1,h10.1.1,fun k hk=>by have:=this.2 k hk;omega⟩
     ·have:=pD hu f hf;omega
     · rw [jF];have hfm:u[f.toNat]?=some true:=by
        have all:∀ {lo n:Int} {ks:List Int} {u v:List Bool},marks lo n ks u=some v→∀k∈ks,v[k.toNat]?=some true:=by
         intro lo n ks
         induction ks with
         |nil=>intro u v _ k hk;cases hk
         | cons a ks ih=>
          intro u v h k hk;obtain⟨h1,h2⟩ :=kA h;rcases List.mem_cons.1 hk with rfl|hk
          ·exact pE h2 _ (getElem?_set_self (List.getElem?_eq_some_iff.1 h1).1)
          ·exact ih h2 k hk
        exact all hu f hf
       rw [nR hv _ hfm];exact aCX hu (by simp) f hf
     · obtain⟨s,a1,a2⟩ :=aCW (l:=mB p.funs (replicate p.nodes.length 0)) hv hall (by rw [tX,hul];simp) (by omega) i x d k hx hk;exact⟨s,by rw [jF,←a1];congr 1;omega,a2⟩
     · rcases aBr hv m (hall m (by omega))with g| ⟨j,x,k,g1,g2,g3⟩
       · rcases yE hu m g with a| ⟨f,a1,a2⟩
         ·rw [List.getElem?_replicate]at a;split at a<;>simp at a
         ·exact .inl ⟨f,a1,a2⟩
       · have:= (hnodes j x g1).2 k g2;exact .inr ⟨j,x,k,g1,g2,g3,by omega⟩
   ·cases hf
 ·cases hf
inductive Reach (p:Prog) :Nat→Nat→Prop where
 |refl (a:Nat) :Reach p a a
 |step {a i:Nat} {x:Node} {k:Int}:Reach p a i→p.nodes[i]?=some x→k∈x.kids→Reach p a k.toNat
theorem Reach.first {p:Prog}{a m:Nat}(h:Reach p a m) :m=a∨∃ (x:Node) (k:Int),p.nodes[a]?=some x∧k∈x.kids∧Reach p k.toNat m:=by
 induction h with
 |refl=>exact .inl rfl
 | step h hx hk ih=>
  rename_i i x k;rcases ih with rfl| ⟨y,q,h1,h2,h3⟩
  ·exact .inr ⟨x,k,hx,hk,Reach.refl _⟩
  ·exact .inr ⟨y,q,h1,h2,h3.step hx hk⟩
theorem aF7 {p:Prog}(hc:yF p) :∀m,m<p.nodes.length→∃f∈p.funs,Reach p f.toNat m:=by
 intro m
 induction m using Nat.strongRecOn with
 | ind m ih=>
  intro hm;rcases hc m hm with⟨f,h1,h2⟩ | ⟨i,x,k,h1,h2,h3,h4⟩
  ·exact⟨f,h1,h2 ▸ Reach.refl _⟩
  · obtain⟨f,g1,g2⟩ :=ih i h4 (by omega);exact⟨f,g1,h3 ▸ g2.step h1 h2⟩
theorem aG1 {p:Prog}(hp:FineP p){S:List Int}(hS:Sprop p S) :∀ (f:Nat) (a:Nat) (s:Int),a<p.nodes.length→p.nodes.length-a≤f→S[a]?=some s →
  (iK p f (a:Int) s=true↔∀m:Nat,Reach p a m→pC p S m=true)
 |0,a,s,ha,hf,_=>by omega
 | f + 1,a,s,ha,hf,hs=>by
  obtain⟨x,hx⟩ :∃x,p.nodes[a]?=some x:= ⟨_,getElem?_eq_getElem ha⟩;obtain⟨_,_,hks⟩ :=hp.node a x hx;have e:iK p (f+1) (a:Int) s= (if x.op=4∧x.n≥s then false else aF5 (iK p f) x s 0 x.kids) :=by
   rw [iK];simp only [Int.toNat_natCast,hx]
  have ok:pC p S a=true↔¬ (x.op=4∧x.n≥s) :=by
   unfold pC;rw [hx,hs];by_cases h4:x.op=4<;>by_cases hn:x.n≥s<;>simp [h4,hn]
  have fold:∀ (t:List Int) (j:Nat),x.kids.drop j=t→ (aF5 (iK p f) x s j t=true↔∀k∈t,∀m:Nat,Reach p k.toNat m→pC p S m=true) :=by
   intro t
   induction t with
   |nil=>intro j _;exact⟨fun _ k hk=> (by cases hk),fun _=>rfl⟩
   | cons k t ih=>
    intro j h;obtain⟨g1,g2,g3⟩ :=bB h;have hk:=hks k (mem_of_getElem? g1);obtain⟨s',c1,c2⟩ :=hS.kid a x j k hx g1;rw [hs]at c1;cases c1;have hkn: ((k.toNat:Nat) :Int) =k:=by omega
    have w:=aG1 hp hS f k.toNat (s+cZ x j) (by omega) (by omega) c2;rw [hkn]at w;rw [aF5,and_eq_true,w,ih (j+1) g2];constructor
    · intro⟨h1,h2⟩ q hq;rcases List.mem_cons.1 hq with rfl|hq
      ·exact h1
      ·exact h2 q hq
    · intro h;exact⟨h k (mem_cons_self ..),fun q hq=>h q (mem_cons_of_mem _ hq)⟩
  rw [e];constructor
  · intro h m hr;split at h
    ·cases h
    · rename_i hno;rcases hr.first with rfl| ⟨y,k,h1,h2,h3⟩
      ·exact ok.2 hno
      · rw [hx]at h1;cases h1;exact(fold x.kids 0 rfl).1 h k h2 m h3
  · intro h;have h0:=ok.1 (h a (Reach.refl _));rw [if_neg h0];refine(fold x.kids 0 rfl).2 fun k hk m hr=>h m ?_;have all:∀ {b m:Nat},Reach p b m→∀ {a:Nat} {x:Node} {k:Int},p.nodes[a]?=some x→k∈x.kids→b=k.toNat→Reach p a m:=by
     intro b m hr
     induction hr with
     |refl=>intro a x k hx hk e;rw [e];exact(Reach.refl a).step hx hk
     |step h hx' hk' ih=>intro a x k hx hk e;exact(ih hx hk e).step hx' hk'
    exact all hr hx hk rfl
theorem aLU {p:Prog}(hp:FineP p){S:List Int}(hS:Sprop p S) :∀ (t:List Int),(∀f∈t,f∈p.funs) → (aSz p t=true↔∀f∈t,∀m:Nat,Reach p f.toNat m→pC p S m=true)
 | [],_=> ⟨fun _ f hf=> (by cases hf),fun _=>rfl⟩
 | a ::t,ht=>by
  have ha:=hp.funs a (ht a (mem_cons_self ..));have han: ((a.toNat:Nat) :Int) =a:=by omega
  have w:=aG1 hp hS p.nodes.length a.toNat 1 (by omega) (by omega) (hS.root a (ht a (mem_cons_self ..)));rw [han]at w;rw [aSz,and_eq_true,w,aLU hp hS t (fun f hf=>ht f (mem_cons_of_mem _ hf))];constructor
  · intro⟨h1,h2⟩ q hq;rcases List.mem_cons.1 hq with rfl|hq
    ·exact h1
    ·exact h2 q hq
  · intro h;exact⟨h a (mem_cons_self ..),fun q hq=>h q (mem_cons_of_mem _ hq)⟩
theorem aBs (p:Prog)(S:List Int) :∀ (t:List Int) (i:Nat),gQ p S i t=true↔∀j,j<t.length→pC p S (i+j) =true
 | [],i=>by simp [gQ]
 | a ::t,i=>by
  rw [gQ,and_eq_true,aBs p S t (i+1)];constructor
  · intro⟨h1,h2⟩ j hj;cases j with
    |zero=>exact h1
    |succ j=>have:=h2 j (by simpa using hj);rw [show i+ (j+1) =i+1+j by omega];exact this
  · intro h;refine⟨h 0 (by simp),fun j hj=>?_⟩;have:=h (j+1) (by simpa using hj);rw [show i+1+j=i+ (j+1)by omega];exact this
theorem aSH {p:Prog}(hp:FineP p){S:List Int}(hS:Sprop p S)(hc:yF p) :aSz p p.funs=gQ p S 0 S:=by
 rw [Bool.eq_iff_iff,aLU hp hS p.funs (fun f hf=>hf),aBs];constructor
 · intro h j hj;rw [hS.len]at hj;obtain⟨f,h1,h2⟩ :=aF7 hc j hj;rw [Nat.zero_add];exact h f h1 j h2
 · intro h f hf m hr;by_cases hm:m<S.length
   ·have:=h m hm;rwa [Nat.zero_add]at this
   · unfold pC;rw [List.getElem?_eq_none (by rw [hS.len]at hm;omega)]
def dF (p:Prog) :Bool×Int:=if aH p=true then(gQ p (jF p) 0 (jF p),0)else(false,2)
theorem bDP {E:Emb}{e:Nat}{xs:List AV}{n:AV}{cv:Value}(h:VR E (.tup [.ilst e xs true,n]) cv) :VR E (.tup [.ilst e xs false,n]) cv:=by
 simp only [VR]at h ⊢;obtain⟨us,h1,h2⟩ :=h;obtain⟨u,us',rfl,h3,h4⟩ :=h2.cons_inv;exact⟨_,h1,VRs.cons (fX h3) h4⟩
theorem aBt {p:Prog}(hs:aE p=true) :aJ PP 45 [Prog.av p] (.int .i64 (checkN (aH p))) :=by
 have h2:=aLy p hs;rw [aSi]at h2;exact h2
theorem aBu {p:Prog}(hs:aE p=true) :aJ PP 46 [Prog.av p] (.tup [.bool (dF p).1,.int .i64 (dF p).2]) :=by
 refine aF (by kernel_rfl) rfl rfl ?_;have hc:=aBt hs;have e0: (start PP 46 [Prog.av p]).as= (bCg p).as:=by kernel_rfl
 rw [e0];cases hf:aH p
 case false=>
  rw [hf]at hc;exact Ends.eqv (aZr p _ hc (by rfl)) (by simp [dF,hf,checkN])
 rw [hf]at hc;obtain⟨q1,q2,q3⟩ :=eE hs hf;refine(aZs p _ hc (by rfl)).ends ?_;exact Ends.eqv (aLS q1 p.funs 0 rfl) (by rw [aSH q1 q2 q3];simp [dF,hf])
end
end Go.Hb
