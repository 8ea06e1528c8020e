/- A machine on abstract values, its soundness, ways, plain laws. -/
import Derived.Test.YtnljmgihoioocaaGreatHF
import Derived.Test.YtnljmgihoioocaaGreatHH
import Derived.Test.YtnljmgihoioocaaGreatHK
import Derived.Test.YtnljmgihoioocaaGreatHM
set_option linter.defProp false
set_option linter.unusedVariables false
set_option linter.unusedSimpArgs false
set_option linter.unusedSectionVars false
set_option maxRecDepth 100000
set_option maxHeartbeats 1000000
namespace Go.Hb
open Int (add_zero natCast_zero)
open List (drop_zero getD_cons_succ getD_cons_zero length length_nil map range set_cons_succ set_cons_zero)
open Nat (le_refl zero_le)
open Option (map_some)
open Go.Proofs Tryz
noncomputable section
section
variable (B :Int) (hB:B≤1000000) (tg:Int)
end
abbrev LaS (t:XT)(L:List ONode)(ns:List Node) :Prop:=gI PP 0 (.enter 87 [.gl 0 4 0 (length L) false,RT.av t]) (aA [(0,OL L,true)] 1) (.ret (.gl 0 4 0 (length (L++map Node.o ns)) false)) (aA [(0,OL (L++map Node.o ns),true)] 1)
section
variable (l :List ONode) (o n:Int) (ks:List XT) (ps:List Pat) (hkl:ks.length≤1000) (ih:∀t∈ks,∀ (M:List ONode),M.length+cK t≤1000000→LaS t M (eM t M.length))
include hkl ih
end
section
variable {B :Int} (hB:B≤1000000) (p:Prog)
end
mutual
def Few (C:Pat→Prop) :XT→Prop
 | .mk _ _ ks ps=>ks.length≤10∧ (∀q∈ps,C q) ∧qR C ks
def qR (C:Pat→Prop) :List XT→Prop
 | [] =>True
 |t::ts=>Few C t∧qR C ts
end
theorem fewS_iff {C:Pat→Prop}:∀ {ts:List XT},qR C ts↔∀t∈ts,Few C t
 | [] =>by simp [qR]
 |t::ts=>by simp only [qR,fewS_iff (ts:=ts),zq7];exact⟨fun h x a=>by rcases a with rfl|a;exact h.1;exact h.2 x a,fun h=> ⟨h t (.inl rfl),fun x a=>h x (.inr a)⟩⟩
section
variable {C :Pat→Prop}
mutual
theorem aZz {fr:Int}:∀ {t:XT},Few C t→Few C (rS fr 1 t)
 | .mk o n b a,h=>by
  simp only [rS,Few]at h ⊢;exact⟨by rw [kW];exact h.1,h.2.1,aLL h.2.2⟩
theorem aLL {fr:Int}:∀ {a:List XT},qR C a→qR C (dS fr 1 a)
 | [],_=>trivial
 |t::a,h=>by simp only [dS,qR]at h ⊢;exact⟨aZz h.1,aLL h.2⟩
end
theorem aZA {ts:List XT}{i:Nat}{t:XT}(h:qR C ts)(b:Few C t) :qR C (ts.set i t) :=fewS_iff.2 fun x a=>by
 rcases List.mem_or_eq_of_mem_set a with a|rfl
 ·exact fewS_iff.1 h x a
 ·exact b
theorem aLM {a b:XT}(c:Few C a)(hb:Few C b) :Few C (.mk 7 0 [a,b] []) :=by
 simp only [Few,qR];exact⟨by simp,fun q d=> (by cases d),c,hb,trivial⟩
theorem bDW :Few C dXT:=by simp only [dXT,Few,qR];exact⟨by simp,fun q a=> (by cases a),trivial⟩
theorem zA {ts:List XT}(h:qR C ts)(i:Nat) :Few C (ts.getD i dXT) :=by
 rw [hQ];cases a:ts[i]? with
 |none=>exact bDW
 |some x=>exact fewS_iff.1 h x (iO a)
theorem aZB :∀ {t:XT},Few C t→qR C t.kids
 | .mk o n b a,h=>by simp only [Few]at h;exact h.2.2
theorem aZC {sz:Int}:∀ {t:XT} {s:Option Nat},Few C t→Few C (gW sz s t)
 | .mk o n b d,some k,h=>by
  have e:=h;simp only [Few]at h;simp only [gW,dnT];refine aLM (zA h.2.2 k) ?_;simp only [Few];refine⟨by simpa using h.1,h.2.1,aZA (by rw [←mL];exact aLL h.2.2) ?_⟩;simp only [Few,qR];exact⟨by simp,fun q c=> (by cases c),trivial⟩
 | .mk o n b d,none,h=>by
  simp only [Few]at h;simp only [gW,neT];have a:=aZB (zA h.2.2 0);exact aLM (zA a 0) (aLM (zA a 1) (aZz (zA h.2.2 1)))
mutual
theorem aTd {node:Int}:∀ {t:XT} {d g:Int} {f:XT},Few C t→atT node t d g= .did f→Few C f
 | .mk o n l j,d,g,f,c,h=>by
  have i:=c;simp only [Few]at c
  have a:∀b,iL node o j l 0 (d+1) g= .did b→Few C (.mk o n b j) :=fun b e=>by
   obtain⟨k,m⟩ :=aOG c.2.2 e;simp only [Few];exact⟨by rw [m];exact c.1,c.2.1,k⟩
  simp only [atT]at h;split at h
  · split at h
    ·cases h;exact aZC i
    · split at h
      ·cases h
      · split at h
        ·cases h
        ·cases h
        ·rename_i e;cases h;exact a _ e
  · split at h
    ·cases h
    ·cases h
    ·rename_i e;cases h;exact a _ e
theorem aOG {node o:Int}{ps:List Pat}:∀ {c:List XT} {i:Nat} {n z:Int} {a:List XT},qR C c→iL node o ps c i n z= .did a→qR C a∧a.length=c.length
 | [],i,n,z,a,_,h=>by simp only [iL]at h;cases h
 | t ::c,i,n,z,a,b,h=>by
  simp only [qR]at b;simp only [iL]at h;split at h
  · split at h
    ·cases h
    ·cases h
    · rename_i d;cases h;obtain⟨f,g⟩ :=aOG b.2 d;exact⟨⟨b.1,f⟩,by simp [g]⟩
  ·cases h
  · rename_i e;cases h;exact⟨⟨aTd b.1 e,b.2⟩,rfl⟩
end
theorem aTe {node:Int}:∀ {c:List XT} {n:Int} {a:List XT},qR C c→atF node c n= .did a→qR C a∧a.length=c.length
 | [],n,a,_,h=>by simp only [atF]at h;cases h
 | t ::c,n,a,b,h=>by
  simp only [qR]at b;simp only [atF]at h;split at h
  · split at h
    ·cases h
    ·cases h
    · rename_i d;cases h;obtain⟨f,g⟩ :=aTe b.2 d;exact⟨⟨b.1,f⟩,by simp [g]⟩
  ·cases h
  · rename_i e;cases h;exact⟨⟨aTd b.1 e,b.2⟩,rfl⟩
end
abbrev aLN (cons:List Con)(q:Pat) :Prop:=cB q≤12∧cJ cons q=true
mutual
theorem aZD {p:Prog}(hp:FineP p) :∀ (t:XT) (a:Int),IsTree p t a→Few (aLN p.cons) t
 | .mk o n c i,a,h=>by
  simp only [IsTree]at h;obtain⟨j,nd,g,rfl,rfl,rfl,b⟩ :=h;obtain⟨d,f,_⟩ :=hp.node _ nd g;simp only [Few];exact⟨by rw [cC b];exact f,fun q e=>d.pats q e,aDD hp c nd.kids b⟩
theorem aDD {p:Prog}(hp:FineP p) :∀ (a:List XT) (l:List Int),aE p a l→qR (aLN p.cons) a
 | [],_,_=>trivial
 | t::a,l,h=>by
  simp only [aE]at h;obtain⟨k,c,rfl,d,b⟩ :=h;exact⟨aZD hp t k d,aDD hp a c b⟩
end
theorem wF :∀ (b:List XT) (a:Nat),(aW b a).1.length=b.length∧∀k∈ (aW b a).1,(a:Int) ≤k∧k< ((a+aD b:Nat) :Int)
 | [],a=>by simp [aW]
 | t::b,a=>by
  have h:=wF b (a+ (eM t a).length);have hl:=bM t a;have c:0<cK t:=by cases t;simp [cK]
  simp only [aW,oK,zq7,aD];refine⟨by rw [h.1],fun k hk=>?_⟩;rcases hk with rfl|hk
  ·omega
  ·have:=h.2 k hk;omega
mutual
def zT :XT→Int→List Int
 | .mk o _ ks ps,z=>z::zTs o ps ks 0 z
def zTs (o:Int)(ps:List Pat) :List XT→Nat→Int→List Int
 | [],_,_=>[]
 |t::ts,i,z=>zT t (z+bI o ps (i:Int)) ++zTs o ps ts (i+1) z
end
def zF :List XT→List Int
 | [] =>[]
 |t::ts=>zT t 1++zF ts
mutual
theorem pE :∀ (t:XT) (z:Int),(zT t z).length=cK t
 | .mk o n b a,z=>by rw [zT,cK,oK,aTf]
theorem aTf (o:Int)(ps:List Pat) :∀ (a:List XT) (i:Nat) (z:Int),(zTs o ps a i z).length=aD a
 | [],i,z=>by rw [zTs,aD];rfl
 |t::a,i,z=>by rw [zTs,aD,wT,pE,aTf]
end
theorem aZE :∀ (a:List XT),(zF a).length=aD a
 | [] =>rfl
 |t::a=>by rw [zF,aD,wT,pE,aZE]
theorem aTg :∀ (t:XT) (z:Int),(zT t z)[0]?=some z
 | .mk o n b a,z=>by rw [zT];rfl
theorem aOH (o:Int)(ps:List Pat) :∀ (b:List XT) (a i:Nat) (z:Int) (d:Nat) (k:Int),(aW b a).1[d]?=some k→∃m:Nat,k= ((a+m:Nat) :Int) ∧ (zTs o ps b i z)[m]?=some (z+bI o ps ((i+d:Nat) :Int))
 | [],a,i,z,d,k,h=>by simp [aW]at h
 | t::b,a,i,z,d,k,h=>by
  have hl:=bM t a;have hz:=pE t (z+bI o ps (i:Int));have f:0<cK t:=by cases t;simp [cK]
  simp only [aW]at h;simp only [zTs];cases d with
  | zero=>
   simp only [lF,Option.some.injEq]at h;refine⟨0,by rw [←h];rfl,?_⟩;rw [iQ (by omega),aTg];rfl
  | succ d=>
   simp only [lV]at h;obtain⟨m,e,c⟩ :=aOH o ps b _ (i+1) z d k h;refine⟨(eM t a).length+m,by rw [e];omega,?_⟩;rw [kR (by omega),show(eM t a).length+m- (zT t (z+bI o ps (i:Int))).length=m by omega,c,show i+1+d=i+ (d+1)by omega]
mutual
theorem bFy :∀ (t:XT) (a:Nat) (z:Int) (j:Nat) (x:Node) (d:Nat) (k:Int),(eM t a)[j]?=some x→x.kids[d]?=some k→∃s,(zT t z)[j]?=some s∧∃m:Nat,k= ((a+m:Nat) :Int) ∧ (zT t z)[m]?=some (s+eR x (d:Int))
 | .mk o n e f,a,z,j,x,d,k,h,hk=>by
  simp only [eM]at h;simp only [zT];cases j with
  | zero=>
   simp only [lF,Option.some.injEq]at h;subst h;obtain⟨m,c,b⟩ :=aOH o f e (a+1) 0 z d k hk;refine⟨z,rfl,m+1,by rw [c];omega,?_⟩;rw [lV,b,eX];rfl
  | succ j=>
   simp only [lV]at h;obtain⟨s,c,m,b,g⟩ :=aZF o f e (a+1) 0 z j x d k h hk;exact⟨s,c,m+1,by rw [b];omega,g⟩
theorem aZF (o:Int)(ps:List Pat) :∀ (b:List XT) (a i:Nat) (z:Int) (j:Nat) (x:Node) (d:Nat) (k:Int),(aW b a).2[j]?=some x→x.kids[d]?=some k→∃s,(zTs o ps b i z)[j]?=some s∧∃m:Nat,k= ((a+m:Nat) :Int) ∧ (zTs o ps b i z)[m]?=some (s+eR x (d:Int))
 | [],a,i,z,j,x,d,k,h,hk=>by simp [aW]at h
 | t ::b,a,i,z,j,x,d,k,h,hk=>by
  have hl:=bM t a;have hz:=pE t (z+bI o ps (i:Int));simp only [aW]at h;simp only [zTs];by_cases g:j< (eM t a).length
  · rw [iQ g]at h;obtain⟨s,f,m,e,c⟩ :=bFy t a (z+bI o ps (i:Int)) j x d k h hk;have hm:= (zq0.1 c).1;exact⟨s,by rw [iQ (by omega)];exact f,m,e,by rw [iQ hm];exact c⟩
  · rw [kR (by omega)]at h;obtain⟨s,f,m,e,c⟩ :=aZF o ps b _ (i+1) z _ x d k h hk;refine⟨s,by rw [kR (by omega),hz,←hl];exact f,(eM t a).length+m,by rw [e];omega,?_⟩;rw [kR (by omega),hz,←hl,show(eM t a).length+m- (eM t a).length=m by omega];exact c
end
theorem aJj :∀ (b:List XT) (a:Nat) (f:Int),f∈ (aW b a).1→∃m:Nat,f= ((a+m:Nat) :Int) ∧ (zF b)[m]?=some 1
 | [],a,f,h=>by simp [aW]at h
 | t ::b,a,f,h=>by
  have hl:=bM t a;have hz:=pE t 1;have e:0<cK t:=by cases t;simp [cK]
  simp only [aW,zq7]at h;simp only [zF];rcases h with rfl|h
  ·exact⟨0,rfl,by rw [iQ (by omega),aTg]⟩
  · obtain⟨m,d,c⟩ :=aJj b _ f h;exact⟨(eM t a).length+m,by rw [d];omega,by rw [kR (by omega),hz,←hl,show(eM t a).length+m- (eM t a).length=m by omega];exact c⟩
theorem aZG :∀ (b:List XT) (a:Nat) (j:Nat) (x:Node) (d:Nat) (k:Int),(aW b a).2[j]?=some x→x.kids[d]?=some k→∃s,(zF b)[j]?=some s∧∃m:Nat,k= ((a+m:Nat) :Int) ∧ (zF b)[m]?=some (s+eR x (d:Int))
 | [],a,j,x,d,k,h,hk=>by simp [aW]at h
 | t ::b,a,j,x,d,k,h,hk=>by
  have hl:=bM t a;have hz:=pE t 1;simp only [aW]at h;simp only [zF];by_cases g:j< (eM t a).length
  · rw [iQ g]at h;obtain⟨s,f,m,e,c⟩ :=bFy t a 1 j x d k h hk;have hm:= (zq0.1 c).1;exact⟨s,by rw [iQ (by omega)];exact f,m,e,by rw [iQ hm];exact c⟩
  · rw [kR (by omega)]at h;obtain⟨s,f,m,e,c⟩ :=aZG b _ _ x d k h hk;refine⟨s,by rw [kR (by omega),hz,←hl];exact f,(eM t a).length+m,by rw [e];omega,?_⟩;rw [kR (by omega),hz,←hl,show(eM t a).length+m- (eM t a).length=m by omega];exact c
mutual
theorem bDX :∀ (t:XT) (a m:Nat),m<cK t→m=0∨∃ (j:Nat) (x:Node),(eM t a)[j]?=some x∧ ((a+m:Nat) :Int) ∈x.kids∧j<m
 | .mk o n c e,a,m,h=>by
  simp only [cK]at h;simp only [eM];cases m with
  |zero=>exact .inl rfl
  | succ m=>
   right;rcases aHj c (a+1) m (by omega)with b| ⟨j,x,b,d,f⟩
   ·exact⟨0,_,rfl,by rw [show a+ (m+1) =a+1+m by omega];exact b,by omega⟩
   ·exact⟨j+1,x,b,by rw [show a+ (m+1) =a+1+m by omega];exact d,by omega⟩
theorem aHj :∀ (b:List XT) (a m:Nat),m<aD b→ ((a+m:Nat) :Int) ∈ (aW b a).1∨∃ (j:Nat) (x:Node),(aW b a).2[j]?=some x∧ ((a+m:Nat) :Int) ∈x.kids∧j<m
 | [],a,m,h=>by simp [aD]at h
 | t ::b,a,m,h=>by
  have hl:=bM t a;simp only [aD]at h;simp only [aW];by_cases hm:m<cK t
  · rcases bDX t a m hm with rfl| ⟨j,x,c,d,f⟩
    ·exact .inl (by simp)
    ·exact .inr ⟨j,x,by rw [iQ (by omega)];exact c,d,f⟩
  · have e:a+m=a+ (eM t a).length+ (m- (eM t a).length) :=by omega
    rcases aHj b (a+ (eM t a).length) (m- (eM t a).length) (by omega)with c| ⟨j,x,c,d,f⟩
    ·exact .inl (eD _ (by rw [e];exact c))
    ·exact .inr ⟨(eM t a).length+j,x,by rw [kR (by omega),show(eM t a).length+j- (eM t a).length=j by omega];exact c,by rw [e];exact d,by omega⟩
end
theorem bDY {ts:List XT}{mn:Int}{cons:List Con}:Sprop (dU ts mn cons) (zF ts) :=by
 refine⟨by rw [aZE];simp only [dU,aVR];rw [tQ],fun f e=>?_,fun i x d k h hk=>?_⟩
 · obtain⟨m,b,a⟩ :=aJj ts 0 f e;rw [b,show((((0+m:Nat) :Int)).toNat) =m by omega];exact a
 · obtain⟨s,b,m,a,c⟩ :=aZG ts 0 i x d k h hk;exact⟨s,b,by rw [a,show((((0+m:Nat) :Int)).toNat) =m by omega];exact c⟩
theorem aVV {ts:List XT}{mn:Int}{cons:List Con}:rX (dU ts mn cons) :=fun m hm=>by
 simp only [dU,aVR]at hm ⊢;rw [tQ]at hm;rcases aHj ts 0 m hm with a| ⟨j,x,a,b,c⟩
 ·exact .inl ⟨_,a,by omega⟩
 ·exact .inr ⟨j,x,_,a,b,by omega,c⟩
def sR :XT→List Int→XT
 | .mk o n ks ps,to=>if o=4∧0≤n then .mk o (to.getD n.toNat 0) ks ps else .mk o n ks ps
def plc (to:List Int)(n k:Int) :List Int:=to++ (range k.toNat).map (fun i=>n+ ((i:Nat) :Int))
def clB :List XT→XT→XT
 | [],t=>t
 |a::bs,t=>.mk 7 0 [a,clB bs t] []
def clF (f:Flow) :XT:=clB f.binds f.last
mutual
def gQ :XT→List Int→Int→Flow
 | .mk o n ks ps,to,z=>
  if bK (.mk o n ks ps) =true then⟨[],sR (.mk o n ks ps) to⟩
  else if o=7 then flL ks to z
  else⟨(mV ks (bL o ks.length) to z).1,.mk o n ((mV ks (bL o ks.length) to z).2++zB o ps ks 0 (bL o ks.length) to (z+ ((mV ks (bL o ks.length) to z).1.length:Nat))) ps⟩
def flL :List XT→List Int→Int→Flow
 | [],_,_=> ⟨[],dXT⟩
 |a::ks,to,z=> ⟨(gQ a to z).binds++ (gQ a to z).last:: (flB ks (to++ [z+ ((gQ a to z).binds.length:Nat)]) (z+ ((gQ a to z).binds.length+1:Nat))).binds,(flB ks (to++ [z+ ((gQ a to z).binds.length:Nat)]) (z+ ((gQ a to z).binds.length+1:Nat))).last⟩
def flB :List XT→List Int→Int→Flow
 | [],_,_=> ⟨[],dXT⟩
 |b::_,to,z=>gQ b to z
def mV :List XT→Nat→List Int→Int→List XT×List XT
 | [],_,_,_=> ([],[])
 |_::_,0,_,_=> ([],[])
 | k::ks,m+1,to,z=>if bK k=true then((mV ks m to z).1,sR k to:: (mV ks m to z).2)
  else((gQ k to z).binds++ (gQ k to z).last:: (mV ks m to (z+ ((gQ k to z).binds.length+1:Nat))).1,.mk 4 (z+ ((gQ k to z).binds.length:Nat)) [] [] :: (mV ks m to (z+ ((gQ k to z).binds.length+1:Nat))).2)
def zB (o:Int)(ps:List Pat) :List XT→Nat→Nat→List Int→Int→List XT
 | [],_,_,_,_=>[]
 |_::ks,i,m+1,to,n=>zB o ps ks (i+1) m to n
 |k::ks,i,0,to,n=>clF (gQ k (plc to n (bI o ps (i:Int))) (n+bI o ps (i:Int))) ::zB o ps ks (i+1) 0 to n
end
def NdX (p:Prog)(o n:Int)(k:Nat)(ps:List Pat) :Prop:=
 (o=4→0- (p.funs.length:Int) ≤n∧k=0∧ps= []) ∧ (o≠4→aM p ⟨o,n,List.replicate k 0,ps⟩ =true)
mutual
def WX (p:Prog) :XT→Prop
 | .mk o n ks ps=>NdX p o n ks.length ps∧jJ p ks
def jJ (p:Prog) :List XT→Prop
 | [] =>True
 |t::ts=>WX p t∧jJ p ts
end
theorem wxs_iff {p:Prog}:∀ {ts:List XT},jJ p ts↔∀t∈ts,WX p t
 | [] =>by simp [jJ]
 |t::ts=>by simp only [jJ,wxs_iff (ts:=ts),zq7];exact⟨fun h x a=>by rcases a with rfl|a;exact h.1;exact h.2 x a,fun h=> ⟨h t (.inl rfl),fun x a=>h x (.inr a)⟩⟩
theorem atomX_iff {t:XT}:bK t=true↔t.op=1∨t.op=2∨t.op=3∨t.op=4:=by
 unfold bK;simp only [Bool.or_eq_true,decide_eq_true_eq];omega
theorem NdX.atom {p:Prog}{o n:Int}{k:Nat}{ps:List Pat}(h:NdX p o n k ps)(b:o=1∨o=2∨o=3∨o=4) :k=0:=by
 by_cases a:o=4
 ·exact(h.1 a).2.1
 · have:=h.2 a;simp only [aM,cF,decide_eq_true_eq,aAs]at this;have c:=this.2;rcases b with rfl|rfl|rfl|rfl<;>simp [cL]at c<;>omega
theorem NdX.let7 {p:Prog}{o n:Int}{k:Nat}{ps:List Pat}(h:NdX p o n k ps)(c:o=7) :n=0∧ps= [] ∧k=2:=by
 subst c;have:=h.2 (by decide);simp only [aM,dC,bO,cF,decide_eq_true_eq,aAs]at this;obtain⟨⟨⟨b,a⟩,_⟩,d⟩ :=this;simp at b a;simp [cL]at d;exact⟨b,a,by omega⟩
theorem NdX.pats {p:Prog}{o n:Int}{k:Nat}{ps:List Pat}(h:NdX p o n k ps) :∀q∈ps,cB q≤12:=fun q a=>by
 by_cases b:o=4
 ·rw [(h.1 b).2.2]at a;cases a
 · have:=h.2 b;simp only [aM,cF]at this;have:=zq27.1 this.1.2 q a;simp only [eQ,cF,decide_eq_true_eq]at this;exact this.1
theorem aFo {o:Int}{l:Nat}(h:0<bL o l) :¬ (o=1∨o=2∨o=3∨o=4) ∧o≠7∧o≠5∧o≠27:=by
 refine⟨fun a=>?_,fun a=>?_,fun a=>?_,fun a=>?_⟩
 ·rcases a with rfl|rfl|rfl|rfl<;>simp [bL,fK,kP]at h
 all_goals (subst a;simp [bL,fK,kP]at h)
theorem aLO {o:Int}{ps:List Pat}{l i:Nat}(h:i<bL o l) :bI o ps (i:Int) =0:=by
 obtain⟨_,c,d,b⟩ :=aFo (by omega:0<bL o l);unfold bI eR;simp only [c,d,b];by_cases a:o=15
 · subst a;have:i=0:=by simp [bL,fK]at h;exact h
   subst this;simp
 ·simp [a]
theorem getD_ins {a b:List Int}{x:Int}{n:Nat}: (a.length≤n→ (a++x::b).getD (n+1) 0= (a++b).getD n 0) ∧ (n<a.length→ (a++x::b).getD n 0= (a++b).getD n 0) :=by
 simp only [hQ];refine⟨fun h=>?_,fun h=>?_⟩
 ·rw [kR (by omega),kR h,show n+1-a.length= (n-a.length) +1 by omega,lV]
 ·rw [iQ h,iQ h]
theorem bDZ {c o n:Int}{ps:List Pat}{a b:List Int}{x:Int}(hc: (a.length:Int) =c) :sR (.mk o (mvN c 1 o n) [] ps) (a++x::b) =sR (.mk o n [] ps) (a++b) :=by
 have g :∀h,h=mvN c 1 o n→sR (.mk o h [] ps) (a++x::b) =sR (.mk o n [] ps) (a++b) :=by
  intro h d;unfold mvN at d;simp only [sR];by_cases e:o=4
  · by_cases f:0≤n
    · by_cases i:c≤n
      · rw [if_pos ⟨e,f,i⟩]at d;subst d;rw [if_pos ⟨e,by omega⟩,if_pos ⟨e,f⟩,show(n+1).toNat=n.toNat+1 by omega,getD_ins.1 (by omega)]
      · rw [if_neg (by omega)]at d;subst d;rw [if_pos ⟨e,f⟩,if_pos ⟨e,f⟩,getD_ins.2 (by omega)]
    · rw [if_neg (by omega)]at d;subst d;rw [if_neg (by omega),if_neg (by omega)]
  · rw [if_neg (by omega)]at d;subst d;rw [if_neg (by omega),if_neg (by omega)]
 exact g _ rfl
theorem aCB (c:Int) :∀ (t:XT),bK (rS c 1 t) =bK t
 | .mk o n b a=>rfl
theorem WX.kids0 {p:Prog}{o n:Int}{ks:List XT}{ps:List Pat}(h:WX p (.mk o n ks ps))(a:bK (.mk o n ks ps) =true) :ks= [] :=by
 simp only [WX]at h;exact zq35.1 (h.1.atom (atomX_iff.1 a))
theorem aHk {p:Prog}{c:Int}{a b:List Int}{x:Int}(hc: (a.length:Int) =c) :∀ {t:XT},WX p t→bK t=true→sR (rS c 1 t) (a++x::b) =sR t (a++b)
 | .mk o n f g,e,d=>by
  have hk:=e.kids0 d;subst hk;exact bDZ hc
theorem aZH (a b:List Int)(x n k:Int) :plc (a++x::b) n k=a++x::plc b n k∧plc (a++b) n k=a++plc b n k:=by
 unfold plc;simp
section
variable {p :Prog} (c:Int)
mutual
theorem aHl :∀ (t:XT),WX p t→∀ (a:List Int) (x:Int) (b:List Int) (z:Int),(a.length:Int) =c→gQ (rS c 1 t) (a++x::b) z=gQ t (a++b) z
 | .mk o n d g,e,a,x,b,z,hc=>by
  have i:=e;simp only [WX]at e;simp only [rS,gQ];rw [show bK (.mk o (mvN c 1 o n) (dS c 1 d) g) =bK (.mk o n d g)from rfl,kW];by_cases h:bK (.mk o n d g) =true
  · rw [if_pos h,if_pos h];have:=aHk (b:=b) (x:=x) hc i h;simp only [rS]at this;rw [this]
  · rw [if_neg h,if_neg h];by_cases f:o=7
    ·rw [if_pos f,if_pos f];exact bG0 d e.2 a x b z hc
    · rw [if_neg f,if_neg f];have j:mvN c 1 o n=n:=by
       unfold mvN;rw [if_neg];intro k;exact h (atomX_iff.2 (.inr (.inr (.inr k.1))))
      rw [aLP d e.2 _ a x b z hc,aLQ o g d e.2 0 _ a x b _ hc,j]
theorem bG0 :∀ (d:List XT),jJ p d→∀ (a:List Int) (x:Int) (b:List Int) (z:Int),(a.length:Int) =c→flL (dS c 1 d) (a++x::b) z=flL d (a++b) z
 | [],_,_,_,_,_,_=>rfl
 | k::d,e,a,x,b,z,hc=>by
  simp only [jJ]at e;simp only [dS,flL];rw [aHl k e.1 a x b z hc,zq9,zq9,sT,bG1 d e.2 a x _ _ hc]
theorem bG1 :∀ (d:List XT),jJ p d→∀ (a:List Int) (x:Int) (b:List Int) (z:Int),(a.length:Int) =c→flB (dS c 1 d) (a++x::b) z=flB d (a++b) z
 | [],_,_,_,_,_,_=>rfl
 | k::d,e,a,x,b,z,hc=>by
  simp only [jJ]at e;simp only [dS,flB];exact aHl k e.1 a x b z hc
theorem aLP :∀ (d:List XT),jJ p d→∀ (m:Nat) (a:List Int) (x:Int) (b:List Int) (z:Int),(a.length:Int) =c→mV (dS c 1 d) m (a++x::b) z=mV d m (a++b) z
 | [],_,_,_,_,_,_,_=>by simp only [dS,mV]
 |k::d,_,0,_,_,_,_,_=>by simp only [dS,mV]
 | k::d,e,m+1,a,x,b,z,hc=>by
  simp only [jJ]at e;simp only [dS,mV];rw [aCB];by_cases h:bK k=true
  ·rw [if_pos h,if_pos h,aLP d e.2 m a x b z hc,aHk hc e.1 h]
  ·rw [if_neg h,if_neg h,aHl k e.1 a x b z hc,aLP d e.2 m a x b _ hc]
theorem aLQ (o:Int)(ps:List Pat) :∀ (d:List XT),jJ p d→∀ (i m:Nat) (a:List Int) (x:Int) (b:List Int) (n:Int),(a.length:Int) =c→zB o ps (dS c 1 d) i m (a++x::b) n=zB o ps d i m (a++b) n
 | [],_,_,_,_,_,_,_,_=>by simp only [dS,zB]
 | k::d,e,i,m+1,a,x,b,n,hc=>by
  simp only [jJ]at e;simp only [dS,zB];exact aLQ o ps d e.2 (i+1) m a x b n hc
 | k::d,e,i,0,a,x,b,n,hc=>by
  simp only [jJ]at e;simp only [dS,zB];rw [(aZH a b x n _).1,(aZH a b x n _).2,aHl k e.1 a x _ _ hc,aLQ o ps d e.2 (i+1) 0 a x b n hc]
end
end
theorem qS :∀ {a:List XT} {i m k:Nat},cX a i m=some k→∃j x,k=i+j∧j<m∧a[j]?=some x∧bK x=false
 | [],i,m,k,h=>by simp [cX]at h
 |_::_,i,0,k,h=>by simp [cX]at h
 | t ::a,i,m+1,k,h=>by
  simp only [cX]at h;split at h
  · obtain⟨j,x,f,e,c,d⟩ :=qS h;exact⟨j+1,x,by omega,by omega,by simpa using c,d⟩
  · rename_i b;cases h;exact⟨0,t,rfl,by omega,rfl,by simpa using b⟩
theorem aZI {p:Prog}:∀ (e:List XT) (m i j:Nat),jJ p e→cX e i m=some (i+j) →∀ (d:List Int) (z:Int),
  mV e m d z= ((gQ (e.getD j dXT) d z).binds++ (gQ (e.getD j dXT) d z).last::
    (mV ((dS (d.length:Int) 1 e).set j (.mk 4 (d.length:Int) [] [])) m (d++ [z+ ((gQ (e.getD j dXT) d z).binds.length:Nat)]) (z+ ((gQ (e.getD j dXT) d z).binds.length+1:Nat))).1,
   (mV ((dS (d.length:Int) 1 e).set j (.mk 4 (d.length:Int) [] [])) m (d++ [z+ ((gQ (e.getD j dXT) d z).binds.length:Nat)]) (z+ ((gQ (e.getD j dXT) d z).binds.length+1:Nat))).2)
 | [],m,i,j,_,h,_,_=>by simp [cX]at h
 |_::_,0,i,j,_,h,_,_=>by simp [cX]at h
 | k ::e,m+1,i,j,g,h,d,z=>by
  simp only [jJ]at g;simp only [cX]at h;by_cases f:bK k=true
  · rw [if_pos f]at h;obtain⟨l,x,s,_,_,_⟩ :=qS h;obtain rfl:j=l+1:=by omega
    have r:=aZI e m (i+1) l g.2 (by rw [h];congr 1) d z;simp only [getD_cons_succ,dS,set_cons_succ,mV];rw [if_pos f,aCB,if_pos f];have n:=aHk (c:= (d.length:Int)) (a:=d) (b:=[]) (x:=z+ ((gQ (e.getD l dXT) d z).binds.length:Nat)) rfl g.1 f;rw [oS]at n;rw [n,r]
  · rw [if_neg f]at h;obtain rfl:j=0:=by simp only [Option.some.injEq]at h;omega
    simp only [getD_cons_zero,dS,set_cons_zero,mV];rw [if_neg f];have q:bK (.mk 4 (d.length:Int) [] []) =true:=rfl;rw [if_pos q];have hm:=aLP (c:= (d.length:Int)) e g.2 m d (z+ ((gQ k d z).binds.length:Nat)) [] (z+ ((gQ k d z).binds.length+1:Nat)) rfl;rw [oS]at hm;rw [hm];have o:sR (.mk 4 (d.length:Int) [] []) (d++ [z+ ((gQ k d z).binds.length:Nat)]) = .mk 4 (z+ ((gQ k d z).binds.length:Nat)) [] [] :=by
     simp only [sR];rw [if_pos ⟨trivial,Int.natCast_nonneg _⟩,len_nat',hQ,kR (le_refl _)];simp
    rw [o]
where len_nat' {d:List Int}: ((d.length:Nat) :Int).toNat=d.length:=oM _
theorem aLR (o:Int)(ps:List Pat) :∀ (a:List XT) (i m j:Nat) (v:XT) (b:List Int) (n:Int),j<m→zB o ps (a.set j v) i m b n=zB o ps a i m b n
 | [],_,_,_,_,_,_,_=>rfl
 |k::a,i,m+1,0,v,b,n,_=>by simp only [set_cons_zero,zB]
 | k::a,i,m+1,j+1,v,b,n,h=>by
  simp only [set_cons_succ,zB];exact aLR o ps a (i+1) m j v b n (by omega)
theorem aHm :∀ (a:List XT) (m j:Nat) (v:XT) (b:List Int) (z:Int),m≤j→mV (a.set j v) m b z=mV a m b z
 | [],_,_,_,_,_,_=>rfl
 |k::a,0,0,v,b,z,_=>by simp only [set_cons_zero,mV]
 |k::a,0,j+1,v,b,z,_=>by simp only [set_cons_succ,mV]
 | k::a,m+1,j+1,v,b,z,h=>by
  simp only [set_cons_succ,mV];rw [aHm a m j v b z (by omega),aHm a m j v b _ (by omega)]
theorem aHn :∀ (b:List XT) (m j:Nat) (t v:XT) (a:List Int) (z:Int),b[j]?=some t→bK t=false→bK v=false→ (∀z,gQ v a z=gQ t a z) →mV (b.set j v) m a z=mV b m a z
 | [],_,_,_,_,_,_,h,_,_,_=>by simp at h
 |k::b,0,0,t,v,a,z,_,_,_,_=>by simp only [set_cons_zero,mV]
 |k::b,0,j+1,t,v,a,z,_,_,_,_=>by simp only [set_cons_succ,mV]
 | k::b,m+1,0,t,v,a,z,h,e,d,c=>by
  simp only [lF,Option.some.injEq]at h;subst h;simp only [set_cons_zero,mV];rw [e,d,c];simp
 | k::b,m+1,j+1,t,v,a,z,h,e,d,c=>by
  simp only [lV]at h;simp only [set_cons_succ,mV];rw [aHn b m j t v a z h e d c,aHn b m j t v a _ h e d c]
theorem aHo (o:Int)(ps:List Pat) :∀ (b:List XT) (i m j:Nat) (t v:XT) (a:List Int) (n:Int),b[j]?=some t→m≤j→ (gQ v (plc a n (bI o ps ((i+j:Nat) :Int))) (n+bI o ps ((i+j:Nat) :Int)) =gQ t (plc a n (bI o ps ((i+j:Nat) :Int))) (n+bI o ps ((i+j:Nat) :Int))) →
  zB o ps (b.set j v) i m a n=zB o ps b i m a n
 | [],_,_,_,_,_,_,_,h,_,_=>by simp at h
 | k::b,i,m+1,j+1,t,v,a,n,h,hm,c=>by
  simp only [lV]at h;simp only [set_cons_succ,zB];exact aHo o ps b (i+1) m j t v a n h (by omega) (by rw [show i+1+j=i+ (j+1)by omega];exact c)
 | k::b,i,0,0,t,v,a,n,h,hm,c=>by
  simp only [lF,Option.some.injEq]at h;subst h;simp only [set_cons_zero,zB];rw [Nat.add_zero]at c;rw [c]
 | k::b,i,0,j+1,t,v,a,n,h,hm,c=>by
  simp only [lV]at h;simp only [set_cons_succ,zB];rw [aHo o ps b (i+1) 0 j t v a n h (zero_le _) (by rw [show i+1+j=i+ (j+1)by omega];exact c)]
theorem aZJ {p:Prog}:∀ (t:XT),WX p t→∀ (s:Option Nat),cY t=some s→∀ (d:List Int) (z:Int),gQ (gW (d.length:Int) s t) d z=gQ t d z
 | .mk o n g C,f,some k,e,d,z=>by
  have F:=f;simp only [WX]at f;simp only [cY]at e;by_cases l:o=7
  · rw [if_pos l]at e;split at e
    ·split at e<;>cases e
    ·cases e
  rw [if_neg l]at e;cases q:cX g 0 (bL o g.length)with
  |none=>rw [q]at e;cases e
  | some B=>
   rw [q]at e;simp only [map_some,Option.some.injEq]at e;subst e;obtain⟨j,x,H,O,S,M⟩ :=qS q;obtain rfl:B=j:=by omega
   have v:0<bL o g.length:=by omega
   obtain⟨G,_⟩ :=aFo v;have A:∀I i,¬bK (.mk o I i C) =true:=fun I i h=>G (atomX_iff.1 h);have hd:=aZI g (bL o g.length) 0 B f.2 (by rw [q,eX]) d z;simp only [gW,dnT];rw [←mL]
   conv=>rhs;rw [gQ,if_neg (A n g),if_neg l]
   rw [gQ,if_neg (by simp [bK,XT.op]),if_pos rfl,flL,flB,gQ,if_neg (A _ _),if_neg l];rw [eG,kW];have hr:=aLQ (c:= (d.length:Int)) o C g f.2 0 (bL o g.length) d (z+ ((gQ (g.getD B dXT) d z).binds.length:Nat)) [];rw [oS]at hr;rw [hd];simp only;rw [aLR _ _ _ _ _ _ _ _ _ O,hr _ rfl];congr 4;simp only [wT,oK];omega
 | .mk o n g C,f,none,e,d,z=>by
  have F:=f;simp only [WX]at f;simp only [cY]at e;by_cases l:o=7
  · obtain⟨_,_,hl⟩ :=f.1.let7 l;rw [if_pos l]at e
    match g,hl,f,e with
    | [.mk L Q J R,c],_,f,e=>
     simp only [lF,XT.op]at e;by_cases r:L=7
     · simp only [jJ,WX]at f;obtain⟨_,_,D⟩ :=f.2.1.1.let7 r
       match J,D,f with
       | [a,b],_,f=>
        subst l r;simp only [gW,getD_cons_zero,getD_cons_succ,XT.kids,neT];have K:∀m i u,¬bK (.mk 7 m i u) =true:=fun m i u=>by simp [bK,XT.op]
        simp only [gQ,K,if_false,if_true,flL,flB];have hm:=fun y w=>aHl (c:= (d.length:Int)) c f.2.2.1 d y [w];simp only [zq9,sT,qW,wT,oK];rw [hm _ _ _ rfl];have H:z+ (((gQ a d z).binds.length+1:Nat) :Int) + ((gQ b (d++ [z+ ((gQ a d z).binds.length:Nat)]) (z+ (((gQ a d z).binds.length+1:Nat) :Int))).binds.length:Nat) =z+ (((gQ a d z).binds.length+ ((gQ b (d++ [z+ ((gQ a d z).binds.length:Nat)]) (z+ (((gQ a d z).binds.length+1:Nat) :Int))).binds.length+1) :Nat) :Int) :=by omega
        have N:z+ (((gQ a d z).binds.length+1:Nat) :Int) + (((gQ b (d++ [z+ ((gQ a d z).binds.length:Nat)]) (z+ (((gQ a d z).binds.length+1:Nat) :Int))).binds.length+1:Nat) :Int) =z+ (((gQ a d z).binds.length+ ((gQ b (d++ [z+ ((gQ a d z).binds.length:Nat)]) (z+ (((gQ a d z).binds.length+1:Nat) :Int))).binds.length+1) +1:Nat) :Int) :=by omega
        rw [H,N];simp only [tZ,if_false,zq9,sT,wT,oK]
     ·simp [r]at e
  · rw [if_neg l]at e;cases q:cX g 0 (bL o g.length)with
    |none=>rw [q]at e;cases e
    |some B=>rw [q]at e;cases e
theorem wQ (ps:List Pat) :bI 7 ps 0=0∧bI 7 ps 1=1:=by
 constructor<;>simp [bI,eR]
mutual
def rA :XT→Int→Prop
 | .mk o n ks ps,z=> (o=4→n<z) ∧qT o ps ks 0 z
def qT (o:Int)(ps:List Pat) :List XT→Nat→Int→Prop
 | [],_,_=>True
 |t::ts,i,z=>rA t (z+bI o ps (i:Int)) ∧qT o ps ts (i+1) z
end
theorem scxs_iff {o:Int}{ps:List Pat}:∀ {ts:List XT} {i:Nat} {z:Int},qT o ps ts i z↔∀ (j:Nat) (t:XT),ts[j]?=some t→rA t (z+bI o ps ((i+j:Nat) :Int))
 | [],i,z=>by simp [qT]
 | t ::ts,i,z=>by
  simp only [qT,scxs_iff (ts:=ts)];refine⟨fun h j x a=>?_,fun h=> ⟨h 0 t rfl,fun j x a=>?_⟩⟩
  · cases j with
    |zero=>simp only [lF,Option.some.injEq]at a;subst a;exact h.1
    |succ j=>rw [show i+ (j+1) =i+1+j by omega];exact h.2 j x (by simpa using a)
  · have:=h (j+1) x (by simpa using a);rw [show i+ (j+1) =i+1+j by omega]at this;exact this
theorem aOI {node o:Int}{ps:List Pat}:∀ {b:List XT} {i:Nat} {n z:Int} {a:List XT},iL node o ps b i n z= .did a→∃ (j:Nat) (t d:XT) (c:Int),b[j]?=some t∧a=b.set j d∧atT node t c (z+bI o ps ((i+j:Nat) :Int)) = .did d
 | [],i,n,z,a,h=>by simp only [iL]at h;cases h
 | t ::b,i,n,z,a,h=>by
  simp only [iL]at h;split at h
  · rename_i m e;split at h
    ·cases h
    ·cases h
    · rename_i f l;cases h;obtain⟨j,x,r,c,q,p,g⟩ :=aOI l;exact⟨j+1,x,r,c,by simpa using q,by rw [p];rfl,by rw [show i+ (j+1) =i+1+j by omega];exact g⟩
  ·cases h
  · rename_i k e;cases h;exact⟨0,t,k,n,rfl,rfl,e⟩
theorem aTh {node o n l c:Int}{ks:List XT}{ps:List Pat}{g:XT}(h:atT node (.mk o n ks ps) l c= .did g) :
  (∃s,cY (.mk o n ks ps) =some s∧g=gW c s (.mk o n ks ps)) ∨∃ (j:Nat) (d t2':XT) (b:Int),ks[j]?=some d∧g= .mk o n (ks.set j t2') ps∧atT node d b (c+bI o ps (j:Int)) = .did t2':=by
 have a: (match iL node o ps ks 0 (l+1) c with
   | .go m=>AtR.go m
   | .past=>.past
   | .did f=>.did (XT.mk o n f ps)) = .did g→∃ (j:Nat) (d t2':XT) (b:Int),ks[j]?=some d∧g= .mk o n (ks.set j t2') ps∧atT node d b (c+bI o ps (j:Int)) = .did t2':=fun i=>by
  split at i
  ·cases i
  ·cases i
  · rename_i f e;cases i;obtain⟨j,x,q,b,t,r,k⟩ :=aOI e;rw [eX]at k;exact⟨j,x,q,b,t,by rw [r],k⟩
 rw [atT]at h;split at h
 · rename_i s p;split at h
   ·cases h;exact .inl ⟨s,p,rfl⟩
   · split at h
     ·cases h
     ·exact .inr (a h)
 ·exact .inr (a h)
theorem aAl :∀ {ts:List XT} {j:Nat} {t:XT},ts[j]?=some t→cK t≤aD ts
 | [],j,t,h=>by simp at h
 |x::ts,0,t,h=>by simp at h;subst h;simp only [aD];omega
 | x::ts,j+1,t,h=>by
  have:=aAl (ts:=ts) (j:=j) (t:=t) (by simpa using h);simp only [aD];omega
theorem aCC {p:Prog}:∀ {t:XT} {s:Option Nat},WX p t→cY t=some s→bK t=false
 | .mk o n b d,s,c,h=>by
  cases a:bK (.mk o n b d)
  case false=>rfl
  have hk:=c.kids0 a;subst hk;simp only [cY]at h;split at h
  ·simp at h
  ·simp [cX]at h
theorem aLS {sz:Int}:∀ (t:XT) (s:Option Nat),bK (gW sz s t) =false
 | .mk o n b a,some k=>by simp [gW,dnT,bK,XT.op]
 | .mk o n b a,none=>by simp [gW,neT,bK,XT.op]
theorem bD0 (to:List Int)(n k:Int) : (plc to n k).length=to.length+k.toNat:=by simp [plc]
theorem bFz {p:Prog}{node:Int}:∀ (k:Nat) (t:XT),cK t≤k→WX p t→∀ (D:Int) (c:List Int) (w:XT),atT node t D (c.length:Int) = .did w→ (∀z,gQ w c z=gQ t c z) ∧bK t=false∧bK w=false
 |0,.mk o n f ps,hk,_,_,_,_,_=>by simp only [cK]at hk;omega
 | k + 1,.mk o n f ps,hk,l,D,c,w,h=>by
  simp only [cK]at hk;rcases aTh h with⟨s,C,rfl⟩ | ⟨j,v,e,G,d,rfl,I⟩
  ·exact⟨fun z=>aZJ _ l s C c z,aCC l C,aLS _ _⟩
  · have y:=l;simp only [WX]at l;have K:=aAl d;have A:=wxs_iff.1 l.2 v (iO d)
    have g:∀i,bK (.mk o n i ps) =false:=fun i=>by
     cases B:bK (.mk o n i ps)
     case false=>rfl
     have:=y.kids0 (show bK (.mk o n f ps) =true from B);subst this;simp at d
    have x:=fun(r:List Int) (he: (r.length:Int) = (c.length:Int) +bI o ps (j:Int)) =>bFz k v (by omega) A G r e (by rw [he];exact I);refine⟨fun z=>?_,g f,g _⟩;rw [gQ,gQ,g,g];simp only [tZ,if_false];have J:=qL (o:=o) (ps:=ps) (fun q F=>by have:=l.1.pats q F;omega) (j:Int);by_cases m:o=7
    · rw [if_pos m,if_pos m];obtain⟨_,_,hl⟩ :=l.1.let7 m;subst m
      match f,hl,j,d with
      | [a,b],_,0,d=>
       simp only [lF,Option.some.injEq]at d;subst d;obtain⟨u,_,_⟩ :=x c (by rw [natCast_zero,(wQ ps).1];omega);simp only [set_cons_zero,flL];rw [u]
      | [a,b],_,1,d=>
       simp only [lV,lF,Option.some.injEq]at d;subst d;simp only [set_cons_succ,set_cons_zero,flL,flB];rw [(x (c++ [z+ ((gQ a c z).binds.length:Nat)]) (by rw [show(((1:Nat)) :Int) =1 from rfl,(wQ ps).2];simp)).1]
      | [a,b],_,j+2,d=>simp at d
    · rw [if_neg m,if_neg m,eG];by_cases hm:j<bL o f.length
      · have H:=aLO (ps:=ps) hm;have u:=x c (by rw [H];omega);rw [aHn f _ j v e c z d u.2.1 u.2.2 u.1,aLR o ps f 0 _ j e c _ hm]
      · rw [aHm f _ j e c z (by omega),aHo o ps f 0 _ j v e c _ d (by omega)];rw [eX];exact(x (plc c _ (bI o ps (j:Int))) (by rw [bD0];omega)).1 _
theorem NdX.let0 (p:Prog) :NdX p 7 0 2 [] := ⟨fun h=>absurd h (by decide),fun _=>by simp [aM,dC,bO,cL]⟩
theorem NdX.name0 (p:Prog){n:Int}(h:0≤n) :NdX p 4 n 0 [] := ⟨fun _=> ⟨by omega,rfl,rfl⟩,fun h=>absurd rfl h⟩
theorem NdX.mv {p:Prog}{o n c:Int}{k:Nat}{ps:List Pat}(h:NdX p o n k ps) :NdX p o (mvN c 1 o n) k ps:=by
 by_cases a:o=4
 · have:=h.1 a;exact⟨fun _=> ⟨by unfold mvN;split<;>omega,this.2⟩,fun h=>absurd a h⟩
 · have b:mvN c 1 o n=n:=by unfold mvN;rw [if_neg (by omega)]
   rw [b];exact h
mutual
theorem bFA {p:Prog}(c:Int) :∀ {t:XT},WX p t→WX p (rS c 1 t)
 | .mk o n b a,h=>by
  simp only [WX,rS]at h ⊢;rw [kW];exact⟨h.1.mv,aRI c h.2⟩
theorem aRI {p:Prog}(c:Int) :∀ {a:List XT},jJ p a→jJ p (dS c 1 a)
 | [],_=>trivial
 |t::a,h=>by simp only [jJ,dS]at h ⊢;exact⟨bFA c h.1,aRI c h.2⟩
end
mutual
theorem bFB (c:Int) :∀ {t:XT} {z:Int},rA t z→rA (rS c 1 t) (z+1)
 | .mk o n b d,z,h=>by
  simp only [rA,rS]at h ⊢;refine⟨fun a=>?_,aRJ c h.2⟩;have:=h.1 a;unfold mvN;split<;>omega
theorem aRJ (c:Int){o:Int}{ps:List Pat}:∀ {a:List XT} {i:Nat} {z:Int},qT o ps a i z→qT o ps (dS c 1 a) i (z+1)
 | [],_,_,_=>trivial
 | t::a,i,z,h=>by
  simp only [qT,dS]at h ⊢;refine⟨?_,aRJ c h.2⟩;have:=bFB c h.1;rw [show z+1+bI o ps (i:Int) =z+bI o ps (i:Int) +1 by omega];exact this
end
theorem aTi {p:Prog}{ts:List XT}{i:Nat}{t:XT}(h:jJ p ts)(a:WX p t) :jJ p (ts.set i t) :=wxs_iff.2 fun x b=>by
 rcases List.mem_or_eq_of_mem_set b with g|g
 ·exact wxs_iff.1 h x g
 ·rw [g];exact a
theorem aTj {o:Int}{ps:List Pat}{ts:List XT}{i j:Nat}{t:XT}{z:Int}(h:qT o ps ts i z)(c:rA t (z+bI o ps ((i+j:Nat) :Int))) :qT o ps (ts.set j t) i z:=scxs_iff.2 fun k x a=>by
 by_cases e:j=k
 · subst e;rw [List.getElem?_set]at a;split at a
   · split at a
     ·simp only [Option.some.injEq]at a;rw [←a];exact c
     ·cases a
   ·rename_i b;exact absurd rfl b
 · rw [List.getElem?_set_ne e]at a;exact scxs_iff.1 h k x a
theorem bD1 {p:Prog}{z:Int}(hz:0≤z) :∀ {t:XT} {s:Option Nat},WX p t→rA t z→cY t=some s→WX p (gW z s t) ∧rA (gW z s t) z
 | .mk o n g ps,some k,f,d,e=>by
  simp only [WX]at f;simp only [rA]at d;simp only [cY]at e;by_cases i:o=7
  · rw [if_pos i]at e;split at e
    ·split at e<;>cases e
    ·cases e
  rw [if_neg i]at e;cases m:cX g 0 (bL o g.length)with
  |none=>rw [m]at e;cases e
  | some v=>
   rw [m]at e;simp only [map_some,Option.some.injEq]at e;subst e;obtain⟨j,x,G,F,w,D⟩ :=qS m;obtain rfl:v=j:=by omega
   obtain⟨u,_⟩ :=aFo (show 0<bL o g.length by omega);have y:=aLO (ps:=ps) F;simp only [gW,dnT,rV w];rw [←mL];have q:=scxs_iff.1 d.2 v x w;rw [eX,y,add_zero]at q;constructor
   · simp only [WX,jJ];refine⟨NdX.let0 p,wxs_iff.1 f.2 x (iO w),⟨?_,aTi (aRI z f.2) (by simp only [WX,jJ];exact⟨NdX.name0 p hz,trivial⟩)⟩,trivial⟩;rw [eG,kW];exact f.1
   · simp only [rA,qT];refine⟨fun h=>absurd h (by decide),by rw [natCast_zero,(wQ []).1,add_zero];exact q,?_,trivial⟩;rw [show(((0+1:Nat)) :Int) =1 from rfl,(wQ []).2];refine⟨fun h=>absurd (.inr (.inr (.inr h))) u,aTj (aRJ z d.2) ?_⟩;rw [eX,y];simp only [rA,qT];exact⟨fun _=>by omega,trivial⟩
 | .mk o n g ps,none,f,d,e=>by
  simp only [WX]at f;simp only [rA]at d;simp only [cY]at e;by_cases i:o=7
  · obtain ⟨_,_,hl⟩ :=f.1.let7 i;rw [if_pos i]at e
    match g,hl,f,d,e with
    | [.mk C H B A,c],_,f,d,e=>
     simp only [lF,XT.op]at e;by_cases l:C=7
     · simp only [jJ,WX]at f;obtain⟨_,_,r⟩ :=f.2.1.1.let7 l
       match B,r,f,d with
       | [a,b],_,f,d=>
        subst i l;simp only [jJ]at f;simp only [qT,rA]at d;rw [natCast_zero,show(((0+1:Nat)) :Int) =1 from rfl,(wQ ps).1,(wQ ps).2,(wQ A).1,(wQ A).2,add_zero,add_zero]at d;simp only [gW,getD_cons_zero,getD_cons_succ,XT.kids,neT];constructor
        · simp only [WX,jJ];exact⟨NdX.let0 p,f.2.1.2.1,⟨NdX.let0 p,f.2.1.2.2.1,bFA z f.2.2.1,trivial⟩,trivial⟩
        · simp only [rA,qT];rw [natCast_zero,show(((0+1:Nat)) :Int) =1 from rfl,(wQ []).1,(wQ []).2,add_zero,add_zero];exact⟨fun h=>absurd h (by decide),d.2.1.2.1,⟨fun h=>absurd h (by decide),d.2.1.2.2.1,bFB z d.2.2.1,trivial⟩,trivial⟩
     ·simp [l]at e
  · rw [if_neg i]at e;cases m:cX g 0 (bL o g.length)with
    |none=>rw [m]at e;cases e
    |some v=>rw [m]at e;cases e
theorem bFC {p:Prog}{node:Int}:∀ (k:Nat) (t:XT),cK t≤k→WX p t→∀ (i z:Int),0≤z→rA t z→∀ (c:XT),atT node t i z= .did c→WX p c∧rA c z
 |0,.mk o n l ps,hk,_,_,_,_,_,_,_=>by simp only [cK]at hk;omega
 | k +1,.mk o n l ps,hk,b,i,z,hz,a,c,h=>by
  simp only [cK]at hk;rcases aTh h with⟨s,v,rfl⟩ | ⟨j,d,e,r,f,rfl,w⟩
  ·exact bD1 hz b a v
  · simp only [WX]at b;simp only [rA]at a;have A:=aAl f;have y:=qL (o:=o) (ps:=ps) (fun q m=>by have:=b.1.pats q m;omega) (j:Int);have g:=scxs_iff.1 a.2 j d f;rw [eX]at g;obtain⟨u,x⟩ :=bFC k d (by omega) (wxs_iff.1 b.2 d (iO f)) r _ (by omega) g e w;simp only [WX,rA];rw [eG];exact⟨⟨b.1,aTi b.2 u⟩,a.1,aTj a.2 (by rw [eX];exact x)⟩
abbrev FIl (s1:LoopState)(p1:Option Code)(ts:List XT)(mn:Int)(cs:List Con)(nf:Int) :HL:=[(0,(.loop s1 p1 93 (dO [(2,(.ptr 6 0))]) 19 [6] (cd Tryz.f93 [1,1,0,0]) (cd Tryz.f93 [1,1,0,1]) 2),false),(1,(.cells (putCells .leaf 0 [(.iptr [(.ilst 1 (XTs.av ts) false),(.int .i64 mn),(.ilst 2 (map Con.av cs) false)])]) 1 [] false),false),(2,(.defd false),false),(3,(.cells (putCells .leaf 0 [(.int .i64 nf)]) 1 [] false),false),(4,(.loop s1 p1 47 (dO [(2,(.ptr 3 0))]) 9 [6] (cd Tryz.f47 [1,0,1,0,0]) (cd Tryz.f47 [1,0,1,0,1]) 5),false),(5,(.defd false),false),(6,(.cells (putCells .leaf 0 [(.yield 4)]) 1 [] false),false)]
theorem aCD {o n:Int}{ks:List XT}{ps:List Pat}(a:Int)(h:cY (.mk o n ks ps) =none) :stT (.mk o n ks ps) a=eW ks (a+1) :=by rw [stT,h];rfl
theorem aCE {o n:Int}{ks:List XT}{ps:List Pat}{s:Option Nat}(a:Int)(h:cY (.mk o n ks ps) =some s) :stT (.mk o n ks ps) a=a::eW ks (a+1) :=by rw [stT,h];rfl
section
variable (F :List XT) (mn:Int) (cs:List Con) (B:Int)
mutual
theorem aTk :∀ (t:XT),FineX B t→∀ (b c:Int),0≤b→b+ (cK t:Nat) ≤1000000→0≤c→c+1000* (cK t:Nat) ≤1000000000 →
  (stT t b= [] →gI PP 7 (.enter 136 [.agg [.int .i64 b,.int .i64 c,.iptr [XT.av t]],.yield 0]) (aA (FIl .ready none F mn cs 0) 7) (.ret (.int .i64 (b+ (cK t:Nat)))) (aA (FIl .ready none F mn cs 0) 7)) ∧
  (∀a l,stT t b=a::l→gI PP 7 (.enter 136 [.agg [.int .i64 b,.int .i64 c,.iptr [XT.av t]],.yield 0]) (aA (FIl .ready none F mn cs 0) 7) (.ret (.int .i64 (-1))) (aA (FIl .done (some .ret) F mn cs a) 7))
 | .mk o n d f,j,b,c,z,x,r,q=>by
  have g:=aOi j;simp only [FineX]at j;obtain⟨_,v,u,p,y,A,w⟩ :=j;simp only [cK]at x q;have e:dW PP (aA (FIl .ready none F mn cs 0) 7) (.enter 136 [.agg [.int .i64 b,.int .i64 c,.iptr [XT.av (.mk o n d f)]],.yield 0]) =some (aY6 F mn cs b c o n d f).as.fr:=by kernel_rfl
  cases i:cY (.mk o n d f)
  case some s=>
   rw [i]at g;rw [aCE b i];refine⟨fun h=> (by cases h),fun a l h=>?_⟩;simp only [List.cons.injEq]at h;rw [←h.1];cases s with
   |none=>exact⟨_,e,aY9 F mn cs b c o n d f g⟩
   |some k=>exact⟨_,e,aY8 F mn cs b c o n d f _ g⟩
  rw [i]at g;rw [aCD b i];have st:=aZa F mn cs b c o n d f g sd;have m:=aTl b c o n d f v u p r d 0 (b+1) rfl w (by omega) (by omega) (by omega);simp only [cK];refine⟨fun h=> ⟨_,e,?_⟩,fun a l h=> ⟨_,e,st.ends (m.2 a l h)⟩⟩;have:=st.ends (m.1 h);rw [show b+1+ ((aD d:Nat) :Int) =b+ ((aD d+1:Nat) :Int)by omega]at this;exact this
theorem aTl (g d:Int)(o n:Int)(ks:List XT)(ps:List Pat)(K:ks.length≤1000)(w:∀q∈ps,cB q≤1000)(x:o=15→ks.length=1+ps.length)(h2:0≤d) :
  ∀ (f:List XT) (i:Nat) (c:Int),ks.drop i=f→FineXs B f→0≤c→c+ (aD f:Nat) ≤1000000→d+1000+1000* (aD f:Nat) ≤1000000000 →
  (eW f c= [] →Ends PP 7 (aCx F mn cs g d o n ks ps c (i:Int)).as (.ret (.int .i64 (c+ (aD f:Nat)))) (aA (FIl .ready none F mn cs 0) 7)) ∧
  (∀a l,eW f c=a::l→Ends PP 7 (aCx F mn cs g d o n ks ps c (i:Int)).as (.ret (.int .i64 (-1))) (aA (FIl .done (some .ret) F mn cs a) 7))
 | [],i,c,h,_,_,_,_=>by
  have:=bJ h;simp only [eW,aD];refine⟨fun _=>?_,fun a l h=> (by cases h)⟩;have e:=aZd F mn cs g d o n ks ps c (i:Int) sd;rw [show c+ ((0:Nat) :Int) =c by omega];exact e
 | .mk p r k j::f,i,c,h,t,H,A,z=>by
  obtain⟨N,J,M⟩ :=bE h;simp only [FineXs]at t;simp only [aD]at A z ⊢;have Q:=qL (o:=o) w (i:Int);have C:IntKind.i64.wrap (d+bI o ps (i:Int)) =d+bI o ps (i:Int) :=wrap64 (by omega) (by omega)
  have G:o=15→0< (i:Int) →∃q,ps[((i:Int) -1).toNat]?=some q:=fun v L=>by
   have:=x v;exact⟨_,kH (by omega)⟩
  have u:=aTk (.mk p r k j) t.1 c (d+bI o ps (i:Int)) H (by omega) (by omega) (by omega);have D:=aOs o n ks ps w (i:Int) ⟨by omega,by omega⟩ G;simp only [eW];generalize R:cK (.mk p r k j) =s at u A z ⊢;cases hz:stT (.mk p r k j) c
  case cons a l=>
   refine⟨fun h=> (by cases h),fun b O h=>?_⟩;simp only [sT,List.cons.injEq]at h;rw [←h.1];exact aZb F mn cs g d o n ks ps c (i:Int) _ p r k j a sd D sd sd (bCq C (wP (m:=7) (ks:=[0,1,2,3,4,5,6]) (u.2 a l hz) aC aC trivial trivial))
  rw [qW];have st:=aZc F mn cs g d o n ks ps c (i:Int) _ p r k j (c+ (s:Nat)) sd D sd sd (bCq C (wP (m:=7) (ks:=[0,1,2,3,4,5,6]) (u.1 hz) aC aC trivial trivial)) (by simp;omega) sd;have y:=aTl g d o n ks ps K w x h2 f (i+1) (c+ (s:Nat)) J t.2 (by omega) (by omega) (by omega);refine⟨fun h=>?_,fun a l h=>st.ends (y.2 a l h)⟩;have I:=st.ends (y.1 h);rw [show c+ ((s+aD f:Nat) :Int) =c+ (s:Nat) + ((aD f:Nat) :Int)by omega];exact I
end
end
def wG (ts:List XT) :Int:= (eW ts 0).headD (-1)
theorem aHp (ts:List XT)(mn:Int)(cs:List Con)(B:Int)(hl:ts.length≤1000) :∀ (b:List XT) (i:Nat) (n:Int),ts.drop i=b→FineXs B b→0≤n→n+ (aD b:Nat) ≤100000 →
  Ends PP 0 (aLz ts mn cs n (i:Int)).as (.ret (.int .i64 ((eW b n).headD (-1)))) (aA [] 0)
 | [],i,n,h,_,_,_=>by
  have:=bJ h;exact bDm ts mn cs n (i:Int) sd
 | .mk e f d c::b,i,n,h,j,p,o=>by
  obtain⟨s,q,r⟩ :=bE h;simp only [FineXs]at j;simp only [aD]at o;have g:=aTk ts mn cs B (.mk e f d c) j.1 n 1 p (by omega) (by omega) (by omega);simp only [eW];generalize t:cK (.mk e f d c) =k at g o ⊢;cases hz:stT (.mk e f d c) n
  case cons a l=>exact bDk ts mn cs n (i:Int) e f d c a sd sd sd (wP (m:=7) (ks:=[0,1,2,3,4,5,6]) (g.2 a l hz) aC aC trivial trivial)
  rw [qW]
  exact(bDl ts mn cs n (i:Int) e f d c (n+ (k:Nat)) sd sd sd (wP (m:=7) (ks:=[0,1,2,3,4,5,6]) (g.1 hz) aC aC trivial trivial) (by simp;omega) sd).ends
   (aHp ts mn cs B hl b (i+1) (n+ (k:Nat)) q j.2 (by omega) (by omega))
theorem aRK (ts:List XT)(mn:Int)(cs:List Con)(B:Int)(hl:ts.length≤1000)(a:FineXs B ts)(b:aD ts≤100000) :aJ PP 47 [fvA ts mn cs] (.int .i64 (wG ts)) :=by
 refine aO aC (by simp [AV.keylessL,AV.keyless,fvA]) rfl ((bDj ts mn cs).ends ?_);exact aHp ts mn cs B hl ts 0 0 rfl a (by omega) (by omega)
theorem aHq {ts:List XT}{mn:Int}{cs:List Con}{B:Int}{h:Hp}{k q z n:Nat}(hl:ts.length≤1000)(d:FineXs B ts)(b:aD ts≤100000)(hk:h.look k=some (fhC q n mn cs))(hz:h.look z=some (.zone true [q] (cQ ts)))(e:n=ts.length) :
  Spec PP (.enter 47 [.ptr k 0]) h (.ret (.int .i64 (wG ts))) h:=
 aEa (aRK ts mn cs B hl d b) aMZ rfl (fun E H a r hc=>by
  obtain⟨i,c,rfl,f,g⟩ :=hc.cons_inv;rw [g.nil_inv];exact VRs.cons (aIh r hk hz e f) (VRs.nil _))
abbrev aZK:AV:=.tup [(.agg [(.ilst 4 (jN ([] :List Node)) true),(.ilst 1 (jI ([] :List Int)) true),(nI 0),(.ilst 2 (jC ([] :List Con)) true)]),(nI 3)]
abbrev aZL:AV:=.agg [(.ilst 4 (jN ([] :List Node)) true),(.ilst 1 (jI ([] :List Int)) true),(nI 0),(.ilst 2 (jC ([] :List Con)) true)]
abbrev zC (a:Nat)(b:Prog):=oC a [(iN b.nodes),(iI b.funs),(nI b.main),(iC b.cons)]
abbrev aHr (a:Nat)(b:List XT)(c:Int)(d:List Con):=oC a [(.gl 6 1 0 b.length false),(nI c),(iC d)]
abbrev fD (a:Nat):=oC a [.nils,.nils,(nI 0),.nils]
def bFD(a:Prog):TS:=cO PP 12 [(Prog.av a)] [] 0
def aLT(f:Prog)(c d:Int)(e:List Con)(a:List XT)(b:List Int):TS:=⟨(tf 37 24 [kp 0 0,(2,.nils),(3,(.gl 1 1 0 b.length false)),(4,(nI c))] [kc f37 116,kl f37 116,.inBlock 0,kc f37 15]),[(tf 36 6 [kp 0 2,kp 1 3,kp 2 0] [ko f36 2 1,kc f36 3]),(tf 35 6 [kp 2 4,(4,(.func 36 [] [(.ptr 2 0),(.ptr 3 0)]))] [ko f35 14 1,kc f35 15] (defers:=[.fn 73 [(.ptr 4 0)]])),(tf 12 20 [kp 2 5,(3,(nI 0)),kp 6 3,(16,(.func 36 [] [(.ptr 2 0),(.ptr 3 0)]))] [ko f12 62 1,kc f12 63])],[aHr 0 a d e,oL 1 1 (jI b),oC 2 [(.ptr 0 0)],fD 3,oC 4 [(nI 0)],fD 5,(6,gh,false),(7,(.zone true [6] (cQ a)),false)],8⟩
def aBg(d:Prog)(b:Int)(c:List Con)(a:List XT):TS:=⟨(tf 36 6 [kp 0 0,kp 1 1] [kc f36 3]),[(tf 35 6 [kp 2 2,(4,(.func 36 [] [(.ptr 0 0),(.ptr 1 0)]))] [ko f35 14 1,kc f35 15] (defers:=[.fn 73 [(.ptr 2 0)]])),(tf 12 20 [kp 2 3,(3,(nI 0)),kp 6 1,(16,(.func 36 [] [(.ptr 0 0),(.ptr 1 0)]))] [ko f12 62 1,kc f12 63])],[oC 0 [(.ptr 4 0)],fD 1,oC 2 [(nI 0)],fD 3,oC 4 [(.gl 5 1 0 a.length false),(nI b),(iC c)],(5,gh,false),(6,(.zone true [5] (cQ a)),false)],7⟩
def aTm(d:Prog)(a:Int)(b:List Con)(c:List XT):TS:=⟨(tf 36 6 [kp 0 0,kp 1 1] [kc f36 3]),[(tf 35 6 [kp 2 2,(4,(.func 36 [] [(.ptr 0 0),(.ptr 1 0)]))] [ko f35 14 1,kc f35 15] (defers:=[.fn 73 [(.ptr 2 0)]])),(tf 12 20 [kp 2 3,(3,(nI 0)),kp 6 1,(16,(.func 36 [] [(.ptr 0 0),(.ptr 1 0)]))] [ko f12 62 1,kc f12 63])],[oC 0 [(fvA c a b)],fD 1,oC 2 [(nI 0)],fD 3],7⟩
def aRL(a:Prog):=tT 0 (bFD a)<|.o (gk 9 (.enter 34 [(Prog.av a)]) [zC 0 a,fD 1] 2 (.tup [.nilp,(nI 7)]) [zC 0 a,fD 1] 2<|.i [rn 22,.cnilI 1 0 4] []<|.i [.cnilI 1 1 1] []<|.i [.cnilI 1 3 2] []<|gE 0 3 (.tup [aZL,(nI 7)]))<|.o (gk 9 (.enter 34 [(Prog.av a)]) [zC 0 a,fD 1] 2 (.tup [.nilp,(nI 2)]) [zC 0 a,fD 1] 2<|.i [rn 22,.cnilI 1 0 4] []<|.i [.cnilI 1 1 1] []<|.i [.cnilI 1 3 2] []<|gE 0 3 (.tup [aZL,(nI 2)]))<|.y fun b:List XT=>.y fun c:Int=>.y fun d:List Con=>gk 9 (.enter 34 [(Prog.av a)]) [zC 0 a,fD 1] 2 (.tup [(.ptr 2 0),(nI 0)]) [zC 0 a,fD 1,oC 2 [(.gl 3 1 0 b.length false),(nI c),(iC d)],(3,gh,false),(4,(.zone true [3] (cQ b)),false)] 5<|.y fun e:Int=>gk 52 (.enter 47 [(.ptr 2 0)]) [zC 0 a,fD 1,oC 2 [(.gl 3 1 0 b.length false),(nI c),(iC d)],(3,gh,false),(4,(.zone true [3] (cQ b)),false),oC 5 [(.ptr 2 0)],fD 6,oC 7 [(nI 0)]] 8 (nI e) [zC 0 a,fD 1,oC 2 [(.gl 3 1 0 b.length false),(nI c),(iC d)],(3,gh,false),(4,(.zone true [3] (cQ b)),false),oC 5 [(.ptr 2 0)],fD 6,oC 7 [(nI 0)]] 8<|.i [rn 4,.nilL 3 1] []<|gu 0 8 (jI ([] :List Int))<|gs 0 3 (.gl 8 1 0 ([] :List Int).length false)<|.W 0 9 [2,8,5,6,7,1,3,4] (aLT a e c d b ([] :List Int))
def bD2:=fun a b=>aRL a|>.1 b tv
def bD3:=fun a b=>aRL a|>.2|>.1 b tv
def bD4:=fun a b c d e f g=>aRL a|>.2|>.2 b c d f e g ⟨kk,trivial⟩
def aZM(g:Prog)(a d:Int)(e:List Con)(f:List XT)(c:List Int):=tT 0 (aLT g a d e f c)<|gd 6 8 (a≥0) (.y fun b:List XT=>gk 8 (.enter 74 [(.ptr 0 0),(nI a)]) [aHr 0 f d e,oL 1 1 (jI c),oC 2 [(.ptr 0 0)],fD 3,oC 4 [(nI 0)],fD 5,(6,gh,false),(7,(.zone true [6] (cQ f)),false)] 8 (bV true) [aHr 0 f d e,oL 1 1 (jI c),oC 2 [(.ptr 0 0)],fD 3,oC 4 [(nI 0)],fD 5,(6,gh,false),(8,(.zone true [6] (cQ b)),false)] 9<|.i [rn 1,.cset 0 0 (.gl 6 1 0 b.length false)] [.a (b.length=f.length) (p':=(AV.gl 6 1 0 f.length false) = (.gl 6 1 0 b.length false)) (fun h=>(bT h.symm))]<|ga 5 bU c [a]<|gd 8 20 ((((c++ [a]).length:Nat) :Int) >1000) (.i [rn 47,.cnilI 5 0 4] []<|.i [.cnilI 5 1 1] []<|.i [.cnilI 5 3 2] []<|.E 0 12 [8,6] aZK [(0,(.zone true [1] (cQ b)),false),(1,gh,false)] 2)<|.y fun i:Int=>gk 5 (.enter 47 [(.ptr 0 0)]) [aHr 0 b d e,oC 2 [(.ptr 0 0)],fD 3,oC 4 [(nI 0)],fD 5,(6,gh,false),(8,(.zone true [6] (cQ b)),false),oC 9 [(nI a)],oL 10 1 (jI (c++ [a]))] 11 (nI i) [aHr 0 b d e,oC 2 [(.ptr 0 0)],fD 3,oC 4 [(nI 0)],fD 5,(6,gh,false),(8,(.zone true [6] (cQ b)),false),oC 9 [(nI a)],oL 10 1 (jI (c++ [a]))] 11<|.W 3 11 [0,10,2,3,4,5,6,8] (aLT g i d e b (c++ [a])))<|.W 10 8 [2,3,4,5,0,6,7] (aBg g d e f)
def bD5:=fun a b c d e f g i j k l m n o=>aZM a b c d e f|>.t j g k l m|>.f n i o ⟨kk,trivial⟩
def aTn:=fun a b c d e f g=>aZM a b c d e f|>.f g tv
def aZN(e:Prog)(a:Int)(b:List Con)(c:List XT):=tT 0 (aTm e a b c)<|lW 11 75 [(fvA c a b),(nI 30)]<|fun f=>.b 2 5 (!f) (.i [rn 47,.cnilI 3 0 4] []<|.i [.cnilI 3 1 1] []<|.i [.cnilI 3 3 2] []<|gE 0 9 aZK)<|.y fun d:Prog=>gp 5 76 [(fvA c a b)] (Prog.av d)<|gE 42 8 (.tup [(Prog.av d),(nI 0)])
def bD6:=fun a b c d e f g=>aZN a b c d e f|>.t g tv
def bD7:=fun a b c d e f g i j=>aZN a b c d e g|>.f i f j tv
def aBh :Nat→List XT→Option (List XT×List Int)
 |0,ts=>if eW ts 0= []then some (ts,[])else none
 | k+1,ts=>match eW ts 0 with
  | [] =>some (ts,[])
  | a::_=>match atF a ts 0 with
   | .did ts'=> (aBh k ts').map fun r=> (r.1,a::r.2)
   |_=>none
theorem tR :∀ (b:List XT) (n a:Int),a∈eW b n→n≤a:=by
 have c:∀ (k:Nat),(∀ (t:XT) (n a:Int),cK t≤k→a∈stT t n→n≤a) ∧ (∀ (b:List XT) (n a:Int),aD b≤k→a∈eW b n→n≤a) :=by
  intro k
  induction k with
  | zero=>
   refine⟨fun t n a h _=>?_,fun b n a h hm=>?_⟩
   ·obtain⟨o,m,e,f⟩ :=t;simp only [cK]at h;omega
   · cases b with
     |nil=>simp [eW]at hm
     |cons t b=>obtain⟨o,m,e,f⟩ :=t;simp only [aD,cK]at h;omega
  | succ k i=>
   have g:∀ (t:XT) (n a:Int),cK t≤k+1→a∈stT t n→n≤a:=fun t n a h hm=>by
    obtain⟨o,m,e,f⟩ :=t;simp only [cK]at h;simp only [stT,zq28]at hm;rcases hm with hm|hm
    · split at hm
      ·simp only [zq32]at hm;omega
      ·cases hm
    ·have:=i.2 e (n+1) a (by omega) hm;omega
   refine⟨g,fun b=>?_⟩
   induction b with
   |nil=>intro n a _ hm;simp [eW]at hm
   | cons t b d=>
    intro n a h hm;simp only [aD]at h;simp only [eW,zq28]at hm;rcases hm with hm|hm
    ·exact g t n a (by omega) hm
    ·have:=d (n+ (cK t:Nat)) a (by omega) hm;omega
 exact fun b n a hm=> (c (aD b)).2 b n a (le_refl _) hm
theorem aOJ {ts:List XT}{a:Int}{l:List Int}(h:eW ts 0=a::l) :wG ts=a∧0≤a:=by
 refine⟨by rw [wG,h];rfl,tR ts 0 a (by rw [h];exact dT ..)⟩
theorem aHs {ts:List XT}(h:eW ts 0= []) :wG ts= -1:=by rw [wG,h];rfl
section
variable {I :List XT→Prop} (hI:∀ts,I ts→FineXs 1000000 ts∧aD ts≤100000∧ts.length≤1000)
 (hS:∀ts a l ts',I ts→eW ts 0=a::l→atF a ts 0= .did ts'→I ts')
include hS in
theorem aHt :∀ (k:Nat) (e q:List XT) (m:List Int),I e→aBh k e=some (q,m) →I q∧eW q 0= [] ∧m.length≤k
 | 0,e,q,m,d,hr=>by
  simp only [aBh]at hr;split at hr
  ·rename_i hz;cases hr;exact⟨d,hz,le_refl _⟩
  ·cases hr
 | k + 1,e,q,m,d,hr=>by
  simp only [aBh]at hr;split at hr
  ·rename_i hz;cases hr;exact⟨d,hz,zero_le _⟩
  · rename_i a l hz;split at hr
    · rename_i c f;cases b:aBh k c with
      |none=>rw [b]at hr;cases hr
      | some r=>
       rw [b]at hr;simp only [map_some,Option.some.injEq,Prod.mk.injEq]at hr;obtain⟨rfl,rfl⟩ :=hr;obtain⟨h,g,i⟩ :=aHt k c r.1 r.2 (hS _ _ _ _ d hz f) b;exact⟨h,g,by simp only [oK];omega⟩
    ·cases hr
include hI hS
theorem aZO (p:Prog)(mn:Int)(cs:List Con) :∀ (k:Nat) (c:List XT) (l:List Int) (q:List XT) (m:List Int),I c→aBh k c=some (q,m) →l.length+k≤1000 →
  LeadsM PP 0 (aLT p (wG c) mn cs c l).as (aBg p mn cs q).as
 | 0,c,l,q,m,f,hr,hk=>by
  simp only [aBh]at hr;split at hr
  · rename_i hz;cases hr;rw [aHs hz];exact aTn p (-1) mn cs c l (by decide)
  ·cases hr
 | k + 1,c,l,q,m,f,hr,hk=>by
  simp only [aBh]at hr;split at hr
  · rename_i hz;cases hr;rw [aHs hz];exact aTn p (-1) mn cs c l (by decide)
  · rename_i a x hz;split at hr
    · rename_i b h;cases d:aBh k b with
      |none=>rw [d]at hr;cases hr
      | some r=>
       rw [d]at hr;simp only [map_some,Option.some.injEq,Prod.mk.injEq]at hr;obtain⟨rfl,rfl⟩ :=hr;obtain⟨j,n⟩ :=aOJ hz;obtain⟨s,w,v⟩ :=hI c f;have e:=hS _ _ _ _ f hz h;obtain⟨t,u,o⟩ :=hI b e;have i:=bCY a 1000000 (by omega) c mn cs v s w;rw [h]at i;have g:=aLp a c 0 b h;have:=aZO p mn cs k b (l++ [a]) r.1 r.2 e d (by simp only [wT,List.length_singleton];omega);rw [j]
       refine(bD5 p a mn cs c l b (wG b) (by simpa using n) (wP (m:=2) (ks:=[0,6,7]) i aC aC trivial trivial) g (by simp;omega) (by simp;omega)
        (aHq (mn:=mn) (cs:=cs) (k:=0) (q:=6) (z:=8) o t u aC aC rfl)).trans this
    ·cases hr
end
theorem bG3 (p:Prog)(mn:Int)(cs:List Con)(a:List XT) :LeadsM PP 0 (aBg p mn cs a).as (aTm p mn cs a).as:=by
 have z:=jT (P:=PP) (m:=0) (fr:= (aBg p mn cs a).as.fr) (cs:= (aBg p mn cs a).as.cs) (h:= (aBg p mn cs a).as.h)
  (h1:=aA [(0,(.cells (putCells .leaf 0 [(.ptr 4 0)]) 1 [] false),false),(1,(.cells (putCells .leaf 0 [.nils,.nils,(.int .i64 0),.nils]) 4 [] false),false),(2,(.cells (putCells .leaf 0 [(.int .i64 0)]) 1 [] false),false),(3,(.cells (putCells .leaf 0 [.nils,.nils,(.int .i64 0),.nils]) 4 [] false),false)] 7)
  (k:=0) (o:=0) (n:=1) (t:=putCells .leaf 0 [(.ptr 4 0)]) (ol:=[]) (sup:=false) (v:=.ptr 4 0) (v':=fvA a mn cs) aC aC aC
  (fun hm=>aKp (k:=4) (q:=5) (z:=6) (n:=a.length) (mn:=mn) (cs:=cs) (ts:=a) aC aC rfl aC
   (aZ (l:=[(0,(.cells (putCells .leaf 0 [(.ptr 4 0)]) 1 [] false),false),(1,(.cells (putCells .leaf 0 [.nils,.nils,(.int .i64 0),.nils]) 4 [] false),false),(2,(.cells (putCells .leaf 0 [(.int .i64 0)]) 1 [] false),false),(3,(.cells (putCells .leaf 0 [.nils,.nils,(.int .i64 0),.nils]) 4 [] false),false)]) (nb:=7) (Q:=fun b o=>b∉ [4,6] ∧ (aBg p mn cs a).as.h.look b=some o) ⟨⟨by decide,by kernel_rfl⟩,⟨by decide,by kernel_rfl⟩,⟨by decide,by kernel_rfl⟩,⟨by decide,by kernel_rfl⟩,trivial⟩) hm)
 exact Eq.mp aC z
noncomputable def aEr (p:Prog)(q:List XT) :Prog×Int:=
 if aN p=false then(aEq,2)
 else if(eC p).1=false then(aEq,7)
 else if tP 30 p.cons q then(dU q p.main p.cons,0)else(aEq,3)
section
variable {p :Prog} (hs:aK p=true) {ts q:List XT} {m:List Int} {I:List XT→Prop} (hI:∀ts,I ts→FineXs 1000000 ts∧aD ts≤100000∧ts.length≤1000)
 (hS:∀ts a l ts',I ts→eW ts 0=a::l→atF a ts 0= .did ts'→I ts') (hi:aN p=true→ (eC p).1=true→aE p ts p.funs∧I ts∧aBh 1000 ts=some (q,m))
include hs hI hS hi
theorem aJm :aJ PP 12 [Prog.av p] (.tup [Prog.av (aEr p q).1,.int .i64 (aEr p q).2]) :=by
 have kl:∀r:Prog×Int,AV.keyless (.tup [Prog.av r.1,.int .i64 r.2]) =true:=fun r=>rfl;refine yX (s:=bFD p) aC aC rfl (kl _) ?_;unfold aEr;have hb:=hs;simp only [aK,cF,decide_eq_true_eq]at hb;cases b:aN p
 case false=>
  rw [if_pos rfl];exact Ends.val (bD3 p (wP (m:=0) (ks:=[]) (bIm hs b) aC aC trivial trivial)) (fun E l h=>aHh h)
 rw [if_neg (by decide)];cases hc: (eC p).1
 case false=>
  rw [if_pos rfl];exact Ends.val (bD2 p (wP (m:=0) (ks:=[]) (bDi hs b hc) aC aC trivial trivial)) (fun E l h=>aHh h)
 rw [if_neg (by decide)];obtain⟨j,a,hr⟩ :=hi b hc;obtain⟨o,v,u⟩ :=hI _ a;obtain⟨g,hz,hm⟩ :=aHt hS 1000 ts q m a hr;obtain⟨i,t,n⟩ :=hI _ g;have c:=cC j
 have f:ts≠ [] :=fun e=>by
  rw [e]at c;exact aOF b (zq35.1 c.symm)
 have st:= ((bD4 p ts p.main p.cons (wG ts) (wP (m:=0) (ks:=[]) (bGU hs b hc j f) aC aC trivial trivial)
  (aHq (mn:=p.main) (cs:=p.cons) (k:=2) (q:=3) (z:=4) u o v aC aC rfl)).trans (aZO hI hS p p.main p.cons 1000 ts [] q m a hr (by simp))).trans (bG3 p p.main p.cons q)
 have d:=aVK q p.main p.cons 30 _ n i t;cases hz:tP 30 p.cons q
 case false=>
  rw [hz]at d;exact Ends.val (st.ends (bD6 p p.main p.cons q _ d rfl)) (fun E l h=>aHh h)
 rw [hz]at d;exact st.ends (bD7 p p.main p.cons q _ (dU q p.main p.cons) d rfl (aVS q p.main p.cons (by omega) (by omega) i (by omega)))
end
mutual
def fT :XT→Nat
 | .mk o n ks ps=>if bK (.mk o n ks ps) =true then 0 else if o=7 then fL ks else fO ks (bL o ks.length) +fR ks (bL o ks.length)
def gT :XT→Nat
 | .mk o n ks ps=>if bK (.mk o n ks ps) =true then 0 else if o=7 then gL ks else gO ks (bL o ks.length) +fR ks (bL o ks.length)
def fL :List XT→Nat
 | [] =>0
 |a::ks=>gT a+fB ks
def fB :List XT→Nat
 | [] =>0
 |b::_=>fT b
def gL :List XT→Nat
 | [] =>0
 |a::ks=>1+gT a+gB ks
def gB :List XT→Nat
 | [] =>0
 |b::_=>gT b
def fO :List XT→Nat→Nat
 | [],_=>0
 |_::_,0=>0
 |k::ks,m+1=> (if bK k=true then 0 else 1+gT k) +fO ks m
def gO :List XT→Nat→Nat
 | [],_=>0
 |_::_,0=>0
 |k::ks,m+1=> (if bK k=true then 0 else 2+gT k) +gO ks m
def fR :List XT→Nat→Nat
 | [],_=>0
 |_::ks,m+1=>fR ks m
 |k::ks,0=>fT k+fR ks 0
end
def fF :List XT→Nat
 | [] =>0
 |t::ts=>fT t+fF ts
section
variable (c :Int)
mutual
theorem aZP :∀ (t:XT),fT (rS c 1 t) =fT t
 | .mk o n a b=>by
  simp only [rS,fT];rw [show bK (.mk o (mvN c 1 o n) (dS c 1 a) b) =bK (.mk o n a b)from rfl,kW,bIq a,aZQ a,aOK a]
theorem aJn :∀ (t:XT),gT (rS c 1 t) =gT t
 | .mk o n a b=>by
  simp only [rS,gT];rw [show bK (.mk o (mvN c 1 o n) (dS c 1 a) b) =bK (.mk o n a b)from rfl,kW,bIs a,aZR a,aOK a]
theorem bIq :∀ (b:List XT),fL (dS c 1 b) =fL b
 | [] =>rfl
 |a::b=>by simp only [dS,fL];rw [aJn a,bIr b]
theorem bIr :∀ (b:List XT),fB (dS c 1 b) =fB b
 | [] =>rfl
 |a::b=>by simp only [dS,fB];exact aZP a
theorem bIs :∀ (b:List XT),gL (dS c 1 b) =gL b
 | [] =>rfl
 |a::b=>by simp only [dS,gL];rw [aJn a,bIt b]
theorem bIt :∀ (b:List XT),gB (dS c 1 b) =gB b
 | [] =>rfl
 |a::b=>by simp only [dS,gB];exact aJn a
theorem aZQ :∀ (a:List XT) (m:Nat),fO (dS c 1 a) m=fO a m
 | [],m=>by simp only [dS]
 |k::a,0=>by simp only [dS,fO]
 |k::a,m+1=>by simp only [dS,fO];rw [aCB,aJn k,aZQ a m]
theorem aZR :∀ (a:List XT) (m:Nat),gO (dS c 1 a) m=gO a m
 | [],m=>by simp only [dS]
 |k::a,0=>by simp only [dS,gO]
 |k::a,m+1=>by simp only [dS,gO];rw [aCB,aJn k,aZR a m]
theorem aOK :∀ (a:List XT) (m:Nat),fR (dS c 1 a) m=fR a m
 | [],m=>by simp only [dS]
 |k::a,m+1=>by simp only [dS,fR];exact aOK a m
 |k::a,0=>by simp only [dS,fR];rw [aZP k,aOK a 0]
end
end
mutual
theorem aOL :∀ (t:XT),fT t≤gT t∧gT t+2≤3*cK t
 | .mk o n c d=>by
  simp only [fT,gT,cK];by_cases a:bK (.mk o n c d) =true
  ·rw [if_pos a,if_pos a];omega
  · rw [if_neg a,if_neg a];by_cases b:o=7
    · rw [if_pos b,if_pos b];have:=bIu c;omega
    · rw [if_neg b,if_neg b];have:=aRM c (bL o c.length);omega
theorem bIu :∀ (b:List XT),fL b≤gL b∧gL b≤1+3*aD b
 | [] =>by simp [fL,gL]
 | a::b=>by
  have:=aOL a;have:=bIv b;simp only [fL,gL,aD];omega
theorem bIv :∀ (b:List XT),fB b≤gB b∧gB b≤3*aD b
 | [] =>by simp [fB,gB]
 | a::b=>by
  have:=aOL a;simp only [fB,gB,aD];omega
theorem aRM :∀ (a:List XT) (m:Nat),fO a m≤gO a m∧gO a m+fR a m≤3*aD a
 | [],m=>by simp [fO,gO,fR]
 | k::a,m+1=>by
  have:=aOL k;have:=aRM a m;simp only [fO,gO,fR,aD];split<;>omega
 | k::a,0=>by
  have:=aOL k;have h:=aRM a 0;have e:gO a 0=0:=by cases a<;>rfl
  simp only [fO,gO,fR,aD];omega
end
theorem bFE :∀ (a:List XT),fF a≤3*aD a
 | [] =>by simp [fF]
 | t::a=>by
  have:=aOL t;have:=bFE a;simp only [fF,aD];omega
mutual
theorem aCF {node:Int}:∀ (t:XT) (n z:Int),n+ (cK t:Nat) ≤node→atT node t n z= .go (n+ (cK t:Nat))
 | .mk o m a c,n,z,h=>by
  simp only [cK]at h;have e:=aOM (node:=node) o c a 0 (n+1) z (by omega);rw [aBd,e];simp only [cK];have b:n+1+ ((aD a:Nat) :Int) =n+ ((aD a+1:Nat) :Int) :=by omega
  split
  · rw [if_neg (by omega),if_neg (by omega)];simp only [qM];rw [b]
  ·simp only [qM];rw [b]
theorem aOM {node:Int}(o:Int)(ps:List Pat) :∀ (a:List XT) (i:Nat) (n z:Int),n+ (aD a:Nat) ≤node→iL node o ps a i n z= .go (n+ (aD a:Nat))
 | [],i,n,z,h=>by simp [iL,aD]
 | t::a,i,n,z,h=>by
  simp only [aD]at h;simp only [iL];rw [aCF t n _ (by omega)];simp only;rw [aOM o ps a (i+1) _ z (by omega)];simp only [aD];congr 1;omega
end
mutual
theorem at_in {a:Int}:∀ (t:XT) (n z:Int),a∈stT t n→∃i,atT a t n z= .did i
 | .mk o m c f,n,z,h=>by
  rw [aBd];cases g:cY (.mk o m c f)
  case some s=>
   rw [aCE n g]at h;simp only;by_cases e:n=a
   ·rw [if_pos e];exact⟨_,rfl⟩
   · rw [if_neg e];have hk:a∈eW c (n+1) :=by
      rcases zq7.1 h with h|h
      ·exact absurd h.symm e
      ·exact h
     have:=tR c (n+1) a hk;rw [if_neg (by omega)];obtain⟨d,b⟩ :=aRN o f c 0 (n+1) z hk;rw [b];exact⟨_,rfl⟩
  rw [aCD n g]at h;simp only;obtain⟨d,b⟩ :=aRN o f c 0 (n+1) z h;rw [b];exact⟨_,rfl⟩
theorem aRN {a:Int}(o:Int)(ps:List Pat) :∀ (b:List XT) (i:Nat) (n z:Int),a∈eW b n→∃c,iL a o ps b i n z= .did c
 | [],i,n,z,h=>by simp [eW]at h
 | t ::b,i,n,z,h=>by
  simp only [eW,zq28]at h;simp only [iL];by_cases f:a∈stT t n
  · obtain⟨j,g⟩ :=at_in t n (z+bI o ps (i:Int)) f;rw [g];exact⟨_,rfl⟩
  · have e:a∈eW b (n+ (cK t:Nat)) :=by
     rcases h with h|h
     ·exact absurd h f
     ·exact h
    have:=tR b _ a e;rw [aCF t n _ this];obtain⟨c,d⟩ :=aRN o ps b (i+1) _ z e;simp only;rw [d];exact⟨_,rfl⟩
end
theorem aRO {a:Int}:∀ (b:List XT) (n:Int),a∈eW b n→∃c,atF a b n= .did c
 | [],n,h=>by simp [eW]at h
 | t ::b,n,h=>by
  simp only [eW,zq28]at h;simp only [atF];by_cases f:a∈stT t n
  · obtain⟨i,g⟩ :=at_in t n 1 f;rw [g];exact⟨_,rfl⟩
  · have e:a∈eW b (n+ (cK t:Nat)) :=by
     rcases h with h|h
     ·exact absurd h f
     ·exact h
    have:=tR b _ a e;rw [aCF t n _ this];obtain⟨c,d⟩ :=aRO b _ e;simp only;rw [d];exact⟨_,rfl⟩
theorem aEs {a:Int}{o:Int}{ps:List Pat}:∀ {e:List XT} {n:Int} {l:List Int} {i:Nat} {z:Int} {d:List XT},eW e n=a::l→iL a o ps e i n z= .did d →
  ∃ (j:Nat) (t m:XT) (k:Int) (f:List Int),e[j]?=some t∧stT t k=a::f∧d=e.set j m∧atT a t k (z+bI o ps ((i+j:Nat) :Int)) = .did m
 | [],n,l,i,z,d,h,_=>by simp [eW]at h
 | t ::e,n,l,i,z,d,h,c=>by
  simp only [eW]at h;simp only [iL]at c;cases g:stT t n
  case cons b f=>
   rw [g,sT,List.cons.injEq]at h;obtain⟨rfl,_⟩ :=h;obtain⟨m,p⟩ :=at_in t n (z+bI o ps (i:Int)) (show b∈stT t n by rw [g];exact dT ..);rw [p]at c;cases c;exact⟨0,t,m,n,f,rfl,g,rfl,p⟩
  rw [g,qW]at h;have:=tR e _ a (by rw [h];exact dT ..);rw [aCF t n _ this]at c;simp only at c;split at c
  ·cases c
  ·cases c
  · rename_i r u;cases c;obtain⟨j,x,q,k,f,v,y,w,s⟩ :=aEs h u;exact⟨j+1,x,q,k,f,by simpa using v,y,by rw [w];rfl,by rw [show i+ (j+1) =i+1+j by omega];exact s⟩
theorem aCG {a:Int}:∀ {e:List XT} {n:Int} {l:List Int} {d:List XT},eW e n=a::l→atF a e n= .did d →
  ∃ (j:Nat) (t k:XT) (i:Int) (f:List Int),e[j]?=some t∧stT t i=a::f∧d=e.set j k∧atT a t i 1= .did k
 | [],n,l,d,h,_=>by simp [eW]at h
 | t ::e,n,l,d,h,c=>by
  simp only [eW]at h;simp only [atF]at c;cases g:stT t n
  case cons b f=>
   rw [g,sT,List.cons.injEq]at h;obtain⟨rfl,_⟩ :=h;obtain⟨k,m⟩ :=at_in t n 1 (show b∈stT t n by rw [g];exact dT ..);rw [m]at c;cases c;exact⟨0,t,k,n,f,rfl,g,rfl,m⟩
  rw [g,qW]at h;have:=tR e _ a (by rw [h];exact dT ..);rw [aCF t n _ this]at c;simp only at c;split at c
  ·cases c
  ·cases c
  · rename_i p r;cases c;obtain⟨j,x,o,i,f,s,v,u,q⟩ :=aCG h r;exact⟨j+1,x,o,i,f,by simpa using s,v,by rw [u];rfl,q⟩
theorem aTo :∀ (a:List XT) (m j:Nat) (v:XT),m≤j→fO (a.set j v) m=fO a m∧gO (a.set j v) m=gO a m
 | [],_,_,_,_=> ⟨rfl,rfl⟩
 |k::a,0,0,v,_=>by simp only [set_cons_zero,fO,gO,and_self]
 |k::a,0,j+1,v,_=>by simp only [set_cons_succ,fO,gO,and_self]
 | k::a,m+1,j+1,v,h=>by
  have:=aTo a m j v (by omega);simp only [set_cons_succ,fO,gO];omega
theorem aTp :∀ (a:List XT) (m j:Nat) (v:XT),j<m→fR (a.set j v) m=fR a m
 | [],_,_,_,_=>rfl
 |k::a,m+1,0,v,_=>by simp only [set_cons_zero,fR]
 | k::a,m+1,j+1,v,h=>by
  simp only [set_cons_succ,fR];exact aTp a m j v (by omega)
theorem aLU :∀ (a:List XT) (m j:Nat) (t v:XT),a[j]?=some t→m≤j→fT v+1=fT t→fR (a.set j v) m+1=fR a m
 | [],_,_,_,_,h,_,_=>by simp at h
 | k::a,m+1,j+1,t,v,h,hm,b=>by
  simp only [set_cons_succ,fR];exact aLU a m j t v (by simpa using h) (by omega) b
 | k::a,0,0,t,v,h,hm,b=>by
  simp only [lF,Option.some.injEq]at h;subst h;simp only [set_cons_zero,fR];omega
 | k::a,0,j+1,t,v,h,hm,b=>by
  have:=aLU a 0 j t v (by simpa using h) (zero_le _) b;simp only [set_cons_succ,fR];omega
theorem bFF (sz:Int) :∀ (a:List XT) (m j:Nat) (x:XT),j<m→a[j]?=some x→bK x=false→fO ((dS sz 1 a).set j (.mk 4 sz [] [])) m+ (1+gT x) =fO a m∧gO ((dS sz 1 a).set j (.mk 4 sz [] [])) m+ (2+gT x) =gO a m
 | [],_,_,_,_,h,_=>by simp at h
 | k::a,m+1,0,x,_,h,b=>by
  simp only [lF,Option.some.injEq]at h;subst h;have c:bK (.mk 4 sz [] []) =true:=rfl;simp only [dS,set_cons_zero,fO,gO,c,b,if_true,tZ,if_false];rw [aZQ,aZR];omega
 | k::a,m+1,j+1,x,d,h,b=>by
  have:=bFF sz a m j x (by omega) (by simpa using h) b;simp only [dS,set_cons_succ,fO,gO];rw [aCB,aJn];omega
theorem zD :∀ {b:List XT} {i m:Nat},cX b i m=none→∀ (j:Nat) (x:XT),j<m→b[j]?=some x→bK x=true
 | [],i,m,_,j,x,_,h=>by simp at h
 |_::_,i,0,_,j,x,d,_=>by omega
 | t ::b,i,m+1,h,j,x,d,a=>by
  simp only [cX]at h;split at h
  · rename_i c;cases j with
    |zero=>simp only [lF,Option.some.injEq]at a;subst a;exact c
    |succ j=>exact zD h j x (by omega) (by simpa using a)
  ·cases h
theorem bD8 {p:Prog}{z:Int}:∀ {t:XT} {s:Option Nat},WX p t→cY t=some s→fT (gW z s t) +1=fT t∧ (t.op≠7→gT (gW z s t) +1=gT t)
 | .mk o n f D,some k,q,d=>by
  simp only [WX]at q;simp only [cY]at d;by_cases i:o=7
  · rw [if_pos i]at d;split at d
    ·split at d<;>cases d
    ·cases d
  rw [if_neg i]at d;cases u:cX f 0 (bL o f.length)with
  |none=>rw [u]at d;cases d
  | some w=>
   rw [u]at d;simp only [map_some,Option.some.injEq]at d;subst d;obtain⟨j,x,J,F,G,A⟩ :=qS u;obtain rfl:w=j:=by omega
   obtain⟨B,_⟩ :=aFo (show 0<bL o f.length by omega);have l:∀C e,¬bK (.mk o C e D) =true:=fun C e h=>B (atomX_iff.1 h);have v:∀m e g,¬bK (.mk 7 m e g) =true:=fun m e g=>by simp [bK,XT.op]
   have K:=bFF z f (bL o f.length) w x F G A;have hr:=aTp (dS z 1 f) (bL o f.length) w (.mk 4 z [] []) F;rw [aOK]at hr;simp only [gW,dnT,rV G];rw [←mL];refine⟨?_,fun _=>?_⟩
   · conv=>rhs;rw [fT,if_neg (l n f),if_neg i]
     rw [fT,if_neg (v _ _ _),if_pos rfl,fL,fB,fT,if_neg (l _ _),if_neg i,eG,kW,hr];omega
   · conv=>rhs;rw [gT,if_neg (l n f),if_neg i]
     rw [gT,if_neg (v _ _ _),if_pos rfl,gL,gB]
     conv=>lhs;arg 1;arg 2;rw [gT,if_neg (l _ _),if_neg i,eG,kW,hr]
     omega
 | .mk o n f D,none,q,d=>by
  simp only [WX]at q;simp only [cY]at d;by_cases i:o=7
  · obtain⟨_,_,hl⟩ :=q.1.let7 i;rw [if_pos i]at d
    match f,hl,q,d with
    | [.mk I L H M,c],_,q,d=>
     simp only [lF,XT.op]at d;by_cases r:I=7
     · simp only [jJ,WX]at q;obtain⟨_,_,y⟩ :=q.2.1.1.let7 r
       match H,y with
       | [a,b],_=>
        subst i r;have v:∀m e g,bK (.mk 7 m e g) =false:=fun m e g=>by simp [bK,XT.op]
        simp only [gW,getD_cons_zero,getD_cons_succ,XT.kids,neT];refine⟨?_,fun h=>absurd rfl h⟩;simp only [fT,gT,v,tZ,if_false,if_true,fL,fB,gL,gB,aZP];omega
     ·simp [r]at d
  · rw [if_neg i]at d;cases u:cX f 0 (bL o f.length)with
    |none=>rw [u]at d;cases d
    |some w=>rw [u]at d;cases d
theorem aHu {n:Int}{x b:XT}{ps:List Pat}(h:cY (.mk 7 n [x,b] ps) =none) :x.op≠7:=fun e=>by
 simp [cY,e]at h
theorem bFG {p:Prog}:∀ (k:Nat) (t:XT),cK t≤k→WX p t→∀ (a:Int) (l:List Int) (y z:Int) (G:XT),stT t y=a::l→atT a t y z= .did G→fT G+1=fT t∧ (t.op≠7→gT G+1=gT t)
 |0,.mk o n i w,hk,_,_,_,_,_,_,_,_=>by simp only [cK]at hk;omega
 | k + 1, .mk o n i w,hk,v,a,l,y,z,G,f,h=>by
  simp only [cK]at hk;cases d:cY (.mk o n i w)
  case some s=>
   rw [aCE y d,List.cons.injEq]at f;obtain⟨rfl,_⟩ :=f;rw [aBd,d]at h;simp only [if_true]at h;cases h;exact bD8 v d
  rw [aCD y d]at f;rw [aBd,d]at h;simp only at h;cases g:iL a o w i 0 (y+1) z with
  |go m=>rw [g]at h;cases h
  |past=>rw [g]at h;cases h
  | did q =>
   rw [g]at h;simp only [qM,qW]at h;cases h;obtain⟨j,A,r,L,S,c,C,rfl,D⟩ :=aEs f g;have K:=v;simp only [WX]at v;have T:=aAl c;obtain⟨R,N⟩ :=bFG k A (by omega) (wxs_iff.1 v.2 A (iO c)) a S L _ r C D
   have u:∀q,bK (.mk o n q w) =false:=fun q=>by
    cases e:bK (.mk o n q w)
    case false=>rfl
    have:=K.kids0 (show bK (.mk o n i w) =true from e);subst this;simp at c
   by_cases F:o=7
   · obtain⟨_,_,hl⟩ :=v.1.let7 F;subst F;refine⟨?_,fun h=>absurd rfl h⟩
     match i,hl,j,c,d with
     | [x,b],_,0,c,d=>
      simp only [lF,Option.some.injEq]at c;subst c;have:=N (aHu d);simp only [set_cons_zero,fT,u,tZ,if_false,if_true,fL,fB];omega
     | [x,b],_,1,c,d=>
      simp only [lV,lF,Option.some.injEq]at c;subst c;simp only [set_cons_succ,set_cons_zero,fT,u,tZ,if_false,if_true,fL,fB];omega
     | [x,b],_,j+2,c,d=>simp at c
   · have hm:bL o i.length≤j:=by
      rcases Nat.lt_or_ge j (bL o i.length)with J|I
      · exfalso;simp only [cY,if_neg F,Option.map_eq_none_iff]at d;have e:=zD d j A J c;obtain⟨M,O,V,Q⟩ :=A;have H:= (wxs_iff.1 v.2 _ (iO c)).kids0 e;subst H;rw [aBd]at D;cases B:cY (.mk M O [] Q)
        case some W=>
         have:=aCC (wxs_iff.1 v.2 _ (iO c)) B;rw [this]at e;cases e
        rw [B]at D;simp [iL,qM]at D
      ·exact I
     have U:=aTo i _ j r hm;have X:=aLU i _ j A r c hm R;simp only [fT,gT,u,tZ,if_false,if_neg F,eG];omega
theorem aZS :∀ {ts:List XT} {j:Nat} {t v:XT},ts[j]?=some t→fT v+1=fT t→fF (ts.set j v) +1=fF ts
 | [],_,_,_,h,_=>by simp at h
 |x::ts,0,t,v,h,a=>by simp only [lF,Option.some.injEq]at h;subst h;simp only [set_cons_zero,fF];omega
 | x::ts,j+1,t,v,h,a=>by
  have:=aZS (ts:=ts) (j:=j) (by simpa using h) a;simp only [set_cons_succ,fF];omega
def aCH (f:Flow) :Nat:=aD f.binds+f.binds.length+cK f.last
theorem lU :∀ (a b:List XT),aD (a++b) =aD a+aD b
 | [],b=>by simp [aD]
 |x::a,b=>by simp only [sT,aD,lU a b];omega
theorem aRP :∀ (b:List XT) (t:XT),cK (clB b t) =aD b+b.length+cK t
 | [],t=>by simp [clB,aD]
 |a::b,t=>by simp only [clB,cK,aD,oK,aRP b t];omega
theorem aTq (to:List Int) :∀ (t:XT),cK (sR t to) =cK t
 | .mk o n b a=>by simp only [sR];split<;>simp only [cK]
mutual
theorem aZT {p:Prog}:∀ (t:XT),WX p t→∀ (b:List Int) (z:Int),cK t≤aCH (gQ t b z) ∧aCH (gQ t b z) +2≤3*cK t
 | .mk o n a f,c,b,z=>by
  have g:=c;simp only [WX]at c;simp only [gQ];by_cases e:bK (.mk o n a f) =true
  · rw [if_pos e];simp only [aCH,aD,length_nil,aTq,cK];omega
  · rw [if_neg e];by_cases d:o=7
    · rw [if_pos d];obtain⟨_,_,hl⟩ :=c.1.let7 d;have:=bJs a c.2 (by omega) b z;simp only [cK];omega
    · rw [if_neg d];have j:=bG4 a c.2 (bL o a.length) b z;have i:=bG5 o f a c.2 0 (bL o a.length) b (z+ ((mV a (bL o a.length) b z).1.length:Nat));have h:aD a=aD (a.take (bL o a.length)) +aD (a.drop (bL o a.length)) :=by rw [←lU,List.take_append_drop]
      simp only [aCH,cK,lU];omega
theorem bJs {p:Prog}:∀ (b:List XT),jJ p b→b.length≤2→∀ (c:List Int) (z:Int),1+aD b≤aCH (flL b c z) ∧aCH (flL b c z) +2≤3* (1+aD b)
 | [],_,_,c,z=>by simp [flL,aCH,aD,dXT,cK]
 | a::b,d,hl,c,z=>by
  simp only [jJ]at d;have f:=aZT a d.1 c z;have e:=bJt b d.2 (by simp only [oK]at hl;omega) (c++ [z+ ((gQ a c z).binds.length:Nat)]) (z+ ((gQ a c z).binds.length+1:Nat));simp only [flL,aCH,lU,aD,wT,oK]at f e ⊢;omega
theorem bJt {p:Prog}:∀ (a:List XT),jJ p a→a.length≤1→∀ (c:List Int) (z:Int),aD a≤aCH (flB a c z) ∧aCH (flB a c z) ≤1+3*aD a
 | [],_,_,c,z=>by simp [flB,aCH,aD,dXT,cK]
 | [b],d,_,c,z=>by
  simp only [jJ]at d;have e:=aZT b d.1 c z;simp only [flB,aD];omega
 |_::_::_,_,hl,_,_=>by simp at hl
theorem bG4 {p:Prog}:∀ (a:List XT),jJ p a→∀ (m:Nat) (b:List Int) (z:Int),aD (a.take m) ≤aD (mV a m b z).1+ (mV a m b z).1.length+aD (mV a m b z).2∧aD (mV a m b z).1+ (mV a m b z).1.length+aD (mV a m b z).2≤3*aD (a.take m)
 | [],_,m,b,z=>by simp [mV,aD]
 |k::a,_,0,b,z=>by simp [mV,aD]
 | k ::a,c,m+1,b,z=>by
  simp only [jJ]at c;simp only [mV,List.take_succ_cons,aD];by_cases d:bK k=true
  · rw [if_pos d];have e:=bG4 a c.2 m b z;simp only [aD,aTq];omega
  · rw [if_neg d];have f:=aZT k c.1 b z;have e:=bG4 a c.2 m b (z+ ((gQ k b z).binds.length+1:Nat));simp only [aCH]at f;simp only [lU,aD,wT,oK,cK];omega
theorem bG5 {p:Prog}(o:Int)(ps:List Pat) :∀ (a:List XT),jJ p a→∀ (i m:Nat) (b:List Int) (n:Int),aD (a.drop m) ≤aD (zB o ps a i m b n) ∧aD (zB o ps a i m b n) ≤3*aD (a.drop m)
 | [],_,i,m,b,n=>by simp [zB,aD]
 | k::a,c,i,m+1,b,n=>by
  simp only [jJ]at c;simp only [zB,List.drop_succ_cons];exact bG5 o ps a c.2 (i+1) m b n
 | k::a,c,i,0,b,n=>by
  simp only [jJ]at c;have e:=aZT k c.1 (plc b n (bI o ps (i:Int))) (n+bI o ps (i:Int));have d:=bG5 o ps a c.2 (i+1) 0 b n;rw [drop_zero]at d;simp only [zB,drop_zero,aD,clF,aRP];simp only [aCH]at e;omega
end
def idl (m:Nat) :List Int:= (range m).map (fun i=> ((i:Nat) :Int))
theorem bD9 (m:Nat)(k:Int) :plc (idl m) (m:Nat) k=idl (m+k.toNat) :=by
 simp [plc,idl,List.range_add,Function.comp_def]
theorem bEa (m:Nat) :idl m++ [((m:Nat) :Int)] =idl (m+1) :=by
 simp [idl,List.range_succ]
theorem aTr {m:Nat}:∀ {t:XT},rA t (m:Nat) →sR t (idl m) =t
 | .mk o n c b,h=>by
  simp only [rA]at h;simp only [sR];split
  · rename_i a;have d:=h.1 a.1;have: (idl m).getD n.toNat 0=n:=by
     rw [hQ];unfold idl;rw [mZ,List.getElem?_range (by omega)];simp;omega
    rw [this]
  ·rfl
theorem aON {o:Int}{ps:List Pat}{m:Nat}:∀ (a:List XT) (b i:Nat),(∀ (j:Nat) (x:XT),j<b→a[j]?=some x→bK x=true∧rA x (m:Nat)) →mV a b (idl m) (m:Nat) = ([],a.take b)
 | [],b,i,_=>by simp [mV]
 |k::a,0,i,_=>by simp [mV]
 | k::a,b+1,i,h=>by
  obtain⟨d,c⟩ :=h 0 k (by omega) rfl;simp only [mV,List.take_succ_cons];rw [if_pos d,aON (o:=o) (ps:=ps) a b i (fun j x f e=>h (j+1) x (by omega) (by simpa using e)),aTr c]
theorem aHv {o:Int}{ps:List Pat}{m:Nat}:∀ (a:List XT) (i b:Nat),(∀ (j:Nat) (x:XT),a[j]?=some x→b≤j→clF (gQ x (plc (idl m) (m:Nat) (bI o ps ((i+j:Nat) :Int))) ((m:Nat) +bI o ps ((i+j:Nat) :Int))) =x) →zB o ps a i b (idl m) (m:Nat) =a.drop b
 | [],i,b,_=>by simp [zB]
 | k::a,i,b+1,h=>by
  simp only [zB,List.drop_succ_cons];exact aHv a (i+1) b (fun j x c hm=>by have:=h (j+1) x (by simpa using c) (by omega);rw [show i+ (j+1) =i+1+j by omega]at this;exact this)
 | k::a,i,0,h=>by
  have e:=h 0 k rfl (le_refl _);rw [Nat.add_zero]at e;have d:=aHv (o:=o) (ps:=ps) (m:=m) a (i+1) 0 (fun j x c hm=>by have:=h (j+1) x (by simpa using c) (by omega);rw [show i+ (j+1) =i+1+j by omega]at this;exact this);simp only [zB,drop_zero]at d ⊢;rw [e,d]
theorem aJo :∀ {c:List XT} {a:Int},eW c a= [] →∀ (j:Nat) (x:XT),c[j]?=some x→∃d,stT x d= []
 | [],a,_,j,x,h=>by simp at h
 | t::c,a,h,j,x,b=>by
  simp only [eW,List.append_eq_nil_iff]at h;cases j with
  |zero=>simp only [lF,Option.some.injEq]at b;subst b;exact⟨a,h.1⟩
  |succ j=>exact aJo h.2 j x (by simpa using b)
theorem aFp {p:Prog}:∀ (k:Nat) (t:XT) (m:Nat) (a:Int),cK t≤k→WX p t→rA t (m:Nat) →stT t a= [] → (t.op≠7→gQ t (idl m) (m:Nat) = ⟨[],t⟩) ∧clF (gQ t (idl m) (m:Nat)) =t
 |0,.mk o n d ps,m,a,hk,_,_,_=>by simp only [cK]at hk;omega
 | k + 1,.mk o n d ps,m,a,hk,g,c,f=>by
  simp only [cK]at hk;have F:=g;have r:=c;simp only [WX]at g;simp only [rA]at c;have l:cY (.mk o n d ps) =none:=by
   cases l:cY (.mk o n d ps)with
   |none=>rfl
   |some s=>rw [aCE a l]at f;cases f
  rw [aCD a l]at f;by_cases y:bK (.mk o n d ps) =true
  · have e:gQ (.mk o n d ps) (idl m) (m:Nat) = ⟨[],.mk o n d ps⟩ :=by
     rw [gQ,if_pos y,aTr r]
    rw [e];exact⟨fun _=>rfl,rfl⟩
  · by_cases u:o=7
    · obtain⟨rfl,rfl,hl⟩ :=g.1.let7 u;subst u;refine⟨fun h=>absurd rfl h,?_⟩
      match d,hl with
      | [x,b],_=>
       have z:=aHu l;simp only [jJ]at g;simp only [qT]at c;rw [natCast_zero,show(((0+1:Nat)) :Int) =1 from rfl,(wQ []).1,(wQ []).2,add_zero]at c;simp only [eW,oS,List.append_eq_nil_iff]at f;simp only [aD]at hk;have L:= (aFp k x m _ (by omega) g.2.1 c.2.1 f.1).1 z;have A:= (aFp k b (m+1) _ (by omega) g.2.2.1 (by rw [Int.natCast_add];exact c.2.2.1) f.2).2;rw [gQ,if_neg y,if_pos rfl,flL,L];simp only [flB,length_nil,qW,natCast_zero,add_zero,eX];rw [bEa,show((m:Nat) :Int) + ((1:Nat) :Int) = ((m+1:Nat) :Int)by omega];simp only [clF,clB];simp only [clF]at A;rw [A]
    · have G:∀ (j:Nat) (x:XT),j<bL o d.length→d[j]?=some x→bK x=true∧rA x (m:Nat) :=fun j x B i=>by
       simp only [cY,if_neg u,Option.map_eq_none_iff]at l;refine⟨zD l j x B i,?_⟩;have:=scxs_iff.1 c.2 j x i;rw [eX,aLO B,add_zero]at this;exact this
      have C:=aON (o:=o) (ps:=ps) d (bL o d.length) 0 G
      have I:=aHv (o:=o) (ps:=ps) (m:=m) d 0 (bL o d.length) (fun j x i _=>by
       have K:=qL (o:=o) (ps:=ps) (fun q D=>by have:=g.1.pats q D;omega) (j:Int);have J:=aAl i;obtain⟨H,w⟩ :=aJo f j x i;have v:=scxs_iff.1 c.2 j x i;rw [eX]at v ⊢;rw [bD9];have hz: ((m:Nat) :Int) +bI o ps (j:Int) = ((m+ (bI o ps (j:Int)).toNat:Nat) :Int) :=by omega
       rw [hz]at v ⊢;exact(aFp k x _ H (by omega) (wxs_iff.1 g.2 x (iO i)) v w).2)
      have e:gQ (.mk o n d ps) (idl m) (m:Nat) = ⟨[],.mk o n d ps⟩ :=by
       rw [gQ,if_neg y,if_neg u,C];simp only [length_nil,natCast_zero,add_zero];rw [I,List.take_append_drop]
      rw [e];exact⟨fun _=>rfl,rfl⟩
def pW (t:XT) :XT:=clF (gQ t [0] 1)
structure NInv (p:Prog) (q:List XT) (ts:List XT) :Prop where
 wx:jJ p ts
 sc:∀t∈ts,rA t 1
 nf:ts.map pW=q
 qs:aD q≤900
 fs:fF ts≤900
 fine:FineXs (950900- (fF ts:Nat)) ts
 len:ts.length≤1000
theorem aCI {p:Prog}:∀ {a:List XT},jJ p a→aD a≤aD (a.map pW) ∧aD (a.map pW) ≤3*aD a
 | [],_=>by simp [aD]
 | t::a,h=>by
  simp only [jJ]at h;have b:=aZT t h.1 [0] 1;have c:=aCI h.2;simp only [dJ,aD,pW,clF,aRP];simp only [aCH]at b;omega
theorem NInv.small {p:Prog}{q ts:List XT}(h:NInv p q ts) :aD ts≤900:=by
 have:= (aCI h.wx).1;rw [h.nf]at this;have:=h.qs;omega
theorem aZU {p:Prog}{q ts:List XT}(h:NInv p q ts) :FineXs 1000000 ts∧aD ts≤100000∧ts.length≤1000:=by
 have:=h.small;exact⟨nP (by omega) h.fine,by omega,h.len⟩
theorem bFH {p:Prog}{node:Int}:∀ {d:List XT} {n:Int} {a:List XT},jJ p d→ (∀t∈d,rA t 1) →atF node d n= .did a→jJ p a∧ (∀t∈a,rA t 1) ∧a.map pW=d.map pW
 | [],n,a,_,_,h=>by simp only [atF]at h;cases h
 | t ::d,n,a,c,f,h=>by
  simp only [jJ]at c;simp only [atF]at h;split at h
  · split at h
    ·cases h
    ·cases h
    · rename_i l q;cases h;obtain⟨i,j,m⟩ :=bFH c.2 (fun x b=>f x (eD _ b)) q;refine⟨⟨c.1,i⟩,fun x b=>?_,by rw [dJ,dJ,m]⟩;rcases zq7.1 b with rfl|b
      ·exact f _ (dT ..)
      ·exact j x b
  ·cases h
  · rename_i k e;cases h;have g:=f t (dT ..);obtain⟨i,j⟩ :=bFC (cK t) t (le_refl _) c.1 n 1 (by omega) g k e;obtain⟨o,_⟩ :=bFz (cK t) t (le_refl _) c.1 n [0] k e;refine⟨⟨i,c.2⟩,fun x b=>?_,by rw [dJ,dJ,pW,pW,o]⟩;rcases zq7.1 b with rfl|b
    ·exact j
    ·exact f x (eD _ b)
theorem aHw {p:Prog}{ts b:List XT}{a:Int}{l:List Int}(e:jJ p ts)(c:eW ts 0=a::l)(h:atF a ts 0= .did b) :fF b+1=fF ts:=by
 obtain⟨j,t,m,k,i,d,f,rfl,g⟩ :=aCG c h;exact aZS d (bFG (cK t) t (le_refl _) (wxs_iff.1 e t (iO d)) a i k 1 m f g).1
theorem aOO {p:Prog}{q ts ts':List XT}{a:Int}{l:List Int}(h:NInv p q ts)(c:eW ts 0=a::l)(b:atF a ts 0= .did ts') :NInv p q ts':=by
 obtain⟨g,i,e⟩ :=bFH h.wx h.sc b;have k:=aHw h.wx c b;have j:=h.small;have f:=h.fs;obtain⟨d,_⟩ :=aOE h.fine (by omega) b;refine⟨g,i,by rw [e,h.nf],h.qs,by omega,?_,by rw [aLp a ts 0 ts' b];exact h.len⟩;rw [show(950900:Int) - (fF ts':Nat) =950900- (fF ts:Nat) +1 by omega];exact d
theorem aAm {p:Prog}:∀ {b:List XT} {a:Int},jJ p b→ (∀t∈b,rA t 1) →eW b a= [] →b.map pW=b
 | [],_,_,_,_=>rfl
 | t::b,a,c,d,h=>by
  simp only [jJ]at c;simp only [eW,List.append_eq_nil_iff]at h;have g:= (aFp (cK t) t 1 a (le_refl _) c.1 (d t (dT ..)) h.1).2;have e:=aAm c.2 (fun x f=>d x (eD _ f)) h.2;rw [dJ,e];congr 1
theorem aTs {p:Prog}{q:List XT}:∀ (k:Nat) (c:List XT),NInv p q c→fF c≤k→∃m,aBh k c=some (q,m)
 | 0,c,h,hk=>by
  simp only [aBh];cases b:eW c 0 with
  |nil=>exact⟨[],by rw [if_pos rfl,←h.nf,aAm h.wx h.sc b]⟩
  | cons a l=>
   obtain⟨e,d⟩ :=aRO c 0 (show a∈eW c 0 by rw [b];exact dT ..);have:=aHw h.wx b d;omega
 | k+1,c,h,hk=>by
  simp only [aBh];cases b:eW c 0 with
  |nil=>exact⟨[],by simp only;rw [←h.nf,aAm h.wx h.sc b]⟩
  | cons a l=>
   obtain⟨e,d⟩ :=aRO c 0 (show a∈eW c 0 by rw [b];exact dT ..);have f:=aHw h.wx b d;obtain⟨m,hm⟩ :=aTs k e (aOO h b d) (by omega);exact⟨a::m,by simp only;rw [d];simp only;rw [hm];rfl⟩
theorem aBi {p:Prog}{nd:Node}:aM p ⟨nd.op,nd.n,List.replicate nd.kids.length 0,nd.pats⟩ =aM p nd:=by
 simp only [aM,dC,eZ,aAs];try rfl
mutual
theorem bEb {p:Prog}(c:∀ (i:Nat) (x:Node),p.nodes[i]?=some x→aM p x=true) :∀ (t:XT) (a:Int),IsTree p t a→WX p t
 | .mk o n j m,a,h=>by
  simp only [IsTree]at h;obtain⟨q,nd,l,rfl,rfl,rfl,f⟩ :=h;have b:=c _ nd l;simp only [WX];rw [cC f];refine⟨⟨fun e=>?_,fun _=>by rw [aBi];exact b⟩,zE c j nd.kids f⟩;simp only [aM,dC,bO,cF,e,decide_eq_true_eq]at b;obtain⟨⟨⟨k,d⟩,_⟩,g⟩ :=b;simp [dH]at k d;simp [cL]at g;exact⟨by omega,by simp [g],d⟩
theorem zE {p:Prog}(b:∀ (i:Nat) (x:Node),p.nodes[i]?=some x→aM p x=true) :∀ (a:List XT) (l:List Int),aE p a l→jJ p a
 | [],_,_=>trivial
 | t::a,l,h=>by
  simp only [aE]at h;obtain⟨k,d,rfl,e,c⟩ :=h;exact⟨bEb b t k e,zE b a d c⟩
end
theorem pQ {p:Prog}:∀ {b:List XT} {l:List Int},aE p b l→∀ (j:Nat) (t:XT),b[j]?=some t→∃k,l[j]?=some k∧IsTree p t k
 | [],l,_,j,t,h=>by simp at h
 | x::b,l,h,j,t,a=>by
  simp only [aE]at h;obtain⟨k,i,rfl,g,d⟩ :=h;cases j with
  |zero=>simp only [lF,Option.some.injEq]at a;subst a;exact⟨k,rfl,g⟩
  | succ j=>
   obtain⟨c,e,f⟩ :=pQ d j t (by simpa using a);exact⟨c,by simpa using e,f⟩
theorem aTt {p:Prog}{Z:List Int}(hZ:Sprop p Z)(hc:∀ (i:Nat) (x:Node) (s:Int),p.nodes[i]?=some x→Z[i]?=some s→x.op=4→x.n<s) :∀ (k:Nat) (t:XT) (a z:Int),cK t≤k→IsTree p t a→Z[a.toNat]?=some z→rA t z
 |0,.mk o n g v,a,z,hk,_,_=>by simp only [cK]at hk;omega
 | k+1,.mk o n g v,a,z,hk,h,hz=>by
  simp only [cK]at hk;simp only [IsTree]at h;obtain⟨w,nd,f,rfl,rfl,rfl,l⟩ :=h;simp only [rA];refine⟨fun e=>hc _ nd z f hz e,scxs_iff.2 fun j x d=>?_⟩;obtain⟨c,q,r⟩ :=pQ l j x d;obtain⟨s,b,u⟩ :=hZ.kid _ nd j c f q;rw [hz]at b;cases b;have m:=aAl d;refine aTt hZ hc k x c _ (by omega) r ?_;rw [u,eX];rfl
theorem aZV {p:Prog}{S:List Int}(hl:S.length=p.nodes.length)(h:qN p S 0 S=true) :∀ (i:Nat) (x:Node) (s:Int),p.nodes[i]?=some x→S[i]?=some s→x.op=4→x.n<s:=fun i x s d a c=>by
 have b:= (zq0.1 a).1;have:= (pP p S S 0).1 h i b;rw [eX]at this;simp only [sQ,d,a,c,decide_true,mY]at this;simpa using this
theorem aZW {p:Prog}(f:aK p=true)(a:aN p=true)(hc: (eC p).1=true){ts:List XT}(b:aE p ts p.funs) :NInv p (ts.map pW) ts:=by
 obtain⟨n,d,_⟩ :=kG f a;have g:=aEH a;have i:=qQ f a b;have hb:=f;simp only [aK,cF,decide_eq_true_eq]at hb;have e:p.nodes.length≤300:=by
  have:=a;simp only [aN,eB,cF,decide_eq_true_eq]at this;exact this.1.1.1.1
 have h:=zE g ts p.funs b;have m:=bFE ts;refine⟨h,fun t c=>?_,rfl,?_,by omega,?_,?_⟩
 · obtain⟨j,o⟩ :=List.getElem?_of_mem c;obtain⟨k,l,q⟩ :=pQ b j t o;unfold eC at hc;rw [if_pos a]at hc;exact aTt d (aZV d.len hc) (cK t) t k 1 (le_refl _) q (d.root k (iO l))
 · have:= (aCI h).2;omega
 ·exact nP (by omega) (aBf n g ts p.funs b)
 ·rw [cC b];omega
end
end Go.Hb
