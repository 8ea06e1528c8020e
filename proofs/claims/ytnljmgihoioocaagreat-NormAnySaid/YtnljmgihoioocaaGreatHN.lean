/- A machine on abstract values, its soundness, ways, plain laws. -/
import Derived.Test.YtnljmgihoioocaaGreatHF
import Derived.Test.YtnljmgihoioocaaGreatHH
import Derived.Test.YtnljmgihoioocaaGreatHK
import Derived.Test.YtnljmgihoioocaaGreatHM
set_option linter.defProp false
set_option linter.unusedVariables false
set_option linter.unusedSimpArgs false
set_option linter.unusedSectionVars false
set_option maxRecDepth 100000
set_option maxHeartbeats 1000000
namespace Go.Hb
open Int (add_zero natCast_zero)
open List (drop_zero getD_cons_succ getD_cons_zero length length_nil map nil_append range set_cons_succ set_cons_zero)
open Nat (le_refl zero_le)
open Option (map_some)
open Go.Proofs Tryz
noncomputable section
section
variable (B :Int) (hB:B≤1000000) (tg:Int)
end
abbrev LaS (t:XT)(L:List ONode)(ns:List Node) :Prop:=fC PP 0 (.enter 87 [.gl 0 4 0 (length L) false,RT.av t]) (aA [(0,OL L,true)] 1) (.ret (.gl 0 4 0 (length (L++map Node.o ns)) false)) (aA [(0,OL (L++map Node.o ns),true)] 1)
section
variable (l :List ONode) (o n:Int) (ks:List XT) (ps:List Pat) (hkl:ks.length≤1000) (ih:∀t∈ks,∀ (M:List ONode),M.length+cB t≤1000000→LaS t M (eB t M.length))
include hkl ih
end
section
variable {B :Int} (hB:B≤1000000) (p:Prog)
end
mutual
def Few (C:Pat→Prop) :XT→Prop
 | .mk _ _ ks ps=>ks.length≤10∧ (∀q∈ps,C q) ∧oG C ks
def oG (C:Pat→Prop) :List XT→Prop
 | [] =>True
 |t::ts=>Few C t∧oG C ts
end
theorem fewS_iff {C:Pat→Prop}:∀ {ts:List XT},oG C ts↔∀t∈ts,Few C t
 | [] =>by simp [oG]
 |t::ts=>by simp only [oG,fewS_iff (ts:=ts),zq7];exact⟨fun h x a=>by rcases a with rfl|a;exact h.1;exact h.2 x a,fun h=> ⟨h t (.inl rfl),fun x a=>h x (.inr a)⟩⟩
section
variable {C :Pat→Prop}
mutual
theorem aYR {fr:Int}:∀ {t:XT},Few C t→Few C (rG fr 1 t)
 | .mk o n a b,h=>by
  simp only [rG,Few]at h ⊢;exact⟨by rw [kL];exact h.1,h.2.1,aK0 h.2.2⟩
theorem aK0 {fr:Int}:∀ {a:List XT},oG C a→oG C (dR fr 1 a)
 | [],_=>trivial
 |t::a,h=>by simp only [dR,oG]at h ⊢;exact⟨aYR h.1,aK0 h.2⟩
end
theorem aYS {ts:List XT}{i:Nat}{t:XT}(h:oG C ts)(b:Few C t) :oG C (ts.set i t) :=fewS_iff.2 fun x a=>by
 rcases List.mem_or_eq_of_mem_set a with a|rfl
 ·exact fewS_iff.1 h x a
 ·exact b
theorem aK1 {a b:XT}(c:Few C a)(hb:Few C b) :Few C (.mk 7 0 [a,b] []) :=by
 simp only [Few,oG];exact⟨by simp,fun q d=> (by cases d),c,hb,trivial⟩
theorem bC3 :Few C dXT:=by simp only [dXT,Few,oG];exact⟨by simp,fun q a=> (by cases a),trivial⟩
theorem yD {ts:List XT}(h:oG C ts)(i:Nat) :Few C (ts.getD i dXT) :=by
 rw [nW];cases a:ts[i]? with
 |none=>exact bC3
 |some x=>exact fewS_iff.1 h x (kN a)
theorem aYT :∀ {t:XT},Few C t→oG C t.kids
 | .mk o n a b,h=>by simp only [Few]at h;exact h.2.2
theorem aYU {sz:Int}:∀ {t:XT} {s:Option Nat},Few C t→Few C (gK sz s t)
 | .mk o n c d,some k,h=>by
  have e:=h;simp only [Few]at h;simp only [gK,dnT];refine aK1 (yD h.2.2 k) ?_;simp only [Few];refine⟨by simpa using h.1,h.2.1,aYS (by rw [←mB];exact aK0 h.2.2) ?_⟩;simp only [Few,oG];exact⟨by simp,fun q b=> (by cases b),trivial⟩
 | .mk o n c d,none,h=>by
  simp only [Few]at h;simp only [gK,neT];have a:=aYT (yD h.2.2 0);exact aK1 (yD a 0) (aK1 (yD a 1) (aYR (yD h.2.2 1)))
mutual
theorem aR9 {node:Int}:∀ {t:XT} {d g:Int} {f:XT},Few C t→atT node t d g= .did f→Few C f
 | .mk o n l j,d,g,f,c,h=>by
  have i:=c;simp only [Few]at c
  have a:∀b,iF node o j l 0 (d+1) g= .did b→Few C (.mk o n b j) :=fun b e=>by
   obtain⟨k,m⟩ :=aNG c.2.2 e;simp only [Few];exact⟨by rw [m];exact c.1,c.2.1,k⟩
  simp only [atT]at h;split at h
  · split at h
    ·cases h;exact aYU i
    · split at h
      ·cases h
      · split at h
        ·cases h
        ·cases h
        ·rename_i e;cases h;exact a _ e
  · split at h
    ·cases h
    ·cases h
    ·rename_i e;cases h;exact a _ e
theorem aNG {node o:Int}{ps:List Pat}:∀ {c:List XT} {i:Nat} {n z:Int} {a:List XT},oG C c→iF node o ps c i n z= .did a→oG C a∧a.length=c.length
 | [],i,n,z,a,_,h=>by simp only [iF]at h;cases h
 | t ::c,i,n,z,a,b,h=>by
  simp only [oG]at b;simp only [iF]at h;split at h
  · split at h
    ·cases h
    ·cases h
    · rename_i d;cases h;obtain⟨f,g⟩ :=aNG b.2 d;exact⟨⟨b.1,f⟩,by simp [g]⟩
  ·cases h
  · rename_i e;cases h;exact⟨⟨aR9 b.1 e,b.2⟩,rfl⟩
end
theorem aSa {node:Int}:∀ {c:List XT} {n:Int} {a:List XT},oG C c→vW node c n= .did a→oG C a∧a.length=c.length
 | [],n,a,_,h=>by simp only [vW]at h;cases h
 | t ::c,n,a,b,h=>by
  simp only [oG]at b;simp only [vW]at h;split at h
  · split at h
    ·cases h
    ·cases h
    · rename_i d;cases h;obtain⟨f,g⟩ :=aSa b.2 d;exact⟨⟨b.1,f⟩,by simp [g]⟩
  ·cases h
  · rename_i e;cases h;exact⟨⟨aR9 b.1 e,b.2⟩,rfl⟩
end
abbrev zX (cons:List Con)(q:Pat) :Prop:=bX q≤12∧dZ cons q=true
mutual
theorem aYV {p:Prog}(hp:FineP p) :∀ (t:XT) (a:Int),IsTree p t a→Few (zX p.cons) t
 | .mk o n f j,a,h=>by
  simp only [IsTree]at h;obtain⟨i,nd,g,rfl,rfl,rfl,b⟩ :=h;obtain⟨e,c,_⟩ :=hp.node _ nd g;simp only [Few];exact⟨by rw [eU b];exact c,fun q d=>e.pats q d,aDf hp f nd.kids b⟩
theorem aDf {p:Prog}(hp:FineP p) :∀ (a:List XT) (l:List Int),aQ p a l→oG (zX p.cons) a
 | [],_,_=>trivial
 | t::a,l,h=>by
  simp only [aQ]at h;obtain⟨k,c,rfl,d,b⟩ :=h;exact⟨aYV hp t k d,aDf hp a c b⟩
end
theorem nG :∀ (b:List XT) (a:Nat),(bE b a).1.length=b.length∧∀k∈ (bE b a).1,(a:Int) ≤k∧k< ((a+aD b:Nat) :Int)
 | [],a=>by simp [bE]
 | t::b,a=>by
  have h:=nG b (a+ (eB t a).length);have hl:=bR t a;have c:0<cB t:=by cases t;simp [cB]
  simp only [bE,oI,zq7,aD];refine⟨by rw [h.1],fun k hk=>?_⟩;rcases hk with rfl|hk
  ·omega
  ·have:=h.2 k hk;omega
mutual
theorem aYW {B:Int}{cons:List Con}:∀ (t:XT) (a:Nat),FineX B t→Few (zX cons) t→∀ (j:Nat) (x:Node),(eB t a)[j]?=some x→FineN cons x∧x.kids.length≤10∧∀k∈x.kids,((a+j:Nat) :Int) <k∧k< ((a+cB t:Nat) :Int)
 | .mk o n f m,a,c,d,j,x,h=>by
  simp only [FineX]at c;simp only [Few]at d;have hk:=nG f (a+1);simp only [eB]at h;simp only [cB];cases j with
  | zero=>
   simp only [jP,Option.some.injEq]at h;subst h;exact⟨⟨d.2.1,fun e=>by dsimp only;rw [hk.1];exact c.2.2.2.1 e,fun e=>by dsimp only;rw [hk.1];exact c.2.2.2.2.1 e⟩,by dsimp only;rw [hk.1];exact d.1,fun k b=>by have:=hk.2 k b;omega⟩
  | succ j=>
   simp only [mM]at h;obtain⟨i,l,g⟩ :=aDg f (a+1) c.2.2.2.2.2.2 d.2.2 j x h;exact⟨i,l,fun k b=>by have:=g k b;omega⟩
theorem aDg {B:Int}{cons:List Con}:∀ (c:List XT) (a:Nat),FineXs B c→oG (zX cons) c→∀ (j:Nat) (x:Node),(bE c a).2[j]?=some x→FineN cons x∧x.kids.length≤10∧∀k∈x.kids,((a+j:Nat) :Int) <k∧k< ((a+aD c:Nat) :Int)
 | [],a,_,_,j,x,h=>by simp [bE]at h
 | t ::c,a,d,f,j,x,h=>by
  simp only [FineXs]at d;simp only [oG]at f;have hl:=bR t a;simp only [bE]at h;simp only [aD];by_cases l:j< (eB t a).length
  · rw [hQ l]at h;obtain⟨g,i,e⟩ :=aYW t a d.1 f.1 j x h;exact⟨g,i,fun k b=>by have:=e k b;omega⟩
  · rw [jA (by omega)]at h;obtain⟨g,i,e⟩ :=aDg c (a+ (eB t a).length) d.2 f.2 _ x h;exact⟨g,i,fun k b=>by have:=e k b;omega⟩
end
mutual
def zT :XT→Int→List Int
 | .mk o _ ks ps,z=>z::zTs o ps ks 0 z
def zTs (o:Int)(ps:List Pat) :List XT→Nat→Int→List Int
 | [],_,_=>[]
 |t::ts,i,z=>zT t (z+bJ o ps (i:Int)) ++zTs o ps ts (i+1) z
end
def zF :List XT→List Int
 | [] =>[]
 |t::ts=>zT t 1++zF ts
mutual
theorem oS :∀ (t:XT) (z:Int),(zT t z).length=cB t
 | .mk o n a b,z=>by rw [zT,cB,oI,aSb]
theorem aSb (o:Int)(ps:List Pat) :∀ (a:List XT) (i:Nat) (z:Int),(zTs o ps a i z).length=aD a
 | [],i,z=>by rw [zTs,aD];rfl
 |t::a,i,z=>by rw [zTs,aD,tI,oS,aSb]
end
theorem aYX :∀ (a:List XT),(zF a).length=aD a
 | [] =>rfl
 |t::a=>by rw [zF,aD,tI,oS,aYX]
theorem aSc :∀ (t:XT) (z:Int),(zT t z)[0]?=some z
 | .mk o n a b,z=>by rw [zT];rfl
theorem aNH (o:Int)(ps:List Pat) :∀ (b:List XT) (a i:Nat) (z:Int) (d:Nat) (k:Int),(bE b a).1[d]?=some k→∃m:Nat,k= ((a+m:Nat) :Int) ∧ (zTs o ps b i z)[m]?=some (z+bJ o ps ((i+d:Nat) :Int))
 | [],a,i,z,d,k,h=>by simp [bE]at h
 | t::b,a,i,z,d,k,h=>by
  have hl:=bR t a;have hz:=oS t (z+bJ o ps (i:Int));have f:0<cB t:=by cases t;simp [cB]
  simp only [bE]at h;simp only [zTs];cases d with
  | zero=>
   simp only [jP,Option.some.injEq]at h;refine⟨0,by rw [←h];rfl,?_⟩;rw [hQ (by omega),aSc];rfl
  | succ d=>
   simp only [mM]at h;obtain⟨m,c,e⟩ :=aNH o ps b _ (i+1) z d k h;refine⟨(eB t a).length+m,by rw [c];omega,?_⟩;rw [jA (by omega),show(eB t a).length+m- (zT t (z+bJ o ps (i:Int))).length=m by omega,e,show i+1+d=i+ (d+1)by omega]
mutual
theorem bD9 :∀ (t:XT) (a:Nat) (z:Int) (j:Nat) (x:Node) (d:Nat) (k:Int),(eB t a)[j]?=some x→x.kids[d]?=some k→∃s,(zT t z)[j]?=some s∧∃m:Nat,k= ((a+m:Nat) :Int) ∧ (zT t z)[m]?=some (s+dI x (d:Int))
 | .mk o n f e,a,z,j,x,d,k,h,hk=>by
  simp only [eB]at h;simp only [zT];cases j with
  | zero=>
   simp only [jP,Option.some.injEq]at h;subst h;obtain⟨m,b,c⟩ :=aNH o e f (a+1) 0 z d k hk;refine⟨z,rfl,m+1,by rw [b];omega,?_⟩;rw [mM,c,eS];rfl
  | succ j=>
   simp only [mM]at h;obtain⟨s,b,m,c,g⟩ :=aYY o e f (a+1) 0 z j x d k h hk;exact⟨s,b,m+1,by rw [c];omega,g⟩
theorem aYY (o:Int)(ps:List Pat) :∀ (b:List XT) (a i:Nat) (z:Int) (j:Nat) (x:Node) (d:Nat) (k:Int),(bE b a).2[j]?=some x→x.kids[d]?=some k→∃s,(zTs o ps b i z)[j]?=some s∧∃m:Nat,k= ((a+m:Nat) :Int) ∧ (zTs o ps b i z)[m]?=some (s+dI x (d:Int))
 | [],a,i,z,j,x,d,k,h,hk=>by simp [bE]at h
 | t ::b,a,i,z,j,x,d,k,h,hk=>by
  have hl:=bR t a;have hz:=oS t (z+bJ o ps (i:Int));simp only [bE]at h;simp only [zTs];by_cases g:j< (eB t a).length
  · rw [hQ g]at h;obtain⟨s,e,m,f,c⟩ :=bD9 t a (z+bJ o ps (i:Int)) j x d k h hk;have hm:= (zq0.1 c).1;exact⟨s,by rw [hQ (by omega)];exact e,m,f,by rw [hQ hm];exact c⟩
  · rw [jA (by omega)]at h;obtain⟨s,e,m,f,c⟩ :=aYY o ps b _ (i+1) z _ x d k h hk;refine⟨s,by rw [jA (by omega),hz,←hl];exact e,(eB t a).length+m,by rw [f];omega,?_⟩;rw [jA (by omega),hz,←hl,show(eB t a).length+m- (eB t a).length=m by omega];exact c
end
theorem aIt :∀ (b:List XT) (a:Nat) (f:Int),f∈ (bE b a).1→∃m:Nat,f= ((a+m:Nat) :Int) ∧ (zF b)[m]?=some 1
 | [],a,f,h=>by simp [bE]at h
 | t ::b,a,f,h=>by
  have hl:=bR t a;have hz:=oS t 1;have e:0<cB t:=by cases t;simp [cB]
  simp only [bE,zq7]at h;simp only [zF];rcases h with rfl|h
  ·exact⟨0,rfl,by rw [hQ (by omega),aSc]⟩
  · obtain⟨m,c,d⟩ :=aIt b _ f h;exact⟨(eB t a).length+m,by rw [c];omega,by rw [jA (by omega),hz,←hl,show(eB t a).length+m- (eB t a).length=m by omega];exact d⟩
theorem aYZ :∀ (b:List XT) (a:Nat) (j:Nat) (x:Node) (d:Nat) (k:Int),(bE b a).2[j]?=some x→x.kids[d]?=some k→∃s,(zF b)[j]?=some s∧∃m:Nat,k= ((a+m:Nat) :Int) ∧ (zF b)[m]?=some (s+dI x (d:Int))
 | [],a,j,x,d,k,h,hk=>by simp [bE]at h
 | t ::b,a,j,x,d,k,h,hk=>by
  have hl:=bR t a;have hz:=oS t 1;simp only [bE]at h;simp only [zF];by_cases g:j< (eB t a).length
  · rw [hQ g]at h;obtain⟨s,e,m,f,c⟩ :=bD9 t a 1 j x d k h hk;have hm:= (zq0.1 c).1;exact⟨s,by rw [hQ (by omega)];exact e,m,f,by rw [hQ hm];exact c⟩
  · rw [jA (by omega)]at h;obtain⟨s,e,m,f,c⟩ :=aYZ b _ _ x d k h hk;refine⟨s,by rw [jA (by omega),hz,←hl];exact e,(eB t a).length+m,by rw [f];omega,?_⟩;rw [jA (by omega),hz,←hl,show(eB t a).length+m- (eB t a).length=m by omega];exact c
mutual
theorem bC4 :∀ (t:XT) (a m:Nat),m<cB t→m=0∨∃ (j:Nat) (x:Node),(eB t a)[j]?=some x∧ ((a+m:Nat) :Int) ∈x.kids∧j<m
 | .mk o n d f,a,m,h=>by
  simp only [cB]at h;simp only [eB];cases m with
  |zero=>exact .inl rfl
  | succ m=>
   right;rcases aGF d (a+1) m (by omega)with b| ⟨j,x,b,c,e⟩
   ·exact⟨0,_,rfl,by rw [show a+ (m+1) =a+1+m by omega];exact b,by omega⟩
   ·exact⟨j+1,x,b,by rw [show a+ (m+1) =a+1+m by omega];exact c,by omega⟩
theorem aGF :∀ (c:List XT) (a m:Nat),m<aD c→ ((a+m:Nat) :Int) ∈ (bE c a).1∨∃ (j:Nat) (x:Node),(bE c a).2[j]?=some x∧ ((a+m:Nat) :Int) ∈x.kids∧j<m
 | [],a,m,h=>by simp [aD]at h
 | t ::c,a,m,h=>by
  have hl:=bR t a;simp only [aD]at h;simp only [bE];by_cases hm:m<cB t
  · rcases bC4 t a m hm with rfl| ⟨j,x,b,d,f⟩
    ·exact .inl (by simp)
    ·exact .inr ⟨j,x,by rw [hQ (by omega)];exact b,d,f⟩
  · have e:a+m=a+ (eB t a).length+ (m- (eB t a).length) :=by omega
    rcases aGF c (a+ (eB t a).length) (m- (eB t a).length) (by omega)with b| ⟨j,x,b,d,f⟩
    ·exact .inl (cJ _ (by rw [e];exact b))
    ·exact .inr ⟨(eB t a).length+j,x,by rw [jA (by omega),show(eB t a).length+j- (eB t a).length=j by omega];exact b,by rw [e];exact d,by omega⟩
end
theorem bC5 {ts:List XT}{mn:Int}{cons:List Con}:Sprop (bK ts mn cons) (zF ts) :=by
 refine⟨by rw [aYX];simp only [bK,aQO];rw [pO],fun f e=>?_,fun i x d k h hk=>?_⟩
 · obtain⟨m,b,a⟩ :=aIt ts 0 f e;rw [b,show((((0+m:Nat) :Int)).toNat) =m by omega];exact a
 · obtain⟨s,b,m,a,c⟩ :=aYZ ts 0 i x d k h hk;exact⟨s,b,by rw [a,show((((0+m:Nat) :Int)).toNat) =m by omega];exact c⟩
theorem aUO {ts:List XT}{mn:Int}{cons:List Con}:zU (bK ts mn cons) :=fun m hm=>by
 simp only [bK,aQO]at hm ⊢;rw [pO]at hm;rcases aGF ts 0 m hm with a| ⟨j,x,a,b,c⟩
 ·exact .inl ⟨_,a,by omega⟩
 ·exact .inr ⟨j,x,_,a,b,by omega,c⟩
def aA9 :XT→List Int→XT
 | .mk o n ks ps,to=>if o=4∧0≤n then .mk o (to.getD n.toNat 0) ks ps else .mk o n ks ps
def plc (to:List Int)(n k:Int) :List Int:=to++ (range k.toNat).map (fun i=>n+ ((i:Nat) :Int))
def clB :List XT→XT→XT
 | [],t=>t
 |a::bs,t=>.mk 7 0 [a,clB bs t] []
def clF (f:Flow) :XT:=clB f.binds f.last
mutual
def eI :XT→List Int→Int→Flow
 | .mk o n ks ps,to,z=>
  if bP (.mk o n ks ps) =true then⟨[],aA9 (.mk o n ks ps) to⟩
  else if o=7 then flL ks to z
  else⟨(pJ ks (bF o ks.length) to z).1,.mk o n ((pJ ks (bF o ks.length) to z).2++flR o ps ks 0 (bF o ks.length) to (z+ ((pJ ks (bF o ks.length) to z).1.length:Nat))) ps⟩
def flL :List XT→List Int→Int→Flow
 | [],_,_=> ⟨[],dXT⟩
 |a::ks,to,z=> ⟨(eI a to z).binds++ (eI a to z).last:: (flB ks (to++ [z+ ((eI a to z).binds.length:Nat)]) (z+ ((eI a to z).binds.length+1:Nat))).binds,(flB ks (to++ [z+ ((eI a to z).binds.length:Nat)]) (z+ ((eI a to z).binds.length+1:Nat))).last⟩
def flB :List XT→List Int→Int→Flow
 | [],_,_=> ⟨[],dXT⟩
 |b::_,to,z=>eI b to z
def pJ :List XT→Nat→List Int→Int→List XT×List XT
 | [],_,_,_=> ([],[])
 |_::_,0,_,_=> ([],[])
 | k::ks,m+1,to,z=>if bP k=true then((pJ ks m to z).1,aA9 k to:: (pJ ks m to z).2)
  else((eI k to z).binds++ (eI k to z).last:: (pJ ks m to (z+ ((eI k to z).binds.length+1:Nat))).1,.mk 4 (z+ ((eI k to z).binds.length:Nat)) [] [] :: (pJ ks m to (z+ ((eI k to z).binds.length+1:Nat))).2)
def flR (o:Int)(ps:List Pat) :List XT→Nat→Nat→List Int→Int→List XT
 | [],_,_,_,_=>[]
 |_::ks,i,m+1,to,n=>flR o ps ks (i+1) m to n
 |k::ks,i,0,to,n=>clF (eI k (plc to n (bJ o ps (i:Int))) (n+bJ o ps (i:Int))) ::flR o ps ks (i+1) 0 to n
end
def NdX (p:Prog)(o n:Int)(k:Nat)(ps:List Pat) :Prop:=
 (o=4→0- (p.funs.length:Int) ≤n∧k=0∧ps= []) ∧ (o≠4→aO p ⟨o,n,List.replicate k 0,ps⟩ =true)
mutual
def WX (p:Prog) :XT→Prop
 | .mk o n ks ps=>NdX p o n ks.length ps∧mJ p ks
def mJ (p:Prog) :List XT→Prop
 | [] =>True
 |t::ts=>WX p t∧mJ p ts
end
theorem wxs_iff {p:Prog}:∀ {ts:List XT},mJ p ts↔∀t∈ts,WX p t
 | [] =>by simp [mJ]
 |t::ts=>by simp only [mJ,wxs_iff (ts:=ts),zq7];exact⟨fun h x a=>by rcases a with rfl|a;exact h.1;exact h.2 x a,fun h=> ⟨h t (.inl rfl),fun x a=>h x (.inr a)⟩⟩
theorem atomX_iff {t:XT}:bP t=true↔t.op=1∨t.op=2∨t.op=3∨t.op=4:=by
 unfold bP;simp only [Bool.or_eq_true,decide_eq_true_eq];omega
theorem NdX.atom {p:Prog}{o n:Int}{k:Nat}{ps:List Pat}(h:NdX p o n k ps)(c:o=1∨o=2∨o=3∨o=4) :k=0:=by
 by_cases a:o=4
 ·exact(h.1 a).2.1
 · have:=h.2 a;simp only [aO,cM,decide_eq_true_eq,aIA]at this;have b:=this.2;rcases c with rfl|rfl|rfl|rfl<;>simp [cK]at b<;>omega
theorem NdX.let7 {p:Prog}{o n:Int}{k:Nat}{ps:List Pat}(h:NdX p o n k ps)(d:o=7) :n=0∧ps= [] ∧k=2:=by
 subst d;have:=h.2 (by decide);simp only [aO,eR,dQ,cM,decide_eq_true_eq,aIA]at this;obtain⟨⟨⟨b,a⟩,_⟩,c⟩ :=this;simp at b a;simp [cK]at c;exact⟨b,a,by omega⟩
theorem NdX.pats {p:Prog}{o n:Int}{k:Nat}{ps:List Pat}(h:NdX p o n k ps) :∀q∈ps,bX q≤12:=fun q a=>by
 by_cases b:o=4
 ·rw [(h.1 b).2.2]at a;cases a
 · have:=h.2 b;simp only [aO,cM]at this;have:=zq27.1 this.1.2 q a;simp only [iE,cM,decide_eq_true_eq]at this;exact this.1
theorem aEJ {o:Int}{l:Nat}(h:0<bF o l) :¬ (o=1∨o=2∨o=3∨o=4) ∧o≠7∧o≠5∧o≠27:=by
 refine⟨fun a=>?_,fun a=>?_,fun a=>?_,fun a=>?_⟩
 ·rcases a with rfl|rfl|rfl|rfl<;>simp [bF,fE,kB]at h
 all_goals (subst a;simp [bF,fE,kB]at h)
theorem aEK {o:Int}{ps:List Pat}{l i:Nat}(h:i<bF o l) :bJ o ps (i:Int) =0:=by
 obtain⟨_,c,d,b⟩ :=aEJ (by omega:0<bF o l);unfold bJ dI;simp only [c,d,b];by_cases a:o=15
 · subst a;have:i=0:=by simp [bF,fE]at h;exact h
   subst this;simp
 ·simp [a]
theorem getD_ins {a b:List Int}{x:Int}{n:Nat}: (a.length≤n→ (a++x::b).getD (n+1) 0= (a++b).getD n 0) ∧ (n<a.length→ (a++x::b).getD n 0= (a++b).getD n 0) :=by
 simp only [nW];refine⟨fun h=>?_,fun h=>?_⟩
 ·rw [jA (by omega),jA h,show n+1-a.length= (n-a.length) +1 by omega,mM]
 ·rw [hQ h,hQ h]
theorem bC7 {c o n:Int}{ps:List Pat}{a b:List Int}{x:Int}(hc: (a.length:Int) =c) :aA9 (.mk o (mvN c 1 o n) [] ps) (a++x::b) =aA9 (.mk o n [] ps) (a++b) :=by
 have g :∀h,h=mvN c 1 o n→aA9 (.mk o h [] ps) (a++x::b) =aA9 (.mk o n [] ps) (a++b) :=by
  intro h d;unfold mvN at d;simp only [aA9];by_cases e:o=4
  · by_cases f:0≤n
    · by_cases i:c≤n
      · rw [if_pos ⟨e,f,i⟩]at d;subst d;rw [if_pos ⟨e,by omega⟩,if_pos ⟨e,f⟩,show(n+1).toNat=n.toNat+1 by omega,getD_ins.1 (by omega)]
      · rw [if_neg (by omega)]at d;subst d;rw [if_pos ⟨e,f⟩,if_pos ⟨e,f⟩,getD_ins.2 (by omega)]
    · rw [if_neg (by omega)]at d;subst d;rw [if_neg (by omega),if_neg (by omega)]
  · rw [if_neg (by omega)]at d;subst d;rw [if_neg (by omega),if_neg (by omega)]
 exact g _ rfl
theorem aCr (c:Int) :∀ (t:XT),bP (rG c 1 t) =bP t
 | .mk o n a b=>rfl
theorem WX.kids0 {p:Prog}{o n:Int}{ks:List XT}{ps:List Pat}(h:WX p (.mk o n ks ps))(a:bP (.mk o n ks ps) =true) :ks= [] :=by
 simp only [WX]at h;exact zq35.1 (h.1.atom (atomX_iff.1 a))
theorem aGG {p:Prog}{c:Int}{a b:List Int}{x:Int}(hc: (a.length:Int) =c) :∀ {t:XT},WX p t→bP t=true→aA9 (rG c 1 t) (a++x::b) =aA9 t (a++b)
 | .mk o n f g,d,e=>by
  have hk:=d.kids0 e;subst hk;exact bC7 hc
theorem aY0 (a b:List Int)(x n k:Int) :plc (a++x::b) n k=a++x::plc b n k∧plc (a++b) n k=a++plc b n k:=by
 unfold plc;simp
section
variable {p :Prog} (c:Int)
mutual
theorem aGH :∀ (t:XT),WX p t→∀ (a:List Int) (x:Int) (b:List Int) (z:Int),(a.length:Int) =c→eI (rG c 1 t) (a++x::b) z=eI t (a++b) z
 | .mk o n d f,e,a,x,b,z,hc=>by
  have i:=e;simp only [WX]at e;simp only [rG,eI];rw [show bP (.mk o (mvN c 1 o n) (dR c 1 d) f) =bP (.mk o n d f)from rfl,kL];by_cases h:bP (.mk o n d f) =true
  · rw [if_pos h,if_pos h];have:=aGG (b:=b) (x:=x) hc i h;simp only [rG]at this;rw [this]
  · rw [if_neg h,if_neg h];by_cases g:o=7
    ·rw [if_pos g,if_pos g];exact bFs d e.2 a x b z hc
    · rw [if_neg g,if_neg g];have j:mvN c 1 o n=n:=by
       unfold mvN;rw [if_neg];intro k;exact h (atomX_iff.2 (.inr (.inr (.inr k.1))))
      rw [aK2 d e.2 _ a x b z hc,aK3 o f d e.2 0 _ a x b _ hc,j]
theorem bFs :∀ (d:List XT),mJ p d→∀ (a:List Int) (x:Int) (b:List Int) (z:Int),(a.length:Int) =c→flL (dR c 1 d) (a++x::b) z=flL d (a++b) z
 | [],_,_,_,_,_,_=>rfl
 | k::d,e,a,x,b,z,hc=>by
  simp only [mJ]at e;simp only [dR,flL];rw [aGH k e.1 a x b z hc,zq9,zq9,aAb,bFt d e.2 a x _ _ hc]
theorem bFt :∀ (d:List XT),mJ p d→∀ (a:List Int) (x:Int) (b:List Int) (z:Int),(a.length:Int) =c→flB (dR c 1 d) (a++x::b) z=flB d (a++b) z
 | [],_,_,_,_,_,_=>rfl
 | k::d,e,a,x,b,z,hc=>by
  simp only [mJ]at e;simp only [dR,flB];exact aGH k e.1 a x b z hc
theorem aK2 :∀ (d:List XT),mJ p d→∀ (m:Nat) (a:List Int) (x:Int) (b:List Int) (z:Int),(a.length:Int) =c→pJ (dR c 1 d) m (a++x::b) z=pJ d m (a++b) z
 | [],_,_,_,_,_,_,_=>by simp only [dR,pJ]
 |k::d,_,0,_,_,_,_,_=>by simp only [dR,pJ]
 | k::d,e,m+1,a,x,b,z,hc=>by
  simp only [mJ]at e;simp only [dR,pJ];rw [aCr];by_cases h:bP k=true
  ·rw [if_pos h,if_pos h,aK2 d e.2 m a x b z hc,aGG hc e.1 h]
  ·rw [if_neg h,if_neg h,aGH k e.1 a x b z hc,aK2 d e.2 m a x b _ hc]
theorem aK3 (o:Int)(ps:List Pat) :∀ (d:List XT),mJ p d→∀ (i m:Nat) (a:List Int) (x:Int) (b:List Int) (n:Int),(a.length:Int) =c→flR o ps (dR c 1 d) i m (a++x::b) n=flR o ps d i m (a++b) n
 | [],_,_,_,_,_,_,_,_=>by simp only [dR,flR]
 | k::d,e,i,m+1,a,x,b,n,hc=>by
  simp only [mJ]at e;simp only [dR,flR];exact aK3 o ps d e.2 (i+1) m a x b n hc
 | k::d,e,i,0,a,x,b,n,hc=>by
  simp only [mJ]at e;simp only [dR,flR];rw [(aY0 a b x n _).1,(aY0 a b x n _).2,aGH k e.1 a x _ _ hc,aK3 o ps d e.2 (i+1) 0 a x b n hc]
end
end
theorem qN :∀ {a:List XT} {i m k:Nat},cU a i m=some k→∃j x,k=i+j∧j<m∧a[j]?=some x∧bP x=false
 | [],i,m,k,h=>by simp [cU]at h
 |_::_,i,0,k,h=>by simp [cU]at h
 | t ::a,i,m+1,k,h=>by
  simp only [cU]at h;split at h
  · obtain⟨j,x,f,e,c,b⟩ :=qN h;exact⟨j+1,x,by omega,by omega,by simpa using c,b⟩
  · rename_i d;cases h;exact⟨0,t,rfl,by omega,rfl,by simpa using d⟩
theorem aY1 {p:Prog}:∀ (e:List XT) (m i j:Nat),mJ p e→cU e i m=some (i+j) →∀ (d:List Int) (z:Int),
  pJ e m d z= ((eI (e.getD j dXT) d z).binds++ (eI (e.getD j dXT) d z).last::
    (pJ ((dR (d.length:Int) 1 e).set j (.mk 4 (d.length:Int) [] [])) m (d++ [z+ ((eI (e.getD j dXT) d z).binds.length:Nat)]) (z+ ((eI (e.getD j dXT) d z).binds.length+1:Nat))).1,
   (pJ ((dR (d.length:Int) 1 e).set j (.mk 4 (d.length:Int) [] [])) m (d++ [z+ ((eI (e.getD j dXT) d z).binds.length:Nat)]) (z+ ((eI (e.getD j dXT) d z).binds.length+1:Nat))).2)
 | [],m,i,j,_,h,_,_=>by simp [cU]at h
 |_::_,0,i,j,_,h,_,_=>by simp [cU]at h
 | k ::e,m+1,i,j,g,h,d,z=>by
  simp only [mJ]at g;simp only [cU]at h;by_cases f:bP k=true
  · rw [if_pos f]at h;obtain⟨l,x,s,_,_,_⟩ :=qN h;obtain rfl:j=l+1:=by omega
    have r:=aY1 e m (i+1) l g.2 (by rw [h];congr 1) d z;simp only [getD_cons_succ,dR,set_cons_succ,pJ];rw [if_pos f,aCr,if_pos f];have n:=aGG (c:= (d.length:Int)) (a:=d) (b:=[]) (x:=z+ ((eI (e.getD l dXT) d z).binds.length:Nat)) rfl g.1 f;rw [tK]at n;rw [n,r]
  · rw [if_neg f]at h;obtain rfl:j=0:=by simp only [Option.some.injEq]at h;omega
    simp only [getD_cons_zero,dR,set_cons_zero,pJ];rw [if_neg f];have o:bP (.mk 4 (d.length:Int) [] []) =true:=rfl;rw [if_pos o];have hm:=aK2 (c:= (d.length:Int)) e g.2 m d (z+ ((eI k d z).binds.length:Nat)) [] (z+ ((eI k d z).binds.length+1:Nat)) rfl;rw [tK]at hm;rw [hm];have q:aA9 (.mk 4 (d.length:Int) [] []) (d++ [z+ ((eI k d z).binds.length:Nat)]) = .mk 4 (z+ ((eI k d z).binds.length:Nat)) [] [] :=by
     simp only [aA9];rw [if_pos ⟨trivial,Int.natCast_nonneg _⟩,len_nat',nW,jA (le_refl _)];simp
    rw [q]
where len_nat' {d:List Int}: ((d.length:Nat) :Int).toNat=d.length:=oY _
theorem aK4 (o:Int)(ps:List Pat) :∀ (b:List XT) (i m j:Nat) (v:XT) (a:List Int) (n:Int),j<m→flR o ps (b.set j v) i m a n=flR o ps b i m a n
 | [],_,_,_,_,_,_,_=>rfl
 |k::b,i,m+1,0,v,a,n,_=>by simp only [set_cons_zero,flR]
 | k::b,i,m+1,j+1,v,a,n,h=>by
  simp only [set_cons_succ,flR];exact aK4 o ps b (i+1) m j v a n (by omega)
theorem aGI :∀ (b:List XT) (m j:Nat) (v:XT) (a:List Int) (z:Int),m≤j→pJ (b.set j v) m a z=pJ b m a z
 | [],_,_,_,_,_,_=>rfl
 |k::b,0,0,v,a,z,_=>by simp only [set_cons_zero,pJ]
 |k::b,0,j+1,v,a,z,_=>by simp only [set_cons_succ,pJ]
 | k::b,m+1,j+1,v,a,z,h=>by
  simp only [set_cons_succ,pJ];rw [aGI b m j v a z (by omega),aGI b m j v a _ (by omega)]
theorem aGJ :∀ (b:List XT) (m j:Nat) (t v:XT) (a:List Int) (z:Int),b[j]?=some t→bP t=false→bP v=false→ (∀z,eI v a z=eI t a z) →pJ (b.set j v) m a z=pJ b m a z
 | [],_,_,_,_,_,_,h,_,_,_=>by simp at h
 |k::b,0,0,t,v,a,z,_,_,_,_=>by simp only [set_cons_zero,pJ]
 |k::b,0,j+1,t,v,a,z,_,_,_,_=>by simp only [set_cons_succ,pJ]
 | k::b,m+1,0,t,v,a,z,h,d,e,c=>by
  simp only [jP,Option.some.injEq]at h;subst h;simp only [set_cons_zero,pJ];rw [d,e,c];simp
 | k::b,m+1,j+1,t,v,a,z,h,d,e,c=>by
  simp only [mM]at h;simp only [set_cons_succ,pJ];rw [aGJ b m j t v a z h d e c,aGJ b m j t v a _ h d e c]
theorem aGK (o:Int)(ps:List Pat) :∀ (b:List XT) (i m j:Nat) (t v:XT) (a:List Int) (n:Int),b[j]?=some t→m≤j→ (eI v (plc a n (bJ o ps ((i+j:Nat) :Int))) (n+bJ o ps ((i+j:Nat) :Int)) =eI t (plc a n (bJ o ps ((i+j:Nat) :Int))) (n+bJ o ps ((i+j:Nat) :Int))) →
  flR o ps (b.set j v) i m a n=flR o ps b i m a n
 | [],_,_,_,_,_,_,_,h,_,_=>by simp at h
 | k::b,i,m+1,j+1,t,v,a,n,h,hm,c=>by
  simp only [mM]at h;simp only [set_cons_succ,flR];exact aGK o ps b (i+1) m j t v a n h (by omega) (by rw [show i+1+j=i+ (j+1)by omega];exact c)
 | k::b,i,0,0,t,v,a,n,h,hm,c=>by
  simp only [jP,Option.some.injEq]at h;subst h;simp only [set_cons_zero,flR];rw [Nat.add_zero]at c;rw [c]
 | k::b,i,0,j+1,t,v,a,n,h,hm,c=>by
  simp only [mM]at h;simp only [set_cons_succ,flR];rw [aGK o ps b (i+1) 0 j t v a n h (zero_le _) (by rw [show i+1+j=i+ (j+1)by omega];exact c)]
theorem aY2 {p:Prog}:∀ (t:XT),WX p t→∀ (s:Option Nat),cO t=some s→∀ (d:List Int) (z:Int),eI (gK (d.length:Int) s t) d z=eI t d z
 | .mk o n g C,f,some k,e,d,z=>by
  have F:=f;simp only [WX]at f;simp only [cO]at e;by_cases l:o=7
  · rw [if_pos l]at e;split at e
    ·split at e<;>cases e
    ·cases e
  rw [if_neg l]at e;cases q:cU g 0 (bF o g.length)with
  |none=>rw [q]at e;cases e
  | some B=>
   rw [q]at e;simp only [map_some,Option.some.injEq]at e;subst e;obtain⟨j,x,I,L,T,M⟩ :=qN q;obtain rfl:B=j:=by omega
   have v:0<bF o g.length:=by omega
   obtain⟨G,_⟩ :=aEJ v;have A:∀H i,¬bP (.mk o H i C) =true:=fun H i h=>G (atomX_iff.1 h);have K:=aY1 g (bF o g.length) 0 B f.2 (by rw [q,eS]) d z;simp only [gK,dnT];rw [←mB]
   conv=>rhs;rw [eI,if_neg (A n g),if_neg l]
   rw [eI,if_neg (by simp [bP,XT.op]),if_pos rfl,flL,flB,eI,if_neg (A _ _),if_neg l];rw [fK,kL];have hr:=aK3 (c:= (d.length:Int)) o C g f.2 0 (bF o g.length) d (z+ ((eI (g.getD B dXT) d z).binds.length:Nat)) [];rw [tK]at hr;rw [K];simp only;rw [aK4 _ _ _ _ _ _ _ _ _ L,hr _ rfl];congr 4;simp only [tI,oI];omega
 | .mk o n g C,f,none,e,d,z=>by
  have F:=f;simp only [WX]at f;simp only [cO]at e;by_cases l:o=7
  · obtain⟨_,_,hl⟩ :=f.1.let7 l;rw [if_pos l]at e
    match g,hl,f,e with
    | [.mk J R O S,c],_,f,e=>
     simp only [jP,XT.op]at e;by_cases r:J=7
     · simp only [mJ,WX]at f;obtain⟨_,_,D⟩ :=f.2.1.1.let7 r
       match O,D,f with
       | [a,b],_,f=>
        subst l r;simp only [gK,getD_cons_zero,getD_cons_succ,XT.kids,neT];have Q:∀m i u,¬bP (.mk 7 m i u) =true:=fun m i u=>by simp [bP,XT.op]
        simp only [eI,Q,if_false,if_true,flL,flB];have hm:=fun y w=>aGH (c:= (d.length:Int)) c f.2.2.1 d y [w];simp only [zq9,aAb,nil_append,tI,oI];rw [hm _ _ _ rfl];have I:z+ (((eI a d z).binds.length+1:Nat) :Int) + ((eI b (d++ [z+ ((eI a d z).binds.length:Nat)]) (z+ (((eI a d z).binds.length+1:Nat) :Int))).binds.length:Nat) =z+ (((eI a d z).binds.length+ ((eI b (d++ [z+ ((eI a d z).binds.length:Nat)]) (z+ (((eI a d z).binds.length+1:Nat) :Int))).binds.length+1) :Nat) :Int) :=by omega
        have N:z+ (((eI a d z).binds.length+1:Nat) :Int) + (((eI b (d++ [z+ ((eI a d z).binds.length:Nat)]) (z+ (((eI a d z).binds.length+1:Nat) :Int))).binds.length+1:Nat) :Int) =z+ (((eI a d z).binds.length+ ((eI b (d++ [z+ ((eI a d z).binds.length:Nat)]) (z+ (((eI a d z).binds.length+1:Nat) :Int))).binds.length+1) +1:Nat) :Int) :=by omega
        rw [I,N];simp only [sF,if_false,zq9,aAb,tI,oI]
     ·simp [r]at e
  · rw [if_neg l]at e;cases q:cU g 0 (bF o g.length)with
    |none=>rw [q]at e;cases e
    |some B=>rw [q]at e;cases e
theorem oW (ps:List Pat) :bJ 7 ps 0=0∧bJ 7 ps 1=1:=by
 constructor<;>simp [bJ,dI]
mutual
def vX :XT→Int→Prop
 | .mk o n ks ps,z=> (o=4→n<z) ∧yE o ps ks 0 z
def yE (o:Int)(ps:List Pat) :List XT→Nat→Int→Prop
 | [],_,_=>True
 |t::ts,i,z=>vX t (z+bJ o ps (i:Int)) ∧yE o ps ts (i+1) z
end
theorem scxs_iff {o:Int}{ps:List Pat}:∀ {ts:List XT} {i:Nat} {z:Int},yE o ps ts i z↔∀ (j:Nat) (t:XT),ts[j]?=some t→vX t (z+bJ o ps ((i+j:Nat) :Int))
 | [],i,z=>by simp [yE]
 | t ::ts,i,z=>by
  simp only [yE,scxs_iff (ts:=ts)];refine⟨fun h j x a=>?_,fun h=> ⟨h 0 t rfl,fun j x a=>?_⟩⟩
  · cases j with
    |zero=>simp only [jP,Option.some.injEq]at a;subst a;exact h.1
    |succ j=>rw [show i+ (j+1) =i+1+j by omega];exact h.2 j x (by simpa using a)
  · have:=h (j+1) x (by simpa using a);rw [show i+ (j+1) =i+1+j by omega]at this;exact this
theorem aNI {node o:Int}{ps:List Pat}:∀ {b:List XT} {i:Nat} {n z:Int} {a:List XT},iF node o ps b i n z= .did a→∃ (j:Nat) (t d:XT) (c:Int),b[j]?=some t∧a=b.set j d∧atT node t c (z+bJ o ps ((i+j:Nat) :Int)) = .did d
 | [],i,n,z,a,h=>by simp only [iF]at h;cases h
 | t ::b,i,n,z,a,h=>by
  simp only [iF]at h;split at h
  · rename_i m e;split at h
    ·cases h
    ·cases h
    · rename_i r f;cases h;obtain⟨j,x,q,c,l,p,k⟩ :=aNI f;exact⟨j+1,x,q,c,by simpa using l,by rw [p];rfl,by rw [show i+ (j+1) =i+1+j by omega];exact k⟩
  ·cases h
  · rename_i g e;cases h;exact⟨0,t,g,n,rfl,rfl,e⟩
theorem aSf {node o n l d:Int}{ks:List XT}{ps:List Pat}{c:XT}(h:atT node (.mk o n ks ps) l d= .did c) :
  (∃s,cO (.mk o n ks ps) =some s∧c=gK d s (.mk o n ks ps)) ∨∃ (j:Nat) (b t2':XT) (f:Int),ks[j]?=some b∧c= .mk o n (ks.set j t2') ps∧atT node b f (d+bJ o ps (j:Int)) = .did t2':=by
 have a: (match iF node o ps ks 0 (l+1) d with
   | .go m=>AtR.go m
   | .past=>.past
   | .did g=>.did (XT.mk o n g ps)) = .did c→∃ (j:Nat) (b t2':XT) (f:Int),ks[j]?=some b∧c= .mk o n (ks.set j t2') ps∧atT node b f (d+bJ o ps (j:Int)) = .did t2':=fun i=>by
  split at i
  ·cases i
  ·cases i
  · rename_i g e;cases i;obtain⟨j,x,t,f,q,r,k⟩ :=aNI e;rw [eS]at k;exact⟨j,x,t,f,q,by rw [r],k⟩
 rw [atT]at h;split at h
 · rename_i s p;split at h
   ·cases h;exact .inl ⟨s,p,rfl⟩
   · split at h
     ·cases h
     ·exact .inr (a h)
 ·exact .inr (a h)
theorem rM :∀ {ts:List XT} {j:Nat} {t:XT},ts[j]?=some t→cB t≤aD ts
 | [],j,t,h=>by simp at h
 |x::ts,0,t,h=>by simp at h;subst h;simp only [aD];omega
 | x::ts,j+1,t,h=>by
  have:=rM (ts:=ts) (j:=j) (t:=t) (by simpa using h);simp only [aD];omega
theorem aCs {p:Prog}:∀ {t:XT} {s:Option Nat},WX p t→cO t=some s→bP t=false
 | .mk o n a b,s,c,h=>by
  cases d:bP (.mk o n a b)
  case false=>rfl
  have hk:=c.kids0 d;subst hk;simp only [cO]at h;split at h
  ·simp at h
  ·simp [cU]at h
theorem aK5 {sz:Int}:∀ (t:XT) (s:Option Nat),bP (gK sz s t) =false
 | .mk o n a b,some k=>by simp [gK,dnT,bP,XT.op]
 | .mk o n a b,none=>by simp [gK,neT,bP,XT.op]
theorem bC8 (to:List Int)(n k:Int) : (plc to n k).length=to.length+k.toNat:=by simp [plc]
theorem bEa {p:Prog}{node:Int}:∀ (k:Nat) (t:XT),cB t≤k→WX p t→∀ (D:Int) (c:List Int) (w:XT),atT node t D (c.length:Int) = .did w→ (∀z,eI w c z=eI t c z) ∧bP t=false∧bP w=false
 |0,.mk o n g ps,hk,_,_,_,_,_=>by simp only [cB]at hk;omega
 | k + 1,.mk o n g ps,hk,l,D,c,w,h=>by
  simp only [cB]at hk;rcases aSf h with⟨s,C,rfl⟩ | ⟨j,v,e,J,d,rfl,F⟩
  ·exact⟨fun z=>aY2 _ l s C c z,aCs l C,aK5 _ _⟩
  · have y:=l;simp only [WX]at l;have K:=rM d;have A:=wxs_iff.1 l.2 v (kN d)
    have f:∀i,bP (.mk o n i ps) =false:=fun i=>by
     cases B:bP (.mk o n i ps)
     case false=>rfl
     have:=y.kids0 (show bP (.mk o n g ps) =true from B);subst this;simp at d
    have x:=fun(r:List Int) (he: (r.length:Int) = (c.length:Int) +bJ o ps (j:Int)) =>bEa k v (by omega) A J r e (by rw [he];exact F);refine⟨fun z=>?_,f g,f _⟩;rw [eI,eI,f,f];simp only [sF,if_false];have H:=mD (o:=o) (ps:=ps) (fun q I=>by have:=l.1.pats q I;omega) (j:Int);by_cases m:o=7
    · rw [if_pos m,if_pos m];obtain⟨_,_,hl⟩ :=l.1.let7 m;subst m
      match g,hl,j,d with
      | [a,b],_,0,d=>
       simp only [jP,Option.some.injEq]at d;subst d;obtain⟨u,_,_⟩ :=x c (by rw [natCast_zero,(oW ps).1];omega);simp only [set_cons_zero,flL];rw [u]
      | [a,b],_,1,d=>
       simp only [mM,jP,Option.some.injEq]at d;subst d;simp only [set_cons_succ,set_cons_zero,flL,flB];rw [(x (c++ [z+ ((eI a c z).binds.length:Nat)]) (by rw [show(((1:Nat)) :Int) =1 from rfl,(oW ps).2];simp)).1]
      | [a,b],_,j+2,d=>simp at d
    · rw [if_neg m,if_neg m,fK];by_cases hm:j<bF o g.length
      · have G:=aEK (ps:=ps) hm;have u:=x c (by rw [G];omega);rw [aGJ g _ j v e c z d u.2.1 u.2.2 u.1,aK4 o ps g 0 _ j e c _ hm]
      · rw [aGI g _ j e c z (by omega),aGK o ps g 0 _ j v e c _ d (by omega)];rw [eS];exact(x (plc c _ (bJ o ps (j:Int))) (by rw [bC8];omega)).1 _
theorem NdX.let0 (p:Prog) :NdX p 7 0 2 [] := ⟨fun h=>absurd h (by decide),fun _=>by simp [aO,eR,dQ,cK]⟩
theorem NdX.name0 (p:Prog){n:Int}(h:0≤n) :NdX p 4 n 0 [] := ⟨fun _=> ⟨by omega,rfl,rfl⟩,fun h=>absurd rfl h⟩
theorem NdX.mv {p:Prog}{o n c:Int}{k:Nat}{ps:List Pat}(h:NdX p o n k ps) :NdX p o (mvN c 1 o n) k ps:=by
 by_cases a:o=4
 · have:=h.1 a;exact⟨fun _=> ⟨by unfold mvN;split<;>omega,this.2⟩,fun h=>absurd a h⟩
 · have b:mvN c 1 o n=n:=by unfold mvN;rw [if_neg (by omega)]
   rw [b];exact h
mutual
theorem bEb {p:Prog}(c:Int) :∀ {t:XT},WX p t→WX p (rG c 1 t)
 | .mk o n a b,h=>by
  simp only [WX,rG]at h ⊢;rw [kL];exact⟨h.1.mv,aQU c h.2⟩
theorem aQU {p:Prog}(c:Int) :∀ {a:List XT},mJ p a→mJ p (dR c 1 a)
 | [],_=>trivial
 |t::a,h=>by simp only [mJ,dR]at h ⊢;exact⟨bEb c h.1,aQU c h.2⟩
end
mutual
theorem bEc (c:Int) :∀ {t:XT} {z:Int},vX t z→vX (rG c 1 t) (z+1)
 | .mk o n b d,z,h=>by
  simp only [vX,rG]at h ⊢;refine⟨fun a=>?_,aQV c h.2⟩;have:=h.1 a;unfold mvN;split<;>omega
theorem aQV (c:Int){o:Int}{ps:List Pat}:∀ {a:List XT} {i:Nat} {z:Int},yE o ps a i z→yE o ps (dR c 1 a) i (z+1)
 | [],_,_,_=>trivial
 | t::a,i,z,h=>by
  simp only [yE,dR]at h ⊢;refine⟨?_,aQV c h.2⟩;have:=bEc c h.1;rw [show z+1+bJ o ps (i:Int) =z+bJ o ps (i:Int) +1 by omega];exact this
end
theorem aSg {p:Prog}{ts:List XT}{i:Nat}{t:XT}(h:mJ p ts)(a:WX p t) :mJ p (ts.set i t) :=wxs_iff.2 fun x b=>by
 rcases List.mem_or_eq_of_mem_set b with g|g
 ·exact wxs_iff.1 h x g
 ·rw [g];exact a
theorem aSh {o:Int}{ps:List Pat}{ts:List XT}{i j:Nat}{t:XT}{z:Int}(h:yE o ps ts i z)(c:vX t (z+bJ o ps ((i+j:Nat) :Int))) :yE o ps (ts.set j t) i z:=scxs_iff.2 fun k x a=>by
 by_cases e:j=k
 · subst e;rw [List.getElem?_set]at a;split at a
   · split at a
     ·simp only [Option.some.injEq]at a;rw [←a];exact c
     ·cases a
   ·rename_i b;exact absurd rfl b
 · rw [List.getElem?_set_ne e]at a;exact scxs_iff.1 h k x a
theorem bC9 {p:Prog}{z:Int}(hz:0≤z) :∀ {t:XT} {s:Option Nat},WX p t→vX t z→cO t=some s→WX p (gK z s t) ∧vX (gK z s t) z
 | .mk o n i ps,some k,f,d,e=>by
  simp only [WX]at f;simp only [vX]at d;simp only [cO]at e;by_cases l:o=7
  · rw [if_pos l]at e;split at e
    ·split at e<;>cases e
    ·cases e
  rw [if_neg l]at e;cases m:cU i 0 (bF o i.length)with
  |none=>rw [m]at e;cases e
  | some w=>
   rw [m]at e;simp only [map_some,Option.some.injEq]at e;subst e;obtain⟨j,x,H,C,u,D⟩ :=qN m;obtain rfl:w=j:=by omega
   obtain⟨v,_⟩ :=aEJ (show 0<bF o i.length by omega);have A:=aEK (ps:=ps) C;simp only [gK,dnT,rJ u];rw [←mB];have q:=scxs_iff.1 d.2 w x u;rw [eS,A,add_zero]at q;constructor
   · simp only [WX,mJ];refine⟨NdX.let0 p,wxs_iff.1 f.2 x (kN u),⟨?_,aSg (aQU z f.2) (by simp only [WX,mJ];exact⟨NdX.name0 p hz,trivial⟩)⟩,trivial⟩;rw [fK,kL];exact f.1
   · simp only [vX,yE];refine⟨fun h=>absurd h (by decide),by rw [natCast_zero,(oW []).1,add_zero];exact q,?_,trivial⟩;rw [show(((0+1:Nat)) :Int) =1 from rfl,(oW []).2];refine⟨fun h=>absurd (.inr (.inr (.inr h))) v,aSh (aQV z d.2) ?_⟩;rw [eS,A];simp only [vX,yE];exact⟨fun _=>by omega,trivial⟩
 | .mk o n i ps,none,f,d,e=>by
  simp only [WX]at f;simp only [vX]at d;simp only [cO]at e;by_cases l:o=7
  · obtain ⟨_,_,hl⟩ :=f.1.let7 l;rw [if_pos l]at e
    match i,hl,f,d,e with
    | [.mk B G F y,c],_,f,d,e=>
     simp only [jP,XT.op]at e;by_cases g:B=7
     · simp only [mJ,WX]at f;obtain⟨_,_,r⟩ :=f.2.1.1.let7 g
       match F,r,f,d with
       | [a,b],_,f,d=>
        subst l g;simp only [mJ]at f;simp only [yE,vX]at d;rw [natCast_zero,show(((0+1:Nat)) :Int) =1 from rfl,(oW ps).1,(oW ps).2,(oW y).1,(oW y).2,add_zero,add_zero]at d;simp only [gK,getD_cons_zero,getD_cons_succ,XT.kids,neT];constructor
        · simp only [WX,mJ];exact⟨NdX.let0 p,f.2.1.2.1,⟨NdX.let0 p,f.2.1.2.2.1,bEb z f.2.2.1,trivial⟩,trivial⟩
        · simp only [vX,yE];rw [natCast_zero,show(((0+1:Nat)) :Int) =1 from rfl,(oW []).1,(oW []).2,add_zero,add_zero];exact⟨fun h=>absurd h (by decide),d.2.1.2.1,⟨fun h=>absurd h (by decide),d.2.1.2.2.1,bEc z d.2.2.1,trivial⟩,trivial⟩
     ·simp [g]at e
  · rw [if_neg l]at e;cases m:cU i 0 (bF o i.length)with
    |none=>rw [m]at e;cases e
    |some w=>rw [m]at e;cases e
theorem bEd {p:Prog}{node:Int}:∀ (k:Nat) (t:XT),cB t≤k→WX p t→∀ (g z:Int),0≤z→vX t z→∀ (c:XT),atT node t g z= .did c→WX p c∧vX c z
 |0,.mk o n y ps,hk,_,_,_,_,_,_,_=>by simp only [cB]at hk;omega
 | k +1,.mk o n y ps,hk,b,g,z,hz,a,c,h=>by
  simp only [cB]at hk;rcases aSf h with⟨s,l,rfl⟩ | ⟨j,d,f,x,e,rfl,u⟩
  ·exact bC9 hz b a l
  · simp only [WX]at b;simp only [vX]at a;have A:=rM e;have v:=mD (o:=o) (ps:=ps) (fun q w=>by have:=b.1.pats q w;omega) (j:Int);have i:=scxs_iff.1 a.2 j d e;rw [eS]at i;obtain⟨m,r⟩ :=bEd k d (by omega) (wxs_iff.1 b.2 d (kN e)) x _ (by omega) i f u;simp only [WX,vX];rw [fK];exact⟨⟨b.1,aSg b.2 m⟩,a.1,aSh a.2 (by rw [eS];exact r)⟩
abbrev FIl (s1:LoopState)(p1:Option Code)(ts:List XT)(mn:Int)(cs:List Con)(nf:Int) :HL:=[(0,(.loop s1 p1 93 (cE [(2,(.ptr 6 0))]) 19 [6] (cd Tryz.f93 [1,1,0,0]) (cd Tryz.f93 [1,1,0,1]) 2),false),(1,(.cells (putCells .leaf 0 [(.iptr [(.ilst 1 (XTs.av ts) false),(.int .i64 mn),(.ilst 2 (map Con.av cs) false)])]) 1 [] false),false),(2,(.defd false),false),(3,(.cells (putCells .leaf 0 [(.int .i64 nf)]) 1 [] false),false),(4,(.loop s1 p1 47 (cE [(2,(.ptr 3 0))]) 9 [6] (cd Tryz.f47 [1,0,1,0,0]) (cd Tryz.f47 [1,0,1,0,1]) 5),false),(5,(.defd false),false),(6,(.cells (putCells .leaf 0 [(.yield 4)]) 1 [] false),false)]
theorem aCt {o n:Int}{ks:List XT}{ps:List Pat}(a:Int)(h:cO (.mk o n ks ps) =none) :stT (.mk o n ks ps) a=dB ks (a+1) :=by rw [stT,h];rfl
theorem aCu {o n:Int}{ks:List XT}{ps:List Pat}{s:Option Nat}(a:Int)(h:cO (.mk o n ks ps) =some s) :stT (.mk o n ks ps) a=a::dB ks (a+1) :=by rw [stT,h];rfl
section
variable (F :List XT) (mn:Int) (cs:List Con) (B:Int)
mutual
theorem aSi :∀ (t:XT),FineX B t→∀ (b c:Int),0≤b→b+ (cB t:Nat) ≤1000000→0≤c→c+1000* (cB t:Nat) ≤1000000000 →
  (stT t b= [] →fC PP 7 (.enter 136 [.agg [.int .i64 b,.int .i64 c,.iptr [XT.av t]],.yield 0]) (aA (FIl .ready none F mn cs 0) 7) (.ret (.int .i64 (b+ (cB t:Nat)))) (aA (FIl .ready none F mn cs 0) 7)) ∧
  (∀a l,stT t b=a::l→fC PP 7 (.enter 136 [.agg [.int .i64 b,.int .i64 c,.iptr [XT.av t]],.yield 0]) (aA (FIl .ready none F mn cs 0) 7) (.ret (.int .i64 (-1))) (aA (FIl .done (some .ret) F mn cs a) 7))
 | .mk o n d f,j,b,c,z,u,w,q=>by
  have g:=aNh j;simp only [FineX]at j;obtain⟨_,p,v,x,y,A,r⟩ :=j;simp only [cB]at u q;have e:dT PP (aA (FIl .ready none F mn cs 0) 7) (.enter 136 [.agg [.int .i64 b,.int .i64 c,.iptr [XT.av (.mk o n d f)]],.yield 0]) =some (aYf F mn cs b c o n d f).as.fr:=by kernel_rfl
  cases i:cO (.mk o n d f)
  case some s=>
   rw [i]at g;rw [aCu b i];refine⟨fun h=> (by cases h),fun a l h=>?_⟩;simp only [List.cons.injEq]at h;rw [←h.1];cases s with
   |none=>exact⟨_,e,aYi F mn cs b c o n d f g⟩
   |some k=>exact⟨_,e,aYh F mn cs b c o n d f _ g⟩
  rw [i]at g;rw [aCt b i];have st:=aYj F mn cs b c o n d f g sd;have m:=aSj b c o n d f p v x w d 0 (b+1) rfl r (by omega) (by omega) (by omega);simp only [cB];refine⟨fun h=> ⟨_,e,?_⟩,fun a l h=> ⟨_,e,st.ends (m.2 a l h)⟩⟩;have:=st.ends (m.1 h);rw [show b+1+ ((aD d:Nat) :Int) =b+ ((aD d+1:Nat) :Int)by omega]at this;exact this
theorem aSj (g d:Int)(o n:Int)(ks:List XT)(ps:List Pat)(J:ks.length≤1000)(w:∀q∈ps,bX q≤1000)(y:o=15→ks.length=1+ps.length)(h2:0≤d) :
  ∀ (f:List XT) (i:Nat) (c:Int),ks.drop i=f→FineXs B f→0≤c→c+ (aD f:Nat) ≤1000000→d+1000+1000* (aD f:Nat) ≤1000000000 →
  (dB f c= [] →Ends PP 7 (aCk F mn cs g d o n ks ps c (i:Int)).as (.ret (.int .i64 (c+ (aD f:Nat)))) (aA (FIl .ready none F mn cs 0) 7)) ∧
  (∀a l,dB f c=a::l→Ends PP 7 (aCk F mn cs g d o n ks ps c (i:Int)).as (.ret (.int .i64 (-1))) (aA (FIl .done (some .ret) F mn cs a) 7))
 | [],i,c,h,_,_,_,_=>by
  have:=bL h;simp only [dB,aD];refine⟨fun _=>?_,fun a l h=> (by cases h)⟩;have e:=aYm F mn cs g d o n ks ps c (i:Int) sd;rw [show c+ ((0:Nat) :Int) =c by omega];exact e
 | .mk p r j k::f,i,c,h,v,I,x,C=>by
  obtain⟨L,G,R⟩ :=bI h;simp only [FineXs]at v;simp only [aD]at x C ⊢;have N:=mD (o:=o) w (i:Int);have z:IntKind.i64.wrap (d+bJ o ps (i:Int)) =d+bJ o ps (i:Int) :=wrap64 (by omega) (by omega)
  have H:o=15→0< (i:Int) →∃q,ps[((i:Int) -1).toNat]?=some q:=fun u Q=>by
   have:=y u;exact⟨_,kF (by omega)⟩
  have t:=aSi (.mk p r j k) v.1 c (d+bJ o ps (i:Int)) I (by omega) (by omega) (by omega);have D:=aNr o n ks ps w (i:Int) ⟨by omega,by omega⟩ H;simp only [dB];generalize O:cB (.mk p r j k) =s at t x C ⊢;cases hz:stT (.mk p r j k) c
  case cons a l=>
   refine⟨fun h=> (by cases h),fun b M h=>?_⟩;simp only [aAb,List.cons.injEq]at h;rw [←h.1];exact aYk F mn cs g d o n ks ps c (i:Int) _ p r j k a sd D sd sd (bBh z (oQ (m:=7) (ks:=[0,1,2,3,4,5,6]) (t.2 a l hz) aC aC trivial trivial))
  rw [nil_append];have st:=aYl F mn cs g d o n ks ps c (i:Int) _ p r j k (c+ (s:Nat)) sd D sd sd (bBh z (oQ (m:=7) (ks:=[0,1,2,3,4,5,6]) (t.1 hz) aC aC trivial trivial)) (by simp;omega) sd;have A:=aSj g d o n ks ps J w y h2 f (i+1) (c+ (s:Nat)) G v.2 (by omega) (by omega) (by omega);refine⟨fun h=>?_,fun a l h=>st.ends (A.2 a l h)⟩;have K:=st.ends (A.1 h);rw [show c+ ((s+aD f:Nat) :Int) =c+ (s:Nat) + ((aD f:Nat) :Int)by omega];exact K
end
end
def vP (ts:List XT) :Int:= (dB ts 0).headD (-1)
theorem aGL (ts:List XT)(mn:Int)(cs:List Con)(B:Int)(hl:ts.length≤1000) :∀ (b:List XT) (i:Nat) (n:Int),ts.drop i=b→FineXs B b→0≤n→n+ (aD b:Nat) ≤100000 →
  Ends PP 0 (aKJ ts mn cs n (i:Int)).as (.ret (.int .i64 ((dB b n).headD (-1)))) (aA [] 0)
 | [],i,n,h,_,_,_=>by
  have:=bL h;exact bCk ts mn cs n (i:Int) sd
 | .mk e f c d::b,i,n,h,j,p,k=>by
  obtain⟨r,q,t⟩ :=bI h;simp only [FineXs]at j;simp only [aD]at k;have g:=aSi ts mn cs B (.mk e f c d) j.1 n 1 p (by omega) (by omega) (by omega);simp only [dB];generalize s:cB (.mk e f c d) =o at g k ⊢;cases hz:stT (.mk e f c d) n
  case cons a l=>exact bCi ts mn cs n (i:Int) e f c d a sd sd sd (oQ (m:=7) (ks:=[0,1,2,3,4,5,6]) (g.2 a l hz) aC aC trivial trivial)
  rw [nil_append]
  exact(bCj ts mn cs n (i:Int) e f c d (n+ (o:Nat)) sd sd sd (oQ (m:=7) (ks:=[0,1,2,3,4,5,6]) (g.1 hz) aC aC trivial trivial) (by simp;omega) sd).ends
   (aGL ts mn cs B hl b (i+1) (n+ (o:Nat)) q j.2 (by omega) (by omega))
theorem aQW (ts:List XT)(mn:Int)(cs:List Con)(B:Int)(hl:ts.length≤1000)(a:FineXs B ts)(b:aD ts≤100000) :aM PP 47 [fvA ts mn cs] (.int .i64 (vP ts)) :=by
 refine aK aC (by simp [AV.keylessL,AV.keyless,fvA]) rfl ((bCh ts mn cs).ends ?_);exact aGL ts mn cs B hl ts 0 0 rfl a (by omega) (by omega)
theorem aGM {ts:List XT}{mn:Int}{cs:List Con}{B:Int}{h:Hp}{k q z n:Nat}(hl:ts.length≤1000)(c:FineXs B ts)(b:aD ts≤100000)(hk:h.look k=some (fhC q n mn cs))(hz:h.look z=some (.zone true [q] (bH ts)))(d:n=ts.length) :
  Spec PP (.enter 47 [.ptr k 0]) h (.ret (.int .i64 (vP ts))) h:=
 aDE (aQW ts mn cs B hl c b) aLV rfl (fun E H a r hc=>by
  obtain⟨i,f,rfl,g,e⟩ :=hc.cons_inv;rw [e.nil_inv];exact VRs.cons (aHp r hk hz d g) (VRs.nil _))
abbrev aY3:AV:=.tup [(.agg [(.ilst 4 (jN ([] :List Node)) true),(.ilst 1 (jI ([] :List Int)) true),(nI 0),(.ilst 2 (jC ([] :List Con)) true)]),(nI 3)]
abbrev aY4:AV:=.agg [(.ilst 4 (jN ([] :List Node)) true),(.ilst 1 (jI ([] :List Int)) true),(nI 0),(.ilst 2 (jC ([] :List Con)) true)]
abbrev yF (a:Nat)(b:Prog):=oC a [(iN b.nodes),(iI b.funs),(nI b.main),(iC b.cons)]
abbrev aGN (a:Nat)(b:List XT)(c:Int)(d:List Con):=oC a [(.gl 6 1 0 b.length false),(nI c),(iC d)]
abbrev eV (a:Nat):=oC a [.nils,.nils,(nI 0),.nils]
def bEe(a:Prog):TS:=cH PP 12 [(Prog.av a)] [] 0
def aK6(f:Prog)(c d:Int)(e:List Con)(a:List XT)(b:List Int):TS:=⟨(tf 37 24 [kp 0 0,(2,.nils),(3,(.gl 1 1 0 b.length false)),(4,(nI c))] [kc f37 116,kl f37 116,.inBlock 0,kc f37 15]),[(tf 36 6 [kp 0 2,kp 1 3,kp 2 0] [ko f36 2 1,kc f36 3]),(tf 35 6 [kp 2 4,(4,(.func 36 [] [(.ptr 2 0),(.ptr 3 0)]))] [ko f35 14 1,kc f35 15] (defers:=[.fn 73 [(.ptr 4 0)]])),(tf 12 20 [kp 2 5,(3,(nI 0)),kp 6 3,(16,(.func 36 [] [(.ptr 2 0),(.ptr 3 0)]))] [ko f12 62 1,kc f12 63])],[aGN 0 a d e,oL 1 1 (jI b),oC 2 [(.ptr 0 0)],eV 3,oC 4 [(nI 0)],eV 5,(6,gh,false),(7,(.zone true [6] (bH a)),false)],8⟩
def aBa(d:Prog)(b:Int)(c:List Con)(a:List XT):TS:=⟨(tf 36 6 [kp 0 0,kp 1 1] [kc f36 3]),[(tf 35 6 [kp 2 2,(4,(.func 36 [] [(.ptr 0 0),(.ptr 1 0)]))] [ko f35 14 1,kc f35 15] (defers:=[.fn 73 [(.ptr 2 0)]])),(tf 12 20 [kp 2 3,(3,(nI 0)),kp 6 1,(16,(.func 36 [] [(.ptr 0 0),(.ptr 1 0)]))] [ko f12 62 1,kc f12 63])],[oC 0 [(.ptr 4 0)],eV 1,oC 2 [(nI 0)],eV 3,oC 4 [(.gl 5 1 0 a.length false),(nI b),(iC c)],(5,gh,false),(6,(.zone true [5] (bH a)),false)],7⟩
def aSk(d:Prog)(a:Int)(b:List Con)(c:List XT):TS:=⟨(tf 36 6 [kp 0 0,kp 1 1] [kc f36 3]),[(tf 35 6 [kp 2 2,(4,(.func 36 [] [(.ptr 0 0),(.ptr 1 0)]))] [ko f35 14 1,kc f35 15] (defers:=[.fn 73 [(.ptr 2 0)]])),(tf 12 20 [kp 2 3,(3,(nI 0)),kp 6 1,(16,(.func 36 [] [(.ptr 0 0),(.ptr 1 0)]))] [ko f12 62 1,kc f12 63])],[oC 0 [(fvA c a b)],eV 1,oC 2 [(nI 0)],eV 3],7⟩
def aQX(a:Prog):=tT 0 (bEe a)<|.o (gk 9 (.enter 34 [(Prog.av a)]) [yF 0 a,eV 1] 2 (.tup [.nilp,(nI 7)]) [yF 0 a,eV 1] 2<|.i [rn 22,.cnilI 1 0 4] []<|.i [.cnilI 1 1 1] []<|.i [.cnilI 1 3 2] []<|gE 0 3 (.tup [aY4,(nI 7)]))<|.o (gk 9 (.enter 34 [(Prog.av a)]) [yF 0 a,eV 1] 2 (.tup [.nilp,(nI 2)]) [yF 0 a,eV 1] 2<|.i [rn 22,.cnilI 1 0 4] []<|.i [.cnilI 1 1 1] []<|.i [.cnilI 1 3 2] []<|gE 0 3 (.tup [aY4,(nI 2)]))<|.y fun b:List XT=>.y fun c:Int=>.y fun d:List Con=>gk 9 (.enter 34 [(Prog.av a)]) [yF 0 a,eV 1] 2 (.tup [(.ptr 2 0),(nI 0)]) [yF 0 a,eV 1,oC 2 [(.gl 3 1 0 b.length false),(nI c),(iC d)],(3,gh,false),(4,(.zone true [3] (bH b)),false)] 5<|.y fun e:Int=>gk 52 (.enter 47 [(.ptr 2 0)]) [yF 0 a,eV 1,oC 2 [(.gl 3 1 0 b.length false),(nI c),(iC d)],(3,gh,false),(4,(.zone true [3] (bH b)),false),oC 5 [(.ptr 2 0)],eV 6,oC 7 [(nI 0)]] 8 (nI e) [yF 0 a,eV 1,oC 2 [(.gl 3 1 0 b.length false),(nI c),(iC d)],(3,gh,false),(4,(.zone true [3] (bH b)),false),oC 5 [(.ptr 2 0)],eV 6,oC 7 [(nI 0)]] 8<|.i [rn 4,.nilL 3 1] []<|gu 0 8 (jI ([] :List Int))<|gs 0 3 (.gl 8 1 0 ([] :List Int).length false)<|.W 0 9 [2,8,5,6,7,1,3,4] (aK6 a e c d b ([] :List Int))
def bDa:=fun a b=>aQX a|>.1 b tv
def bDb:=fun a b=>aQX a|>.2|>.1 b tv
def bDc:=fun a b c d e f g=>aQX a|>.2|>.2 b c d f e g ⟨kk,trivial⟩
def aY5(g:Prog)(a d:Int)(e:List Con)(f:List XT)(c:List Int):=tT 0 (aK6 g a d e f c)<|gd 6 8 (a≥0) (.y fun b:List XT=>gk 8 (.enter 74 [(.ptr 0 0),(nI a)]) [aGN 0 f d e,oL 1 1 (jI c),oC 2 [(.ptr 0 0)],eV 3,oC 4 [(nI 0)],eV 5,(6,gh,false),(7,(.zone true [6] (bH f)),false)] 8 (bV true) [aGN 0 f d e,oL 1 1 (jI c),oC 2 [(.ptr 0 0)],eV 3,oC 4 [(nI 0)],eV 5,(6,gh,false),(8,(.zone true [6] (bH b)),false)] 9<|.i [rn 1,.cset 0 0 (.gl 6 1 0 b.length false)] [.a (b.length=f.length) (p':=(AV.gl 6 1 0 f.length false) = (.gl 6 1 0 b.length false)) (fun h=>(cI h.symm))]<|ga 5 cA c [a]<|gd 8 20 ((((c++ [a]).length:Nat) :Int) >1000) (.i [rn 47,.cnilI 5 0 4] []<|.i [.cnilI 5 1 1] []<|.i [.cnilI 5 3 2] []<|.E 0 12 [8,6] aY3 [(0,(.zone true [1] (bH b)),false),(1,gh,false)] 2)<|.y fun i:Int=>gk 5 (.enter 47 [(.ptr 0 0)]) [aGN 0 b d e,oC 2 [(.ptr 0 0)],eV 3,oC 4 [(nI 0)],eV 5,(6,gh,false),(8,(.zone true [6] (bH b)),false),oC 9 [(nI a)],oL 10 1 (jI (c++ [a]))] 11 (nI i) [aGN 0 b d e,oC 2 [(.ptr 0 0)],eV 3,oC 4 [(nI 0)],eV 5,(6,gh,false),(8,(.zone true [6] (bH b)),false),oC 9 [(nI a)],oL 10 1 (jI (c++ [a]))] 11<|.W 3 11 [0,10,2,3,4,5,6,8] (aK6 g i d e b (c++ [a])))<|.W 10 8 [2,3,4,5,0,6,7] (aBa g d e f)
def bDd:=fun a b c d e f g i j k l m n o=>aY5 a b c d e f|>.t j g k l m|>.f n i o ⟨kk,trivial⟩
def aSl:=fun a b c d e f g=>aY5 a b c d e f|>.f g tv
def aY6(e:Prog)(a:Int)(b:List Con)(c:List XT):=tT 0 (aSk e a b c)<|kK 11 75 [(fvA c a b),(nI 30)]<|fun f=>.b 2 5 (!f) (.i [rn 47,.cnilI 3 0 4] []<|.i [.cnilI 3 1 1] []<|.i [.cnilI 3 3 2] []<|gE 0 9 aY3)<|.y fun d:Prog=>gp 5 76 [(fvA c a b)] (Prog.av d)<|gE 42 8 (.tup [(Prog.av d),(nI 0)])
def bDe:=fun a b c d e f g=>aY6 a b c d e f|>.t g tv
def bDf:=fun a b c d e f g i j=>aY6 a b c d e g|>.f i f j tv
def aCv :Nat→List XT→Option (List XT×List Int)
 |0,ts=>if dB ts 0= []then some (ts,[])else none
 | k+1,ts=>match dB ts 0 with
  | [] =>some (ts,[])
  | a::_=>match vW a ts 0 with
   | .did ts'=> (aCv k ts').map fun r=> (r.1,a::r.2)
   |_=>none
theorem qO :∀ (b:List XT) (n a:Int),a∈dB b n→n≤a:=by
 have c:∀ (k:Nat),(∀ (t:XT) (n a:Int),cB t≤k→a∈stT t n→n≤a) ∧ (∀ (b:List XT) (n a:Int),aD b≤k→a∈dB b n→n≤a) :=by
  intro k
  induction k with
  | zero=>
   refine⟨fun t n a h _=>?_,fun b n a h hm=>?_⟩
   ·obtain⟨o,m,d,f⟩ :=t;simp only [cB]at h;omega
   · cases b with
     |nil=>simp [dB]at hm
     |cons t b=>obtain⟨o,m,d,f⟩ :=t;simp only [aD,cB]at h;omega
  | succ k i=>
   have g:∀ (t:XT) (n a:Int),cB t≤k+1→a∈stT t n→n≤a:=fun t n a h hm=>by
    obtain⟨o,m,d,f⟩ :=t;simp only [cB]at h;simp only [stT,zq28]at hm;rcases hm with hm|hm
    · split at hm
      ·simp only [zq32]at hm;omega
      ·cases hm
    ·have:=i.2 d (n+1) a (by omega) hm;omega
   refine⟨g,fun b=>?_⟩
   induction b with
   |nil=>intro n a _ hm;simp [dB]at hm
   | cons t b e=>
    intro n a h hm;simp only [aD]at h;simp only [dB,zq28]at hm;rcases hm with hm|hm
    ·exact g t n a (by omega) hm
    ·have:=e (n+ (cB t:Nat)) a (by omega) hm;omega
 exact fun b n a hm=> (c (aD b)).2 b n a (le_refl _) hm
theorem aNJ {ts:List XT}{a:Int}{l:List Int}(h:dB ts 0=a::l) :vP ts=a∧0≤a:=by
 refine⟨by rw [vP,h];rfl,qO ts 0 a (by rw [h];exact cN ..)⟩
theorem aGO {ts:List XT}(h:dB ts 0= []) :vP ts= -1:=by rw [vP,h];rfl
section
variable {I :List XT→Prop} (hI:∀ts,I ts→FineXs 1000000 ts∧aD ts≤100000∧ts.length≤1000)
 (hS:∀ts a l ts',I ts→dB ts 0=a::l→vW a ts 0= .did ts'→I ts')
include hS in
theorem aGP :∀ (k:Nat) (e q:List XT) (m:List Int),I e→aCv k e=some (q,m) →I q∧dB q 0= [] ∧m.length≤k
 | 0,e,q,m,d,hr=>by
  simp only [aCv]at hr;split at hr
  ·rename_i hz;cases hr;exact⟨d,hz,le_refl _⟩
  ·cases hr
 | k + 1,e,q,m,d,hr=>by
  simp only [aCv]at hr;split at hr
  ·rename_i hz;cases hr;exact⟨d,hz,zero_le _⟩
  · rename_i a l hz;split at hr
    · rename_i c h;cases b:aCv k c with
      |none=>rw [b]at hr;cases hr
      | some r=>
       rw [b]at hr;simp only [map_some,Option.some.injEq,Prod.mk.injEq]at hr;obtain⟨rfl,rfl⟩ :=hr;obtain⟨f,g,i⟩ :=aGP k c r.1 r.2 (hS _ _ _ _ d hz h) b;exact⟨f,g,by simp only [oI];omega⟩
    ·cases hr
include hI hS
theorem aY7 (p:Prog)(mn:Int)(cs:List Con) :∀ (k:Nat) (c:List XT) (l:List Int) (q:List XT) (m:List Int),I c→aCv k c=some (q,m) →l.length+k≤1000 →
  LeadsM PP 0 (aK6 p (vP c) mn cs c l).as (aBa p mn cs q).as
 | 0,c,l,q,m,h,hr,hk=>by
  simp only [aCv]at hr;split at hr
  · rename_i hz;cases hr;rw [aGO hz];exact aSl p (-1) mn cs c l (by decide)
  ·cases hr
 | k + 1,c,l,q,m,h,hr,hk=>by
  simp only [aCv]at hr;split at hr
  · rename_i hz;cases hr;rw [aGO hz];exact aSl p (-1) mn cs c l (by decide)
  · rename_i a x hz;split at hr
    · rename_i b g;cases d:aCv k b with
      |none=>rw [d]at hr;cases hr
      | some r=>
       rw [d]at hr;simp only [map_some,Option.some.injEq,Prod.mk.injEq]at hr;obtain⟨rfl,rfl⟩ :=hr;obtain⟨u,j⟩ :=aNJ hz;obtain⟨s,o,v⟩ :=hI c h;have e:=hS _ _ _ _ h hz g;obtain⟨n,t,w⟩ :=hI b e;have i:=aRP a 1000000 (by omega) c mn cs v s o;rw [g]at i;have f:=aCb a c 0 b g;have:=aY7 p mn cs k b (l++ [a]) r.1 r.2 e d (by simp only [tI,List.length_singleton];omega);rw [u]
       refine(bDd p a mn cs c l b (vP b) (by simpa using j) (oQ (m:=2) (ks:=[0,6,7]) i aC aC trivial trivial) f (by simp;omega) (by simp;omega)
        (aGM (mn:=mn) (cs:=cs) (k:=0) (q:=6) (z:=8) w n t aC aC rfl)).trans this
    ·cases hr
end
theorem bFv (p:Prog)(mn:Int)(cs:List Con)(a:List XT) :LeadsM PP 0 (aBa p mn cs a).as (aSk p mn cs a).as:=by
 have z:=hY (P:=PP) (m:=0) (fr:= (aBa p mn cs a).as.fr) (cs:= (aBa p mn cs a).as.cs) (h:= (aBa p mn cs a).as.h)
  (h1:=aA [(0,(.cells (putCells .leaf 0 [(.ptr 4 0)]) 1 [] false),false),(1,(.cells (putCells .leaf 0 [.nils,.nils,(.int .i64 0),.nils]) 4 [] false),false),(2,(.cells (putCells .leaf 0 [(.int .i64 0)]) 1 [] false),false),(3,(.cells (putCells .leaf 0 [.nils,.nils,(.int .i64 0),.nils]) 4 [] false),false)] 7)
  (k:=0) (o:=0) (n:=1) (t:=putCells .leaf 0 [(.ptr 4 0)]) (ol:=[]) (sup:=false) (v:=.ptr 4 0) (v':=fvA a mn cs) aC aC aC
  (fun hm=>aBR (k:=4) (q:=5) (z:=6) (n:=a.length) (mn:=mn) (cs:=cs) (ts:=a) aC aC rfl aC
   (aU (l:=[(0,(.cells (putCells .leaf 0 [(.ptr 4 0)]) 1 [] false),false),(1,(.cells (putCells .leaf 0 [.nils,.nils,(.int .i64 0),.nils]) 4 [] false),false),(2,(.cells (putCells .leaf 0 [(.int .i64 0)]) 1 [] false),false),(3,(.cells (putCells .leaf 0 [.nils,.nils,(.int .i64 0),.nils]) 4 [] false),false)]) (nb:=7) (Q:=fun b o=>b∉ [4,6] ∧ (aBa p mn cs a).as.h.look b=some o) ⟨⟨by decide,by kernel_rfl⟩,⟨by decide,by kernel_rfl⟩,⟨by decide,by kernel_rfl⟩,⟨by decide,by kernel_rfl⟩,trivial⟩) hm)
 exact Eq.mp aC z
noncomputable def aNK (p:Prog)(q:List XT) :Prog×Int:=
 if aJ p=false then(qM,2)
 else if(cV p).1=false then(qM,7)
 else if oD 30 p.cons q then(bK q p.main p.cons,0)else(qM,3)
section
variable {p :Prog} (hs:aF p=true) {ts q:List XT} {m:List Int} {I:List XT→Prop} (hI:∀ts,I ts→FineXs 1000000 ts∧aD ts≤100000∧ts.length≤1000)
 (hS:∀ts a l ts',I ts→dB ts 0=a::l→vW a ts 0= .did ts'→I ts') (hi:aJ p=true→ (cV p).1=true→aQ p ts p.funs∧I ts∧aCv 1000 ts=some (q,m))
include hs hI hS hi
theorem aUP :aM PP 12 [Prog.av p] (.tup [Prog.av (aNK p q).1,.int .i64 (aNK p q).2]) :=by
 have kl:∀r:Prog×Int,AV.keyless (.tup [Prog.av r.1,.int .i64 r.2]) =true:=fun r=>rfl;refine tH (s:=bEe p) aC aC rfl (kl _) ?_;unfold aNK;have hb:=hs;simp only [aF,cM,decide_eq_true_eq]at hb;cases c:aJ p
 case false=>
  rw [if_pos rfl];exact Ends.val (bDb p (oQ (m:=0) (ks:=[]) (aYc hs c) aC aC trivial trivial)) (fun E l h=>kM h)
 rw [if_neg (by decide)];cases hc: (cV p).1
 case false=>
  rw [if_pos rfl];exact Ends.val (bDa p (oQ (m:=0) (ks:=[]) (aKD hs c hc) aC aC trivial trivial)) (fun E l h=>kM h)
 rw [if_neg (by decide)];obtain⟨j,a,hr⟩ :=hi c hc;obtain⟨n,t,u⟩ :=hI _ a;obtain⟨g,hz,hm⟩ :=aGP hS 1000 ts q m a hr;obtain⟨i,o,v⟩ :=hI _ g;have b:=eU j
 have f:ts≠ [] :=fun e=>by
  rw [e]at b;exact yC c (zq35.1 b.symm)
 have st:= ((bDc p ts p.main p.cons (vP ts) (oQ (m:=0) (ks:=[]) (aQD hs c hc j f) aC aC trivial trivial)
  (aGM (mn:=p.main) (cs:=p.cons) (k:=2) (q:=3) (z:=4) u n t aC aC rfl)).trans (aY7 hI hS p p.main p.cons 1000 ts [] q m a hr (by simp))).trans (bFv p p.main p.cons q)
 have d:=aIo q p.main p.cons 30 _ v i o;cases hz:oD 30 p.cons q
 case false=>
  rw [hz]at d;exact Ends.val (st.ends (bDe p p.main p.cons q _ d rfl)) (fun E l h=>kM h)
 rw [hz]at d;exact st.ends (bDf p p.main p.cons q _ (bK q p.main p.cons) d rfl (aIr q p.main p.cons (by omega) (by omega) i (by omega)))
end
mutual
def fT :XT→Nat
 | .mk o n ks ps=>if bP (.mk o n ks ps) =true then 0 else if o=7 then fL ks else fO ks (bF o ks.length) +fR ks (bF o ks.length)
def gT :XT→Nat
 | .mk o n ks ps=>if bP (.mk o n ks ps) =true then 0 else if o=7 then gL ks else gO ks (bF o ks.length) +fR ks (bF o ks.length)
def fL :List XT→Nat
 | [] =>0
 |a::ks=>gT a+fB ks
def fB :List XT→Nat
 | [] =>0
 |b::_=>fT b
def gL :List XT→Nat
 | [] =>0
 |a::ks=>1+gT a+gB ks
def gB :List XT→Nat
 | [] =>0
 |b::_=>gT b
def fO :List XT→Nat→Nat
 | [],_=>0
 |_::_,0=>0
 |k::ks,m+1=> (if bP k=true then 0 else 1+gT k) +fO ks m
def gO :List XT→Nat→Nat
 | [],_=>0
 |_::_,0=>0
 |k::ks,m+1=> (if bP k=true then 0 else 2+gT k) +gO ks m
def fR :List XT→Nat→Nat
 | [],_=>0
 |_::ks,m+1=>fR ks m
 |k::ks,0=>fT k+fR ks 0
end
def fF :List XT→Nat
 | [] =>0
 |t::ts=>fT t+fF ts
section
variable (c :Int)
mutual
theorem aY8 :∀ (t:XT),fT (rG c 1 t) =fT t
 | .mk o n a b=>by
  simp only [rG,fT];rw [show bP (.mk o (mvN c 1 o n) (dR c 1 a) b) =bP (.mk o n a b)from rfl,kL,bGT a,aY9 a,aNL a]
theorem aIu :∀ (t:XT),gT (rG c 1 t) =gT t
 | .mk o n a b=>by
  simp only [rG,gT];rw [show bP (.mk o (mvN c 1 o n) (dR c 1 a) b) =bP (.mk o n a b)from rfl,kL,bGV a,aZa a,aNL a]
theorem bGT :∀ (b:List XT),fL (dR c 1 b) =fL b
 | [] =>rfl
 |a::b=>by simp only [dR,fL];rw [aIu a,bGU b]
theorem bGU :∀ (b:List XT),fB (dR c 1 b) =fB b
 | [] =>rfl
 |a::b=>by simp only [dR,fB];exact aY8 a
theorem bGV :∀ (b:List XT),gL (dR c 1 b) =gL b
 | [] =>rfl
 |a::b=>by simp only [dR,gL];rw [aIu a,bGW b]
theorem bGW :∀ (b:List XT),gB (dR c 1 b) =gB b
 | [] =>rfl
 |a::b=>by simp only [dR,gB];exact aIu a
theorem aY9 :∀ (a:List XT) (m:Nat),fO (dR c 1 a) m=fO a m
 | [],m=>by simp only [dR]
 |k::a,0=>by simp only [dR,fO]
 |k::a,m+1=>by simp only [dR,fO];rw [aCr,aIu k,aY9 a m]
theorem aZa :∀ (a:List XT) (m:Nat),gO (dR c 1 a) m=gO a m
 | [],m=>by simp only [dR]
 |k::a,0=>by simp only [dR,gO]
 |k::a,m+1=>by simp only [dR,gO];rw [aCr,aIu k,aZa a m]
theorem aNL :∀ (a:List XT) (m:Nat),fR (dR c 1 a) m=fR a m
 | [],m=>by simp only [dR]
 |k::a,m+1=>by simp only [dR,fR];exact aNL a m
 |k::a,0=>by simp only [dR,fR];rw [aY8 k,aNL a 0]
end
end
mutual
theorem aNM :∀ (t:XT),fT t≤gT t∧gT t+2≤3*cB t
 | .mk o n c d=>by
  simp only [fT,gT,cB];by_cases b:bP (.mk o n c d) =true
  ·rw [if_pos b,if_pos b];omega
  · rw [if_neg b,if_neg b];by_cases a:o=7
    · rw [if_pos a,if_pos a];have:=bGX c;omega
    · rw [if_neg a,if_neg a];have:=aQY c (bF o c.length);omega
theorem bGX :∀ (b:List XT),fL b≤gL b∧gL b≤1+3*aD b
 | [] =>by simp [fL,gL]
 | a::b=>by
  have:=aNM a;have:=bGY b;simp only [fL,gL,aD];omega
theorem bGY :∀ (b:List XT),fB b≤gB b∧gB b≤3*aD b
 | [] =>by simp [fB,gB]
 | a::b=>by
  have:=aNM a;simp only [fB,gB,aD];omega
theorem aQY :∀ (a:List XT) (m:Nat),fO a m≤gO a m∧gO a m+fR a m≤3*aD a
 | [],m=>by simp [fO,gO,fR]
 | k::a,m+1=>by
  have:=aNM k;have:=aQY a m;simp only [fO,gO,fR,aD];split<;>omega
 | k::a,0=>by
  have:=aNM k;have h:=aQY a 0;have e:gO a 0=0:=by cases a<;>rfl
  simp only [fO,gO,fR,aD];omega
end
theorem bEf :∀ (a:List XT),fF a≤3*aD a
 | [] =>by simp [fF]
 | t::a=>by
  have:=aNM t;have:=bEf a;simp only [fF,aD];omega
mutual
theorem zY {node:Int}:∀ (t:XT) (n z:Int),n+ (cB t:Nat) ≤node→atT node t n z= .go (n+ (cB t:Nat))
 | .mk o m a c,n,z,h=>by
  simp only [cB]at h;have e:=aNN (node:=node) o c a 0 (n+1) z (by omega);rw [aA5,e];simp only [cB];have b:n+1+ ((aD a:Nat) :Int) =n+ ((aD a+1:Nat) :Int) :=by omega
  split
  · rw [if_neg (by omega),if_neg (by omega)];simp only [qH];rw [b]
  ·simp only [qH];rw [b]
theorem aNN {node:Int}(o:Int)(ps:List Pat) :∀ (a:List XT) (i:Nat) (n z:Int),n+ (aD a:Nat) ≤node→iF node o ps a i n z= .go (n+ (aD a:Nat))
 | [],i,n,z,h=>by simp [iF,aD]
 | t::a,i,n,z,h=>by
  simp only [aD]at h;simp only [iF];rw [zY t n _ (by omega)];simp only;rw [aNN o ps a (i+1) _ z (by omega)];simp only [aD];congr 1;omega
end
mutual
theorem at_in {a:Int}:∀ (t:XT) (n z:Int),a∈stT t n→∃i,atT a t n z= .did i
 | .mk o m c d,n,z,h=>by
  rw [aA5];cases g:cO (.mk o m c d)
  case some s=>
   rw [aCu n g]at h;simp only;by_cases e:n=a
   ·rw [if_pos e];exact⟨_,rfl⟩
   · rw [if_neg e];have hk:a∈dB c (n+1) :=by
      rcases zq7.1 h with h|h
      ·exact absurd h.symm e
      ·exact h
     have:=qO c (n+1) a hk;rw [if_neg (by omega)];obtain⟨f,b⟩ :=aQZ o d c 0 (n+1) z hk;rw [b];exact⟨_,rfl⟩
  rw [aCt n g]at h;simp only;obtain⟨f,b⟩ :=aQZ o d c 0 (n+1) z h;rw [b];exact⟨_,rfl⟩
theorem aQZ {a:Int}(o:Int)(ps:List Pat) :∀ (b:List XT) (i:Nat) (n z:Int),a∈dB b n→∃c,iF a o ps b i n z= .did c
 | [],i,n,z,h=>by simp [dB]at h
 | t ::b,i,n,z,h=>by
  simp only [dB,zq28]at h;simp only [iF];by_cases f:a∈stT t n
  · obtain⟨j,g⟩ :=at_in t n (z+bJ o ps (i:Int)) f;rw [g];exact⟨_,rfl⟩
  · have e:a∈dB b (n+ (cB t:Nat)) :=by
     rcases h with h|h
     ·exact absurd h f
     ·exact h
    have:=qO b _ a e;rw [zY t n _ this];obtain⟨c,d⟩ :=aQZ o ps b (i+1) _ z e;simp only;rw [d];exact⟨_,rfl⟩
end
theorem aK7 {a:Int}:∀ (b:List XT) (n:Int),a∈dB b n→∃c,vW a b n= .did c
 | [],n,h=>by simp [dB]at h
 | t ::b,n,h=>by
  simp only [dB,zq28]at h;simp only [vW];by_cases e:a∈stT t n
  · obtain⟨i,g⟩ :=at_in t n 1 e;rw [g];exact⟨_,rfl⟩
  · have f:a∈dB b (n+ (cB t:Nat)) :=by
     rcases h with h|h
     ·exact absurd h e
     ·exact h
    have:=qO b _ a f;rw [zY t n _ this];obtain⟨c,d⟩ :=aK7 b _ f;simp only;rw [d];exact⟨_,rfl⟩
theorem aDX {a:Int}{o:Int}{ps:List Pat}:∀ {e:List XT} {n:Int} {l:List Int} {i:Nat} {z:Int} {c:List XT},dB e n=a::l→iF a o ps e i n z= .did c →
  ∃ (j:Nat) (t k:XT) (m:Int) (f:List Int),e[j]?=some t∧stT t m=a::f∧c=e.set j k∧atT a t m (z+bJ o ps ((i+j:Nat) :Int)) = .did k
 | [],n,l,i,z,c,h,_=>by simp [dB]at h
 | t ::e,n,l,i,z,c,h,d=>by
  simp only [dB]at h;simp only [iF]at d;cases g:stT t n
  case cons b f=>
   rw [g,aAb,List.cons.injEq]at h;obtain⟨rfl,_⟩ :=h;obtain⟨k,p⟩ :=at_in t n (z+bJ o ps (i:Int)) (show b∈stT t n by rw [g];exact cN ..);rw [p]at d;cases d;exact⟨0,t,k,n,f,rfl,g,rfl,p⟩
  rw [g,nil_append]at h;have:=qO e _ a (by rw [h];exact cN ..);rw [zY t n _ this]at d;simp only at d;split at d
  ·cases d
  ·cases d
  · rename_i y q;cases d;obtain⟨j,x,v,m,f,u,r,s,w⟩ :=aDX h q;exact⟨j+1,x,v,m,f,by simpa using u,r,by rw [s];rfl,by rw [show i+ (j+1) =i+1+j by omega];exact w⟩
theorem aCw {a:Int}:∀ {e:List XT} {n:Int} {l:List Int} {c:List XT},dB e n=a::l→vW a e n= .did c →
  ∃ (j:Nat) (t i:XT) (k:Int) (f:List Int),e[j]?=some t∧stT t k=a::f∧c=e.set j i∧atT a t k 1= .did i
 | [],n,l,c,h,_=>by simp [dB]at h
 | t ::e,n,l,c,h,d=>by
  simp only [dB]at h;simp only [vW]at d;cases g:stT t n
  case cons b f=>
   rw [g,aAb,List.cons.injEq]at h;obtain⟨rfl,_⟩ :=h;obtain⟨i,m⟩ :=at_in t n 1 (show b∈stT t n by rw [g];exact cN ..);rw [m]at d;cases d;exact⟨0,t,i,n,f,rfl,g,rfl,m⟩
  rw [g,nil_append]at h;have:=qO e _ a (by rw [h];exact cN ..);rw [zY t n _ this]at d;simp only at d;split at d
  ·cases d
  ·cases d
  · rename_i v o;cases d;obtain⟨j,x,s,k,f,r,p,q,u⟩ :=aCw h o;exact⟨j+1,x,s,k,f,by simpa using r,p,by rw [q];rfl,u⟩
theorem aSm :∀ (a:List XT) (m j:Nat) (v:XT),m≤j→fO (a.set j v) m=fO a m∧gO (a.set j v) m=gO a m
 | [],_,_,_,_=> ⟨rfl,rfl⟩
 |k::a,0,0,v,_=>by simp only [set_cons_zero,fO,gO,and_self]
 |k::a,0,j+1,v,_=>by simp only [set_cons_succ,fO,gO,and_self]
 | k::a,m+1,j+1,v,h=>by
  have:=aSm a m j v (by omega);simp only [set_cons_succ,fO,gO];omega
theorem aSn :∀ (a:List XT) (m j:Nat) (v:XT),j<m→fR (a.set j v) m=fR a m
 | [],_,_,_,_=>rfl
 |k::a,m+1,0,v,_=>by simp only [set_cons_zero,fR]
 | k::a,m+1,j+1,v,h=>by
  simp only [set_cons_succ,fR];exact aSn a m j v (by omega)
theorem aK8 :∀ (a:List XT) (m j:Nat) (t v:XT),a[j]?=some t→m≤j→fT v+1=fT t→fR (a.set j v) m+1=fR a m
 | [],_,_,_,_,h,_,_=>by simp at h
 | k::a,m+1,j+1,t,v,h,hm,b=>by
  simp only [set_cons_succ,fR];exact aK8 a m j t v (by simpa using h) (by omega) b
 | k::a,0,0,t,v,h,hm,b=>by
  simp only [jP,Option.some.injEq]at h;subst h;simp only [set_cons_zero,fR];omega
 | k::a,0,j+1,t,v,h,hm,b=>by
  have:=aK8 a 0 j t v (by simpa using h) (zero_le _) b;simp only [set_cons_succ,fR];omega
theorem bEg (sz:Int) :∀ (a:List XT) (m j:Nat) (x:XT),j<m→a[j]?=some x→bP x=false→fO ((dR sz 1 a).set j (.mk 4 sz [] [])) m+ (1+gT x) =fO a m∧gO ((dR sz 1 a).set j (.mk 4 sz [] [])) m+ (2+gT x) =gO a m
 | [],_,_,_,_,h,_=>by simp at h
 | k::a,m+1,0,x,_,h,b=>by
  simp only [jP,Option.some.injEq]at h;subst h;have c:bP (.mk 4 sz [] []) =true:=rfl;simp only [dR,set_cons_zero,fO,gO,c,b,if_true,sF,if_false];rw [aY9,aZa];omega
 | k::a,m+1,j+1,x,d,h,b=>by
  have:=bEg sz a m j x (by omega) (by simpa using h) b;simp only [dR,set_cons_succ,fO,gO];rw [aCr,aIu];omega
theorem yG :∀ {a:List XT} {i m:Nat},cU a i m=none→∀ (j:Nat) (x:XT),j<m→a[j]?=some x→bP x=true
 | [],i,m,_,j,x,_,h=>by simp at h
 |_::_,i,0,_,j,x,c,_=>by omega
 | t ::a,i,m+1,h,j,x,c,b=>by
  simp only [cU]at h;split at h
  · rename_i d;cases j with
    |zero=>simp only [jP,Option.some.injEq]at b;subst b;exact d
    |succ j=>exact yG h j x (by omega) (by simpa using b)
  ·cases h
theorem bDg {p:Prog}{z:Int}:∀ {t:XT} {s:Option Nat},WX p t→cO t=some s→fT (gK z s t) +1=fT t∧ (t.op≠7→gT (gK z s t) +1=gT t)
 | .mk o n f C,some k,q,d=>by
  simp only [WX]at q;simp only [cO]at d;by_cases i:o=7
  · rw [if_pos i]at d;split at d
    ·split at d<;>cases d
    ·cases d
  rw [if_neg i]at d;cases u:cU f 0 (bF o f.length)with
  |none=>rw [u]at d;cases d
  | some v=>
   rw [u]at d;simp only [map_some,Option.some.injEq]at d;subst d;obtain⟨j,x,M,F,D,A⟩ :=qN u;obtain rfl:v=j:=by omega
   obtain⟨B,_⟩ :=aEJ (show 0<bF o f.length by omega);have l:∀G e,¬bP (.mk o G e C) =true:=fun G e h=>B (atomX_iff.1 h);have w:∀m e g,¬bP (.mk 7 m e g) =true:=fun m e g=>by simp [bP,XT.op]
   have L:=bEg z f (bF o f.length) v x F D A;have hr:=aSn (dR z 1 f) (bF o f.length) v (.mk 4 z [] []) F;rw [aNL]at hr;simp only [gK,dnT,rJ D];rw [←mB];refine⟨?_,fun _=>?_⟩
   · conv=>rhs;rw [fT,if_neg (l n f),if_neg i]
     rw [fT,if_neg (w _ _ _),if_pos rfl,fL,fB,fT,if_neg (l _ _),if_neg i,fK,kL,hr];omega
   · conv=>rhs;rw [gT,if_neg (l n f),if_neg i]
     rw [gT,if_neg (w _ _ _),if_pos rfl,gL,gB]
     conv=>lhs;arg 1;arg 2;rw [gT,if_neg (l _ _),if_neg i,fK,kL,hr]
     omega
 | .mk o n f C,none,q,d=>by
  simp only [WX]at q;simp only [cO]at d;by_cases i:o=7
  · obtain⟨_,_,hl⟩ :=q.1.let7 i;rw [if_pos i]at d
    match f,hl,q,d with
    | [.mk H J I K,c],_,q,d=>
     simp only [jP,XT.op]at d;by_cases r:H=7
     · simp only [mJ,WX]at q;obtain⟨_,_,y⟩ :=q.2.1.1.let7 r
       match I,y with
       | [a,b],_=>
        subst i r;have w:∀m e g,bP (.mk 7 m e g) =false:=fun m e g=>by simp [bP,XT.op]
        simp only [gK,getD_cons_zero,getD_cons_succ,XT.kids,neT];refine⟨?_,fun h=>absurd rfl h⟩;simp only [fT,gT,w,sF,if_false,if_true,fL,fB,gL,gB,aY8];omega
     ·simp [r]at d
  · rw [if_neg i]at d;cases u:cU f 0 (bF o f.length)with
    |none=>rw [u]at d;cases d
    |some v=>rw [u]at d;cases d
theorem aGQ {n:Int}{x b:XT}{ps:List Pat}(h:cO (.mk 7 n [x,b] ps) =none) :x.op≠7:=fun e=>by
 simp [cO,e]at h
theorem bEh {p:Prog}:∀ (k:Nat) (t:XT),cB t≤k→WX p t→∀ (a:Int) (l:List Int) (y z:Int) (F:XT),stT t y=a::l→atT a t y z= .did F→fT F+1=fT t∧ (t.op≠7→gT F+1=gT t)
 |0,.mk o n f w,hk,_,_,_,_,_,_,_,_=>by simp only [cB]at hk;omega
 | k + 1, .mk o n f w,hk,v,a,l,y,z,F,q,h=>by
  simp only [cB]at hk;cases d:cO (.mk o n f w)
  case some s=>
   rw [aCu y d,List.cons.injEq]at q;obtain⟨rfl,_⟩ :=q;rw [aA5,d]at h;simp only [if_true]at h;cases h;exact bDg v d
  rw [aCt y d]at q;rw [aA5,d]at h;simp only at h;cases g:iF a o w f 0 (y+1) z with
  |go m=>rw [g]at h;cases h
  |past=>rw [g]at h;cases h
  | did i =>
   rw [g]at h;simp only [qH,nil_append]at h;cases h;obtain⟨j,B,u,O,Q,c,A,rfl,D⟩ :=aDX q g;have K:=v;simp only [WX]at v;have W:=rM c;obtain⟨S,R⟩ :=bEh k B (by omega) (wxs_iff.1 v.2 B (kN c)) a Q O _ u A D
   have r:∀i,bP (.mk o n i w) =false:=fun i=>by
    cases e:bP (.mk o n i w)
    case false=>rfl
    have:=K.kids0 (show bP (.mk o n f w) =true from e);subst this;simp at c
   by_cases G:o=7
   · obtain⟨_,_,hl⟩ :=v.1.let7 G;subst G;refine⟨?_,fun h=>absurd rfl h⟩
     match f,hl,j,c,d with
     | [x,b],_,0,c,d=>
      simp only [jP,Option.some.injEq]at c;subst c;have:=R (aGQ d);simp only [set_cons_zero,fT,r,sF,if_false,if_true,fL,fB];omega
     | [x,b],_,1,c,d=>
      simp only [mM,jP,Option.some.injEq]at c;subst c;simp only [set_cons_succ,set_cons_zero,fT,r,sF,if_false,if_true,fL,fB];omega
     | [x,b],_,j+2,c,d=>simp at c
   · have hm:bF o f.length≤j:=by
      rcases Nat.lt_or_ge j (bF o f.length)with H|I
      · exfalso;simp only [cO,if_neg G,Option.map_eq_none_iff]at d;have e:=yG d j B H c;obtain⟨L,M,X,N⟩ :=B;have J:= (wxs_iff.1 v.2 _ (kN c)).kids0 e;subst J;rw [aA5]at D;cases C:cO (.mk L M [] N)
        case some V=>
         have:=aCs (wxs_iff.1 v.2 _ (kN c)) C;rw [this]at e;cases e
        rw [C]at D;simp [iF,qH]at D
      ·exact I
     have U:=aSm f _ j u hm;have T:=aK8 f _ j B u c hm S;simp only [fT,gT,r,sF,if_false,if_neg G,fK];omega
theorem aZb :∀ {ts:List XT} {j:Nat} {t v:XT},ts[j]?=some t→fT v+1=fT t→fF (ts.set j v) +1=fF ts
 | [],_,_,_,h,_=>by simp at h
 |x::ts,0,t,v,h,a=>by simp only [jP,Option.some.injEq]at h;subst h;simp only [set_cons_zero,fF];omega
 | x::ts,j+1,t,v,h,a=>by
  have:=aZb (ts:=ts) (j:=j) (by simpa using h) a;simp only [set_cons_succ,fF];omega
def aCx (f:Flow) :Nat:=aD f.binds+f.binds.length+cB f.last
theorem oH :∀ (a b:List XT),aD (a++b) =aD a+aD b
 | [],b=>by simp [aD]
 |x::a,b=>by simp only [aAb,aD,oH a b];omega
theorem aQ0 :∀ (b:List XT) (t:XT),cB (clB b t) =aD b+b.length+cB t
 | [],t=>by simp [clB,aD]
 |a::b,t=>by simp only [clB,cB,aD,oI,aQ0 b t];omega
theorem aSo (to:List Int) :∀ (t:XT),cB (aA9 t to) =cB t
 | .mk o n a b=>by simp only [aA9];split<;>simp only [cB]
mutual
theorem aZc {p:Prog}:∀ (t:XT),WX p t→∀ (b:List Int) (z:Int),cB t≤aCx (eI t b z) ∧aCx (eI t b z) +2≤3*cB t
 | .mk o n a e,c,b,z=>by
  have g:=c;simp only [WX]at c;simp only [eI];by_cases f:bP (.mk o n a e) =true
  · rw [if_pos f];simp only [aCx,aD,length_nil,aSo,cB];omega
  · rw [if_neg f];by_cases d:o=7
    · rw [if_pos d];obtain⟨_,_,hl⟩ :=c.1.let7 d;have:=bHW a c.2 (by omega) b z;simp only [cB];omega
    · rw [if_neg d];have i:=bFw a c.2 (bF o a.length) b z;have j:=bFx o e a c.2 0 (bF o a.length) b (z+ ((pJ a (bF o a.length) b z).1.length:Nat));have h:aD a=aD (a.take (bF o a.length)) +aD (a.drop (bF o a.length)) :=by rw [←oH,List.take_append_drop]
      simp only [aCx,cB,oH];omega
theorem bHW {p:Prog}:∀ (c:List XT),mJ p c→c.length≤2→∀ (b:List Int) (z:Int),1+aD c≤aCx (flL c b z) ∧aCx (flL c b z) +2≤3* (1+aD c)
 | [],_,_,b,z=>by simp [flL,aCx,aD,dXT,cB]
 | a::c,d,hl,b,z=>by
  simp only [mJ]at d;have f:=aZc a d.1 b z;have e:=bHX c d.2 (by simp only [oI]at hl;omega) (b++ [z+ ((eI a b z).binds.length:Nat)]) (z+ ((eI a b z).binds.length+1:Nat));simp only [flL,aCx,oH,aD,tI,oI]at f e ⊢;omega
theorem bHX {p:Prog}:∀ (a:List XT),mJ p a→a.length≤1→∀ (c:List Int) (z:Int),aD a≤aCx (flB a c z) ∧aCx (flB a c z) ≤1+3*aD a
 | [],_,_,c,z=>by simp [flB,aCx,aD,dXT,cB]
 | [b],d,_,c,z=>by
  simp only [mJ]at d;have e:=aZc b d.1 c z;simp only [flB,aD];omega
 |_::_::_,_,hl,_,_=>by simp at hl
theorem bFw {p:Prog}:∀ (b:List XT),mJ p b→∀ (m:Nat) (a:List Int) (z:Int),aD (b.take m) ≤aD (pJ b m a z).1+ (pJ b m a z).1.length+aD (pJ b m a z).2∧aD (pJ b m a z).1+ (pJ b m a z).1.length+aD (pJ b m a z).2≤3*aD (b.take m)
 | [],_,m,a,z=>by simp [pJ,aD]
 |k::b,_,0,a,z=>by simp [pJ,aD]
 | k ::b,c,m+1,a,z=>by
  simp only [mJ]at c;simp only [pJ,List.take_succ_cons,aD];by_cases d:bP k=true
  · rw [if_pos d];have e:=bFw b c.2 m a z;simp only [aD,aSo];omega
  · rw [if_neg d];have f:=aZc k c.1 a z;have e:=bFw b c.2 m a (z+ ((eI k a z).binds.length+1:Nat));simp only [aCx]at f;simp only [oH,aD,tI,oI,cB];omega
theorem bFx {p:Prog}(o:Int)(ps:List Pat) :∀ (a:List XT),mJ p a→∀ (i m:Nat) (b:List Int) (n:Int),aD (a.drop m) ≤aD (flR o ps a i m b n) ∧aD (flR o ps a i m b n) ≤3*aD (a.drop m)
 | [],_,i,m,b,n=>by simp [flR,aD]
 | k::a,c,i,m+1,b,n=>by
  simp only [mJ]at c;simp only [flR,List.drop_succ_cons];exact bFx o ps a c.2 (i+1) m b n
 | k::a,c,i,0,b,n=>by
  simp only [mJ]at c;have d:=aZc k c.1 (plc b n (bJ o ps (i:Int))) (n+bJ o ps (i:Int));have e:=bFx o ps a c.2 (i+1) 0 b n;rw [drop_zero]at e;simp only [flR,drop_zero,aD,clF,aQ0];simp only [aCx]at d;omega
end
def idl (m:Nat) :List Int:= (range m).map (fun i=> ((i:Nat) :Int))
theorem bDh (m:Nat)(k:Int) :plc (idl m) (m:Nat) k=idl (m+k.toNat) :=by
 simp [plc,idl,List.range_add,Function.comp_def]
theorem bDi (m:Nat) :idl m++ [((m:Nat) :Int)] =idl (m+1) :=by
 simp [idl,List.range_succ]
theorem aSp {m:Nat}:∀ {t:XT},vX t (m:Nat) →aA9 t (idl m) =t
 | .mk o n c d,h=>by
  simp only [vX]at h;simp only [aA9];split
  · rename_i a;have b:=h.1 a.1;have: (idl m).getD n.toNat 0=n:=by
     rw [nW];unfold idl;rw [pT,List.getElem?_range (by omega)];simp;omega
    rw [this]
  ·rfl
theorem aNO {o:Int}{ps:List Pat}{m:Nat}:∀ (a:List XT) (b i:Nat),(∀ (j:Nat) (x:XT),j<b→a[j]?=some x→bP x=true∧vX x (m:Nat)) →pJ a b (idl m) (m:Nat) = ([],a.take b)
 | [],b,i,_=>by simp [pJ]
 |k::a,0,i,_=>by simp [pJ]
 | k::a,b+1,i,h=>by
  obtain⟨d,c⟩ :=h 0 k (by omega) rfl;simp only [pJ,List.take_succ_cons];rw [if_pos d,aNO (o:=o) (ps:=ps) a b i (fun j x f e=>h (j+1) x (by omega) (by simpa using e)),aSp c]
theorem aGR {o:Int}{ps:List Pat}{m:Nat}:∀ (a:List XT) (i b:Nat),(∀ (j:Nat) (x:XT),a[j]?=some x→b≤j→clF (eI x (plc (idl m) (m:Nat) (bJ o ps ((i+j:Nat) :Int))) ((m:Nat) +bJ o ps ((i+j:Nat) :Int))) =x) →flR o ps a i b (idl m) (m:Nat) =a.drop b
 | [],i,b,_=>by simp [flR]
 | k::a,i,b+1,h=>by
  simp only [flR,List.drop_succ_cons];exact aGR a (i+1) b (fun j x c hm=>by have:=h (j+1) x (by simpa using c) (by omega);rw [show i+ (j+1) =i+1+j by omega]at this;exact this)
 | k::a,i,0,h=>by
  have d:=h 0 k rfl (le_refl _);rw [Nat.add_zero]at d;have e:=aGR (o:=o) (ps:=ps) (m:=m) a (i+1) 0 (fun j x c hm=>by have:=h (j+1) x (by simpa using c) (by omega);rw [show i+ (j+1) =i+1+j by omega]at this;exact this);simp only [flR,drop_zero]at e ⊢;rw [d,e]
theorem aIv :∀ {b:List XT} {a:Int},dB b a= [] →∀ (j:Nat) (x:XT),b[j]?=some x→∃d,stT x d= []
 | [],a,_,j,x,h=>by simp at h
 | t::b,a,h,j,x,c=>by
  simp only [dB,List.append_eq_nil_iff]at h;cases j with
  |zero=>simp only [jP,Option.some.injEq]at c;subst c;exact⟨a,h.1⟩
  |succ j=>exact aIv h.2 j x (by simpa using c)
theorem aEL {p:Prog}:∀ (k:Nat) (t:XT) (m:Nat) (a:Int),cB t≤k→WX p t→vX t (m:Nat) →stT t a= [] → (t.op≠7→eI t (idl m) (m:Nat) = ⟨[],t⟩) ∧clF (eI t (idl m) (m:Nat)) =t
 |0,.mk o n d ps,m,a,hk,_,_,_=>by simp only [cB]at hk;omega
 | k + 1,.mk o n d ps,m,a,hk,g,c,f=>by
  simp only [cB]at hk;have D:=g;have r:=c;simp only [WX]at g;simp only [vX]at c;have l:cO (.mk o n d ps) =none:=by
   cases l:cO (.mk o n d ps)with
   |none=>rfl
   |some s=>rw [aCu a l]at f;cases f
  rw [aCt a l]at f;by_cases v:bP (.mk o n d ps) =true
  · have e:eI (.mk o n d ps) (idl m) (m:Nat) = ⟨[],.mk o n d ps⟩ :=by
     rw [eI,if_pos v,aSp r]
    rw [e];exact⟨fun _=>rfl,rfl⟩
  · by_cases u:o=7
    · obtain⟨rfl,rfl,hl⟩ :=g.1.let7 u;subst u;refine⟨fun h=>absurd rfl h,?_⟩
      match d,hl with
      | [x,b],_=>
       have y:=aGQ l;simp only [mJ]at g;simp only [yE]at c;rw [natCast_zero,show(((0+1:Nat)) :Int) =1 from rfl,(oW []).1,(oW []).2,add_zero]at c;simp only [dB,tK,List.append_eq_nil_iff]at f;simp only [aD]at hk;have L:= (aEL k x m _ (by omega) g.2.1 c.2.1 f.1).1 y;have B:= (aEL k b (m+1) _ (by omega) g.2.2.1 (by rw [Int.natCast_add];exact c.2.2.1) f.2).2;rw [eI,if_neg v,if_pos rfl,flL,L];simp only [flB,length_nil,nil_append,natCast_zero,add_zero,eS];rw [bDi,show((m:Nat) :Int) + ((1:Nat) :Int) = ((m+1:Nat) :Int)by omega];simp only [clF,clB];simp only [clF]at B;rw [B]
    · have G:∀ (j:Nat) (x:XT),j<bF o d.length→d[j]?=some x→bP x=true∧vX x (m:Nat) :=fun j x A i=>by
       simp only [cO,if_neg u,Option.map_eq_none_iff]at l;refine⟨yG l j x A i,?_⟩;have:=scxs_iff.1 c.2 j x i;rw [eS,aEK A,add_zero]at this;exact this
      have K:=aNO (o:=o) (ps:=ps) d (bF o d.length) 0 G
      have I:=aGR (o:=o) (ps:=ps) (m:=m) d 0 (bF o d.length) (fun j x i _=>by
       have F:=mD (o:=o) (ps:=ps) (fun q H=>by have:=g.1.pats q H;omega) (j:Int);have J:=rM i;obtain⟨C,w⟩ :=aIv f j x i;have z:=scxs_iff.1 c.2 j x i;rw [eS]at z ⊢;rw [bDh];have hz: ((m:Nat) :Int) +bJ o ps (j:Int) = ((m+ (bJ o ps (j:Int)).toNat:Nat) :Int) :=by omega
       rw [hz]at z ⊢;exact(aEL k x _ C (by omega) (wxs_iff.1 g.2 x (kN i)) z w).2)
      have e:eI (.mk o n d ps) (idl m) (m:Nat) = ⟨[],.mk o n d ps⟩ :=by
       rw [eI,if_neg v,if_neg u,K];simp only [length_nil,natCast_zero,add_zero];rw [I,List.take_append_drop]
      rw [e];exact⟨fun _=>rfl,rfl⟩
def zZ (t:XT) :XT:=clF (eI t [0] 1)
structure NInv (p:Prog) (q:List XT) (ts:List XT) :Prop where
 wx:mJ p ts
 sc:∀t∈ts,vX t 1
 nf:ts.map zZ=q
 qs:aD q≤900
 fs:fF ts≤900
 fine:FineXs (950900- (fF ts:Nat)) ts
 len:ts.length≤1000
theorem aCy {p:Prog}:∀ {a:List XT},mJ p a→aD a≤aD (a.map zZ) ∧aD (a.map zZ) ≤3*aD a
 | [],_=>by simp [aD]
 | t::a,h=>by
  simp only [mJ]at h;have b:=aZc t h.1 [0] 1;have c:=aCy h.2;simp only [eK,aD,zZ,clF,aQ0];simp only [aCx]at b;omega
theorem NInv.small {p:Prog}{q ts:List XT}(h:NInv p q ts) :aD ts≤900:=by
 have:= (aCy h.wx).1;rw [h.nf]at this;have:=h.qs;omega
theorem aZd {p:Prog}{q ts:List XT}(h:NInv p q ts) :FineXs 1000000 ts∧aD ts≤100000∧ts.length≤1000:=by
 have:=h.small;exact⟨lC (by omega) h.fine,by omega,h.len⟩
theorem aZe {p:Prog}{node:Int}:∀ {d:List XT} {n:Int} {a:List XT},mJ p d→ (∀t∈d,vX t 1) →vW node d n= .did a→mJ p a∧ (∀t∈a,vX t 1) ∧a.map zZ=d.map zZ
 | [],n,a,_,_,h=>by simp only [vW]at h;cases h
 | t ::d,n,a,c,f,h=>by
  simp only [mJ]at c;simp only [vW]at h;split at h
  · split at h
    ·cases h
    ·cases h
    · rename_i q l;cases h;obtain⟨g,j,m⟩ :=aZe c.2 (fun x b=>f x (cJ _ b)) l;refine⟨⟨c.1,g⟩,fun x b=>?_,by rw [eK,eK,m]⟩;rcases zq7.1 b with rfl|b
      ·exact f _ (cN ..)
      ·exact j x b
  ·cases h
  · rename_i k e;cases h;have i:=f t (cN ..);obtain⟨g,j⟩ :=bEd (cB t) t (le_refl _) c.1 n 1 (by omega) i k e;obtain⟨o,_⟩ :=bEa (cB t) t (le_refl _) c.1 n [0] k e;refine⟨⟨g,c.2⟩,fun x b=>?_,by rw [eK,eK,zZ,zZ,o]⟩;rcases zq7.1 b with rfl|b
    ·exact j
    ·exact f x (cJ _ b)
theorem aGS {p:Prog}{ts b:List XT}{a:Int}{l:List Int}(m:mJ p ts)(c:dB ts 0=a::l)(h:vW a ts 0= .did b) :fF b+1=fF ts:=by
 obtain⟨j,t,g,k,i,d,e,rfl,f⟩ :=aCw c h;exact aZb d (bEh (cB t) t (le_refl _) (wxs_iff.1 m t (kN d)) a i k 1 g e f).1
theorem aNP {p:Prog}{q ts ts':List XT}{a:Int}{l:List Int}(h:NInv p q ts)(c:dB ts 0=a::l)(b:vW a ts 0= .did ts') :NInv p q ts':=by
 obtain⟨f,d,e⟩ :=aZe h.wx h.sc b;have k:=aGS h.wx c b;have j:=h.small;have i:=h.fs;obtain⟨g,_⟩ :=aGz h.fine (by omega) b;refine⟨f,d,by rw [e,h.nf],h.qs,by omega,?_,by rw [aCb a ts 0 ts' b];exact h.len⟩;rw [show(950900:Int) - (fF ts':Nat) =950900- (fF ts:Nat) +1 by omega];exact g
theorem aAa {p:Prog}:∀ {b:List XT} {a:Int},mJ p b→ (∀t∈b,vX t 1) →dB b a= [] →b.map zZ=b
 | [],_,_,_,_=>rfl
 | t::b,a,c,d,h=>by
  simp only [mJ]at c;simp only [dB,List.append_eq_nil_iff]at h;have g:= (aEL (cB t) t 1 a (le_refl _) c.1 (d t (cN ..)) h.1).2;have e:=aAa c.2 (fun x f=>d x (cJ _ f)) h.2;rw [eK,e];congr 1
theorem aSq {p:Prog}{q:List XT}:∀ (k:Nat) (c:List XT),NInv p q c→fF c≤k→∃m,aCv k c=some (q,m)
 | 0,c,h,hk=>by
  simp only [aCv];cases b:dB c 0 with
  |nil=>exact⟨[],by rw [if_pos rfl,←h.nf,aAa h.wx h.sc b]⟩
  | cons a l=>
   obtain⟨d,e⟩ :=aK7 c 0 (show a∈dB c 0 by rw [b];exact cN ..);have:=aGS h.wx b e;omega
 | k+1,c,h,hk=>by
  simp only [aCv];cases b:dB c 0 with
  |nil=>exact⟨[],by simp only;rw [←h.nf,aAa h.wx h.sc b]⟩
  | cons a l=>
   obtain⟨d,e⟩ :=aK7 c 0 (show a∈dB c 0 by rw [b];exact cN ..);have f:=aGS h.wx b e;obtain⟨m,hm⟩ :=aSq k d (aNP h b e) (by omega);exact⟨a::m,by simp only;rw [e];simp only;rw [hm];rfl⟩
theorem aGT {p:Prog}{nd:Node}:aO p ⟨nd.op,nd.n,List.replicate nd.kids.length 0,nd.pats⟩ =aO p nd:=by
 simp only [aO,eR,fD,aIA];try rfl
mutual
theorem bDj {p:Prog}(d:∀ (i:Nat) (x:Node),p.nodes[i]?=some x→aO p x=true) :∀ (t:XT) (a:Int),IsTree p t a→WX p t
 | .mk o n k q,a,h=>by
  simp only [IsTree]at h;obtain⟨m,nd,l,rfl,rfl,rfl,g⟩ :=h;have b:=d _ nd l;simp only [WX];rw [eU g];refine⟨⟨fun e=>?_,fun _=>by rw [aGT];exact b⟩,aGU d k nd.kids g⟩;simp only [aO,eR,dQ,cM,e,decide_eq_true_eq]at b;obtain⟨⟨⟨j,f⟩,_⟩,c⟩ :=b;simp [dY]at j f;simp [cK]at c;exact⟨by omega,by simp [c],f⟩
theorem aGU {p:Prog}(b:∀ (i:Nat) (x:Node),p.nodes[i]?=some x→aO p x=true) :∀ (a:List XT) (l:List Int),aQ p a l→mJ p a
 | [],_,_=>trivial
 | t::a,l,h=>by
  simp only [aQ]at h;obtain⟨k,d,rfl,e,c⟩ :=h;exact⟨bDj b t k e,aGU b a d c⟩
end
theorem vQ {p:Prog}:∀ {a:List XT} {l:List Int},aQ p a l→∀ (j:Nat) (t:XT),a[j]?=some t→∃k,l[j]?=some k∧IsTree p t k
 | [],l,_,j,t,h=>by simp at h
 | x::a,l,h,j,t,b=>by
  simp only [aQ]at h;obtain⟨k,i,rfl,f,g⟩ :=h;cases j with
  |zero=>simp only [jP,Option.some.injEq]at b;subst b;exact⟨k,rfl,f⟩
  | succ j=>
   obtain⟨c,d,e⟩ :=vQ g j t (by simpa using b);exact⟨c,by simpa using d,e⟩
theorem aSr {p:Prog}{Z:List Int}(hZ:Sprop p Z)(hc:∀ (i:Nat) (x:Node) (s:Int),p.nodes[i]?=some x→Z[i]?=some s→x.op=4→x.n<s) :∀ (k:Nat) (t:XT) (a z:Int),cB t≤k→IsTree p t a→Z[a.toNat]?=some z→vX t z
 |0,.mk o n u m,a,z,hk,_,_=>by simp only [cB]at hk;omega
 | k+1,.mk o n u m,a,z,hk,h,hz=>by
  simp only [cB]at hk;simp only [IsTree]at h;obtain⟨w,nd,b,rfl,rfl,rfl,v⟩ :=h;simp only [vX];refine⟨fun e=>hc _ nd z b hz e,scxs_iff.2 fun j x f=>?_⟩;obtain⟨c,l,r⟩ :=vQ v j x f;obtain⟨s,d,q⟩ :=hZ.kid _ nd j c b l;rw [hz]at d;cases d;have g:=rM f;refine aSr hZ hc k x c _ (by omega) r ?_;rw [q,eS];rfl
theorem aZf {p:Prog}{S:List Int}(hl:S.length=p.nodes.length)(h:hO p S 0 S=true) :∀ (i:Nat) (x:Node) (s:Int),p.nodes[i]?=some x→S[i]?=some s→x.op=4→x.n<s:=fun i x s d a b=>by
 have c:= (zq0.1 a).1;have:= (pI p S S 0).1 h i c;rw [eS]at this;simp only [nE,d,a,b,decide_true,nV]at this;simpa using this
theorem aZg {p:Prog}(c:aF p=true)(a:aJ p=true)(hc: (cV p).1=true){ts:List XT}(b:aQ p ts p.funs) :NInv p (ts.map zZ) ts:=by
 obtain⟨q,d,_⟩ :=iH c a;have g:=oR a;have n:=vO c a b;have hb:=c;simp only [aF,cM,decide_eq_true_eq]at hb;have e:p.nodes.length≤300:=by
  have:=a;simp only [aJ,dX,cM,decide_eq_true_eq]at this;exact this.1.1.1.1
 have h:=aGU g ts p.funs b;have o:=bEf ts;refine⟨h,fun t f=>?_,rfl,?_,by omega,?_,?_⟩
 · obtain⟨j,m⟩ :=List.getElem?_of_mem f;obtain⟨k,i,l⟩ :=vQ b j t m;unfold cV at hc;rw [if_pos a]at hc;exact aSr d (aZf d.len hc) (cB t) t k 1 (le_refl _) l (d.root k (kN i))
 · have:= (aCy h).2;omega
 ·exact lC (by omega) (qL q g ts p.funs b)
 ·rw [eU b];omega
end
end Go.Hb
