/- A machine on abstract values, its soundness, ways, plain laws. -/
import Derived.Test.YtnljmgihoioocaaGreatHF
import Derived.Test.YtnljmgihoioocaaGreatHH
import Derived.Test.YtnljmgihoioocaaGreatHK
import Derived.Test.YtnljmgihoioocaaGreatHM
set_option linter.defProp false
set_option linter.unusedVariables false
set_option linter.unusedSimpArgs false
set_option linter.unusedSectionVars false
set_option maxRecDepth 100000
set_option maxHeartbeats 1000000
namespace Go.Hb
open Int (add_zero natCast_zero)
open List (drop_zero getD_cons_succ getD_cons_zero length length_nil map nil_append range set_cons_succ set_cons_zero)
open Nat (le_refl zero_le)
open Option (map_some)
open Go.Proofs Tryz
noncomputable section
section
variable (B :Int) (hB:B≤1000000) (tg:Int)
end
abbrev LaS (t:XT)(L:List ONode)(ns:List Node) :Prop:=gI PP 0 (.enter 87 [.gl 0 4 0 (length L) false,RT.av t]) (aA [(0,OL L,true)] 1) (.ret (.gl 0 4 0 (length (L++map Node.o ns)) false)) (aA [(0,OL (L++map Node.o ns),true)] 1)
section
variable (l :List ONode) (o n:Int) (ks:List XT) (ps:List Pat) (hkl:ks.length≤1000) (ih:∀t∈ks,∀ (M:List ONode),M.length+cB t≤1000000→LaS t M (dQ t M.length))
include hkl ih
end
section
variable {B :Int} (hB:B≤1000000) (p:Prog)
end
mutual
def Few (C:Pat→Prop) :XT→Prop
 | .mk _ _ ks ps=>ks.length≤10∧ (∀q∈ps,C q) ∧oI C ks
def oI (C:Pat→Prop) :List XT→Prop
 | [] =>True
 |t::ts=>Few C t∧oI C ts
end
theorem fewS_iff {C:Pat→Prop}:∀ {ts:List XT},oI C ts↔∀t∈ts,Few C t
 | [] =>by simp [oI]
 |t::ts=>by simp only [oI,fewS_iff (ts:=ts),zq7];exact⟨fun h x a=>by rcases a with rfl|a;exact h.1;exact h.2 x a,fun h=> ⟨h t (.inl rfl),fun x a=>h x (.inr a)⟩⟩
section
variable {C :Pat→Prop}
mutual
theorem aYL {fr:Int}:∀ {t:XT},Few C t→Few C (rD fr 1 t)
 | .mk o n a b,h=>by
  simp only [rD,Few]at h ⊢;exact⟨by rw [kQ];exact h.1,h.2.1,aKU h.2.2⟩
theorem aKU {fr:Int}:∀ {a:List XT},oI C a→oI C (dU fr 1 a)
 | [],_=>trivial
 |t::a,h=>by simp only [dU,oI]at h ⊢;exact⟨aYL h.1,aKU h.2⟩
end
theorem aYM {ts:List XT}{i:Nat}{t:XT}(h:oI C ts)(b:Few C t) :oI C (ts.set i t) :=fewS_iff.2 fun x a=>by
 rcases List.mem_or_eq_of_mem_set a with a|rfl
 ·exact fewS_iff.1 h x a
 ·exact b
theorem aKV {a b:XT}(c:Few C a)(hb:Few C b) :Few C (.mk 7 0 [a,b] []) :=by
 simp only [Few,oI];exact⟨by simp,fun q d=> (by cases d),c,hb,trivial⟩
theorem bCU :Few C dXT:=by simp only [dXT,Few,oI];exact⟨by simp,fun q a=> (by cases a),trivial⟩
theorem yH {ts:List XT}(h:oI C ts)(i:Nat) :Few C (ts.getD i dXT) :=by
 rw [nY];cases a:ts[i]? with
 |none=>exact bCU
 |some x=>exact fewS_iff.1 h x (kS a)
theorem aYN :∀ {t:XT},Few C t→oI C t.kids
 | .mk o n b a,h=>by simp only [Few]at h;exact h.2.2
theorem aYO {sz:Int}:∀ {t:XT} {s:Option Nat},Few C t→Few C (gW sz s t)
 | .mk o n c b,some k,h=>by
  have e:=h;simp only [Few]at h;simp only [gW,dnT];refine aKV (yH h.2.2 k) ?_;simp only [Few];refine⟨by simpa using h.1,h.2.1,aYM (by rw [←mH];exact aKU h.2.2) ?_⟩;simp only [Few,oI];exact⟨by simp,fun q d=> (by cases d),trivial⟩
 | .mk o n c b,none,h=>by
  simp only [Few]at h;simp only [gW,neT];have a:=aYN (yH h.2.2 0);exact aKV (yH a 0) (aKV (yH a 1) (aYL (yH h.2.2 1)))
mutual
theorem aR3 {node:Int}:∀ {t:XT} {d f:Int} {g:XT},Few C t→atT node t d f= .did g→Few C g
 | .mk o n k j,d,f,g,c,h=>by
  have i:=c;simp only [Few]at c
  have a:∀b,iM node o j k 0 (d+1) f= .did b→Few C (.mk o n b j) :=fun b e=>by
   obtain⟨l,m⟩ :=aNw c.2.2 e;simp only [Few];exact⟨by rw [m];exact c.1,c.2.1,l⟩
  simp only [atT]at h;split at h
  · split at h
    ·cases h;exact aYO i
    · split at h
      ·cases h
      · split at h
        ·cases h
        ·cases h
        ·rename_i e;cases h;exact a _ e
  · split at h
    ·cases h
    ·cases h
    ·rename_i e;cases h;exact a _ e
theorem aNw {node o:Int}{ps:List Pat}:∀ {c:List XT} {i:Nat} {n z:Int} {a:List XT},oI C c→iM node o ps c i n z= .did a→oI C a∧a.length=c.length
 | [],i,n,z,a,_,h=>by simp only [iM]at h;cases h
 | t ::c,i,n,z,a,b,h=>by
  simp only [oI]at b;simp only [iM]at h;split at h
  · split at h
    ·cases h
    ·cases h
    · rename_i g;cases h;obtain⟨f,d⟩ :=aNw b.2 g;exact⟨⟨b.1,f⟩,by simp [d]⟩
  ·cases h
  · rename_i e;cases h;exact⟨⟨aR3 b.1 e,b.2⟩,rfl⟩
end
theorem aR4 {node:Int}:∀ {c:List XT} {n:Int} {a:List XT},oI C c→atF node c n= .did a→oI C a∧a.length=c.length
 | [],n,a,_,h=>by simp only [atF]at h;cases h
 | t ::c,n,a,b,h=>by
  simp only [oI]at b;simp only [atF]at h;split at h
  · split at h
    ·cases h
    ·cases h
    · rename_i g;cases h;obtain⟨d,f⟩ :=aR4 b.2 g;exact⟨⟨b.1,d⟩,by simp [f]⟩
  ·cases h
  · rename_i e;cases h;exact⟨⟨aR3 b.1 e,b.2⟩,rfl⟩
end
abbrev zV (cons:List Con)(q:Pat) :Prop:=bZ q≤12∧eC cons q=true
mutual
theorem aYP {p:Prog}(hp:FineP p) :∀ (t:XT) (a:Int),IsTree p t a→Few (zV p.cons) t
 | .mk o n f i,a,h=>by
  simp only [IsTree]at h;obtain⟨j,nd,d,rfl,rfl,rfl,b⟩ :=h;obtain⟨c,e,_⟩ :=hp.node _ nd d;simp only [Few];exact⟨by rw [eY b];exact e,fun q g=>c.pats q g,aDa hp f nd.kids b⟩
theorem aDa {p:Prog}(hp:FineP p) :∀ (a:List XT) (l:List Int),aN p a l→oI (zV p.cons) a
 | [],_,_=>trivial
 | t::a,l,h=>by
  simp only [aN]at h;obtain⟨k,c,rfl,b,d⟩ :=h;exact⟨aYP hp t k b,aDa hp a c d⟩
end
theorem nK :∀ (b:List XT) (a:Nat),(aW b a).1.length=b.length∧∀k∈ (aW b a).1,(a:Int) ≤k∧k< ((a+aD b:Nat) :Int)
 | [],a=>by simp [aW]
 | t::b,a=>by
  have h:=nK b (a+ (dQ t a).length);have hl:=bB t a;have c:0<cB t:=by cases t;simp [cB]
  simp only [aW,mO,zq7,aD];refine⟨by rw [h.1],fun k hk=>?_⟩;rcases hk with rfl|hk
  ·omega
  ·have:=h.2 k hk;omega
mutual
theorem aYQ {B:Int}{cons:List Con}:∀ (t:XT) (a:Nat),FineX B t→Few (zV cons) t→∀ (j:Nat) (x:Node),(dQ t a)[j]?=some x→FineN cons x∧x.kids.length≤10∧∀k∈x.kids,((a+j:Nat) :Int) <k∧k< ((a+cB t:Nat) :Int)
 | .mk o n f m,a,c,d,j,x,h=>by
  simp only [FineX]at c;simp only [Few]at d;have hk:=nK f (a+1);simp only [dQ]at h;simp only [cB];cases j with
  | zero=>
   simp only [jK,Option.some.injEq]at h;subst h;exact⟨⟨d.2.1,fun e=>by dsimp only;rw [hk.1];exact c.2.2.2.1 e,fun e=>by dsimp only;rw [hk.1];exact c.2.2.2.2.1 e⟩,by dsimp only;rw [hk.1];exact d.1,fun k b=>by have:=hk.2 k b;omega⟩
  | succ j=>
   simp only [lS]at h;obtain⟨l,g,i⟩ :=aDb f (a+1) c.2.2.2.2.2.2 d.2.2 j x h;exact⟨l,g,fun k b=>by have:=i k b;omega⟩
theorem aDb {B:Int}{cons:List Con}:∀ (c:List XT) (a:Nat),FineXs B c→oI (zV cons) c→∀ (j:Nat) (x:Node),(aW c a).2[j]?=some x→FineN cons x∧x.kids.length≤10∧∀k∈x.kids,((a+j:Nat) :Int) <k∧k< ((a+aD c:Nat) :Int)
 | [],a,_,_,j,x,h=>by simp [aW]at h
 | t ::c,a,g,i,j,x,h=>by
  simp only [FineXs]at g;simp only [oI]at i;have hl:=bB t a;simp only [aW]at h;simp only [aD];by_cases l:j< (dQ t a).length
  · rw [hP l]at h;obtain⟨f,d,e⟩ :=aYQ t a g.1 i.1 j x h;exact⟨f,d,fun k b=>by have:=e k b;omega⟩
  · rw [iQ (by omega)]at h;obtain⟨f,d,e⟩ :=aDb c (a+ (dQ t a).length) g.2 i.2 _ x h;exact⟨f,d,fun k b=>by have:=e k b;omega⟩
end
mutual
def zT :XT→Int→List Int
 | .mk o _ ks ps,z=>z::zTs o ps ks 0 z
def zTs (o:Int)(ps:List Pat) :List XT→Nat→Int→List Int
 | [],_,_=>[]
 |t::ts,i,z=>zT t (z+bK o ps (i:Int)) ++zTs o ps ts (i+1) z
end
def zF :List XT→List Int
 | [] =>[]
 |t::ts=>zT t 1++zF ts
mutual
theorem oQ :∀ (t:XT) (z:Int),(zT t z).length=cB t
 | .mk o n a b,z=>by rw [zT,cB,mO,aR5]
theorem aR5 (o:Int)(ps:List Pat) :∀ (a:List XT) (i:Nat) (z:Int),(zTs o ps a i z).length=aD a
 | [],i,z=>by rw [zTs,aD];rfl
 |t::a,i,z=>by rw [zTs,aD,vP,oQ,aR5]
end
theorem aYR :∀ (a:List XT),(zF a).length=aD a
 | [] =>rfl
 |t::a=>by rw [zF,aD,vP,oQ,aYR]
theorem aR6 :∀ (t:XT) (z:Int),(zT t z)[0]?=some z
 | .mk o n a b,z=>by rw [zT];rfl
theorem aNx (o:Int)(ps:List Pat) :∀ (b:List XT) (a i:Nat) (z:Int) (d:Nat) (k:Int),(aW b a).1[d]?=some k→∃m:Nat,k= ((a+m:Nat) :Int) ∧ (zTs o ps b i z)[m]?=some (z+bK o ps ((i+d:Nat) :Int))
 | [],a,i,z,d,k,h=>by simp [aW]at h
 | t::b,a,i,z,d,k,h=>by
  have hl:=bB t a;have hz:=oQ t (z+bK o ps (i:Int));have f:0<cB t:=by cases t;simp [cB]
  simp only [aW]at h;simp only [zTs];cases d with
  | zero=>
   simp only [jK,Option.some.injEq]at h;refine⟨0,by rw [←h];rfl,?_⟩;rw [hP (by omega),aR6];rfl
  | succ d=>
   simp only [lS]at h;obtain⟨m,c,e⟩ :=aNx o ps b _ (i+1) z d k h;refine⟨(dQ t a).length+m,by rw [c];omega,?_⟩;rw [iQ (by omega),show(dQ t a).length+m- (zT t (z+bK o ps (i:Int))).length=m by omega,e,show i+1+d=i+ (d+1)by omega]
mutual
theorem bD2 :∀ (t:XT) (a:Nat) (z:Int) (j:Nat) (x:Node) (d:Nat) (k:Int),(dQ t a)[j]?=some x→x.kids[d]?=some k→∃s,(zT t z)[j]?=some s∧∃m:Nat,k= ((a+m:Nat) :Int) ∧ (zT t z)[m]?=some (s+dJ x (d:Int))
 | .mk o n f e,a,z,j,x,d,k,h,hk=>by
  simp only [dQ]at h;simp only [zT];cases j with
  | zero=>
   simp only [jK,Option.some.injEq]at h;subst h;obtain⟨m,b,c⟩ :=aNx o e f (a+1) 0 z d k hk;refine⟨z,rfl,m+1,by rw [b];omega,?_⟩;rw [lS,c,eM];rfl
  | succ j=>
   simp only [lS]at h;obtain⟨s,b,m,c,g⟩ :=aYS o e f (a+1) 0 z j x d k h hk;exact⟨s,b,m+1,by rw [c];omega,g⟩
theorem aYS (o:Int)(ps:List Pat) :∀ (b:List XT) (a i:Nat) (z:Int) (j:Nat) (x:Node) (d:Nat) (k:Int),(aW b a).2[j]?=some x→x.kids[d]?=some k→∃s,(zTs o ps b i z)[j]?=some s∧∃m:Nat,k= ((a+m:Nat) :Int) ∧ (zTs o ps b i z)[m]?=some (s+dJ x (d:Int))
 | [],a,i,z,j,x,d,k,h,hk=>by simp [aW]at h
 | t ::b,a,i,z,j,x,d,k,h,hk=>by
  have hl:=bB t a;have hz:=oQ t (z+bK o ps (i:Int));simp only [aW]at h;simp only [zTs];by_cases g:j< (dQ t a).length
  · rw [hP g]at h;obtain⟨s,e,m,f,c⟩ :=bD2 t a (z+bK o ps (i:Int)) j x d k h hk;have hm:= (zq0.1 c).1;exact⟨s,by rw [hP (by omega)];exact e,m,f,by rw [hP hm];exact c⟩
  · rw [iQ (by omega)]at h;obtain⟨s,e,m,f,c⟩ :=aYS o ps b _ (i+1) z _ x d k h hk;refine⟨s,by rw [iQ (by omega),hz,←hl];exact e,(dQ t a).length+m,by rw [f];omega,?_⟩;rw [iQ (by omega),hz,←hl,show(dQ t a).length+m- (dQ t a).length=m by omega];exact c
end
theorem aIp :∀ (b:List XT) (a:Nat) (f:Int),f∈ (aW b a).1→∃m:Nat,f= ((a+m:Nat) :Int) ∧ (zF b)[m]?=some 1
 | [],a,f,h=>by simp [aW]at h
 | t ::b,a,f,h=>by
  have hl:=bB t a;have hz:=oQ t 1;have e:0<cB t:=by cases t;simp [cB]
  simp only [aW,zq7]at h;simp only [zF];rcases h with rfl|h
  ·exact⟨0,rfl,by rw [hP (by omega),aR6]⟩
  · obtain⟨m,c,d⟩ :=aIp b _ f h;exact⟨(dQ t a).length+m,by rw [c];omega,by rw [iQ (by omega),hz,←hl,show(dQ t a).length+m- (dQ t a).length=m by omega];exact d⟩
theorem aYT :∀ (b:List XT) (a:Nat) (j:Nat) (x:Node) (d:Nat) (k:Int),(aW b a).2[j]?=some x→x.kids[d]?=some k→∃s,(zF b)[j]?=some s∧∃m:Nat,k= ((a+m:Nat) :Int) ∧ (zF b)[m]?=some (s+dJ x (d:Int))
 | [],a,j,x,d,k,h,hk=>by simp [aW]at h
 | t ::b,a,j,x,d,k,h,hk=>by
  have hl:=bB t a;have hz:=oQ t 1;simp only [aW]at h;simp only [zF];by_cases g:j< (dQ t a).length
  · rw [hP g]at h;obtain⟨s,e,m,f,c⟩ :=bD2 t a 1 j x d k h hk;have hm:= (zq0.1 c).1;exact⟨s,by rw [hP (by omega)];exact e,m,f,by rw [hP hm];exact c⟩
  · rw [iQ (by omega)]at h;obtain⟨s,e,m,f,c⟩ :=aYT b _ _ x d k h hk;refine⟨s,by rw [iQ (by omega),hz,←hl];exact e,(dQ t a).length+m,by rw [f];omega,?_⟩;rw [iQ (by omega),hz,←hl,show(dQ t a).length+m- (dQ t a).length=m by omega];exact c
mutual
theorem bCV :∀ (t:XT) (a m:Nat),m<cB t→m=0∨∃ (j:Nat) (x:Node),(dQ t a)[j]?=some x∧ ((a+m:Nat) :Int) ∈x.kids∧j<m
 | .mk o n c e,a,m,h=>by
  simp only [cB]at h;simp only [dQ];cases m with
  |zero=>exact .inl rfl
  | succ m=>
   right;rcases aGB c (a+1) m (by omega)with b| ⟨j,x,b,d,f⟩
   ·exact⟨0,_,rfl,by rw [show a+ (m+1) =a+1+m by omega];exact b,by omega⟩
   ·exact⟨j+1,x,b,by rw [show a+ (m+1) =a+1+m by omega];exact d,by omega⟩
theorem aGB :∀ (c:List XT) (a m:Nat),m<aD c→ ((a+m:Nat) :Int) ∈ (aW c a).1∨∃ (j:Nat) (x:Node),(aW c a).2[j]?=some x∧ ((a+m:Nat) :Int) ∈x.kids∧j<m
 | [],a,m,h=>by simp [aD]at h
 | t ::c,a,m,h=>by
  have hl:=bB t a;simp only [aD]at h;simp only [aW];by_cases hm:m<cB t
  · rcases bCV t a m hm with rfl| ⟨j,x,b,d,f⟩
    ·exact .inl (by simp)
    ·exact .inr ⟨j,x,by rw [hP (by omega)];exact b,d,f⟩
  · have e:a+m=a+ (dQ t a).length+ (m- (dQ t a).length) :=by omega
    rcases aGB c (a+ (dQ t a).length) (m- (dQ t a).length) (by omega)with b| ⟨j,x,b,d,f⟩
    ·exact .inl (cH _ (by rw [e];exact b))
    ·exact .inr ⟨(dQ t a).length+j,x,by rw [iQ (by omega),show(dQ t a).length+j- (dQ t a).length=j by omega];exact b,by rw [e];exact d,by omega⟩
end
theorem bCW {ts:List XT}{mn:Int}{cons:List Con}:Sprop (cO ts mn cons) (zF ts) :=by
 refine⟨by rw [aYR];simp only [cO,aQG];rw [pK],fun f e=>?_,fun i x d k h hk=>?_⟩
 · obtain⟨m,a,b⟩ :=aIp ts 0 f e;rw [a,show((((0+m:Nat) :Int)).toNat) =m by omega];exact b
 · obtain⟨s,a,m,b,c⟩ :=aYT ts 0 i x d k h hk;exact⟨s,a,by rw [b,show((((0+m:Nat) :Int)).toNat) =m by omega];exact c⟩
theorem aUO {ts:List XT}{mn:Int}{cons:List Con}:zS (cO ts mn cons) :=fun m hm=>by
 simp only [cO,aQG]at hm ⊢;rw [pK]at hm;rcases aGB ts 0 m hm with a| ⟨j,x,a,c,b⟩
 ·exact .inl ⟨_,a,by omega⟩
 ·exact .inr ⟨j,x,_,a,c,by omega,b⟩
def aA6 :XT→List Int→XT
 | .mk o n ks ps,to=>if o=4∧0≤n then .mk o (to.getD n.toNat 0) ks ps else .mk o n ks ps
def plc (to:List Int)(n k:Int) :List Int:=to++ (range k.toNat).map (fun i=>n+ ((i:Nat) :Int))
def clB :List XT→XT→XT
 | [],t=>t
 |a::bs,t=>.mk 7 0 [a,clB bs t] []
def clF (f:Flow) :XT:=clB f.binds f.last
mutual
def eF :XT→List Int→Int→Flow
 | .mk o n ks ps,to,z=>
  if bJ (.mk o n ks ps) =true then⟨[],aA6 (.mk o n ks ps) to⟩
  else if o=7 then flL ks to z
  else⟨(mR ks (aT o ks.length) to z).1,.mk o n ((mR ks (aT o ks.length) to z).2++vW o ps ks 0 (aT o ks.length) to (z+ ((mR ks (aT o ks.length) to z).1.length:Nat))) ps⟩
def flL :List XT→List Int→Int→Flow
 | [],_,_=> ⟨[],dXT⟩
 |a::ks,to,z=> ⟨(eF a to z).binds++ (eF a to z).last:: (flB ks (to++ [z+ ((eF a to z).binds.length:Nat)]) (z+ ((eF a to z).binds.length+1:Nat))).binds,(flB ks (to++ [z+ ((eF a to z).binds.length:Nat)]) (z+ ((eF a to z).binds.length+1:Nat))).last⟩
def flB :List XT→List Int→Int→Flow
 | [],_,_=> ⟨[],dXT⟩
 |b::_,to,z=>eF b to z
def mR :List XT→Nat→List Int→Int→List XT×List XT
 | [],_,_,_=> ([],[])
 |_::_,0,_,_=> ([],[])
 | k::ks,m+1,to,z=>if bJ k=true then((mR ks m to z).1,aA6 k to:: (mR ks m to z).2)
  else((eF k to z).binds++ (eF k to z).last:: (mR ks m to (z+ ((eF k to z).binds.length+1:Nat))).1,.mk 4 (z+ ((eF k to z).binds.length:Nat)) [] [] :: (mR ks m to (z+ ((eF k to z).binds.length+1:Nat))).2)
def vW (o:Int)(ps:List Pat) :List XT→Nat→Nat→List Int→Int→List XT
 | [],_,_,_,_=>[]
 |_::ks,i,m+1,to,n=>vW o ps ks (i+1) m to n
 |k::ks,i,0,to,n=>clF (eF k (plc to n (bK o ps (i:Int))) (n+bK o ps (i:Int))) ::vW o ps ks (i+1) 0 to n
end
def NdX (p:Prog)(o n:Int)(k:Nat)(ps:List Pat) :Prop:=
 (o=4→0- (p.funs.length:Int) ≤n∧k=0∧ps= []) ∧ (o≠4→aP p ⟨o,n,List.replicate k 0,ps⟩ =true)
mutual
def WX (p:Prog) :XT→Prop
 | .mk o n ks ps=>NdX p o n ks.length ps∧jJ p ks
def jJ (p:Prog) :List XT→Prop
 | [] =>True
 |t::ts=>WX p t∧jJ p ts
end
theorem wxs_iff {p:Prog}:∀ {ts:List XT},jJ p ts↔∀t∈ts,WX p t
 | [] =>by simp [jJ]
 |t::ts=>by simp only [jJ,wxs_iff (ts:=ts),zq7];exact⟨fun h x a=>by rcases a with rfl|a;exact h.1;exact h.2 x a,fun h=> ⟨h t (.inl rfl),fun x a=>h x (.inr a)⟩⟩
theorem atomX_iff {t:XT}:bJ t=true↔t.op=1∨t.op=2∨t.op=3∨t.op=4:=by
 unfold bJ;simp only [Bool.or_eq_true,decide_eq_true_eq];omega
theorem NdX.atom {p:Prog}{o n:Int}{k:Nat}{ps:List Pat}(h:NdX p o n k ps)(b:o=1∨o=2∨o=3∨o=4) :k=0:=by
 by_cases a:o=4
 ·exact(h.1 a).2.1
 · have:=h.2 a;simp only [aP,cP,decide_eq_true_eq,aIz]at this;have c:=this.2;rcases b with rfl|rfl|rfl|rfl<;>simp [cM]at c<;>omega
theorem NdX.let7 {p:Prog}{o n:Int}{k:Nat}{ps:List Pat}(h:NdX p o n k ps)(d:o=7) :n=0∧ps= [] ∧k=2:=by
 subst d;have:=h.2 (by decide);simp only [aP,eW,dT,cP,decide_eq_true_eq,aIz]at this;obtain⟨⟨⟨a,b⟩,_⟩,c⟩ :=this;simp at a b;simp [cM]at c;exact⟨a,b,by omega⟩
theorem NdX.pats {p:Prog}{o n:Int}{k:Nat}{ps:List Pat}(h:NdX p o n k ps) :∀q∈ps,bZ q≤12:=fun q a=>by
 by_cases b:o=4
 ·rw [(h.1 b).2.2]at a;cases a
 · have:=h.2 b;simp only [aP,cP]at this;have:=zq27.1 this.1.2 q a;simp only [iL,cP,decide_eq_true_eq]at this;exact this.1
theorem aEF {o:Int}{l:Nat}(h:0<aT o l) :¬ (o=1∨o=2∨o=3∨o=4) ∧o≠7∧o≠5∧o≠27:=by
 refine⟨fun a=>?_,fun a=>?_,fun a=>?_,fun a=>?_⟩
 ·rcases a with rfl|rfl|rfl|rfl<;>simp [aT,eD,gU]at h
 all_goals (subst a;simp [aT,eD,gU]at h)
theorem aEG {o:Int}{ps:List Pat}{l i:Nat}(h:i<aT o l) :bK o ps (i:Int) =0:=by
 obtain⟨_,c,d,b⟩ :=aEF (by omega:0<aT o l);unfold bK dJ;simp only [c,d,b];by_cases a:o=15
 · subst a;have:i=0:=by simp [aT,eD]at h;exact h
   subst this;simp
 ·simp [a]
theorem getD_ins {a b:List Int}{x:Int}{n:Nat}: (a.length≤n→ (a++x::b).getD (n+1) 0= (a++b).getD n 0) ∧ (n<a.length→ (a++x::b).getD n 0= (a++b).getD n 0) :=by
 simp only [nY];refine⟨fun h=>?_,fun h=>?_⟩
 ·rw [iQ (by omega),iQ h,show n+1-a.length= (n-a.length) +1 by omega,lS]
 ·rw [hP h,hP h]
theorem bCY {c o n:Int}{ps:List Pat}{a b:List Int}{x:Int}(hc: (a.length:Int) =c) :aA6 (.mk o (mvN c 1 o n) [] ps) (a++x::b) =aA6 (.mk o n [] ps) (a++b) :=by
 have g :∀h,h=mvN c 1 o n→aA6 (.mk o h [] ps) (a++x::b) =aA6 (.mk o n [] ps) (a++b) :=by
  intro h d;unfold mvN at d;simp only [aA6];by_cases e:o=4
  · by_cases f:0≤n
    · by_cases i:c≤n
      · rw [if_pos ⟨e,f,i⟩]at d;subst d;rw [if_pos ⟨e,by omega⟩,if_pos ⟨e,f⟩,show(n+1).toNat=n.toNat+1 by omega,getD_ins.1 (by omega)]
      · rw [if_neg (by omega)]at d;subst d;rw [if_pos ⟨e,f⟩,if_pos ⟨e,f⟩,getD_ins.2 (by omega)]
    · rw [if_neg (by omega)]at d;subst d;rw [if_neg (by omega),if_neg (by omega)]
  · rw [if_neg (by omega)]at d;subst d;rw [if_neg (by omega),if_neg (by omega)]
 exact g _ rfl
theorem aCm (c:Int) :∀ (t:XT),bJ (rD c 1 t) =bJ t
 | .mk o n b a=>rfl
theorem WX.kids0 {p:Prog}{o n:Int}{ks:List XT}{ps:List Pat}(h:WX p (.mk o n ks ps))(a:bJ (.mk o n ks ps) =true) :ks= [] :=by
 simp only [WX]at h;exact zq35.1 (h.1.atom (atomX_iff.1 a))
theorem aGC {p:Prog}{c:Int}{a b:List Int}{x:Int}(hc: (a.length:Int) =c) :∀ {t:XT},WX p t→bJ t=true→aA6 (rD c 1 t) (a++x::b) =aA6 t (a++b)
 | .mk o n g f,e,d=>by
  have hk:=e.kids0 d;subst hk;exact bCY hc
theorem aYU (a b:List Int)(x n k:Int) :plc (a++x::b) n k=a++x::plc b n k∧plc (a++b) n k=a++plc b n k:=by
 unfold plc;simp
section
variable {p :Prog} (c:Int)
mutual
theorem aGD :∀ (t:XT),WX p t→∀ (a:List Int) (x:Int) (b:List Int) (z:Int),(a.length:Int) =c→eF (rD c 1 t) (a++x::b) z=eF t (a++b) z
 | .mk o n d f,e,a,x,b,z,hc=>by
  have i:=e;simp only [WX]at e;simp only [rD,eF];rw [show bJ (.mk o (mvN c 1 o n) (dU c 1 d) f) =bJ (.mk o n d f)from rfl,kQ];by_cases h:bJ (.mk o n d f) =true
  · rw [if_pos h,if_pos h];have:=aGC (b:=b) (x:=x) hc i h;simp only [rD]at this;rw [this]
  · rw [if_neg h,if_neg h];by_cases g:o=7
    ·rw [if_pos g,if_pos g];exact bFr d e.2 a x b z hc
    · rw [if_neg g,if_neg g];have k:mvN c 1 o n=n:=by
       unfold mvN;rw [if_neg];intro j;exact h (atomX_iff.2 (.inr (.inr (.inr j.1))))
      rw [aKW d e.2 _ a x b z hc,aKX o f d e.2 0 _ a x b _ hc,k]
theorem bFr :∀ (d:List XT),jJ p d→∀ (a:List Int) (x:Int) (b:List Int) (z:Int),(a.length:Int) =c→flL (dU c 1 d) (a++x::b) z=flL d (a++b) z
 | [],_,_,_,_,_,_=>rfl
 | k::d,e,a,x,b,z,hc=>by
  simp only [jJ]at e;simp only [dU,flL];rw [aGD k e.1 a x b z hc,zq9,zq9,vV,bFs d e.2 a x _ _ hc]
theorem bFs :∀ (d:List XT),jJ p d→∀ (a:List Int) (x:Int) (b:List Int) (z:Int),(a.length:Int) =c→flB (dU c 1 d) (a++x::b) z=flB d (a++b) z
 | [],_,_,_,_,_,_=>rfl
 | k::d,e,a,x,b,z,hc=>by
  simp only [jJ]at e;simp only [dU,flB];exact aGD k e.1 a x b z hc
theorem aKW :∀ (d:List XT),jJ p d→∀ (m:Nat) (a:List Int) (x:Int) (b:List Int) (z:Int),(a.length:Int) =c→mR (dU c 1 d) m (a++x::b) z=mR d m (a++b) z
 | [],_,_,_,_,_,_,_=>by simp only [dU,mR]
 |k::d,_,0,_,_,_,_,_=>by simp only [dU,mR]
 | k::d,e,m+1,a,x,b,z,hc=>by
  simp only [jJ]at e;simp only [dU,mR];rw [aCm];by_cases h:bJ k=true
  ·rw [if_pos h,if_pos h,aKW d e.2 m a x b z hc,aGC hc e.1 h]
  ·rw [if_neg h,if_neg h,aGD k e.1 a x b z hc,aKW d e.2 m a x b _ hc]
theorem aKX (o:Int)(ps:List Pat) :∀ (d:List XT),jJ p d→∀ (i m:Nat) (a:List Int) (x:Int) (b:List Int) (n:Int),(a.length:Int) =c→vW o ps (dU c 1 d) i m (a++x::b) n=vW o ps d i m (a++b) n
 | [],_,_,_,_,_,_,_,_=>by simp only [dU,vW]
 | k::d,e,i,m+1,a,x,b,n,hc=>by
  simp only [jJ]at e;simp only [dU,vW];exact aKX o ps d e.2 (i+1) m a x b n hc
 | k::d,e,i,0,a,x,b,n,hc=>by
  simp only [jJ]at e;simp only [dU,vW];rw [(aYU a b x n _).1,(aYU a b x n _).2,aGD k e.1 a x _ _ hc,aKX o ps d e.2 (i+1) 0 a x b n hc]
end
end
theorem qI :∀ {a:List XT} {i m k:Nat},cX a i m=some k→∃j x,k=i+j∧j<m∧a[j]?=some x∧bJ x=false
 | [],i,m,k,h=>by simp [cX]at h
 |_::_,i,0,k,h=>by simp [cX]at h
 | t ::a,i,m+1,k,h=>by
  simp only [cX]at h;split at h
  · obtain⟨j,x,e,f,d,b⟩ :=qI h;exact⟨j+1,x,by omega,by omega,by simpa using d,b⟩
  · rename_i c;cases h;exact⟨0,t,rfl,by omega,rfl,by simpa using c⟩
theorem aYV {p:Prog}:∀ (e:List XT) (m i j:Nat),jJ p e→cX e i m=some (i+j) →∀ (d:List Int) (z:Int),
  mR e m d z= ((eF (e.getD j dXT) d z).binds++ (eF (e.getD j dXT) d z).last::
    (mR ((dU (d.length:Int) 1 e).set j (.mk 4 (d.length:Int) [] [])) m (d++ [z+ ((eF (e.getD j dXT) d z).binds.length:Nat)]) (z+ ((eF (e.getD j dXT) d z).binds.length+1:Nat))).1,
   (mR ((dU (d.length:Int) 1 e).set j (.mk 4 (d.length:Int) [] [])) m (d++ [z+ ((eF (e.getD j dXT) d z).binds.length:Nat)]) (z+ ((eF (e.getD j dXT) d z).binds.length+1:Nat))).2)
 | [],m,i,j,_,h,_,_=>by simp [cX]at h
 |_::_,0,i,j,_,h,_,_=>by simp [cX]at h
 | k ::e,m+1,i,j,g,h,d,z=>by
  simp only [jJ]at g;simp only [cX]at h;by_cases f:bJ k=true
  · rw [if_pos f]at h;obtain⟨l,x,s,_,_,_⟩ :=qI h;obtain rfl:j=l+1:=by omega
    have o:=aYV e m (i+1) l g.2 (by rw [h];congr 1) d z;simp only [getD_cons_succ,dU,set_cons_succ,mR];rw [if_pos f,aCm,if_pos f];have n:=aGC (c:= (d.length:Int)) (a:=d) (b:=[]) (x:=z+ ((eF (e.getD l dXT) d z).binds.length:Nat)) rfl g.1 f;rw [vZ]at n;rw [n,o]
  · rw [if_neg f]at h;obtain rfl:j=0:=by simp only [Option.some.injEq]at h;omega
    simp only [getD_cons_zero,dU,set_cons_zero,mR];rw [if_neg f];have q:bJ (.mk 4 (d.length:Int) [] []) =true:=rfl;rw [if_pos q];have hm:=aKW (c:= (d.length:Int)) e g.2 m d (z+ ((eF k d z).binds.length:Nat)) [] (z+ ((eF k d z).binds.length+1:Nat)) rfl;rw [vZ]at hm;rw [hm];have r:aA6 (.mk 4 (d.length:Int) [] []) (d++ [z+ ((eF k d z).binds.length:Nat)]) = .mk 4 (z+ ((eF k d z).binds.length:Nat)) [] [] :=by
     simp only [aA6];rw [if_pos ⟨trivial,Int.natCast_nonneg _⟩,len_nat',nY,iQ (le_refl _)];simp
    rw [r]
where len_nat' {d:List Int}: ((d.length:Nat) :Int).toNat=d.length:=kZ _
theorem aKY (o:Int)(ps:List Pat) :∀ (b:List XT) (i m j:Nat) (v:XT) (a:List Int) (n:Int),j<m→vW o ps (b.set j v) i m a n=vW o ps b i m a n
 | [],_,_,_,_,_,_,_=>rfl
 |k::b,i,m+1,0,v,a,n,_=>by simp only [set_cons_zero,vW]
 | k::b,i,m+1,j+1,v,a,n,h=>by
  simp only [set_cons_succ,vW];exact aKY o ps b (i+1) m j v a n (by omega)
theorem aGE :∀ (b:List XT) (m j:Nat) (v:XT) (a:List Int) (z:Int),m≤j→mR (b.set j v) m a z=mR b m a z
 | [],_,_,_,_,_,_=>rfl
 |k::b,0,0,v,a,z,_=>by simp only [set_cons_zero,mR]
 |k::b,0,j+1,v,a,z,_=>by simp only [set_cons_succ,mR]
 | k::b,m+1,j+1,v,a,z,h=>by
  simp only [set_cons_succ,mR];rw [aGE b m j v a z (by omega),aGE b m j v a _ (by omega)]
theorem aGF :∀ (b:List XT) (m j:Nat) (t v:XT) (a:List Int) (z:Int),b[j]?=some t→bJ t=false→bJ v=false→ (∀z,eF v a z=eF t a z) →mR (b.set j v) m a z=mR b m a z
 | [],_,_,_,_,_,_,h,_,_,_=>by simp at h
 |k::b,0,0,t,v,a,z,_,_,_,_=>by simp only [set_cons_zero,mR]
 |k::b,0,j+1,t,v,a,z,_,_,_,_=>by simp only [set_cons_succ,mR]
 | k::b,m+1,0,t,v,a,z,h,d,e,c=>by
  simp only [jK,Option.some.injEq]at h;subst h;simp only [set_cons_zero,mR];rw [d,e,c];simp
 | k::b,m+1,j+1,t,v,a,z,h,d,e,c=>by
  simp only [lS]at h;simp only [set_cons_succ,mR];rw [aGF b m j t v a z h d e c,aGF b m j t v a _ h d e c]
theorem aGG (o:Int)(ps:List Pat) :∀ (b:List XT) (i m j:Nat) (t v:XT) (a:List Int) (n:Int),b[j]?=some t→m≤j→ (eF v (plc a n (bK o ps ((i+j:Nat) :Int))) (n+bK o ps ((i+j:Nat) :Int)) =eF t (plc a n (bK o ps ((i+j:Nat) :Int))) (n+bK o ps ((i+j:Nat) :Int))) →
  vW o ps (b.set j v) i m a n=vW o ps b i m a n
 | [],_,_,_,_,_,_,_,h,_,_=>by simp at h
 | k::b,i,m+1,j+1,t,v,a,n,h,hm,c=>by
  simp only [lS]at h;simp only [set_cons_succ,vW];exact aGG o ps b (i+1) m j t v a n h (by omega) (by rw [show i+1+j=i+ (j+1)by omega];exact c)
 | k::b,i,0,0,t,v,a,n,h,hm,c=>by
  simp only [jK,Option.some.injEq]at h;subst h;simp only [set_cons_zero,vW];rw [Nat.add_zero]at c;rw [c]
 | k::b,i,0,j+1,t,v,a,n,h,hm,c=>by
  simp only [lS]at h;simp only [set_cons_succ,vW];rw [aGG o ps b (i+1) 0 j t v a n h (zero_le _) (by rw [show i+1+j=i+ (j+1)by omega];exact c)]
theorem aYW {p:Prog}:∀ (t:XT),WX p t→∀ (s:Option Nat),cG t=some s→∀ (d:List Int) (z:Int),eF (gW (d.length:Int) s t) d z=eF t d z
 | .mk o n g C,f,some k,e,d,z=>by
  have F:=f;simp only [WX]at f;simp only [cG]at e;by_cases l:o=7
  · rw [if_pos l]at e;split at e
    ·split at e<;>cases e
    ·cases e
  rw [if_neg l]at e;cases r:cX g 0 (aT o g.length)with
  |none=>rw [r]at e;cases e
  | some B=>
   rw [r]at e;simp only [map_some,Option.some.injEq]at e;subst e;obtain⟨j,x,I,M,S,N⟩ :=qI r;obtain rfl:B=j:=by omega
   have u:0<aT o g.length:=by omega
   obtain⟨D,_⟩ :=aEF u;have v:∀H i,¬bJ (.mk o H i C) =true:=fun H i h=>D (atomX_iff.1 h);have J:=aYV g (aT o g.length) 0 B f.2 (by rw [r,eM]) d z;simp only [gW,dnT];rw [←mH]
   conv=>rhs;rw [eF,if_neg (v n g),if_neg l]
   rw [eF,if_neg (by simp [bJ,XT.op]),if_pos rfl,flL,flB,eF,if_neg (v _ _),if_neg l];rw [fN,kQ];have hr:=aKX (c:= (d.length:Int)) o C g f.2 0 (aT o g.length) d (z+ ((eF (g.getD B dXT) d z).binds.length:Nat)) [];rw [vZ]at hr;rw [J];simp only;rw [aKY _ _ _ _ _ _ _ _ _ M,hr _ rfl];congr 4;simp only [vP,mO];omega
 | .mk o n g C,f,none,e,d,z=>by
  have F:=f;simp only [WX]at f;simp only [cG]at e;by_cases l:o=7
  · obtain⟨_,_,hl⟩ :=f.1.let7 l;rw [if_pos l]at e
    match g,hl,f,e with
    | [.mk O T L R,c],_,f,e=>
     simp only [jK,XT.op]at e;by_cases q:O=7
     · simp only [jJ,WX]at f;obtain⟨_,_,G⟩ :=f.2.1.1.let7 q
       match L,G,f with
       | [a,b],_,f=>
        subst l q;simp only [gW,getD_cons_zero,getD_cons_succ,XT.kids,neT];have K:∀m i A,¬bJ (.mk 7 m i A) =true:=fun m i A=>by simp [bJ,XT.op]
        simp only [eF,K,if_false,if_true,flL,flB];have hm:=fun y w=>aGD (c:= (d.length:Int)) c f.2.2.1 d y [w];simp only [zq9,vV,nil_append,vP,mO];rw [hm _ _ _ rfl];have I:z+ (((eF a d z).binds.length+1:Nat) :Int) + ((eF b (d++ [z+ ((eF a d z).binds.length:Nat)]) (z+ (((eF a d z).binds.length+1:Nat) :Int))).binds.length:Nat) =z+ (((eF a d z).binds.length+ ((eF b (d++ [z+ ((eF a d z).binds.length:Nat)]) (z+ (((eF a d z).binds.length+1:Nat) :Int))).binds.length+1) :Nat) :Int) :=by omega
        have Q:z+ (((eF a d z).binds.length+1:Nat) :Int) + (((eF b (d++ [z+ ((eF a d z).binds.length:Nat)]) (z+ (((eF a d z).binds.length+1:Nat) :Int))).binds.length+1:Nat) :Int) =z+ (((eF a d z).binds.length+ ((eF b (d++ [z+ ((eF a d z).binds.length:Nat)]) (z+ (((eF a d z).binds.length+1:Nat) :Int))).binds.length+1) +1:Nat) :Int) :=by omega
        rw [I,Q];simp only [rN,if_false,zq9,vV,vP,mO]
     ·simp [q]at e
  · rw [if_neg l]at e;cases r:cX g 0 (aT o g.length)with
    |none=>rw [r]at e;cases e
    |some B=>rw [r]at e;cases e
theorem oV (ps:List Pat) :bK 7 ps 0=0∧bK 7 ps 1=1:=by
 constructor<;>simp [bK,dJ]
mutual
def vX :XT→Int→Prop
 | .mk o n ks ps,z=> (o=4→n<z) ∧yI o ps ks 0 z
def yI (o:Int)(ps:List Pat) :List XT→Nat→Int→Prop
 | [],_,_=>True
 |t::ts,i,z=>vX t (z+bK o ps (i:Int)) ∧yI o ps ts (i+1) z
end
theorem scxs_iff {o:Int}{ps:List Pat}:∀ {ts:List XT} {i:Nat} {z:Int},yI o ps ts i z↔∀ (j:Nat) (t:XT),ts[j]?=some t→vX t (z+bK o ps ((i+j:Nat) :Int))
 | [],i,z=>by simp [yI]
 | t ::ts,i,z=>by
  simp only [yI,scxs_iff (ts:=ts)];refine⟨fun h j x a=>?_,fun h=> ⟨h 0 t rfl,fun j x a=>?_⟩⟩
  · cases j with
    |zero=>simp only [jK,Option.some.injEq]at a;subst a;exact h.1
    |succ j=>rw [show i+ (j+1) =i+1+j by omega];exact h.2 j x (by simpa using a)
  · have:=h (j+1) x (by simpa using a);rw [show i+ (j+1) =i+1+j by omega]at this;exact this
theorem aNz {node o:Int}{ps:List Pat}:∀ {b:List XT} {i:Nat} {n z:Int} {a:List XT},iM node o ps b i n z= .did a→∃ (j:Nat) (t d:XT) (c:Int),b[j]?=some t∧a=b.set j d∧atT node t c (z+bK o ps ((i+j:Nat) :Int)) = .did d
 | [],i,n,z,a,h=>by simp only [iM]at h;cases h
 | t ::b,i,n,z,a,h=>by
  simp only [iM]at h;split at h
  · rename_i m e;split at h
    ·cases h
    ·cases h
    · rename_i f r;cases h;obtain⟨j,x,p,c,k,l,g⟩ :=aNz r;exact⟨j+1,x,p,c,by simpa using k,by rw [l];rfl,by rw [show i+ (j+1) =i+1+j by omega];exact g⟩
  ·cases h
  · rename_i q e;cases h;exact⟨0,t,q,n,rfl,rfl,e⟩
theorem aR7 {node o n l c:Int}{ks:List XT}{ps:List Pat}{d:XT}(h:atT node (.mk o n ks ps) l c= .did d) :
  (∃s,cG (.mk o n ks ps) =some s∧d=gW c s (.mk o n ks ps)) ∨∃ (j:Nat) (g t2':XT) (b:Int),ks[j]?=some g∧d= .mk o n (ks.set j t2') ps∧atT node g b (c+bK o ps (j:Int)) = .did t2':=by
 have a: (match iM node o ps ks 0 (l+1) c with
   | .go m=>AtR.go m
   | .past=>.past
   | .did f=>.did (XT.mk o n f ps)) = .did d→∃ (j:Nat) (g t2':XT) (b:Int),ks[j]?=some g∧d= .mk o n (ks.set j t2') ps∧atT node g b (c+bK o ps (j:Int)) = .did t2':=fun i=>by
  split at i
  ·cases i
  ·cases i
  · rename_i f e;cases i;obtain⟨j,x,t,b,q,r,k⟩ :=aNz e;rw [eM]at k;exact⟨j,x,t,b,q,by rw [r],k⟩
 rw [atT]at h;split at h
 · rename_i s p;split at h
   ·cases h;exact .inl ⟨s,p,rfl⟩
   · split at h
     ·cases h
     ·exact .inr (a h)
 ·exact .inr (a h)
theorem rI :∀ {ts:List XT} {j:Nat} {t:XT},ts[j]?=some t→cB t≤aD ts
 | [],j,t,h=>by simp at h
 |x::ts,0,t,h=>by simp at h;subst h;simp only [aD];omega
 | x::ts,j+1,t,h=>by
  have:=rI (ts:=ts) (j:=j) (t:=t) (by simpa using h);simp only [aD];omega
theorem aCn {p:Prog}:∀ {t:XT} {s:Option Nat},WX p t→cG t=some s→bJ t=false
 | .mk o n c b,s,d,h=>by
  cases a:bJ (.mk o n c b)
  case false=>rfl
  have hk:=d.kids0 a;subst hk;simp only [cG]at h;split at h
  ·simp at h
  ·simp [cX]at h
theorem aKZ {sz:Int}:∀ (t:XT) (s:Option Nat),bJ (gW sz s t) =false
 | .mk o n a b,some k=>by simp [gW,dnT,bJ,XT.op]
 | .mk o n a b,none=>by simp [gW,neT,bJ,XT.op]
theorem bCZ (to:List Int)(n k:Int) : (plc to n k).length=to.length+k.toNat:=by simp [plc]
theorem bD3 {p:Prog}{node:Int}:∀ (k:Nat) (t:XT),cB t≤k→WX p t→∀ (D:Int) (c:List Int) (v:XT),atT node t D (c.length:Int) = .did v→ (∀z,eF v c z=eF t c z) ∧bJ t=false∧bJ v=false
 |0,.mk o n g ps,hk,_,_,_,_,_=>by simp only [cB]at hk;omega
 | k + 1,.mk o n g ps,hk,l,D,c,v,h=>by
  simp only [cB]at hk;rcases aR7 h with⟨s,C,rfl⟩ | ⟨j,x,e,H,d,rfl,G⟩
  ·exact⟨fun z=>aYW _ l s C c z,aCn l C,aKZ _ _⟩
  · have y:=l;simp only [WX]at l;have K:=rI d;have A:=wxs_iff.1 l.2 x (kS d)
    have f:∀i,bJ (.mk o n i ps) =false:=fun i=>by
     cases B:bJ (.mk o n i ps)
     case false=>rfl
     have:=y.kids0 (show bJ (.mk o n g ps) =true from B);subst this;simp at d
    have w:=fun(u:List Int) (he: (u.length:Int) = (c.length:Int) +bK o ps (j:Int)) =>bD3 k x (by omega) A H u e (by rw [he];exact G);refine⟨fun z=>?_,f g,f _⟩;rw [eF,eF,f,f];simp only [rN,if_false];have F:=oH (o:=o) (ps:=ps) (fun q J=>by have:=l.1.pats q J;omega) (j:Int);by_cases m:o=7
    · rw [if_pos m,if_pos m];obtain⟨_,_,hl⟩ :=l.1.let7 m;subst m
      match g,hl,j,d with
      | [a,b],_,0,d=>
       simp only [jK,Option.some.injEq]at d;subst d;obtain⟨r,_,_⟩ :=w c (by rw [natCast_zero,(oV ps).1];omega);simp only [set_cons_zero,flL];rw [r]
      | [a,b],_,1,d=>
       simp only [lS,jK,Option.some.injEq]at d;subst d;simp only [set_cons_succ,set_cons_zero,flL,flB];rw [(w (c++ [z+ ((eF a c z).binds.length:Nat)]) (by rw [show(((1:Nat)) :Int) =1 from rfl,(oV ps).2];simp)).1]
      | [a,b],_,j+2,d=>simp at d
    · rw [if_neg m,if_neg m,fN];by_cases hm:j<aT o g.length
      · have I:=aEG (ps:=ps) hm;have r:=w c (by rw [I];omega);rw [aGF g _ j x e c z d r.2.1 r.2.2 r.1,aKY o ps g 0 _ j e c _ hm]
      · rw [aGE g _ j e c z (by omega),aGG o ps g 0 _ j x e c _ d (by omega)];rw [eM];exact(w (plc c _ (bK o ps (j:Int))) (by rw [bCZ];omega)).1 _
theorem NdX.let0 (p:Prog) :NdX p 7 0 2 [] := ⟨fun h=>absurd h (by decide),fun _=>by simp [aP,eW,dT,cM]⟩
theorem NdX.name0 (p:Prog){n:Int}(h:0≤n) :NdX p 4 n 0 [] := ⟨fun _=> ⟨by omega,rfl,rfl⟩,fun h=>absurd rfl h⟩
theorem NdX.mv {p:Prog}{o n c:Int}{k:Nat}{ps:List Pat}(h:NdX p o n k ps) :NdX p o (mvN c 1 o n) k ps:=by
 by_cases a:o=4
 · have:=h.1 a;exact⟨fun _=> ⟨by unfold mvN;split<;>omega,this.2⟩,fun h=>absurd a h⟩
 · have b:mvN c 1 o n=n:=by unfold mvN;rw [if_neg (by omega)]
   rw [b];exact h
mutual
theorem bD4 {p:Prog}(c:Int) :∀ {t:XT},WX p t→WX p (rD c 1 t)
 | .mk o n a b,h=>by
  simp only [WX,rD]at h ⊢;rw [kQ];exact⟨h.1.mv,aQI c h.2⟩
theorem aQI {p:Prog}(c:Int) :∀ {a:List XT},jJ p a→jJ p (dU c 1 a)
 | [],_=>trivial
 |t::a,h=>by simp only [jJ,dU]at h ⊢;exact⟨bD4 c h.1,aQI c h.2⟩
end
mutual
theorem bD5 (c:Int) :∀ {t:XT} {z:Int},vX t z→vX (rD c 1 t) (z+1)
 | .mk o n d b,z,h=>by
  simp only [vX,rD]at h ⊢;refine⟨fun a=>?_,aQJ c h.2⟩;have:=h.1 a;unfold mvN;split<;>omega
theorem aQJ (c:Int){o:Int}{ps:List Pat}:∀ {a:List XT} {i:Nat} {z:Int},yI o ps a i z→yI o ps (dU c 1 a) i (z+1)
 | [],_,_,_=>trivial
 | t::a,i,z,h=>by
  simp only [yI,dU]at h ⊢;refine⟨?_,aQJ c h.2⟩;have:=bD5 c h.1;rw [show z+1+bK o ps (i:Int) =z+bK o ps (i:Int) +1 by omega];exact this
end
theorem aR8 {p:Prog}{ts:List XT}{i:Nat}{t:XT}(h:jJ p ts)(b:WX p t) :jJ p (ts.set i t) :=wxs_iff.2 fun x a=>by
 rcases List.mem_or_eq_of_mem_set a with g|g
 ·exact wxs_iff.1 h x g
 ·rw [g];exact b
theorem aR9 {o:Int}{ps:List Pat}{ts:List XT}{i j:Nat}{t:XT}{z:Int}(h:yI o ps ts i z)(c:vX t (z+bK o ps ((i+j:Nat) :Int))) :yI o ps (ts.set j t) i z:=scxs_iff.2 fun k x a=>by
 by_cases e:j=k
 · subst e;rw [List.getElem?_set]at a;split at a
   · split at a
     ·simp only [Option.some.injEq]at a;rw [←a];exact c
     ·cases a
   ·rename_i b;exact absurd rfl b
 · rw [List.getElem?_set_ne e]at a;exact scxs_iff.1 h k x a
theorem bC0 {p:Prog}{z:Int}(hz:0≤z) :∀ {t:XT} {s:Option Nat},WX p t→vX t z→cG t=some s→WX p (gW z s t) ∧vX (gW z s t) z
 | .mk o n l ps,some k,f,d,e=>by
  simp only [WX]at f;simp only [vX]at d;simp only [cG]at e;by_cases i:o=7
  · rw [if_pos i]at e;split at e
    ·split at e<;>cases e
    ·cases e
  rw [if_neg i]at e;cases m:cX l 0 (aT o l.length)with
  |none=>rw [m]at e;cases e
  | some v=>
   rw [m]at e;simp only [map_some,Option.some.injEq]at e;subst e;obtain⟨j,x,H,D,u,C⟩ :=qI m;obtain rfl:v=j:=by omega
   obtain⟨r,_⟩ :=aEF (show 0<aT o l.length by omega);have A:=aEG (ps:=ps) D;simp only [gW,dnT,rG u];rw [←mH];have q:=scxs_iff.1 d.2 v x u;rw [eM,A,add_zero]at q;constructor
   · simp only [WX,jJ];refine⟨NdX.let0 p,wxs_iff.1 f.2 x (kS u),⟨?_,aR8 (aQI z f.2) (by simp only [WX,jJ];exact⟨NdX.name0 p hz,trivial⟩)⟩,trivial⟩;rw [fN,kQ];exact f.1
   · simp only [vX,yI];refine⟨fun h=>absurd h (by decide),by rw [natCast_zero,(oV []).1,add_zero];exact q,?_,trivial⟩;rw [show(((0+1:Nat)) :Int) =1 from rfl,(oV []).2];refine⟨fun h=>absurd (.inr (.inr (.inr h))) r,aR9 (aQJ z d.2) ?_⟩;rw [eM,A];simp only [vX,yI];exact⟨fun _=>by omega,trivial⟩
 | .mk o n l ps,none,f,d,e=>by
  simp only [WX]at f;simp only [vX]at d;simp only [cG]at e;by_cases i:o=7
  · obtain ⟨_,_,hl⟩ :=f.1.let7 i;rw [if_pos i]at e
    match l,hl,f,d,e with
    | [.mk F G B y,c],_,f,d,e=>
     simp only [jK,XT.op]at e;by_cases g:F=7
     · simp only [jJ,WX]at f;obtain⟨_,_,w⟩ :=f.2.1.1.let7 g
       match B,w,f,d with
       | [a,b],_,f,d=>
        subst i g;simp only [jJ]at f;simp only [yI,vX]at d;rw [natCast_zero,show(((0+1:Nat)) :Int) =1 from rfl,(oV ps).1,(oV ps).2,(oV y).1,(oV y).2,add_zero,add_zero]at d;simp only [gW,getD_cons_zero,getD_cons_succ,XT.kids,neT];constructor
        · simp only [WX,jJ];exact⟨NdX.let0 p,f.2.1.2.1,⟨NdX.let0 p,f.2.1.2.2.1,bD4 z f.2.2.1,trivial⟩,trivial⟩
        · simp only [vX,yI];rw [natCast_zero,show(((0+1:Nat)) :Int) =1 from rfl,(oV []).1,(oV []).2,add_zero,add_zero];exact⟨fun h=>absurd h (by decide),d.2.1.2.1,⟨fun h=>absurd h (by decide),d.2.1.2.2.1,bD5 z d.2.2.1,trivial⟩,trivial⟩
     ·simp [g]at e
  · rw [if_neg i]at e;cases m:cX l 0 (aT o l.length)with
    |none=>rw [m]at e;cases e
    |some v=>rw [m]at e;cases e
theorem bD6 {p:Prog}{node:Int}:∀ (k:Nat) (t:XT),cB t≤k→WX p t→∀ (g z:Int),0≤z→vX t z→∀ (c:XT),atT node t g z= .did c→WX p c∧vX c z
 |0,.mk o n w ps,hk,_,_,_,_,_,_,_=>by simp only [cB]at hk;omega
 | k +1,.mk o n w ps,hk,b,g,z,hz,a,c,h=>by
  simp only [cB]at hk;rcases aR7 h with⟨s,v,rfl⟩ | ⟨j,f,d,u,e,rfl,r⟩
  ·exact bC0 hz b a v
  · simp only [WX]at b;simp only [vX]at a;have A:=rI e;have l:=oH (o:=o) (ps:=ps) (fun q x=>by have:=b.1.pats q x;omega) (j:Int);have i:=scxs_iff.1 a.2 j f e;rw [eM]at i;obtain⟨m,y⟩ :=bD6 k f (by omega) (wxs_iff.1 b.2 f (kS e)) u _ (by omega) i d r;simp only [WX,vX];rw [fN];exact⟨⟨b.1,aR8 b.2 m⟩,a.1,aR9 a.2 (by rw [eM];exact y)⟩
abbrev FIl (s1:LoopState)(p1:Option Code)(ts:List XT)(mn:Int)(cs:List Con)(nf:Int) :HL:=[(0,(.loop s1 p1 93 (dN [(2,(.ptr 6 0))]) 19 [6] (cd Tryz.f93 [1,1,0,0]) (cd Tryz.f93 [1,1,0,1]) 2),false),(1,(.cells (putCells .leaf 0 [(.iptr [(.ilst 1 (XTs.av ts) false),(.int .i64 mn),(.ilst 2 (map Con.av cs) false)])]) 1 [] false),false),(2,(.defd false),false),(3,(.cells (putCells .leaf 0 [(.int .i64 nf)]) 1 [] false),false),(4,(.loop s1 p1 47 (dN [(2,(.ptr 3 0))]) 9 [6] (cd Tryz.f47 [1,0,1,0,0]) (cd Tryz.f47 [1,0,1,0,1]) 5),false),(5,(.defd false),false),(6,(.cells (putCells .leaf 0 [(.yield 4)]) 1 [] false),false)]
theorem tD {o n:Int}{ks:List XT}{ps:List Pat}(a:Int)(h:cG (.mk o n ks ps) =none) :stT (.mk o n ks ps) a=eE ks (a+1) :=by rw [stT,h];rfl
theorem tG {o n:Int}{ks:List XT}{ps:List Pat}{s:Option Nat}(a:Int)(h:cG (.mk o n ks ps) =some s) :stT (.mk o n ks ps) a=a::eE ks (a+1) :=by rw [stT,h];rfl
section
variable (F :List XT) (mn:Int) (cs:List Con) (B:Int)
mutual
theorem aSa :∀ (t:XT),FineX B t→∀ (b c:Int),0≤b→b+ (cB t:Nat) ≤1000000→0≤c→c+1000* (cB t:Nat) ≤1000000000 →
  (stT t b= [] →gI PP 7 (.enter 136 [.agg [.int .i64 b,.int .i64 c,.iptr [XT.av t]],.yield 0]) (aA (FIl .ready none F mn cs 0) 7) (.ret (.int .i64 (b+ (cB t:Nat)))) (aA (FIl .ready none F mn cs 0) 7)) ∧
  (∀a l,stT t b=a::l→gI PP 7 (.enter 136 [.agg [.int .i64 b,.int .i64 c,.iptr [XT.av t]],.yield 0]) (aA (FIl .ready none F mn cs 0) 7) (.ret (.int .i64 (-1))) (aA (FIl .done (some .ret) F mn cs a) 7))
 | .mk o n d f,j,b,c,y,w,x,u=>by
  have g:=aNa j;simp only [FineX]at j;obtain⟨_,r,q,p,z,A,v⟩ :=j;simp only [cB]at w u;have e:dW PP (aA (FIl .ready none F mn cs 0) 7) (.enter 136 [.agg [.int .i64 b,.int .i64 c,.iptr [XT.av (.mk o n d f)]],.yield 0]) =some (aYa F mn cs b c o n d f).as.fr:=by kernel_rfl
  cases i:cG (.mk o n d f)
  case some s=>
   rw [i]at g;rw [tG b i];refine⟨fun h=> (by cases h),fun a l h=>?_⟩;simp only [List.cons.injEq]at h;rw [←h.1];cases s with
   |none=>exact⟨_,e,aYd F mn cs b c o n d f g⟩
   |some k=>exact⟨_,e,aYc F mn cs b c o n d f _ g⟩
  rw [i]at g;rw [tD b i];have st:=aYe F mn cs b c o n d f g sd;have m:=aSb b c o n d f r q p x d 0 (b+1) rfl v (by omega) (by omega) (by omega);simp only [cB];refine⟨fun h=> ⟨_,e,?_⟩,fun a l h=> ⟨_,e,st.ends (m.2 a l h)⟩⟩;have:=st.ends (m.1 h);rw [show b+1+ ((aD d:Nat) :Int) =b+ ((aD d+1:Nat) :Int)by omega]at this;exact this
theorem aSb (g f:Int)(o n:Int)(ks:List XT)(ps:List Pat)(H:ks.length≤1000)(t:∀q∈ps,bZ q≤1000)(x:o=15→ks.length=1+ps.length)(h2:0≤f) :
  ∀ (d:List XT) (i:Nat) (c:Int),ks.drop i=d→FineXs B d→0≤c→c+ (aD d:Nat) ≤1000000→f+1000+1000* (aD d:Nat) ≤1000000000 →
  (eE d c= [] →Ends PP 7 (aCh F mn cs g f o n ks ps c (i:Int)).as (.ret (.int .i64 (c+ (aD d:Nat)))) (aA (FIl .ready none F mn cs 0) 7)) ∧
  (∀a l,eE d c=a::l→Ends PP 7 (aCh F mn cs g f o n ks ps c (i:Int)).as (.ret (.int .i64 (-1))) (aA (FIl .done (some .ret) F mn cs a) 7))
 | [],i,c,h,_,_,_,_=>by
  have:=bL h;simp only [eE,aD];refine⟨fun _=>?_,fun a l h=> (by cases h)⟩;have e:=aYh F mn cs g f o n ks ps c (i:Int) sd;rw [show c+ ((0:Nat) :Int) =c by omega];exact e
 | .mk p r j k::d,i,c,h,w,J,C,y=>by
  obtain⟨L,K,Q⟩ :=bI h;simp only [FineXs]at w;simp only [aD]at C y ⊢;have M:=oH (o:=o) t (i:Int);have z:IntKind.i64.wrap (f+bK o ps (i:Int)) =f+bK o ps (i:Int) :=wrap64 (by omega) (by omega)
  have I:o=15→0< (i:Int) →∃q,ps[((i:Int) -1).toNat]?=some q:=fun u R=>by
   have:=x u;exact⟨_,kR (by omega)⟩
  have v:=aSa (.mk p r j k) w.1 c (f+bK o ps (i:Int)) J (by omega) (by omega) (by omega);have A:=aNk o n ks ps t (i:Int) ⟨by omega,by omega⟩ I;simp only [eE];generalize N:cB (.mk p r j k) =s at v C y ⊢;cases hz:stT (.mk p r j k) c
  case cons a l=>
   refine⟨fun h=> (by cases h),fun b O h=>?_⟩;simp only [vV,List.cons.injEq]at h;rw [←h.1];exact aYf F mn cs g f o n ks ps c (i:Int) _ p r j k a sd A sd sd (bBq z (vD (m:=7) (ks:=[0,1,2,3,4,5,6]) (v.2 a l hz) aC aC trivial trivial))
  rw [nil_append];have st:=aYg F mn cs g f o n ks ps c (i:Int) _ p r j k (c+ (s:Nat)) sd A sd sd (bBq z (vD (m:=7) (ks:=[0,1,2,3,4,5,6]) (v.1 hz) aC aC trivial trivial)) (by simp;omega) sd;have D:=aSb g f o n ks ps H t x h2 d (i+1) (c+ (s:Nat)) K w.2 (by omega) (by omega) (by omega);refine⟨fun h=>?_,fun a l h=>st.ends (D.2 a l h)⟩;have G:=st.ends (D.1 h);rw [show c+ ((s+aD d:Nat) :Int) =c+ (s:Nat) + ((aD d:Nat) :Int)by omega];exact G
end
end
def qJ (ts:List XT) :Int:= (eE ts 0).headD (-1)
theorem aGH (ts:List XT)(mn:Int)(cs:List Con)(B:Int)(hl:ts.length≤1000) :∀ (b:List XT) (i:Nat) (n:Int),ts.drop i=b→FineXs B b→0≤n→n+ (aD b:Nat) ≤100000 →
  Ends PP 0 (aKI ts mn cs n (i:Int)).as (.ret (.int .i64 ((eE b n).headD (-1)))) (aA [] 0)
 | [],i,n,h,_,_,_=>by
  have:=bL h;exact bCl ts mn cs n (i:Int) sd
 | .mk f c d e::b,i,n,h,j,p,k=>by
  obtain⟨r,q,t⟩ :=bI h;simp only [FineXs]at j;simp only [aD]at k;have g:=aSa ts mn cs B (.mk f c d e) j.1 n 1 p (by omega) (by omega) (by omega);simp only [eE];generalize s:cB (.mk f c d e) =o at g k ⊢;cases hz:stT (.mk f c d e) n
  case cons a l=>exact bCj ts mn cs n (i:Int) f c d e a sd sd sd (vD (m:=7) (ks:=[0,1,2,3,4,5,6]) (g.2 a l hz) aC aC trivial trivial)
  rw [nil_append]
  exact(bCk ts mn cs n (i:Int) f c d e (n+ (o:Nat)) sd sd sd (vD (m:=7) (ks:=[0,1,2,3,4,5,6]) (g.1 hz) aC aC trivial trivial) (by simp;omega) sd).ends
   (aGH ts mn cs B hl b (i+1) (n+ (o:Nat)) q j.2 (by omega) (by omega))
theorem aQK (ts:List XT)(mn:Int)(cs:List Con)(B:Int)(hl:ts.length≤1000)(a:FineXs B ts)(b:aD ts≤100000) :aM PP 47 [fvA ts mn cs] (.int .i64 (qJ ts)) :=by
 refine aJ aC (by simp [AV.keylessL,AV.keyless,fvA]) rfl ((bCi ts mn cs).ends ?_);exact aGH ts mn cs B hl ts 0 0 rfl a (by omega) (by omega)
theorem aA7 {ts:List XT}{mn:Int}{cs:List Con}{B:Int}{h:Hp}{k q z n:Nat}(hl:ts.length≤1000)(g:FineXs B ts)(b:aD ts≤100000)(hk:h.look k=some (fhC q n mn cs))(hz:h.look z=some (.zone true [q] (cJ ts)))(f:n=ts.length) :
  Spec PP (.enter 47 [.ptr k 0]) h (.ret (.int .i64 (qJ ts))) h:=
 aDz (aQK ts mn cs B hl g b) aLR rfl (fun E H a r hc=>by
  obtain⟨i,c,rfl,d,e⟩ :=hc.cons_inv;rw [e.nil_inv];exact VRs.cons (aHn r hk hz f d) (VRs.nil _))
abbrev aYX:AV:=.tup [(.agg [(.ilst 4 (jN ([] :List Node)) true),(.ilst 1 (jI ([] :List Int)) true),(nI 0),(.ilst 2 (jC ([] :List Con)) true)]),(nI 3)]
abbrev aYY:AV:=.agg [(.ilst 4 (jN ([] :List Node)) true),(.ilst 1 (jI ([] :List Int)) true),(nI 0),(.ilst 2 (jC ([] :List Con)) true)]
abbrev oR (a:Nat)(b:Prog):=oC a [(iN b.nodes),(iI b.funs),(nI b.main),(iC b.cons)]
abbrev aGI (a:Nat)(b:List XT)(c:Int)(d:List Con):=oC a [(.gl 6 1 0 b.length false),(nI c),(iC d)]
abbrev eZ (a:Nat):=oC a [.nils,.nils,(nI 0),.nils]
def bD7(a:Prog):TS:=cA PP 12 [(Prog.av a)] [] 0
def aK0(f:Prog)(c d:Int)(e:List Con)(a:List XT)(b:List Int):TS:=⟨(tf 37 24 [kp 0 0,(2,.nils),(3,(.gl 1 1 0 b.length false)),(4,(nI c))] [kc f37 116,kl f37 116,.inBlock 0,kc f37 15]),[(tf 36 6 [kp 0 2,kp 1 3,kp 2 0] [ko f36 2 1,kc f36 3]),(tf 35 6 [kp 2 4,(4,(.func 36 [] [(.ptr 2 0),(.ptr 3 0)]))] [ko f35 14 1,kc f35 15] (defers:=[.fn 73 [(.ptr 4 0)]])),(tf 12 20 [kp 2 5,(3,(nI 0)),kp 6 3,(16,(.func 36 [] [(.ptr 2 0),(.ptr 3 0)]))] [ko f12 62 1,kc f12 63])],[aGI 0 a d e,oL 1 1 (jI b),oC 2 [(.ptr 0 0)],eZ 3,oC 4 [(nI 0)],eZ 5,(6,gh,false),(7,(.zone true [6] (cJ a)),false)],8⟩
def aA8(d:Prog)(b:Int)(c:List Con)(a:List XT):TS:=⟨(tf 36 6 [kp 0 0,kp 1 1] [kc f36 3]),[(tf 35 6 [kp 2 2,(4,(.func 36 [] [(.ptr 0 0),(.ptr 1 0)]))] [ko f35 14 1,kc f35 15] (defers:=[.fn 73 [(.ptr 2 0)]])),(tf 12 20 [kp 2 3,(3,(nI 0)),kp 6 1,(16,(.func 36 [] [(.ptr 0 0),(.ptr 1 0)]))] [ko f12 62 1,kc f12 63])],[oC 0 [(.ptr 4 0)],eZ 1,oC 2 [(nI 0)],eZ 3,oC 4 [(.gl 5 1 0 a.length false),(nI b),(iC c)],(5,gh,false),(6,(.zone true [5] (cJ a)),false)],7⟩
def aSc(d:Prog)(a:Int)(b:List Con)(c:List XT):TS:=⟨(tf 36 6 [kp 0 0,kp 1 1] [kc f36 3]),[(tf 35 6 [kp 2 2,(4,(.func 36 [] [(.ptr 0 0),(.ptr 1 0)]))] [ko f35 14 1,kc f35 15] (defers:=[.fn 73 [(.ptr 2 0)]])),(tf 12 20 [kp 2 3,(3,(nI 0)),kp 6 1,(16,(.func 36 [] [(.ptr 0 0),(.ptr 1 0)]))] [ko f12 62 1,kc f12 63])],[oC 0 [(fvA c a b)],eZ 1,oC 2 [(nI 0)],eZ 3],7⟩
def bD8(a:Prog):TS:=cA PP 14 [(Prog.av a)] [] 0
def aQL(a:Prog):=tT 0 (bD7 a)<|.o (gk 9 (.enter 34 [(Prog.av a)]) [oR 0 a,eZ 1] 2 (.tup [.nilp,(nI 7)]) [oR 0 a,eZ 1] 2<|.i [rn 22,.cnilI 1 0 4] []<|.i [.cnilI 1 1 1] []<|.i [.cnilI 1 3 2] []<|gE 0 3 (.tup [aYY,(nI 7)]))<|.o (gk 9 (.enter 34 [(Prog.av a)]) [oR 0 a,eZ 1] 2 (.tup [.nilp,(nI 2)]) [oR 0 a,eZ 1] 2<|.i [rn 22,.cnilI 1 0 4] []<|.i [.cnilI 1 1 1] []<|.i [.cnilI 1 3 2] []<|gE 0 3 (.tup [aYY,(nI 2)]))<|.y fun b:List XT=>.y fun c:Int=>.y fun d:List Con=>gk 9 (.enter 34 [(Prog.av a)]) [oR 0 a,eZ 1] 2 (.tup [(.ptr 2 0),(nI 0)]) [oR 0 a,eZ 1,oC 2 [(.gl 3 1 0 b.length false),(nI c),(iC d)],(3,gh,false),(4,(.zone true [3] (cJ b)),false)] 5<|.y fun e:Int=>gk 52 (.enter 47 [(.ptr 2 0)]) [oR 0 a,eZ 1,oC 2 [(.gl 3 1 0 b.length false),(nI c),(iC d)],(3,gh,false),(4,(.zone true [3] (cJ b)),false),oC 5 [(.ptr 2 0)],eZ 6,oC 7 [(nI 0)]] 8 (nI e) [oR 0 a,eZ 1,oC 2 [(.gl 3 1 0 b.length false),(nI c),(iC d)],(3,gh,false),(4,(.zone true [3] (cJ b)),false),oC 5 [(.ptr 2 0)],eZ 6,oC 7 [(nI 0)]] 8<|.i [rn 4,.nilL 3 1] []<|gu 0 8 (jI ([] :List Int))<|gs 0 3 (.gl 8 1 0 ([] :List Int).length false)<|.W 0 9 [2,8,5,6,7,1,3,4] (aK0 a e c d b ([] :List Int))
def bC1:=fun a b=>aQL a|>.1 b tv
def bC2:=fun a b=>aQL a|>.2|>.1 b tv
def bC3:=fun a b c d e f g=>aQL a|>.2|>.2 b c d f e g ⟨kk,trivial⟩
def aYZ(g:Prog)(a d:Int)(e:List Con)(f:List XT)(c:List Int):=tT 0 (aK0 g a d e f c)<|gd 6 8 (a≥0) (.y fun b:List XT=>gk 8 (.enter 74 [(.ptr 0 0),(nI a)]) [aGI 0 f d e,oL 1 1 (jI c),oC 2 [(.ptr 0 0)],eZ 3,oC 4 [(nI 0)],eZ 5,(6,gh,false),(7,(.zone true [6] (cJ f)),false)] 8 (bV true) [aGI 0 f d e,oL 1 1 (jI c),oC 2 [(.ptr 0 0)],eZ 3,oC 4 [(nI 0)],eZ 5,(6,gh,false),(8,(.zone true [6] (cJ b)),false)] 9<|.i [rn 1,.cset 0 0 (.gl 6 1 0 b.length false)] [.a (b.length=f.length) (p':=(AV.gl 6 1 0 f.length false) = (.gl 6 1 0 b.length false)) (fun h=>(cF h.symm))]<|ga 5 cC c [a]<|gd 8 20 ((((c++ [a]).length:Nat) :Int) >1000) (.i [rn 47,.cnilI 5 0 4] []<|.i [.cnilI 5 1 1] []<|.i [.cnilI 5 3 2] []<|.E 0 12 [8,6] aYX [(0,(.zone true [1] (cJ b)),false),(1,gh,false)] 2)<|.y fun i:Int=>gk 5 (.enter 47 [(.ptr 0 0)]) [aGI 0 b d e,oC 2 [(.ptr 0 0)],eZ 3,oC 4 [(nI 0)],eZ 5,(6,gh,false),(8,(.zone true [6] (cJ b)),false),oC 9 [(nI a)],oL 10 1 (jI (c++ [a]))] 11 (nI i) [aGI 0 b d e,oC 2 [(.ptr 0 0)],eZ 3,oC 4 [(nI 0)],eZ 5,(6,gh,false),(8,(.zone true [6] (cJ b)),false),oC 9 [(nI a)],oL 10 1 (jI (c++ [a]))] 11<|.W 3 11 [0,10,2,3,4,5,6,8] (aK0 g i d e b (c++ [a])))<|.W 10 8 [2,3,4,5,0,6,7] (aA8 g d e f)
def bC4:=fun a b c d e f g i j k l m n o=>aYZ a b c d e f|>.t j g k l m|>.f n i o ⟨kk,trivial⟩
def aSd:=fun a b c d e f g=>aYZ a b c d e f|>.f g tv
def aY0(e:Prog)(a:Int)(b:List Con)(c:List XT):=tT 0 (aSc e a b c)<|lO 11 75 [(fvA c a b),(nI 30)]<|fun f=>.b 2 5 (!f) (.i [rn 47,.cnilI 3 0 4] []<|.i [.cnilI 3 1 1] []<|.i [.cnilI 3 3 2] []<|gE 0 9 aYX)<|.y fun d:Prog=>gp 5 76 [(fvA c a b)] (Prog.av d)<|gE 42 8 (.tup [(Prog.av d),(nI 0)])
def bC5:=fun a b c d e f g=>aY0 a b c d e f|>.t g tv
def bC6:=fun a b c d e f g i j=>aY0 a b c d e g|>.f i f j tv
def aQM(a:Prog):=tT 0 (bD8 a)<|gpI 10 45 [(Prog.av a)]<|fun g=>.b 2 8 (g != 0) (gE 7 1 (.tup [(bV false),(nI 2)]))<|.y fun e:Bool=>.y fun i:Int=>gp 6 46 [(Prog.av a)] (.tup [(bV e),(nI i)])<|.b 11 15 (!e) (gE 7 1 (.tup [(bV false),(nI 7)]))<|.y fun b:List XT=>.y fun c:Int=>.y fun d:List Con=>gk 5 (.enter 48 [(Prog.av a)]) [oR 0 a] 1 (.ptr 1 0) [oR 0 a,oC 1 [(.gl 2 1 0 b.length false),(nI c),(iC d)],(2,gh,false),(3,(.zone true [2] (cJ b)),false)] 4<|.y fun f:Int=>gk 0 (.enter 47 [(.ptr 1 0)]) [oR 0 a,oC 1 [(.gl 2 1 0 b.length false),(nI c),(iC d)],(2,gh,false),(3,(.zone true [2] (cJ b)),false)] 4 (nI f) [oR 0 a,oC 1 [(.gl 2 1 0 b.length false),(nI c),(iC d)],(2,gh,false),(3,(.zone true [2] (cJ b)),false)] 4<|.E 5 4 [3,2] (.tup [(bV (decide (f<0))),(nI 0)]) [(0,(.zone true [1] (cJ b)),false),(1,gh,false)] 2
def bC7:=fun a b c d=>aQM a b c|>.t d tv
def bC8:=fun a b c d e f g i=>aQM a b e|>.f f c d g|>.t i tv
def bC9:=fun a b c d e f g i j k l m n o=>aQM a b j|>.f k c d l|>.f m e f g n i o tv
def aCo :Nat→List XT→Option (List XT×List Int)
 |0,ts=>if eE ts 0= []then some (ts,[])else none
 | k+1,ts=>match eE ts 0 with
  | [] =>some (ts,[])
  | a::_=>match atF a ts 0 with
   | .did ts'=> (aCo k ts').map fun r=> (r.1,a::r.2)
   |_=>none
theorem tH :∀ (b:List XT) (n a:Int),a∈eE b n→n≤a:=by
 have e:∀ (k:Nat),(∀ (t:XT) (n a:Int),cB t≤k→a∈stT t n→n≤a) ∧ (∀ (b:List XT) (n a:Int),aD b≤k→a∈eE b n→n≤a) :=by
  intro k
  induction k with
  | zero=>
   refine⟨fun t n a h _=>?_,fun b n a h hm=>?_⟩
   ·obtain⟨o,m,d,g⟩ :=t;simp only [cB]at h;omega
   · cases b with
     |nil=>simp [eE]at hm
     |cons t b=>obtain⟨o,m,d,g⟩ :=t;simp only [aD,cB]at h;omega
  | succ k i=>
   have f:∀ (t:XT) (n a:Int),cB t≤k+1→a∈stT t n→n≤a:=fun t n a h hm=>by
    obtain⟨o,m,d,g⟩ :=t;simp only [cB]at h;simp only [stT,zq28]at hm;rcases hm with hm|hm
    · split at hm
      ·simp only [zq32]at hm;omega
      ·cases hm
    ·have:=i.2 d (n+1) a (by omega) hm;omega
   refine⟨f,fun b=>?_⟩
   induction b with
   |nil=>intro n a _ hm;simp [eE]at hm
   | cons t b c=>
    intro n a h hm;simp only [aD]at h;simp only [eE,zq28]at hm;rcases hm with hm|hm
    ·exact f t n a (by omega) hm
    ·have:=c (n+ (cB t:Nat)) a (by omega) hm;omega
 exact fun b n a hm=> (e (aD b)).2 b n a (le_refl _) hm
theorem aNA {ts:List XT}{a:Int}{l:List Int}(h:eE ts 0=a::l) :qJ ts=a∧0≤a:=by
 refine⟨by rw [qJ,h];rfl,tH ts 0 a (by rw [h];exact cQ ..)⟩
theorem aA9 {ts:List XT}(h:eE ts 0= []) :qJ ts= -1:=by rw [qJ,h];rfl
section
variable {I :List XT→Prop} (hI:∀ts,I ts→FineXs 1000000 ts∧aD ts≤100000∧ts.length≤1000)
 (hS:∀ts a l ts',I ts→eE ts 0=a::l→atF a ts 0= .did ts'→I ts')
include hS in
theorem aGJ :∀ (k:Nat) (e q:List XT) (m:List Int),I e→aCo k e=some (q,m) →I q∧eE q 0= [] ∧m.length≤k
 | 0,e,q,m,d,hr=>by
  simp only [aCo]at hr;split at hr
  ·rename_i hz;cases hr;exact⟨d,hz,le_refl _⟩
  ·cases hr
 | k + 1,e,q,m,d,hr=>by
  simp only [aCo]at hr;split at hr
  ·rename_i hz;cases hr;exact⟨d,hz,zero_le _⟩
  · rename_i a l hz;split at hr
    · rename_i c g;cases b:aCo k c with
      |none=>rw [b]at hr;cases hr
      | some r=>
       rw [b]at hr;simp only [map_some,Option.some.injEq,Prod.mk.injEq]at hr;obtain⟨rfl,rfl⟩ :=hr;obtain⟨f,h,i⟩ :=aGJ k c r.1 r.2 (hS _ _ _ _ d hz g) b;exact⟨f,h,by simp only [mO];omega⟩
    ·cases hr
include hI hS
theorem aY1 (p:Prog)(mn:Int)(cs:List Con) :∀ (k:Nat) (c:List XT) (l:List Int) (q:List XT) (m:List Int),I c→aCo k c=some (q,m) →l.length+k≤1000 →
  LeadsM PP 0 (aK0 p (qJ c) mn cs c l).as (aA8 p mn cs q).as
 | 0,c,l,q,m,h,hr,hk=>by
  simp only [aCo]at hr;split at hr
  · rename_i hz;cases hr;rw [aA9 hz];exact aSd p (-1) mn cs c l (by decide)
  ·cases hr
 | k + 1,c,l,q,m,h,hr,hk=>by
  simp only [aCo]at hr;split at hr
  · rename_i hz;cases hr;rw [aA9 hz];exact aSd p (-1) mn cs c l (by decide)
  · rename_i a x hz;split at hr
    · rename_i b g;cases d:aCo k b with
      |none=>rw [d]at hr;cases hr
      | some r=>
       rw [d]at hr;simp only [map_some,Option.some.injEq,Prod.mk.injEq]at hr;obtain⟨rfl,rfl⟩ :=hr;obtain⟨u,w⟩ :=aNA hz;obtain⟨s,o,n⟩ :=hI c h;have e:=hS _ _ _ _ h hz g;obtain⟨j,t,v⟩ :=hI b e;have i:=bBY a 1000000 (by omega) c mn cs n s o;rw [g]at i;have f:=aKy a c 0 b g;have:=aY1 p mn cs k b (l++ [a]) r.1 r.2 e d (by simp only [vP,List.length_singleton];omega);rw [u]
       refine(bC4 p a mn cs c l b (qJ b) (by simpa using w) (vD (m:=2) (ks:=[0,6,7]) i aC aC trivial trivial) f (by simp;omega) (by simp;omega)
        (aA7 (mn:=mn) (cs:=cs) (k:=0) (q:=6) (z:=8) v j t aC aC rfl)).trans this
    ·cases hr
end
theorem bFu (p:Prog)(mn:Int)(cs:List Con)(a:List XT) :LeadsM PP 0 (aA8 p mn cs a).as (aSc p mn cs a).as:=by
 have z:=jQ (P:=PP) (m:=0) (fr:= (aA8 p mn cs a).as.fr) (cs:= (aA8 p mn cs a).as.cs) (h:= (aA8 p mn cs a).as.h)
  (h1:=aA [(0,(.cells (putCells .leaf 0 [(.ptr 4 0)]) 1 [] false),false),(1,(.cells (putCells .leaf 0 [.nils,.nils,(.int .i64 0),.nils]) 4 [] false),false),(2,(.cells (putCells .leaf 0 [(.int .i64 0)]) 1 [] false),false),(3,(.cells (putCells .leaf 0 [.nils,.nils,(.int .i64 0),.nils]) 4 [] false),false)] 7)
  (k:=0) (o:=0) (n:=1) (t:=putCells .leaf 0 [(.ptr 4 0)]) (ol:=[]) (sup:=false) (v:=.ptr 4 0) (v':=fvA a mn cs) aC aC aC
  (fun hm=>aJy (k:=4) (q:=5) (z:=6) (n:=a.length) (mn:=mn) (cs:=cs) (ts:=a) aC aC rfl aC
   (bA (l:=[(0,(.cells (putCells .leaf 0 [(.ptr 4 0)]) 1 [] false),false),(1,(.cells (putCells .leaf 0 [.nils,.nils,(.int .i64 0),.nils]) 4 [] false),false),(2,(.cells (putCells .leaf 0 [(.int .i64 0)]) 1 [] false),false),(3,(.cells (putCells .leaf 0 [.nils,.nils,(.int .i64 0),.nils]) 4 [] false),false)]) (nb:=7) (Q:=fun b o=>b∉ [4,6] ∧ (aA8 p mn cs a).as.h.look b=some o) ⟨⟨by decide,by kernel_rfl⟩,⟨by decide,by kernel_rfl⟩,⟨by decide,by kernel_rfl⟩,⟨by decide,by kernel_rfl⟩,trivial⟩) hm)
 exact Eq.mp aC z
noncomputable def aIq (p:Prog)(q:List XT) :Prog×Int:=
 if aK p=false then(aGy,2)
 else if(dD p).1=false then(aGy,7)
 else if vU 30 p.cons q then(cO q p.main p.cons,0)else(aGy,3)
section
variable {p :Prog} (hs:aF p=true) {ts q:List XT} {m:List Int} {I:List XT→Prop} (hI:∀ts,I ts→FineXs 1000000 ts∧aD ts≤100000∧ts.length≤1000)
 (hS:∀ts a l ts',I ts→eE ts 0=a::l→atF a ts 0= .did ts'→I ts') (hi:aK p=true→ (dD p).1=true→aN p ts p.funs∧I ts∧aCo 1000 ts=some (q,m))
include hs hI hS hi
theorem aIr :aM PP 12 [Prog.av p] (.tup [Prog.av (aIq p q).1,.int .i64 (aIq p q).2]) :=by
 have kl:∀r:Prog×Int,AV.keyless (.tup [Prog.av r.1,.int .i64 r.2]) =true:=fun r=>rfl;refine yF (s:=bD7 p) aC aC rfl (kl _) ?_;unfold aIq;have hb:=hs;simp only [aF,cP,decide_eq_true_eq]at hb;cases c:aK p
 case false=>
  rw [if_pos rfl];exact Ends.val (bC2 p (vD (m:=0) (ks:=[]) (bGR hs c) aC aC trivial trivial)) (fun E l h=>aGz h)
 rw [if_neg (by decide)];cases hc: (dD p).1
 case false=>
  rw [if_pos rfl];exact Ends.val (bC1 p (vD (m:=0) (ks:=[]) (bCh hs c hc) aC aC trivial trivial)) (fun E l h=>aGz h)
 rw [if_neg (by decide)];obtain⟨j,a,hr⟩ :=hi c hc;obtain⟨u,t,n⟩ :=hI _ a;obtain⟨g,hz,hm⟩ :=aGJ hS 1000 ts q m a hr;obtain⟨i,v,o⟩ :=hI _ g;have b:=eY j
 have f:ts≠ [] :=fun e=>by
  rw [e]at b;exact aDR c (zq35.1 b.symm)
 have st:= ((bC3 p ts p.main p.cons (qJ ts) (vD (m:=0) (ks:=[]) (bFl hs c hc j f) aC aC trivial trivial)
  (aA7 (mn:=p.main) (cs:=p.cons) (k:=2) (q:=3) (z:=4) n u t aC aC rfl)).trans (aY1 hI hS p p.main p.cons 1000 ts [] q m a hr (by simp))).trans (bFu p p.main p.cons q)
 have d:=aUw q p.main p.cons 30 _ o i v;cases hz:vU 30 p.cons q
 case false=>
  rw [hz]at d;exact Ends.val (st.ends (bC5 p p.main p.cons q _ d rfl)) (fun E l h=>aGz h)
 rw [hz]at d;exact st.ends (bC6 p p.main p.cons q _ (cO q p.main p.cons) d rfl (aUA q p.main p.cons (by omega) (by omega) i (by omega)))
noncomputable def aEH (p:Prog)(ts:List XT) :Bool×Int:=
 if aK p=false then(false,2)
 else if(dD p).1=false then(false,7)
 else(decide (qJ ts<0),0)
theorem aNB :aM PP 14 [Prog.av p] (.tup [.bool (aEH p ts).1,.int .i64 (aEH p ts).2]) :=by
 refine yF (s:=bD8 p) aC aC rfl aC ?_;unfold aEH;have hb:=hs;simp only [aF,cP,decide_eq_true_eq]at hb;have a:=yC hs;cases d:aK p
 case false=>
  rw [if_pos rfl];rw [d]at a;exact bC7 p _ a (by rfl)
 rw [if_neg (by decide)];rw [d]at a;have c:=vH hs;cases hc: (dD p).1
 case false=>
  rw [if_pos rfl];rw [hc]at c;exact bC8 p _ false _ a (by rfl) c rfl
 rw [if_neg (by decide)];rw [hc]at c;obtain⟨h,f,hr⟩ :=hi d hc;obtain⟨n,j,i⟩ :=hI _ f;have b:=eY h
 have g:ts≠ [] :=fun e=>by
  rw [e]at b;exact aDR d (zq35.1 b.symm)
 exact gR (ks:=[]) (l:=[]) (nb:=0) (bC9 p _ true _ ts p.main p.cons (qJ ts) a (by rfl) c rfl (vD (m:=0) (ks:=[]) (aRP (aRQ hs) (by omega) (by omega) h g) aC aC trivial trivial)
  (aA7 (mn:=p.main) (cs:=p.cons) (k:=1) (q:=2) (z:=3) i n j aC aC rfl)) aC aC aC trivial
end
mutual
def fT :XT→Nat
 | .mk o n ks ps=>if bJ (.mk o n ks ps) =true then 0 else if o=7 then fL ks else fO ks (aT o ks.length) +fR ks (aT o ks.length)
def gT :XT→Nat
 | .mk o n ks ps=>if bJ (.mk o n ks ps) =true then 0 else if o=7 then gL ks else gO ks (aT o ks.length) +fR ks (aT o ks.length)
def fL :List XT→Nat
 | [] =>0
 |a::ks=>gT a+fB ks
def fB :List XT→Nat
 | [] =>0
 |b::_=>fT b
def gL :List XT→Nat
 | [] =>0
 |a::ks=>1+gT a+gB ks
def gB :List XT→Nat
 | [] =>0
 |b::_=>gT b
def fO :List XT→Nat→Nat
 | [],_=>0
 |_::_,0=>0
 |k::ks,m+1=> (if bJ k=true then 0 else 1+gT k) +fO ks m
def gO :List XT→Nat→Nat
 | [],_=>0
 |_::_,0=>0
 |k::ks,m+1=> (if bJ k=true then 0 else 2+gT k) +gO ks m
def fR :List XT→Nat→Nat
 | [],_=>0
 |_::ks,m+1=>fR ks m
 |k::ks,0=>fT k+fR ks 0
end
def fF :List XT→Nat
 | [] =>0
 |t::ts=>fT t+fF ts
section
variable (c :Int)
mutual
theorem aY2 :∀ (t:XT),fT (rD c 1 t) =fT t
 | .mk o n a b=>by
  simp only [rD,fT];rw [show bJ (.mk o (mvN c 1 o n) (dU c 1 a) b) =bJ (.mk o n a b)from rfl,kQ,bGV a,aY3 a,aNC a]
theorem aIs :∀ (t:XT),gT (rD c 1 t) =gT t
 | .mk o n a b=>by
  simp only [rD,gT];rw [show bJ (.mk o (mvN c 1 o n) (dU c 1 a) b) =bJ (.mk o n a b)from rfl,kQ,bGX a,aY4 a,aNC a]
theorem bGV :∀ (b:List XT),fL (dU c 1 b) =fL b
 | [] =>rfl
 |a::b=>by simp only [dU,fL];rw [aIs a,bGW b]
theorem bGW :∀ (b:List XT),fB (dU c 1 b) =fB b
 | [] =>rfl
 |a::b=>by simp only [dU,fB];exact aY2 a
theorem bGX :∀ (b:List XT),gL (dU c 1 b) =gL b
 | [] =>rfl
 |a::b=>by simp only [dU,gL];rw [aIs a,bGY b]
theorem bGY :∀ (b:List XT),gB (dU c 1 b) =gB b
 | [] =>rfl
 |a::b=>by simp only [dU,gB];exact aIs a
theorem aY3 :∀ (a:List XT) (m:Nat),fO (dU c 1 a) m=fO a m
 | [],m=>by simp only [dU]
 |k::a,0=>by simp only [dU,fO]
 |k::a,m+1=>by simp only [dU,fO];rw [aCm,aIs k,aY3 a m]
theorem aY4 :∀ (a:List XT) (m:Nat),gO (dU c 1 a) m=gO a m
 | [],m=>by simp only [dU]
 |k::a,0=>by simp only [dU,gO]
 |k::a,m+1=>by simp only [dU,gO];rw [aCm,aIs k,aY4 a m]
theorem aNC :∀ (a:List XT) (m:Nat),fR (dU c 1 a) m=fR a m
 | [],m=>by simp only [dU]
 |k::a,m+1=>by simp only [dU,fR];exact aNC a m
 |k::a,0=>by simp only [dU,fR];rw [aY2 k,aNC a 0]
end
end
mutual
theorem aND :∀ (t:XT),fT t≤gT t∧gT t+2≤3*cB t
 | .mk o n a d=>by
  simp only [fT,gT,cB];by_cases c:bJ (.mk o n a d) =true
  ·rw [if_pos c,if_pos c];omega
  · rw [if_neg c,if_neg c];by_cases b:o=7
    · rw [if_pos b,if_pos b];have:=bGZ a;omega
    · rw [if_neg b,if_neg b];have:=aQN a (aT o a.length);omega
theorem bGZ :∀ (b:List XT),fL b≤gL b∧gL b≤1+3*aD b
 | [] =>by simp [fL,gL]
 | a::b=>by
  have:=aND a;have:=bG0 b;simp only [fL,gL,aD];omega
theorem bG0 :∀ (b:List XT),fB b≤gB b∧gB b≤3*aD b
 | [] =>by simp [fB,gB]
 | a::b=>by
  have:=aND a;simp only [fB,gB,aD];omega
theorem aQN :∀ (a:List XT) (m:Nat),fO a m≤gO a m∧gO a m+fR a m≤3*aD a
 | [],m=>by simp [fO,gO,fR]
 | k::a,m+1=>by
  have:=aND k;have:=aQN a m;simp only [fO,gO,fR,aD];split<;>omega
 | k::a,0=>by
  have:=aND k;have h:=aQN a 0;have e:gO a 0=0:=by cases a<;>rfl
  simp only [fO,gO,fR,aD];omega
end
theorem bD9 :∀ (a:List XT),fF a≤3*aD a
 | [] =>by simp [fF]
 | t::a=>by
  have:=aND t;have:=bD9 a;simp only [fF,aD];omega
mutual
theorem aCp {node:Int}:∀ (t:XT) (n z:Int),n+ (cB t:Nat) ≤node→atT node t n z= .go (n+ (cB t:Nat))
 | .mk o m a c,n,z,h=>by
  simp only [cB]at h;have e:=aNE (node:=node) o c a 0 (n+1) z (by omega);rw [aA0,e];simp only [cB];have b:n+1+ ((aD a:Nat) :Int) =n+ ((aD a+1:Nat) :Int) :=by omega
  split
  · rw [if_neg (by omega),if_neg (by omega)];simp only [qE];rw [b]
  ·simp only [qE];rw [b]
theorem aNE {node:Int}(o:Int)(ps:List Pat) :∀ (a:List XT) (i:Nat) (n z:Int),n+ (aD a:Nat) ≤node→iM node o ps a i n z= .go (n+ (aD a:Nat))
 | [],i,n,z,h=>by simp [iM,aD]
 | t::a,i,n,z,h=>by
  simp only [aD]at h;simp only [iM];rw [aCp t n _ (by omega)];simp only;rw [aNE o ps a (i+1) _ z (by omega)];simp only [aD];congr 1;omega
end
mutual
theorem at_in {a:Int}:∀ (t:XT) (n z:Int),a∈stT t n→∃i,atT a t n z= .did i
 | .mk o m c d,n,z,h=>by
  rw [aA0];cases g:cG (.mk o m c d)
  case some s=>
   rw [tG n g]at h;simp only;by_cases e:n=a
   ·rw [if_pos e];exact⟨_,rfl⟩
   · rw [if_neg e];have hk:a∈eE c (n+1) :=by
      rcases zq7.1 h with h|h
      ·exact absurd h.symm e
      ·exact h
     have:=tH c (n+1) a hk;rw [if_neg (by omega)];obtain⟨f,b⟩ :=aQO o d c 0 (n+1) z hk;rw [b];exact⟨_,rfl⟩
  rw [tD n g]at h;simp only;obtain⟨f,b⟩ :=aQO o d c 0 (n+1) z h;rw [b];exact⟨_,rfl⟩
theorem aQO {a:Int}(o:Int)(ps:List Pat) :∀ (b:List XT) (i:Nat) (n z:Int),a∈eE b n→∃c,iM a o ps b i n z= .did c
 | [],i,n,z,h=>by simp [eE]at h
 | t ::b,i,n,z,h=>by
  simp only [eE,zq28]at h;simp only [iM];by_cases e:a∈stT t n
  · obtain⟨j,g⟩ :=at_in t n (z+bK o ps (i:Int)) e;rw [g];exact⟨_,rfl⟩
  · have f:a∈eE b (n+ (cB t:Nat)) :=by
     rcases h with h|h
     ·exact absurd h e
     ·exact h
    have:=tH b _ a f;rw [aCp t n _ this];obtain⟨c,d⟩ :=aQO o ps b (i+1) _ z f;simp only;rw [d];exact⟨_,rfl⟩
end
theorem aQP {a:Int}:∀ (b:List XT) (n:Int),a∈eE b n→∃c,atF a b n= .did c
 | [],n,h=>by simp [eE]at h
 | t ::b,n,h=>by
  simp only [eE,zq28]at h;simp only [atF];by_cases e:a∈stT t n
  · obtain⟨i,g⟩ :=at_in t n 1 e;rw [g];exact⟨_,rfl⟩
  · have f:a∈eE b (n+ (cB t:Nat)) :=by
     rcases h with h|h
     ·exact absurd h e
     ·exact h
    have:=tH b _ a f;rw [aCp t n _ this];obtain⟨c,d⟩ :=aQP b _ f;simp only;rw [d];exact⟨_,rfl⟩
theorem aDT {a:Int}{o:Int}{ps:List Pat}:∀ {e:List XT} {n:Int} {l:List Int} {i:Nat} {z:Int} {c:List XT},eE e n=a::l→iM a o ps e i n z= .did c →
  ∃ (j:Nat) (t m:XT) (k:Int) (f:List Int),e[j]?=some t∧stT t k=a::f∧c=e.set j m∧atT a t k (z+bK o ps ((i+j:Nat) :Int)) = .did m
 | [],n,l,i,z,c,h,_=>by simp [eE]at h
 | t ::e,n,l,i,z,c,h,d=>by
  simp only [eE]at h;simp only [iM]at d;cases g:stT t n
  case cons b f=>
   rw [g,vV,List.cons.injEq]at h;obtain⟨rfl,_⟩ :=h;obtain⟨m,p⟩ :=at_in t n (z+bK o ps (i:Int)) (show b∈stT t n by rw [g];exact cQ ..);rw [p]at d;cases d;exact⟨0,t,m,n,f,rfl,g,rfl,p⟩
  rw [g,nil_append]at h;have:=tH e _ a (by rw [h];exact cQ ..);rw [aCp t n _ this]at d;simp only at d;split at d
  ·cases d
  ·cases d
  · rename_i q u;cases d;obtain⟨j,x,y,k,f,v,w,s,r⟩ :=aDT h u;exact⟨j+1,x,y,k,f,by simpa using v,w,by rw [s];rfl,by rw [show i+ (j+1) =i+1+j by omega];exact r⟩
theorem aCq {a:Int}:∀ {e:List XT} {n:Int} {l:List Int} {c:List XT},eE e n=a::l→atF a e n= .did c →
  ∃ (j:Nat) (t k:XT) (i:Int) (f:List Int),e[j]?=some t∧stT t i=a::f∧c=e.set j k∧atT a t i 1= .did k
 | [],n,l,c,h,_=>by simp [eE]at h
 | t ::e,n,l,c,h,d=>by
  simp only [eE]at h;simp only [atF]at d;cases g:stT t n
  case cons b f=>
   rw [g,vV,List.cons.injEq]at h;obtain⟨rfl,_⟩ :=h;obtain⟨k,m⟩ :=at_in t n 1 (show b∈stT t n by rw [g];exact cQ ..);rw [m]at d;cases d;exact⟨0,t,k,n,f,rfl,g,rfl,m⟩
  rw [g,nil_append]at h;have:=tH e _ a (by rw [h];exact cQ ..);rw [aCp t n _ this]at d;simp only at d;split at d
  ·cases d
  ·cases d
  · rename_i o r;cases d;obtain⟨j,x,v,i,f,s,u,q,p⟩ :=aCq h r;exact⟨j+1,x,v,i,f,by simpa using s,u,by rw [q];rfl,p⟩
theorem aSe :∀ (a:List XT) (m j:Nat) (v:XT),m≤j→fO (a.set j v) m=fO a m∧gO (a.set j v) m=gO a m
 | [],_,_,_,_=> ⟨rfl,rfl⟩
 |k::a,0,0,v,_=>by simp only [set_cons_zero,fO,gO,and_self]
 |k::a,0,j+1,v,_=>by simp only [set_cons_succ,fO,gO,and_self]
 | k::a,m+1,j+1,v,h=>by
  have:=aSe a m j v (by omega);simp only [set_cons_succ,fO,gO];omega
theorem aSf :∀ (a:List XT) (m j:Nat) (v:XT),j<m→fR (a.set j v) m=fR a m
 | [],_,_,_,_=>rfl
 |k::a,m+1,0,v,_=>by simp only [set_cons_zero,fR]
 | k::a,m+1,j+1,v,h=>by
  simp only [set_cons_succ,fR];exact aSf a m j v (by omega)
theorem aK1 :∀ (a:List XT) (m j:Nat) (t v:XT),a[j]?=some t→m≤j→fT v+1=fT t→fR (a.set j v) m+1=fR a m
 | [],_,_,_,_,h,_,_=>by simp at h
 | k::a,m+1,j+1,t,v,h,hm,b=>by
  simp only [set_cons_succ,fR];exact aK1 a m j t v (by simpa using h) (by omega) b
 | k::a,0,0,t,v,h,hm,b=>by
  simp only [jK,Option.some.injEq]at h;subst h;simp only [set_cons_zero,fR];omega
 | k::a,0,j+1,t,v,h,hm,b=>by
  have:=aK1 a 0 j t v (by simpa using h) (zero_le _) b;simp only [set_cons_succ,fR];omega
theorem bEa (sz:Int) :∀ (a:List XT) (m j:Nat) (x:XT),j<m→a[j]?=some x→bJ x=false→fO ((dU sz 1 a).set j (.mk 4 sz [] [])) m+ (1+gT x) =fO a m∧gO ((dU sz 1 a).set j (.mk 4 sz [] [])) m+ (2+gT x) =gO a m
 | [],_,_,_,_,h,_=>by simp at h
 | k::a,m+1,0,x,_,h,b=>by
  simp only [jK,Option.some.injEq]at h;subst h;have c:bJ (.mk 4 sz [] []) =true:=rfl;simp only [dU,set_cons_zero,fO,gO,c,b,if_true,rN,if_false];rw [aY3,aY4];omega
 | k::a,m+1,j+1,x,d,h,b=>by
  have:=bEa sz a m j x (by omega) (by simpa using h) b;simp only [dU,set_cons_succ,fO,gO];rw [aCm,aIs];omega
theorem rJ :∀ {b:List XT} {i m:Nat},cX b i m=none→∀ (j:Nat) (x:XT),j<m→b[j]?=some x→bJ x=true
 | [],i,m,_,j,x,_,h=>by simp at h
 |_::_,i,0,_,j,x,d,_=>by omega
 | t ::b,i,m+1,h,j,x,d,a=>by
  simp only [cX]at h;split at h
  · rename_i c;cases j with
    |zero=>simp only [jK,Option.some.injEq]at a;subst a;exact c
    |succ j=>exact rJ h j x (by omega) (by simpa using a)
  ·cases h
theorem bDa {p:Prog}{z:Int}:∀ {t:XT} {s:Option Nat},WX p t→cG t=some s→fT (gW z s t) +1=fT t∧ (t.op≠7→gT (gW z s t) +1=gT t)
 | .mk o n f C,some k,q,d=>by
  simp only [WX]at q;simp only [cG]at d;by_cases g:o=7
  · rw [if_pos g]at d;split at d
    ·split at d<;>cases d
    ·cases d
  rw [if_neg g]at d;cases u:cX f 0 (aT o f.length)with
  |none=>rw [u]at d;cases d
  | some w=>
   rw [u]at d;simp only [map_some,Option.some.injEq]at d;subst d;obtain⟨j,x,M,G,F,A⟩ :=qI u;obtain rfl:w=j:=by omega
   obtain⟨y,_⟩ :=aEF (show 0<aT o f.length by omega);have l:∀D e,¬bJ (.mk o D e C) =true:=fun D e h=>y (atomX_iff.1 h);have v:∀m e i,¬bJ (.mk 7 m e i) =true:=fun m e i=>by simp [bJ,XT.op]
   have K:=bEa z f (aT o f.length) w x G F A;have hr:=aSf (dU z 1 f) (aT o f.length) w (.mk 4 z [] []) G;rw [aNC]at hr;simp only [gW,dnT,rG F];rw [←mH];refine⟨?_,fun _=>?_⟩
   · conv=>rhs;rw [fT,if_neg (l n f),if_neg g]
     rw [fT,if_neg (v _ _ _),if_pos rfl,fL,fB,fT,if_neg (l _ _),if_neg g,fN,kQ,hr];omega
   · conv=>rhs;rw [gT,if_neg (l n f),if_neg g]
     rw [gT,if_neg (v _ _ _),if_pos rfl,gL,gB]
     conv=>lhs;arg 1;arg 2;rw [gT,if_neg (l _ _),if_neg g,fN,kQ,hr]
     omega
 | .mk o n f C,none,q,d=>by
  simp only [WX]at q;simp only [cG]at d;by_cases g:o=7
  · obtain⟨_,_,hl⟩ :=q.1.let7 g;rw [if_pos g]at d
    match f,hl,q,d with
    | [.mk I L H J,c],_,q,d=>
     simp only [jK,XT.op]at d;by_cases r:I=7
     · simp only [jJ,WX]at q;obtain⟨_,_,B⟩ :=q.2.1.1.let7 r
       match H,B with
       | [a,b],_=>
        subst g r;have v:∀m e i,bJ (.mk 7 m e i) =false:=fun m e i=>by simp [bJ,XT.op]
        simp only [gW,getD_cons_zero,getD_cons_succ,XT.kids,neT];refine⟨?_,fun h=>absurd rfl h⟩;simp only [fT,gT,v,rN,if_false,if_true,fL,fB,gL,gB,aY2];omega
     ·simp [r]at d
  · rw [if_neg g]at d;cases u:cX f 0 (aT o f.length)with
    |none=>rw [u]at d;cases d
    |some w=>rw [u]at d;cases d
theorem aBa {n:Int}{x b:XT}{ps:List Pat}(h:cG (.mk 7 n [x,b] ps) =none) :x.op≠7:=fun e=>by
 simp [cG,e]at h
theorem bEb {p:Prog}:∀ (k:Nat) (t:XT),cB t≤k→WX p t→∀ (a:Int) (l:List Int) (y z:Int) (G:XT),stT t y=a::l→atT a t y z= .did G→fT G+1=fT t∧ (t.op≠7→gT G+1=gT t)
 |0,.mk o n f w,hk,_,_,_,_,_,_,_,_=>by simp only [cB]at hk;omega
 | k + 1, .mk o n f w,hk,u,a,l,y,z,G,g,h=>by
  simp only [cB]at hk;cases d:cG (.mk o n f w)
  case some s=>
   rw [tG y d,List.cons.injEq]at g;obtain⟨rfl,_⟩ :=g;rw [aA0,d]at h;simp only [if_true]at h;cases h;exact bDa u d
  rw [tD y d]at g;rw [aA0,d]at h;simp only at h;cases i:iM a o w f 0 (y+1) z with
  |go m=>rw [i]at h;cases h
  |past=>rw [i]at h;cases h
  | did q =>
   rw [i]at h;simp only [qE,nil_append]at h;cases h;obtain⟨j,B,v,L,Q,c,A,rfl,F⟩ :=aDT g i;have K:=u;simp only [WX]at u;have U:=rI c;obtain⟨M,R⟩ :=bEb k B (by omega) (wxs_iff.1 u.2 B (kS c)) a Q L _ v A F
   have r:∀q,bJ (.mk o n q w) =false:=fun q=>by
    cases e:bJ (.mk o n q w)
    case false=>rfl
    have:=K.kids0 (show bJ (.mk o n f w) =true from e);subst this;simp at c
   by_cases D:o=7
   · obtain⟨_,_,hl⟩ :=u.1.let7 D;subst D;refine⟨?_,fun h=>absurd rfl h⟩
     match f,hl,j,c,d with
     | [x,b],_,0,c,d=>
      simp only [jK,Option.some.injEq]at c;subst c;have:=R (aBa d);simp only [set_cons_zero,fT,r,rN,if_false,if_true,fL,fB];omega
     | [x,b],_,1,c,d=>
      simp only [lS,jK,Option.some.injEq]at c;subst c;simp only [set_cons_succ,set_cons_zero,fT,r,rN,if_false,if_true,fL,fB];omega
     | [x,b],_,j+2,c,d=>simp at c
   · have hm:aT o f.length≤j:=by
      rcases Nat.lt_or_ge j (aT o f.length)with J|I
      · exfalso;simp only [cG,if_neg D,Option.map_eq_none_iff]at d;have e:=rJ d j B J c;obtain⟨S,N,W,O⟩ :=B;have H:= (wxs_iff.1 u.2 _ (kS c)).kids0 e;subst H;rw [aA0]at F;cases C:cG (.mk S N [] O)
        case some V=>
         have:=aCn (wxs_iff.1 u.2 _ (kS c)) C;rw [this]at e;cases e
        rw [C]at F;simp [iM,qE]at F
      ·exact I
     have X:=aSe f _ j v hm;have T:=aK1 f _ j B v c hm M;simp only [fT,gT,r,rN,if_false,if_neg D,fN];omega
theorem aY5 :∀ {ts:List XT} {j:Nat} {t v:XT},ts[j]?=some t→fT v+1=fT t→fF (ts.set j v) +1=fF ts
 | [],_,_,_,h,_=>by simp at h
 |x::ts,0,t,v,h,a=>by simp only [jK,Option.some.injEq]at h;subst h;simp only [set_cons_zero,fF];omega
 | x::ts,j+1,t,v,h,a=>by
  have:=aY5 (ts:=ts) (j:=j) (by simpa using h) a;simp only [set_cons_succ,fF];omega
def qK (f:Flow) :Nat:=aD f.binds+f.binds.length+cB f.last
theorem gQ :∀ (a b:List XT),aD (a++b) =aD a+aD b
 | [],b=>by simp [aD]
 |x::a,b=>by simp only [vV,aD,gQ a b];omega
theorem aGK :∀ (b:List XT) (t:XT),cB (clB b t) =aD b+b.length+cB t
 | [],t=>by simp [clB,aD]
 |a::b,t=>by simp only [clB,cB,aD,mO,aGK b t];omega
theorem aEI (to:List Int) :∀ (t:XT),cB (aA6 t to) =cB t
 | .mk o n b a=>by simp only [aA6];split<;>simp only [cB]
mutual
theorem aY6 {p:Prog}:∀ (t:XT),WX p t→∀ (b:List Int) (z:Int),cB t≤qK (eF t b z) ∧qK (eF t b z) +2≤3*cB t
 | .mk o n a f,c,b,z=>by
  have g:=c;simp only [WX]at c;simp only [eF];by_cases e:bJ (.mk o n a f) =true
  · rw [if_pos e];simp only [qK,aD,length_nil,aEI,cB];omega
  · rw [if_neg e];by_cases d:o=7
    · rw [if_pos d];obtain⟨_,_,hl⟩ :=c.1.let7 d;have:=bHX a c.2 (by omega) b z;simp only [cB];omega
    · rw [if_neg d];have i:=bFv a c.2 (aT o a.length) b z;have j:=bFw o f a c.2 0 (aT o a.length) b (z+ ((mR a (aT o a.length) b z).1.length:Nat));have h:aD a=aD (a.take (aT o a.length)) +aD (a.drop (aT o a.length)) :=by rw [←gQ,List.take_append_drop]
      simp only [qK,cB,gQ];omega
theorem bHX {p:Prog}:∀ (c:List XT),jJ p c→c.length≤2→∀ (b:List Int) (z:Int),1+aD c≤qK (flL c b z) ∧qK (flL c b z) +2≤3* (1+aD c)
 | [],_,_,b,z=>by simp [flL,qK,aD,dXT,cB]
 | a::c,d,hl,b,z=>by
  simp only [jJ]at d;have e:=aY6 a d.1 b z;have f:=bHY c d.2 (by simp only [mO]at hl;omega) (b++ [z+ ((eF a b z).binds.length:Nat)]) (z+ ((eF a b z).binds.length+1:Nat));simp only [flL,qK,gQ,aD,vP,mO]at e f ⊢;omega
theorem bHY {p:Prog}:∀ (a:List XT),jJ p a→a.length≤1→∀ (c:List Int) (z:Int),aD a≤qK (flB a c z) ∧qK (flB a c z) ≤1+3*aD a
 | [],_,_,c,z=>by simp [flB,qK,aD,dXT,cB]
 | [b],d,_,c,z=>by
  simp only [jJ]at d;have e:=aY6 b d.1 c z;simp only [flB,aD];omega
 |_::_::_,_,hl,_,_=>by simp at hl
theorem bFv {p:Prog}:∀ (b:List XT),jJ p b→∀ (m:Nat) (a:List Int) (z:Int),aD (b.take m) ≤aD (mR b m a z).1+ (mR b m a z).1.length+aD (mR b m a z).2∧aD (mR b m a z).1+ (mR b m a z).1.length+aD (mR b m a z).2≤3*aD (b.take m)
 | [],_,m,a,z=>by simp [mR,aD]
 |k::b,_,0,a,z=>by simp [mR,aD]
 | k ::b,c,m+1,a,z=>by
  simp only [jJ]at c;simp only [mR,List.take_succ_cons,aD];by_cases d:bJ k=true
  · rw [if_pos d];have f:=bFv b c.2 m a z;simp only [aD,aEI];omega
  · rw [if_neg d];have e:=aY6 k c.1 a z;have f:=bFv b c.2 m a (z+ ((eF k a z).binds.length+1:Nat));simp only [qK]at e;simp only [gQ,aD,vP,mO,cB];omega
theorem bFw {p:Prog}(o:Int)(ps:List Pat) :∀ (a:List XT),jJ p a→∀ (i m:Nat) (b:List Int) (n:Int),aD (a.drop m) ≤aD (vW o ps a i m b n) ∧aD (vW o ps a i m b n) ≤3*aD (a.drop m)
 | [],_,i,m,b,n=>by simp [vW,aD]
 | k::a,c,i,m+1,b,n=>by
  simp only [jJ]at c;simp only [vW,List.drop_succ_cons];exact bFw o ps a c.2 (i+1) m b n
 | k::a,c,i,0,b,n=>by
  simp only [jJ]at c;have d:=aY6 k c.1 (plc b n (bK o ps (i:Int))) (n+bK o ps (i:Int));have e:=bFw o ps a c.2 (i+1) 0 b n;rw [drop_zero]at e;simp only [vW,drop_zero,aD,clF,aGK];simp only [qK]at d;omega
end
def idl (m:Nat) :List Int:= (range m).map (fun i=> ((i:Nat) :Int))
theorem bDb (m:Nat)(k:Int) :plc (idl m) (m:Nat) k=idl (m+k.toNat) :=by
 simp [plc,idl,List.range_add,Function.comp_def]
theorem bDc (m:Nat) :idl m++ [((m:Nat) :Int)] =idl (m+1) :=by
 simp [idl,List.range_succ]
theorem aSg {m:Nat}:∀ {t:XT},vX t (m:Nat) →aA6 t (idl m) =t
 | .mk o n c d,h=>by
  simp only [vX]at h;simp only [aA6];split
  · rename_i a;have b:=h.1 a.1;have: (idl m).getD n.toNat 0=n:=by
     rw [nY];unfold idl;rw [rM,List.getElem?_range (by omega)];simp;omega
    rw [this]
  ·rfl
theorem aNF {o:Int}{ps:List Pat}{m:Nat}:∀ (b:List XT) (a i:Nat),(∀ (j:Nat) (x:XT),j<a→b[j]?=some x→bJ x=true∧vX x (m:Nat)) →mR b a (idl m) (m:Nat) = ([],b.take a)
 | [],a,i,_=>by simp [mR]
 |k::b,0,i,_=>by simp [mR]
 | k::b,a+1,i,h=>by
  obtain⟨c,e⟩ :=h 0 k (by omega) rfl;simp only [mR,List.take_succ_cons];rw [if_pos c,aNF (o:=o) (ps:=ps) b a i (fun j x f d=>h (j+1) x (by omega) (by simpa using d)),aSg e]
theorem aGL {o:Int}{ps:List Pat}{m:Nat}:∀ (a:List XT) (i b:Nat),(∀ (j:Nat) (x:XT),a[j]?=some x→b≤j→clF (eF x (plc (idl m) (m:Nat) (bK o ps ((i+j:Nat) :Int))) ((m:Nat) +bK o ps ((i+j:Nat) :Int))) =x) →vW o ps a i b (idl m) (m:Nat) =a.drop b
 | [],i,b,_=>by simp [vW]
 | k::a,i,b+1,h=>by
  simp only [vW,List.drop_succ_cons];exact aGL a (i+1) b (fun j x c hm=>by have:=h (j+1) x (by simpa using c) (by omega);rw [show i+ (j+1) =i+1+j by omega]at this;exact this)
 | k::a,i,0,h=>by
  have e:=h 0 k rfl (le_refl _);rw [Nat.add_zero]at e;have d:=aGL (o:=o) (ps:=ps) (m:=m) a (i+1) 0 (fun j x c hm=>by have:=h (j+1) x (by simpa using c) (by omega);rw [show i+ (j+1) =i+1+j by omega]at this;exact this);simp only [vW,drop_zero]at d ⊢;rw [e,d]
theorem aIt :∀ {c:List XT} {a:Int},eE c a= [] →∀ (j:Nat) (x:XT),c[j]?=some x→∃d,stT x d= []
 | [],a,_,j,x,h=>by simp at h
 | t::c,a,h,j,x,b=>by
  simp only [eE,List.append_eq_nil_iff]at h;cases j with
  |zero=>simp only [jK,Option.some.injEq]at b;subst b;exact⟨a,h.1⟩
  |succ j=>exact aIt h.2 j x (by simpa using b)
theorem aEJ {p:Prog}:∀ (k:Nat) (t:XT) (m:Nat) (a:Int),cB t≤k→WX p t→vX t (m:Nat) →stT t a= [] → (t.op≠7→eF t (idl m) (m:Nat) = ⟨[],t⟩) ∧clF (eF t (idl m) (m:Nat)) =t
 |0,.mk o n f ps,m,a,hk,_,_,_=>by simp only [cB]at hk;omega
 | k + 1,.mk o n f ps,m,a,hk,g,c,d=>by
  simp only [cB]at hk;have G:=g;have r:=c;simp only [WX]at g;simp only [vX]at c;have l:cG (.mk o n f ps) =none:=by
   cases l:cG (.mk o n f ps)with
   |none=>rfl
   |some s=>rw [tG a l]at d;cases d
  rw [tD a l]at d;by_cases v:bJ (.mk o n f ps) =true
  · have e:eF (.mk o n f ps) (idl m) (m:Nat) = ⟨[],.mk o n f ps⟩ :=by
     rw [eF,if_pos v,aSg r]
    rw [e];exact⟨fun _=>rfl,rfl⟩
  · by_cases u:o=7
    · obtain⟨rfl,rfl,hl⟩ :=g.1.let7 u;subst u;refine⟨fun h=>absurd rfl h,?_⟩
      match f,hl with
      | [x,b],_=>
       have w:=aBa l;simp only [jJ]at g;simp only [yI]at c;rw [natCast_zero,show(((0+1:Nat)) :Int) =1 from rfl,(oV []).1,(oV []).2,add_zero]at c;simp only [eE,vZ,List.append_eq_nil_iff]at d;simp only [aD]at hk;have I:= (aEJ k x m _ (by omega) g.2.1 c.2.1 d.1).1 w;have A:= (aEJ k b (m+1) _ (by omega) g.2.2.1 (by rw [Int.natCast_add];exact c.2.2.1) d.2).2;rw [eF,if_neg v,if_pos rfl,flL,I];simp only [flB,length_nil,nil_append,natCast_zero,add_zero,eM];rw [bDc,show((m:Nat) :Int) + ((1:Nat) :Int) = ((m+1:Nat) :Int)by omega];simp only [clF,clB];simp only [clF]at A;rw [A]
    · have F:∀ (j:Nat) (x:XT),j<aT o f.length→f[j]?=some x→bJ x=true∧vX x (m:Nat) :=fun j x B i=>by
       simp only [cG,if_neg u,Option.map_eq_none_iff]at l;refine⟨rJ l j x B i,?_⟩;have:=scxs_iff.1 c.2 j x i;rw [eM,aEG B,add_zero]at this;exact this
      have C:=aNF (o:=o) (ps:=ps) f (aT o f.length) 0 F
      have L:=aGL (o:=o) (ps:=ps) (m:=m) f 0 (aT o f.length) (fun j x i _=>by
       have D:=oH (o:=o) (ps:=ps) (fun q J=>by have:=g.1.pats q J;omega) (j:Int);have K:=rI i;obtain⟨H,z⟩ :=aIt d j x i;have y:=scxs_iff.1 c.2 j x i;rw [eM]at y ⊢;rw [bDb];have hz: ((m:Nat) :Int) +bK o ps (j:Int) = ((m+ (bK o ps (j:Int)).toNat:Nat) :Int) :=by omega
       rw [hz]at y ⊢;exact(aEJ k x _ H (by omega) (wxs_iff.1 g.2 x (kS i)) y z).2)
      have e:eF (.mk o n f ps) (idl m) (m:Nat) = ⟨[],.mk o n f ps⟩ :=by
       rw [eF,if_neg v,if_neg u,C];simp only [length_nil,natCast_zero,add_zero];rw [L,List.take_append_drop]
      rw [e];exact⟨fun _=>rfl,rfl⟩
def nfT (t:XT) :XT:=clF (eF t [0] 1)
structure NInv (p:Prog) (q:List XT) (ts:List XT) :Prop where
 wx:jJ p ts
 sc:∀t∈ts,vX t 1
 nf:ts.map nfT=q
 qs:aD q≤900
 fs:fF ts≤900
 fine:FineXs (950900- (fF ts:Nat)) ts
 len:ts.length≤1000
theorem aEK {p:Prog}:∀ {a:List XT},jJ p a→aD a≤aD (a.map nfT) ∧aD (a.map nfT) ≤3*aD a
 | [],_=>by simp [aD]
 | t::a,h=>by
  simp only [jJ]at h;have b:=aY6 t h.1 [0] 1;have c:=aEK h.2;simp only [eI,aD,nfT,clF,aGK];simp only [qK]at b;omega
theorem NInv.small {p:Prog}{q ts:List XT}(h:NInv p q ts) :aD ts≤900:=by
 have:= (aEK h.wx).1;rw [h.nf]at this;have:=h.qs;omega
theorem aY7 {p:Prog}{q ts:List XT}(h:NInv p q ts) :FineXs 1000000 ts∧aD ts≤100000∧ts.length≤1000:=by
 have:=h.small;exact⟨nJ (by omega) h.fine,by omega,h.len⟩
theorem bEc {p:Prog}{node:Int}:∀ {d:List XT} {n:Int} {a:List XT},jJ p d→ (∀t∈d,vX t 1) →atF node d n= .did a→jJ p a∧ (∀t∈a,vX t 1) ∧a.map nfT=d.map nfT
 | [],n,a,_,_,h=>by simp only [atF]at h;cases h
 | t ::d,n,a,c,f,h=>by
  simp only [jJ]at c;simp only [atF]at h;split at h
  · split at h
    ·cases h
    ·cases h
    · rename_i l q;cases h;obtain⟨j,i,o⟩ :=bEc c.2 (fun x b=>f x (cH _ b)) q;refine⟨⟨c.1,j⟩,fun x b=>?_,by rw [eI,eI,o]⟩;rcases zq7.1 b with rfl|b
      ·exact f _ (cQ ..)
      ·exact i x b
  ·cases h
  · rename_i k e;cases h;have g:=f t (cQ ..);obtain⟨j,i⟩ :=bD6 (cB t) t (le_refl _) c.1 n 1 (by omega) g k e;obtain⟨m,_⟩ :=bD3 (cB t) t (le_refl _) c.1 n [0] k e;refine⟨⟨j,c.2⟩,fun x b=>?_,by rw [eI,eI,nfT,nfT,m]⟩;rcases zq7.1 b with rfl|b
    ·exact i
    ·exact f x (cH _ b)
theorem aGM {p:Prog}{ts b:List XT}{a:Int}{l:List Int}(e:jJ p ts)(c:eE ts 0=a::l)(h:atF a ts 0= .did b) :fF b+1=fF ts:=by
 obtain⟨j,t,i,m,g,d,k,rfl,f⟩ :=aCq c h;exact aY5 d (bEb (cB t) t (le_refl _) (wxs_iff.1 e t (kS d)) a g m 1 i k f).1
theorem aNG {p:Prog}{q ts ts':List XT}{a:Int}{l:List Int}(h:NInv p q ts)(c:eE ts 0=a::l)(b:atF a ts 0= .did ts') :NInv p q ts':=by
 obtain⟨g,e,f⟩ :=bEc h.wx h.sc b;have k:=aGM h.wx c b;have j:=h.small;have i:=h.fs;obtain⟨d,_⟩ :=aNv h.fine (by omega) b;refine⟨g,e,by rw [f,h.nf],h.qs,by omega,?_,by rw [aKy a ts 0 ts' b];exact h.len⟩;rw [show(950900:Int) - (fF ts':Nat) =950900- (fF ts:Nat) +1 by omega];exact d
theorem zW {p:Prog}:∀ {b:List XT} {a:Int},jJ p b→ (∀t∈b,vX t 1) →eE b a= [] →b.map nfT=b
 | [],_,_,_,_=>rfl
 | t::b,a,c,d,h=>by
  simp only [jJ]at c;simp only [eE,List.append_eq_nil_iff]at h;have g:= (aEJ (cB t) t 1 a (le_refl _) c.1 (d t (cQ ..)) h.1).2;have f:=zW c.2 (fun x e=>d x (cH _ e)) h.2;rw [eI,f];congr 1
theorem aSh {p:Prog}{q:List XT}:∀ (k:Nat) (c:List XT),NInv p q c→fF c≤k→∃m,aCo k c=some (q,m)
 | 0,c,h,hk=>by
  simp only [aCo];cases b:eE c 0 with
  |nil=>exact⟨[],by rw [if_pos rfl,←h.nf,zW h.wx h.sc b]⟩
  | cons a l=>
   obtain⟨e,d⟩ :=aQP c 0 (show a∈eE c 0 by rw [b];exact cQ ..);have:=aGM h.wx b d;omega
 | k+1,c,h,hk=>by
  simp only [aCo];cases b:eE c 0 with
  |nil=>exact⟨[],by simp only;rw [←h.nf,zW h.wx h.sc b]⟩
  | cons a l=>
   obtain⟨e,d⟩ :=aQP c 0 (show a∈eE c 0 by rw [b];exact cQ ..);have f:=aGM h.wx b d;obtain⟨m,hm⟩ :=aSh k e (aNG h b d) (by omega);exact⟨a::m,by simp only;rw [d];simp only;rw [hm];rfl⟩
theorem aGN {p:Prog}{nd:Node}:aP p ⟨nd.op,nd.n,List.replicate nd.kids.length 0,nd.pats⟩ =aP p nd:=by
 simp only [aP,eW,fH,aIz];try rfl
mutual
theorem bDd {p:Prog}(c:∀ (i:Nat) (x:Node),p.nodes[i]?=some x→aP p x=true) :∀ (t:XT) (a:Int),IsTree p t a→WX p t
 | .mk o n l m,a,h=>by
  simp only [IsTree]at h;obtain⟨q,nd,j,rfl,rfl,rfl,g⟩ :=h;have b:=c _ nd j;simp only [WX];rw [eY g];refine⟨⟨fun e=>?_,fun _=>by rw [aGN];exact b⟩,aGO c l nd.kids g⟩;simp only [aP,eW,dT,cP,e,decide_eq_true_eq]at b;obtain⟨⟨⟨k,f⟩,_⟩,d⟩ :=b;simp [eB]at k f;simp [cM]at d;exact⟨by omega,by simp [d],f⟩
theorem aGO {p:Prog}(b:∀ (i:Nat) (x:Node),p.nodes[i]?=some x→aP p x=true) :∀ (a:List XT) (l:List Int),aN p a l→jJ p a
 | [],_,_=>trivial
 | t::a,l,h=>by
  simp only [aN]at h;obtain⟨k,d,rfl,c,e⟩ :=h;exact⟨bDd b t k c,aGO b a d e⟩
end
theorem vO {p:Prog}:∀ {a:List XT} {l:List Int},aN p a l→∀ (j:Nat) (t:XT),a[j]?=some t→∃k,l[j]?=some k∧IsTree p t k
 | [],l,_,j,t,h=>by simp at h
 | x::a,l,h,j,t,b=>by
  simp only [aN]at h;obtain⟨k,i,rfl,e,g⟩ :=h;cases j with
  |zero=>simp only [jK,Option.some.injEq]at b;subst b;exact⟨k,rfl,e⟩
  | succ j=>
   obtain⟨d,c,f⟩ :=vO g j t (by simpa using b);exact⟨d,by simpa using c,f⟩
theorem aSi {p:Prog}{Z:List Int}(hZ:Sprop p Z)(hc:∀ (i:Nat) (x:Node) (s:Int),p.nodes[i]?=some x→Z[i]?=some s→x.op=4→x.n<s) :∀ (k:Nat) (t:XT) (a z:Int),cB t≤k→IsTree p t a→Z[a.toNat]?=some z→vX t z
 |0,.mk o n m l,a,z,hk,_,_=>by simp only [cB]at hk;omega
 | k+1,.mk o n m l,a,z,hk,h,hz=>by
  simp only [cB]at hk;simp only [IsTree]at h;obtain⟨w,nd,d,rfl,rfl,rfl,q⟩ :=h;simp only [vX];refine⟨fun e=>hc _ nd z d hz e,scxs_iff.2 fun j x f=>?_⟩;obtain⟨c,g,v⟩ :=vO q j x f;obtain⟨s,b,r⟩ :=hZ.kid _ nd j c d g;rw [hz]at b;cases b;have u:=rI f;refine aSi hZ hc k x c _ (by omega) v ?_;rw [r,eM];rfl
theorem aY8 {p:Prog}{S:List Int}(hl:S.length=p.nodes.length)(h:iD p S 0 S=true) :∀ (i:Nat) (x:Node) (s:Int),p.nodes[i]?=some x→S[i]?=some s→x.op=4→x.n<s:=fun i x s c a b=>by
 have d:= (zq0.1 a).1;have:= (pG p S S 0).1 h i d;rw [eM]at this;simp only [nG,c,a,b,decide_true,nX]at this;simpa using this
theorem aY9 {p:Prog}(d:aF p=true)(b:aK p=true)(hc: (dD p).1=true){ts:List XT}(a:aN p ts p.funs) :NInv p (ts.map nfT) ts:=by
 obtain⟨l,c,_⟩ :=kC d b;have g:=aD1 b;have q:=aA5 d b a;have hb:=d;simp only [aF,cP,decide_eq_true_eq]at hb;have e:p.nodes.length≤300:=by
  have:=b;simp only [aK,eA,cP,decide_eq_true_eq]at this;exact this.1.1.1.1
 have h:=aGO g ts p.funs a;have o:=bD9 ts;refine⟨h,fun t f=>?_,rfl,?_,by omega,?_,?_⟩
 · obtain⟨j,m⟩ :=List.getElem?_of_mem f;obtain⟨k,i,n⟩ :=vO a j t m;unfold dD at hc;rw [if_pos b]at hc;exact aSi c (aY8 c.len hc) (cB t) t k 1 (le_refl _) n (c.root k (kS i))
 · have:= (aEK h).2;omega
 ·exact nJ (by omega) (aA3 l g ts p.funs a)
 ·rw [eY a];omega
end
end Go.Hb
