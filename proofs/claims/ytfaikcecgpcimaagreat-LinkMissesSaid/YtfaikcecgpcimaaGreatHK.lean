/- A machine on abstract values, its soundness, ways, plain laws. -/
import Derived.Test.YtfaikcecgpcimaaGreatHF
import Derived.Test.YtfaikcecgpcimaaGreatHG
import Derived.Test.YtfaikcecgpcimaaGreatHH
import Derived.Test.YtfaikcecgpcimaaGreatHI
set_option linter.defProp false
set_option linter.unusedVariables false
set_option linter.unusedSimpArgs false
set_option linter.unusedSectionVars false
set_option maxRecDepth 100000
set_option maxHeartbeats 4000000
namespace Go.Hb
open AV (frzOk ilst keyless keylessL nils)
open Bool (and_eq_true)
open Int (toNat_natCast)
open List (all_cons all_nil count_append flatten_cons getElem?_cons_succ getElem?_cons_zero getElem?_eq_getElem length length_cons length_set map map_cons map_nil mem_cons_of_mem mem_cons_self mem_of_getElem? replicate set take_of_length_le)
open Go.Proofs Tryz
noncomputable section
section
variable {p :Prog} {mf mc:List (Int×Int)} {F C:List Int} {to:List Int}
end
def aQG (x:Node)(i:Nat) :Nat→List Int→List Int→List Int
 |_,[],l=>l
 |j,k::ks,l=>aQG x i (j+1) ks (l.set k.toNat (l.getD i 0+aIT x j))
def aL2 :Nat→List Node→List Int→List Int
 |_,[],l=>l
 |i,x::t,l=>aL2 (i+1) t (aQG x i 0 x.kids l)
def aQH :List Int→List Int→List Int
 | [],l=>l
 |f::fs,l=>aQH fs (l.set f.toNat 1)
def aK7 (p:Prog) :List Int:=aL2 0 p.nodes (aQH p.funs (replicate p.nodes.length 0))
theorem aAg {lo n:Int}:∀ {ks:List Int} {u v:List Bool},marks lo n ks u=some v→∀k∈ks,lo≤k∧k≤n-1
 | [],_,_,_,k,hk=>by cases hk
 | a ::ks,u,v,h,k,hk=>by
  simp only [marks]at h;split at h
  · rename_i g;rcases List.mem_cons.1 hk with rfl|hk
    ·exact inB_iff.1 g.1
    ·exact aAg h k hk
  ·cases h
theorem aK8 {lo n k:Int}{ks:List Int}{u v:List Bool}(h:marks lo n (k::ks) u=some v) :u[k.toNat]?=some false∧marks lo n ks (u.set k.toNat true) =some v:=by
 simp only [marks]at h;split at h
 ·rename_i g;exact⟨g.2,h⟩
 ·cases h
theorem nX {p:Prog}{i:Nat}{x:Node}{t:List Node}{u v:List Bool}(h:cI p i (x::t) u=some v) :bD p x=true∧∃w,marks ((i:Int) +1) p.nodes.length x.kids u=some w∧cI p (i+1) t w=some v:=by
 simp only [cI]at h;split at h
 · rename_i g;split at h
   ·rename_i w hw;exact⟨g,w,hw,h⟩
   ·cases h
 ·cases h
theorem rO {p:Prog}:∀ {t:List Node} {i:Nat} {u v:List Bool},cI p i t u=some v→v.length=u.length
 | [],i,u,v,h=>by simp only [cI,Option.some.injEq]at h;rw [h]
 | x::t,i,u,v,h=>by
  obtain⟨_,w,hw,h2⟩ :=nX h;rw [rO h2,jZ hw]
theorem rP {p:Prog}:∀ {t:List Node} {i:Nat} {u v:List Bool},cI p i t u=some v→∀ (j:Nat) (x:Node),t[j]?=some x→bD p x=true∧∀k∈x.kids,((i+j:Nat) :Int) <k∧k<p.nodes.length
 | [],i,u,v,h,j,x,hx=>by simp at hx
 | y::t,i,u,v,h,j,x,hx=>by
  obtain⟨g,w,hw,h2⟩ :=nX h;cases j with
  | zero=>
   simp at hx;subst hx;exact⟨g,fun k hk=>by have:=aAg hw k hk;omega⟩
  | succ j=>
   have:=rP h2 j x (by simpa using hx);exact⟨this.1,fun k hk=>by have:=this.2 k hk;omega⟩
structure Sprop (p:Prog) (S:List Int) :Prop where
 len:S.length=p.nodes.length
 root:∀f∈p.funs,S[f.toNat]?=some 1
 kid:∀ (i:Nat) (x:Node) (d:Nat) (k:Int),p.nodes[i]?=some x→x.kids[d]?=some k→∃s,S[i]?=some s∧S[k.toNat]?=some (s+aIT x d)
inductive Reach (p:Prog) :Nat→Nat→Prop where
 |refl (a:Nat) :Reach p a a
 |step {a i:Nat} {x:Node} {k:Int}:Reach p a i→p.nodes[i]?=some x→k∈x.kids→Reach p a k.toNat
theorem Reach.first {p:Prog}{a m:Nat}(h:Reach p a m) :m=a∨∃ (x:Node) (k:Int),p.nodes[a]?=some x∧k∈x.kids∧Reach p k.toNat m:=by
 induction h with
 |refl=>exact .inl rfl
 | step h hx hk ih=>
  rename_i i x k;rcases ih with rfl| ⟨y,q,h1,h2,h3⟩
  ·exact .inr ⟨x,k,hx,hk,Reach.refl _⟩
  ·exact .inr ⟨y,q,h1,h2,h3.step hx hk⟩
theorem aIU {p:Prog}(hs:aH p=true) :Pure PP 138 [Prog.av p] (.int .i64 (checkN (aO p))) :=by
 have h2:=aIP p hs;rw [aN1]at h2;exact h2
theorem uN {p:Prog}(hp:aH p=true)(hf:aO p=true) :FineP p:=by
 have hs:=hp;simp only [aH,and_eq_true,decide_eq_true_eq]at hs;obtain⟨⟨⟨⟨s1,s2⟩,s3⟩,_⟩,s5⟩ :=hs;simp only [aO,and_eq_true]at hf;obtain⟨_,hf⟩ :=hf;split at hf
 · rename_i u hu;unfold allT at hf;split at hf
   · rename_i v hv;refine⟨s1,s2,fun i x hx=>?_,fun f hf=>?_⟩
     · have:=rP hv i x hx;have h10:=List.all_eq_true.1 s5 x (mem_of_getElem? hx);simp only [aT,and_eq_true,decide_eq_true_eq]at h10;exact⟨aL1 this.1,h10.1.1,fun k hk=>by have:=this.2 k hk;omega⟩
     ·have:=aAg hu f hf;omega
   ·cases hf
 ·cases hf
theorem aQI {n:Nat}{i:Int}(h0:0≤i)(h1:i<n) : (numsL 0 n)[i.toNat]?=some i:=by
 rw [aEO 0 (by omega)];congr 1;omega
def aEZ (n:Nat)(m:List (Int×Int))(l:List Int) :Prop:=∀i:Int,0≤i→i<n→l[i.toNat]?=some (lU m i)
theorem aL3 (n:Nat) :aEZ n (sM n) (numsL 0 n) :=fun i h0 h1=>by rw [aQI h0 h1,aVm h0 h1]
mutual
theorem aWG (cons:List Con){mc:List (Int×Int)}{C:List Int}(hC:aEZ cons.length mc C) :∀ (q:Pat),cY cons q=true→aWE C q=some (vU mc q)
 | .mk f n s ps,h=>by
  rw [cY,and_eq_true]at h;have hps:=aGv cons hC ps h.2;have hN:aQx C f n=some (if f=6 then lU mc n else n) :=by
   unfold aQx;by_cases hf:f=6
   · subst hf;have hh:=h.1;simp only [dF]at hh;simp [cS]at hh;obtain⟨⟨⟨h0,h1⟩,_⟩,_⟩ :=hh;rw [if_pos rfl,if_pos rfl,if_pos h0,hC n h0 (by omega)]
   ·rw [if_neg hf,if_neg hf]
  rw [aWE,hN];simp only;rw [hps,vU]
theorem aGv (cons:List Con){mc:List (Int×Int)}{C:List Int}(hC:aEZ cons.length mc C) :∀ (ps:List Pat),bY cons ps=true→aBB C ps=some (fN mc ps)
 | [],_=>rfl
 | q::ps,h=>by
  rw [bY,and_eq_true]at h;rw [aBB,aWG cons hC q h.1];simp only;rw [aGv cons hC ps h.2,fN]
end
theorem yH {cons:List Con}:∀ {ps:List Pat},(∀q∈ps,cY cons q=true) →bY cons ps=true
 | [],_=>rfl
 | q::ps,h=>by
  rw [bY,h q (mem_cons_self ..),yH (fun x hx=>h x (mem_cons_of_mem _ hx))];rfl
theorem aE0 {c:Nat}:∀ {ps:List Pat},(∀q∈ps,dM q≤c) →bQ ps≤c*ps.length
 | [],_=>by simp [bQ]
 | q::ps,h=>by
  have h1:=h q (mem_cons_self ..);have h2:=aE0 (c:=c) (ps:=ps) (fun x hx=>h x (mem_cons_of_mem _ hx));simp only [bQ,length_cons];rw [Nat.mul_add,Nat.mul_one];omega
theorem aQJ {p:Prog}{mf mc:List (Int×Int)}{F C:List Int}(hF:aEZ p.funs.length mf F)(hC:aEZ p.cons.length mc C)(hB:∀i:Int,0≤i→i<p.funs.length→0≤lU mf i∧lU mf i≤1000000)(hs:p.funs.length≤320){x:Node}(h:bD p x=true)(h10:x.pats.length≤10) :
  (bQ x.pats<1000000∧mN F C x.op x.n=some (bN mf mc x.op x.n) ∧aBB C x.pats=some (fN mc x.pats)) ∧nOk mf x:=by
 simp only [bD,and_eq_true,hX]at h;obtain⟨⟨⟨h1,_⟩,h2⟩,_⟩ :=h
 have hq:∀q∈x.pats,dM q≤12∧cY p.cons q=true:=fun q hq=>by
  have:=List.all_eq_true.1 h2 q hq;simpa [fJ]using this
 have hps:bQ x.pats≤12*x.pats.length:=aE0 (fun q h=> (hq q h).1)
 have hr4:x.op=4→ -(p.funs.length:Int) ≤x.n∧x.n≤29:=fun e=>by
  rw [e]at h1;simp [bW,cS]at h1;omega
 have hr14:x.op=14→0≤x.n∧x.n<p.cons.length:=fun e=>by
  rw [e]at h1;simp [bW,cS]at h1;omega
 refine⟨⟨by omega,?_,aGv p.cons hC x.pats (yH fun q h=> (hq q h).2)⟩,by omega,fun e hn=>?_⟩
 · unfold mN bN;by_cases h4:x.op=4
   · have hr:=hr4 h4;by_cases hn:x.n<0
     · have hb:=hB (-1-x.n) (by omega) (by omega);rw [if_pos ⟨h4,hn⟩,if_pos h4,if_neg (by omega),hF _ (by omega) (by omega)];simp only;rw [if_pos (by omega)]
     ·rw [if_neg (fun h=>hn h.2),if_neg (show ¬x.op=14 by omega),if_pos h4,if_pos (show 0≤x.n by omega)]
   · rw [if_neg (fun h=>h4 h.1),if_neg h4];by_cases h14:x.op=14
     · have hr:=hr14 h14;rw [if_pos h14,if_pos h14,if_pos hr.1,hC _ hr.1 hr.2]
     ·rw [if_neg h14,if_neg h14]
 · have hr:=hr4 e;have hb:=hB (-1-x.n) (by omega) (by omega);omega
theorem aN3 {p:Prog}(hF:p.funs.length≤320){x:Node}(h:bD p x=true)(h10:x.pats.length≤10) :
  (bQ x.pats<1000000∧mN (numsL 0 p.funs.length) (numsL 0 p.cons.length) x.op x.n=some (bN (sM p.funs.length) (sM p.cons.length) x.op x.n) ∧aBB (numsL 0 p.cons.length) x.pats=some (fN (sM p.cons.length) x.pats)) ∧nOk (sM p.funs.length) x:=
 aQJ (aL3 _) (aL3 _) (fun i h0 h1=>by rw [aVm h0 h1];omega) hF h h10
def dA (p:Prog)(i:Int) :List Int:=match p.nodes[i.toNat]? with
 |some x=>x.kids
 |none=>[]
section
variable {p :Prog}
theorem rQ {q:Int→List Int}(m:Int) :∀ (ks:List Int),(∀k∈ks,(q k).count m= [k].count m+ (((q k).map (dA p)).flatten).count m) →
  ((ks.map q).flatten).count m=ks.count m+ ((((ks.map q).flatten).map (dA p)).flatten).count m
 | [],_=>rfl
 | k::ks,h=>by
  have h1:=h k (mem_cons_self ..);have h2:=rQ m ks (fun x hx=>h x (mem_cons_of_mem _ hx));rw [map_cons,flatten_cons,count_append,List.map_append,List.flatten_append,count_append,h1,h2,show k::ks= [k] ++ks from rfl,count_append];omega
theorem aAU (hp:FineP p)(m:Int) :∀ (f:Nat) (a:Int),0≤a→a<p.nodes.length→p.nodes.length-a.toNat≤f→ (pre p f a).count m= [a].count m+ (((pre p f a).map (dA p)).flatten).count m
 |0,a,ha,hn,hf=>by omega
 | f+1,a,ha,hn,hf=>by
  obtain⟨x,hx⟩ :∃x,p.nodes[a.toNat]?=some x:= ⟨_,getElem?_eq_getElem (by omega)⟩;obtain⟨_,_,hks⟩ :=hp.node _ _ hx;have e:pre p (f+1) a=a:: (x.kids.map (pre p f)).flatten:=by rw [pre,hx]
  have ek:dA p a=x.kids:=by unfold dA;rw [hx]
  have h2:=rQ (p:=p) m x.kids (fun k hk=>by
   have:=hks k hk;exact aAU hp m f k (by omega) (by omega) (by omega))
  rw [e,map_cons,flatten_cons,count_append,ek,show a:: (x.kids.map (pre p f)).flatten= [a] ++ (x.kids.map (pre p f)).flatten from rfl,count_append,h2]
theorem aQK (hp:FineP p) :∀ (f:Nat) (a:Int),0≤a→a<p.nodes.length→∀y∈pre p f a,0≤y∧y<p.nodes.length
 |0,a,_,_,y,hy=>by cases hy
 | f +1,a,ha,hn,y,hy=>by
  obtain⟨x,hx⟩ :∃x,p.nodes[a.toNat]?=some x:= ⟨_,getElem?_eq_getElem (by omega)⟩;obtain⟨_,_,hks⟩ :=hp.node _ _ hx;have e:pre p (f+1) a=a:: (x.kids.map (pre p f)).flatten:=by rw [pre,hx]
  rw [e]at hy;rcases List.mem_cons.1 hy with rfl|hy
  ·exact⟨ha,hn⟩
  · obtain⟨l,hl,hy⟩ :=List.mem_flatten.1 hy;obtain⟨k,hk,rfl⟩ :=List.mem_map.1 hl;have:=hks k hk;exact aQK hp f k (by omega) (by omega) y hy
def iV (u:List Bool)(m:Int) :Nat:=if u[m.toNat]?=some true then 1 else 0
theorem gC {lo n:Int}(hlo:0≤lo){m:Int}(hm:0≤m) :∀ {ks:List Int} {u v:List Bool},marks lo n ks u=some v→ks.count m+iV u m=iV v m
 | [],u,v,h=>by cases h;simp
 | k ::ks,u,v,h=>by
  have hk:=aAg h k (mem_cons_self ..);obtain⟨h1,h2⟩ :=aK8 h;have h3:=gC hlo hm h2;rw [←h3,show k::ks= [k] ++ks from rfl,count_append];have hlt:= (List.getElem?_eq_some_iff.1 h1).1;by_cases e:k=m
  · subst e;have a1:iV u k=0:=by unfold iV;rw [h1];rfl
    have a2:iV (u.set k.toNat true) k=1:=by unfold iV;rw [List.getElem?_set_self hlt];rfl
    rw [a1,a2];simp;omega
  · have a1:iV (u.set k.toNat true) m=iV u m:=by unfold iV;rw [List.getElem?_set_ne (by omega)]
    rw [a1,List.count_singleton,if_neg (by simpa using e)];omega
theorem jM {m:Int}(hm:0≤m) :∀ {t:List Node} {i:Nat} {u v:List Bool},cI p i t u=some v→ ((t.map Node.kids).flatten).count m+iV u m=iV v m
 | [],i,u,v,h=>by simp only [cI,Option.some.injEq]at h;subst h;simp
 | x::t,i,u,v,h=>by
  obtain⟨_,w,h1,h2⟩ :=nX h;have h3:=gC (by omega) hm h1;have h4:=jM hm h2;rw [map_cons,flatten_cons,count_append];omega
theorem aE1 {m:Int}:∀ {t:List Node},((t.map Node.kids).flatten).count m≤1→∀ (i j:Nat) (x y:Node),t[i]?=some x→t[j]?=some y→m∈x.kids→m∈y.kids→i=j
 | [],_,i,j,x,y,hx,_,_,_=>by simp at hx
 | z ::t,h,i,j,x,y,hx,hy,mx,my=>by
  rw [map_cons,flatten_cons,count_append]at h;have inT:∀ {i:Nat} {x:Node},t[i]?=some x→m∈x.kids→0< ((t.map Node.kids).flatten).count m:=fun {i x} hx mx=>
   List.count_pos_iff.2 (List.mem_flatten.2 ⟨x.kids,List.mem_map.2 ⟨x,mem_of_getElem? hx,rfl⟩,mx⟩)
  cases i with
  | zero=>
   simp only [getElem?_cons_zero,Option.some.injEq]at hx;subst hx;cases j with
   |zero=>rfl
   | succ j=>
    simp only [getElem?_cons_succ]at hy;have:=inT hy my;have:=List.count_pos_iff.2 mx;omega
  | succ i=>
   simp only [getElem?_cons_succ]at hx;cases j with
   | zero=>
    simp only [getElem?_cons_zero,Option.some.injEq]at hy;subst hy;have:=inT hx mx;have:=List.count_pos_iff.2 my;omega
   | succ j=>
    simp only [getElem?_cons_succ]at hy;rw [aE1 (by omega) i j x y hx hy mx my]
theorem aL4 {m:Int}:∀ {t:List Node} {i:Nat} {x:Node},t[i]?=some x→x.kids.count m≤ ((t.map Node.kids).flatten).count m
 | [],i,x,hx=>by simp at hx
 | z::t,0,x,hx=>by
  simp only [getElem?_cons_zero,Option.some.injEq]at hx;subst hx;rw [map_cons,flatten_cons,count_append];omega
 | z::t,i+1,x,hx=>by
  simp only [getElem?_cons_succ]at hx;have:=aL4 (m:=m) hx;rw [map_cons,flatten_cons,count_append];omega
theorem aL5 {m i:Int}:∀ (L:List Int),(∀j∈L,m∈dA p j→j=i) → ((L.map (dA p)).flatten).count m≤L.count i* (dA p i).count m
 | [],_=>by simp
 | j ::L,h=>by
  have h1:=aL5 L (fun x hx=>h x (mem_cons_of_mem _ hx));rw [map_cons,flatten_cons,count_append,show j::L= [j] ++L from rfl,count_append,Nat.add_mul];by_cases hm:m∈dA p j
  · have:=h j (mem_cons_self ..) hm;subst this;simp;exact h1
  · rw [List.count_eq_zero.2 hm];exact Nat.le_trans (by simpa using h1) (Nat.le_add_left ..)
theorem aYK (hp:FineP p)(hK:∀m:Int,0≤m→p.funs.count m+ ((p.nodes.map Node.kids).flatten).count m≤1){L:List Int}(hin:∀x∈L,0≤x∧x<p.nodes.length)(hL:∀m:Int,L.count m=p.funs.count m+ ((L.map (dA p)).flatten).count m) :∀ (b m:Nat),m≤b→L.count (m:Int) ≤1:=by
 intro b
 induction b with
 | zero=>
  intro m hmb;have hm:m=0:=by omega
  subst hm;have e:=hL ((0:Nat) :Int);have z: ((L.map (dA p)).flatten).count ((0:Nat) :Int) =0:=by
   refine List.count_eq_zero.2 (fun h=>?_);obtain⟨l,hl,hy⟩ :=List.mem_flatten.1 h;obtain⟨j,hj,rfl⟩ :=List.mem_map.1 hl;unfold dA at hy;split at hy
   · rename_i x hx;have:= (hp.node _ _ hx).2.2 _ hy;omega
   ·cases hy
  have:=hK ((0:Nat) :Int) (by omega);omega
 | succ b ih=>
  intro m hmb;have e:=hL (m:Int);have hk:=hK (m:Int) (by omega);by_cases hz: ((L.map (dA p)).flatten).count (m:Int) =0
  ·omega
  · have hpos:=List.count_pos_iff.1 (Nat.pos_of_ne_zero hz);obtain⟨l,hl,hy⟩ :=List.mem_flatten.1 hpos;obtain⟨i,hi,rfl⟩ :=List.mem_map.1 hl;have hir:=hin i hi;obtain⟨x,hx⟩ :∃x,p.nodes[i.toNat]?=some x:= ⟨_,getElem?_eq_getElem (by omega)⟩;have ei:dA p i=x.kids:=by unfold dA;rw [hx]
    rw [ei]at hy;have him:= (hp.node _ _ hx).2.2 _ hy;have hci:L.count i≤1:=by
     have:=ih i.toNat (by omega);rwa [show((i.toNat:Nat) :Int) =i by omega]at this
    have hle:=aL5 (p:=p) (m:= (m:Int)) (i:=i) L (fun j hj hmj=>by
     have hjr:=hin j hj;obtain⟨y,hy'⟩ :∃y,p.nodes[j.toNat]?=some y:= ⟨_,getElem?_eq_getElem (by omega)⟩;have ej:dA p j=y.kids:=by unfold dA;rw [hy']
     rw [ej]at hmj;have:=aE1 (by omega) _ _ y x hy' hx hmj hy;omega)
    rw [ei]at hle;have hkl:=aL4 (m:= (m:Int)) hx;have:L.count i*x.kids.count (m:Int) ≤1*x.kids.count (m:Int) :=Nat.mul_le_mul_right _ hci;omega
theorem lV :∀ (n:Nat) (l:List Nat),l.Nodup→ (∀x∈l,x<n) →l.length≤n
 |0,[],_,_=>by simp
 |0,x::l,_,h=>by have:=h x (mem_cons_self ..);omega
 | n+1,l,hd,h=>by
  by_cases hm:n∈l
  · have h1:=lV n (l.erase n) (hd.erase n) (fun x hx=>by
     have:=h x (List.mem_of_mem_erase hx)
     have hne:x≠n:=fun e=>by
      subst e;exact hd.not_mem_erase hx
     omega)
    rw [List.length_erase_of_mem hm]at h1;omega
  · have:=lV n l hd (fun x hx=>by
     have:=h x hx;have hne:x≠n:=fun e=>hm (e ▸ hx);omega)
    omega
end
theorem aDo {L:List Int}(h:∀a,L.count a≤1) :L.Nodup:=List.nodup_iff_count.2 h
theorem aL6 :∀ (n:Nat) (l:List Int),(∀i:Nat,i<n→ (i:Int) ∈l) →n≤l.length
 |0,l,_=>Nat.zero_le _
 | n+1,l,h=>by
  have h0:=h n (Nat.lt_succ_self n);have h1:=aL6 n (l.erase (n:Int)) (fun i hi=> (List.mem_erase_of_ne (by omega)).2 (h i (by omega)));rw [List.length_erase_of_mem h0]at h1;have:=List.length_pos_of_mem h0;omega
theorem all_in {p:Prog}(hp:FineP p)(hK:∀m:Nat,m<p.nodes.length→p.funs.count (m:Int) + ((p.nodes.map Node.kids).flatten).count (m:Int) =1){L:List Int}(hL:∀m:Int,L.count m=p.funs.count m+ ((L.map (dA p)).flatten).count m) :∀ (b m:Nat),m≤b→m<p.nodes.length→ (m:Int) ∈L:=by
 intro b
 induction b with
 | zero=>
  intro m hmb hm;have e:=hL (m:Int);have hk:=hK m hm;by_cases hz: ((p.nodes.map Node.kids).flatten).count (m:Int) =0
  ·exact List.count_pos_iff.1 (by omega)
  · obtain⟨l,hl,hy⟩ :=List.mem_flatten.1 (List.count_pos_iff.1 (Nat.pos_of_ne_zero hz));obtain⟨x,hx,rfl⟩ :=List.mem_map.1 hl;obtain⟨i,hi⟩ :=List.mem_iff_getElem?.1 hx;have:= (hp.node _ _ hi).2.2 _ hy;omega
 | succ b ih=>
  intro m hmb hm;have e:=hL (m:Int);have hk:=hK m hm;by_cases hz: ((p.nodes.map Node.kids).flatten).count (m:Int) =0
  ·exact List.count_pos_iff.1 (by omega)
  · obtain⟨l,hl,hy⟩ :=List.mem_flatten.1 (List.count_pos_iff.1 (Nat.pos_of_ne_zero hz));obtain⟨x,hx,rfl⟩ :=List.mem_map.1 hl;obtain⟨i,hi⟩ :=List.mem_iff_getElem?.1 hx;have him:= (hp.node _ _ hi).2.2 _ hy;have hiL:=ih i (by omega) (by omega);have: (m:Int) ∈ (L.map (dA p)).flatten:=List.mem_flatten.2 ⟨x.kids,List.mem_map.2 ⟨(i:Int),hiL,by unfold dA;rw [toNat_natCast,hi]⟩,hy⟩;have:=List.count_pos_iff.2 this;exact List.count_pos_iff.1 (by omega)
theorem yI {p:Prog}(hs:aH p=true)(hf:aO p=true) : ((p.funs.map (pre p p.nodes.length)).flatten).Nodup∧ ((p.funs.map (pre p p.nodes.length)).flatten).length=p.nodes.length∧ (∀x∈ (p.funs.map (pre p p.nodes.length)).flatten,0≤x∧x<p.nodes.length) ∧
  (∀ (i:Nat) (x:Node),p.nodes[i]?=some x→bD p x=true) :=by
 have hp:=uN hs hf;simp only [aO,and_eq_true]at hf;obtain⟨_,hf⟩ :=hf;split at hf
 · rename_i u hu;unfold allT at hf;split at hf
   · rename_i v hv
     have hK:∀m:Int,0≤m→p.funs.count m+ ((p.nodes.map Node.kids).flatten).count m≤1:=fun m hm=>by
      have h1:=gC (by omega) hm hu;have h2:=jM hm hv;have h3:iV v m≤1:=by unfold iV;split<;>omega
      omega
     have hin:∀x∈ (p.funs.map (pre p p.nodes.length)).flatten,0≤x∧x<p.nodes.length:=fun x hx=>by
      obtain⟨l,hl,hy⟩ :=List.mem_flatten.1 hx;obtain⟨k,hk,rfl⟩ :=List.mem_map.1 hl;have:=hp.funs k hk;exact aQK hp _ k this.1 this.2 x hy
     have hL:∀m:Int,((p.funs.map (pre p p.nodes.length)).flatten).count m=p.funs.count m+ ((((p.funs.map (pre p p.nodes.length)).flatten).map (dA p)).flatten).count m:=fun m=>rQ m p.funs (fun k hk=>by
      have:=hp.funs k hk;exact aAU hp m _ k this.1 this.2 (by omega))
     have hd: ((p.funs.map (pre p p.nodes.length)).flatten).Nodup:=aDo (fun a=>by
      by_cases ha:a∈ (p.funs.map (pre p p.nodes.length)).flatten
      · have hr:=hin a ha;have:=aYK hp hK hin hL a.toNat a.toNat (Nat.le_refl _);rwa [show((a.toNat:Nat) :Int) =a by omega]at this
      ·rw [List.count_eq_zero.2 ha];omega)
     refine⟨hd,?_,hin,fun i x hx=> (rP hv i x hx).1⟩;have hd2: (((p.funs.map (pre p p.nodes.length)).flatten).map Int.toNat).Nodup:=by
      rw [List.nodup_iff_pairwise_ne]at hd ⊢;refine List.pairwise_map.2 (hd.imp_of_mem (fun {a b} ha hb hne e=>?_));have:=hin a ha;have:=hin b hb;exact hne (by omega)
     have:=lV p.nodes.length _ hd2 (fun x hx=>by
      obtain⟨y,hy,rfl⟩ :=List.mem_map.1 hx;have:=hin y hy;omega)
     rw [List.length_map]at this;refine Nat.le_antisymm this (aL6 _ _ (fun i hi=>all_in hp (fun m hm=>?_) hL i i (Nat.le_refl _) hi));have h1:=gC (m:= (m:Int)) (by omega) (by omega) hu;have h2:=jM (m:= (m:Int)) (by omega) hv;have hl1:=jZ hu;have hl2:=rO hv;rw [List.length_replicate]at hl1;have h3:iV (replicate p.nodes.length false) (m:Int) =0:=by
      unfold iV;rw [toNat_natCast,List.getElem?_replicate,if_pos hm];rfl
     have h4:iV v (m:Int) =1:=by
      unfold iV;have hlt:m<v.length:=by omega
      have:=List.all_eq_true.1 hf _ (List.getElem_mem hlt);rw [toNat_natCast,getElem?_eq_getElem hlt,this];rfl
     omega
   ·cases hf
 ·cases hf
def gZ (s:aB) :List Con→Int→Int
 | [],_=> -1
 |c::t,i=>if c.name=s then i else gZ s t (i+1)
theorem nK (s:aB) :∀ (l:List Con) (i:Int),0≤i→gZ s l i= -1∨ (i≤gZ s l i∧gZ s l i<i+l.length∧∃d,l[(gZ s l i-i).toNat]?=some d∧d.name=s)
 | [],i,h=>.inl rfl
 | c ::t,i,h=>by
  simp only [gZ];split
  · rename_i e;exact .inr ⟨by omega,by simp;omega,c,by simp,e⟩
  · rcases nK s t (i+1) (by omega)with g| ⟨g1,g2,d,g3,g4⟩
    ·exact .inl g
    · refine .inr ⟨by omega,by rw [length_cons];omega,d,?_,g4⟩;rw [show(gZ s t (i+1) -i).toNat= (gZ s t (i+1) - (i+1)).toNat+1 by omega,getElem?_cons_succ];exact g3
theorem aK9 (s:aB) :bM (length s) (aA s) (length s) (aA s) =true:=by rw [hU];simp
def aXq (x:Node) :Prop:=x.kids.length<1000000∧bQ x.pats<1000000
structure FitP (q:Prog) :Prop where
 nodes:q.nodes.length≤1000000
 funs:q.funs.length<1000000
 cons:q.cons.length<1000000
 node:∀x∈q.nodes,aXq x
theorem pA {f:Nat}{args:List AV}{v v':AV}(h:Pure PP f args v)(hv:∀ (E:Emb) (cv:Value),VR E v cv→VR E v' cv) :Pure PP f args v':=fun hh=>by
 obtain⟨g,hg,he⟩ :=h hh;exact⟨g,hg,aN2 he hv⟩
mutual
theorem aAV (mc:List (Int×Int)) :∀q:Pat,dM (vU mc q) =dM q
 | .mk f n t ps=>by rw [vU,dM,dM,aDp mc ps]
theorem aDp (mc:List (Int×Int)) :∀ps:List Pat,bQ (fN mc ps) =bQ ps
 | [] =>rfl
 |q::ps=>by rw [fN,bQ,bQ,aAV mc q,aDp mc ps]
end
def FunD.nm :FunD→aB
 | .mk n _ _ _ _=>n
def aQL (l:List aB)(s:aB) :Nat→Int
 |0=> -1
 |i+1=>if l[i]?=some s then(i:Int)else aQL l s i
def aLa (l:List aB)(s:aB) :Int:=aQL l s l.length
def aLb (op:Int)(s:aB)(ps:List Pat)(k:Nat) :List aB:=
 if op=5∨op=27 then [s]else if op=7 then(if k=1 then [s]else [])else if op=15 then(match k with|0=>[] |j+1=>match ps[j]? with|some p=>aQC p|none=>[])else []
structure LFun where
 name:aB
 body:Int
def LFun.av (f:LFun) :AV:=.agg [aD f.name,.int .i64 f.body]
structure LUnit where
 name:aB
 cons:List Con
 funs:List LFun
 needs:List aB
 nodes:List Node
def LUnit.av (u:LUnit) :AV:=.agg [aD u.name,.ilst 2 (map Con.av u.cons) false,.ilst 2 (map LFun.av u.funs) false,.ilst 1 (map aD u.needs) false,.ilst 4 (map Node.av u.nodes) false]
structure LPlace where
 nodes:Int
 funs:Int
def LPlace.av (p:LPlace) :AV:=.agg [.int .i64 p.nodes,.int .i64 p.funs]
theorem aDq {E:Emb}{e:Nat}{ex:Bool}:∀v,VR E .nils v→VR E (.ilst e [] ex) v:=fun v h=>by
 simp only [VR]at h;simp only [VR];exact⟨[],VRs.nil _,fun _ hu=>by(cases hu),.inl ⟨rfl,none,0,h,fun _=>rfl,fun _=>rfl⟩⟩
theorem aL7 (o n:Int) :VW [.agg [.int .i64 o,.int .i64 n,.nils,.nils]] (map Node.av [Node.mk o n [] []]) :=fun E vs h=>by
 simp only [map_cons,map_nil,Node.av];obtain⟨v,vs',rfl,h1,h2⟩ :=h.cons_inv;refine VRs.cons ?_ h2;simp only [VR]at h1 ⊢;obtain⟨cs,rfl,h3⟩ :=h1;obtain⟨a1,w1,rfl,c1,h3⟩ :=h3.cons_inv;obtain⟨a2,w2,rfl,c2,h3⟩ :=h3.cons_inv;obtain⟨a3,w3,rfl,c3,h3⟩ :=h3.cons_inv;obtain⟨a4,w4,rfl,c4,h3⟩ :=h3.cons_inv;exact⟨_,rfl,VRs.cons c1 (VRs.cons c2 (VRs.cons (aDq _ c3) (VRs.cons (by simp only [Pats.av];exact aDq _ c4) h3)))⟩
theorem aIV :∀n:Nat,hJ [AV.str 0 0] n=map aD (replicate n ([] :aB))
 |0=>rfl
 |n+1=>by rw [hJ,aIV n];rfl
theorem uO :∀l:List aB,cA (map aD l) =true
 | [] =>rfl
 |s::l=>by rw [map_cons,cA,uO l];rfl
theorem aE2 :∀l:List AV,lE false 1 l.length l=l
 | [] =>rfl
 | a::l=>by
  rw [length_cons,lE];simp only [cond,List.headD_cons,List.drop_succ_cons,List.drop_zero];rw [aE2 l]
theorem aN4 (l:List AV) :getCells (putCells .leaf 0 l) 0 l.length=some l:=qW l _ 0 (fun j hj=>by
 rw [bX,if_pos (by omega),Nat.zero_add])
theorem aQM (n:Nat) : (map aD (replicate n ([] :aB))).length=n:=by simp
theorem aQN (n:Nat) :getCells (putCells .leaf 0 (map aD (replicate n ([] :aB)))) 0 (n*1) =some (map aD (replicate n ([] :aB))) :=by
 have:=aN4 (map aD (replicate n ([] :aB)));rw [aQM]at this;rw [Nat.mul_one];exact this
theorem aQO (n:Nat) :lE false 1 n (map aD (replicate n ([] :aB))) =map aD (replicate n ([] :aB)) :=by
 have:=aE2 (map aD (replicate n ([] :aB)));rwa [aQM]at this
theorem aL8 {α β:Type}[DecidableEq α]{f:α→AV}{g:β→AV}(hf:aHA f){k:α}{l:List (α×β)}(h:dG k l=none)(z:β) :
  aAL (aJ f g 0 l) (length l) (f k) (g z) =some (.tup [g z,.int .i64 ((length l:Nat) :Int)],aJ f g 0 (bK k z l),length (bK k z l)) :=by
 unfold aAL;rw [qY hf k l 0 0 h];obtain⟨a,b⟩ :=uD f g k z l 0 h;simp only [Nat.zero_add]at a;simp only [a,b]
theorem aL9 {α β:Type}[DecidableEq α]{k:α}{l:List (α×β)}(h:dG k l=none)(z v:β) : (bK k z l).length= (bK k v l).length:=by
 rw [(uD (fun _=>nils) (fun _=>nils) k z l 0 h).2,(uD (fun _=>nils) (fun _=>nils) k v l 0 h).2]
theorem aE3 {α β:Type}[DecidableEq α]{f:α→AV}{g:β→AV}{k:α}(z v:β) :∀ (l:List (α×β)) (n:Nat),dG k l=none→hY (g v) (n+l.length) (aJ f g n (bK k z l)) =some (aJ f g n (bK k v l))
 | [],n,_=>by simp only [bK,aJ,hY,List.length_nil,Nat.add_zero,Nat.beq_refl,cond]
 | e ::l,n,h=>by
  unfold dG at h;split at h
  ·cases h
  · rename_i hk;have ih:=aE3 (f:=f) (g:=g) z v l (n+1) h;simp only [bK,if_neg hk,aJ,hY,length_cons];have:Nat.beq n (n+ (l.length+1)) =false:=by
     cases q:Nat.beq n (n+ (l.length+1))with
     |false=>rfl
     |true=>have:=Nat.eq_of_beq_eq_true q;omega
    rw [this];simp only [cond];rw [show n+ (l.length+1) =n+1+l.length by omega,ih]
theorem aIW {α β:Type}[DecidableEq α]{f:α→AV}{g:β→AV}{k:α}{l:List (α×β)}(h:dG k l=none)(z v:β) :
  hY (g v) (((length l:Nat) :Int)).toNat (aJ f g 0 (bK k z l)) =some (aJ f g 0 (bK k v l)) :=by
 have:=aE3 (f:=f) (g:=g) z v l 0 h;rwa [Nat.zero_add]at this
theorem aN5 {f:Nat}{args args':List AV}{v:AV}(h:Pure PP f args v)(hl:args'.length=args.length)(ha:∀ (E:Emb) (i:Nat) (a a':AV) (c:Value),args[i]?=some a→args'[i]?=some a'→VR E a' c→VR E a c) :Pure PP f args' v:=fun hh=>by
 obtain⟨g,hg,he⟩ :=h hh;simp only [dR,cM]at hg;split at hg
 · rename_i fn hfn;split at hg
   · rename_i c hc;cases hg;refine⟨_,by simp only [dR,cM,hfn,hc];rfl,?_⟩;intro hm E fr ccs w hfr fs r cl base;refine he hm E fr ccs w ?_ fs r cl base;refine⟨hfr.fn,⟨by have:=hfr.tm.1;rw [hl]at this;exact this,fun t a e=>?_⟩,hfr.todo,hfr.defers,hfr.mode,hfr.kind,hfr.round⟩;have ht:t<args.length∧args[t]?=some a:=by
      have e': (dD .leaf 0 args).at t=some a:=e;unfold dD at e';rw [bX]at e';split at e'
      ·rename_i hlt;exact⟨hlt,e'⟩
      ·cases e'
     have ht':args'[t]?=some args'[t] :=getElem?_eq_getElem (by omega)
     obtain⟨cv,g1,g2⟩ :=hfr.tm.2 t args'[t] (by
      show(dD .leaf 0 args').at t=_;unfold dD;rw [bX,if_pos (by omega)];exact ht')
     exact⟨cv,g1,ha E t _ _ cv ht.2 ht' g2⟩
   ·cases hg
 ·cases hg
def aVn(a:LUnit):TS:=dL PP 39 [(.agg [(aD a.name),(iC a.cons),(.ilst 2 (map LFun.av a.funs) false),(iS a.needs),(iN a.nodes)])] [] 0
def aGw(a:LUnit)(c:Int)(b:List aB):TS:=⟨(tf 39 22 [kp 1 0,(2,.nils),(3,(.gl 1 1 0 b.length false)),(4,(nI c))] [kc f39 116,kl f39 116,.inBlock 0,kc f39 15]),[],[oC 0 [(aD a.name),(iC a.cons),(.ilst 2 (map LFun.av a.funs) false),(iS a.needs),(iN a.nodes)],oL 1 1 (map aD b)],2⟩
def aAh(a:List aB)(b:Int):TS:=⟨(tf 115 18 [(0,(iS a)),(2,(bV false)),(3,(nI b))] [kc f115 52,kl f115 52,.inBlock 0,kc f115 7]),[],[],0⟩
def aVo(a:List LUnit):TS:=dL PP 72 [(.ilst 5 (map LUnit.av a) false)] [] 0
def aGx(b:List LUnit)(c:Int)(a:List aB):TS:=⟨(tf 72 19 [(0,(.ilst 5 (map LUnit.av b) false)),(2,.nils),(3,(.gl 0 1 0 a.length false)),(4,(nI c))] [kc f72 116,kl f72 116,.inBlock 0,kc f72 15]),[],[oL 0 1 (map aD a)],1⟩
def aVp(a:List LUnit)(b:aB):TS:=dL PP 73 [(.ilst 5 (map LUnit.av a) false),(aD b)] [] 0
def aGy(a:List LUnit)(b:aB)(c:Int):TS:=⟨(tf 73 20 [(0,(.ilst 5 (map LUnit.av a) false)),(1,(aD b)),(4,(nI 0)),(5,(nI c))] [kc f73 52,kl f73 52,.inBlock 0,kc f73 7]),[],[],0⟩
def aVq(a:LUnit):TS:=dL PP 36 [(.agg [(aD a.name),(iC a.cons),(.ilst 2 (map LFun.av a.funs) false),(iS a.needs),(iN a.nodes)])] [] 0
def aGz(a:LUnit)(b:Int):TS:=⟨(tf 36 56 [kp 1 0,(2,(bV false)),(3,(nI b))] [kc f36 116,kl f36 116,.inBlock 0,kc f36 15]),[],[oC 0 [(aD a.name),(iC a.cons),(.ilst 2 (map LFun.av a.funs) false),(iS a.needs),(iN a.nodes)]],1⟩
def aGA(a:LUnit)(b:Int):TS:=⟨(tf 36 56 [kp 1 0,(2,(bV false)),(4,(nI b))] [kc f36 244,kl f36 244,.inBlock 2,kc f36 31]),[],[oC 0 [(aD a.name),(iC a.cons),(.ilst 2 (map LFun.av a.funs) false),(iS a.needs),(iN a.nodes)]],1⟩
def aB6(a:List LUnit)(b:Int):TS:=⟨(tf 13 23 [(0,(.ilst 5 (map LUnit.av a) false)),(2,(bV false)),(3,(nI b))] [kc f13 52,kl f13 52,.inBlock 0,kc f13 7]),[],[],0⟩
def aGB(a:List LUnit)(b:Int):TS:=⟨(tf 18 19 [(0,(.ilst 5 (map LUnit.av a) false)),(2,(bV false)),(3,(nI b))] [kc f18 116,kl f18 116,.inBlock 0,kc f18 15]),[],[],0⟩
def aSF (a:LUnit):=(tT 0 (aVn a)<|.i [rn 16,.nilL 3 1] []<|gu 0 1 (map aD ([] :List aB))<|gs 0 3 (.gl 1 1 0 ([] :List aB).length false)<|.W 0 2 [0,1] (aGw a 0 ([] :List aB))) ⟨kk,trivial⟩
def aQP(a:LUnit)(b:Int)(c:List aB):=tT 0 (aGw a b c)<|gl 6 LFun.av a.funs<|gd 2 9 (b< (a.funs.length:Int)) (gX LFun.av 9 a.funs b<|fun d=>ga 3 aD c [d.name]<|gw 6 11 (b+1)<|.W 3 4 [0,3] (aGw a (b+1) (c++ [d.name])))<|gz 8 2 1 1 aD c false<|gE 0 2 (iS c)
def aSG:=fun a b c d e f g i j=>aQP a b c|>.t e d f g i j ⟨kk,trivial⟩
def aSH:=fun a b c d=>aQP a b c|>.f d tv
def aN6 (a:List aB):=(tT 0 (start PP 115 [(iS a)])<|.W 11 0 [] (aAh a 0)) tv
def aLc(a:List aB)(b:Int):=tT 0 (aAh a b)<|gl 5 aD a<|gd 2 7 (b< (a.length:Int)) (gX aD 8 a b<|fun c=>eS 1 86 [(aD c)]<|fun d=>.b 2 15 (!d) (gE 6 0 (bV false))<|gw 6 9 (b+1)<|.W 3 0 [] (aAh a (b+1)))<|eS 5 71 [(iS a)]<|fun c=>gE 3 0 (bV c)
def aN7:=fun a b c d e f g i j=>aLc a b|>.t e c f g d i|>.t j tv
def aN8:=fun a b c d e f g i j k=>aLc a b|>.t e c f g d i|>.f j k tv
def aN9:=fun a b c d e=>aLc a b|>.f d c e tv
def aSI (a:List LUnit):=(tT 0 (aVo a)<|.i [rn 15,.nilL 3 1] []<|gu 0 0 (map aD ([] :List aB))<|gs 0 3 (.gl 0 1 0 ([] :List aB).length false)<|.W 0 1 [0] (aGx a 0 ([] :List aB))) ⟨kk,trivial⟩
def aQQ(a:List LUnit)(b:Int)(c:List aB):=tT 0 (aGx a b c)<|gl 5 LUnit.av a<|gd 2 8 (b< (a.length:Int)) (gX LUnit.av 8 a b<|fun d=>.y fun e:List aB=>gp 1 39 [(.agg [(aD d.name),(iC d.cons),(.ilst 2 (map LFun.av d.funs) false),(iS d.needs),(iN d.nodes)])] (iS e)<|ga 0 aD c e<|gw 6 10 (b+1)<|.W 3 2 [1] (aGx a (b+1) (c++e)))<|gz 8 2 0 1 aD c false<|gE 0 1 (iS c)
def aSJ:=fun a b c d e f g i j k l=>aQQ a b c|>.t f d g i e j k l ⟨kk,trivial⟩
def aSK:=fun a b c d=>aQQ a b c|>.f d tv
def aSL (a:List LUnit)(b:aB):=(tT 0 (aVp a b)<|.W 11 0 [] (aGy a b 0)) tv
def aLd(b:List LUnit)(d:aB)(a:Int):=tT 0 (aGy b d a)<|gl 5 LUnit.av b<|gd 2 9 (a< (b.length:Int)) (gX LUnit.av 8 b a<|fun c=>.y fun e:List aB=>gp 1 39 [(.agg [(aD c.name),(iC c.cons),(.ilst 2 (map LFun.av c.funs) false),(iS c.needs),(iN c.nodes)])] (iS e)<|eS 1 111 [(iS e),(aD d)]<|fun f=>.b 1 18 f (gE 7 0 (nI a))<|gw 6 11 (a+1)<|.W 3 0 [] (aGy b d (a+1)))<|gE 7 0 (nI (-1))
def aSM:=fun a b c d e f g i j k l m=>aLd a b c|>.t g d i j e k f l|>.t m tv
def aSN:=fun a b c d e f g i j k l m n=>aLd a b c|>.t g d i j e k f l|>.f m n tv
def aSO:=fun a b c d=>aLd a b c|>.f d tv
def aQR(a b c:Int):=tT 0 (start PP 116 [(nI a),(nI b),(nI c)])<|gd 10 10 (a≥b) (gE 7 0 (bV (decide (a≤c))))<|gE 7 0 (bV false)
def aOa:=fun a b c d=>aQR a b c|>.t d tv
def aOb:=fun a b c d=>aQR a b c|>.f d tv
def aGC(a:LUnit):=tT 0 (aVq a)<|gl 10 LFun.av a.funs<|gd 2 9 ((a.funs.length:Int) >30) (gE 18 1 (bV false))<|gl 2 aD a.needs<|gd 3 15 ((a.needs.length:Int) >25) (gE 12 1 (bV false))<|gd 6 20 ((a.name.length:Int) >30) (gE 6 1 (bV false))<|.W 9 1 [0] (aGz a 0)
def aSP:=fun a b=>aGC a|>.t b tv
def aSQ:=fun a b c=>aGC a|>.f b|>.t c tv
def aSR:=fun a b c d=>aGC a|>.f b|>.f c|>.t d tv
def aSS:=fun a b c d=>aGC a|>.f b|>.f c|>.f d tv
def aLe(a:LUnit)(b:Int):=tT 0 (aGz a b)<|gl 6 LFun.av a.funs<|gd 2 25 (b< (a.funs.length:Int)) (gX LFun.av 9 a.funs b<|fun c=>gd 5 35 ((c.name.length:Int) >30) (gE 6 1 (bV false))<|gw 6 27 (b+1)<|.W 3 1 [0] (aGz a (b+1)))<|.W 9 1 [0] (aGA a 0)
def aST:=fun a b c d e f g=>aLe a b|>.t d c e f|>.t g tv
def aSU:=fun a b c d e f g i=>aLe a b|>.t d c e f|>.f g i tv
def aSV:=fun a b c=>aLe a b|>.f c tv
def aLf(a:LUnit)(b:Int):=tT 0 (aGA a b)<|gl 6 aD a.needs<|gd 2 40 (b< (a.needs.length:Int)) (gX aD 9 a.needs b<|fun c=>gd 4 49 ((c.length:Int) >30) (gE 6 1 (bV false))<|gw 6 42 (b+1)<|.W 3 1 [0] (aGA a (b+1)))<|eS 9 50 [(.agg [(iN a.nodes),.nils,(nI 0),(iC a.cons)])]<|fun c=>gE 3 1 (bV c)
def aSW:=fun a b c d e f g=>aLf a b|>.t d c e f|>.t g tv
def aSX:=fun a b c d e f g i=>aLf a b|>.t d c e f|>.f g i tv
def aSY:=fun a b c d e=>aLf a b|>.f d c e tv
def aQS (a:List LUnit):=(tT 0 (start PP 13 [(.ilst 5 (map LUnit.av a) false)])<|.W 11 0 [] (aB6 a 0)) tv
def aB7(a:List LUnit)(b:Int):=tT 0 (aB6 a b)<|gl 5 LUnit.av a<|gd 2 8 (b< (a.length:Int)) (gd 4 11 (b≤10) (gX LUnit.av 8 a b<|fun c=>eS 1 36 [(.agg [(aD c.name),(iC c.cons),(.ilst 2 (map LFun.av c.funs) false),(iS c.needs),(iN c.nodes)])]<|fun d=>.b 2 19 (!d) (gE 6 0 (bV false))<|gw 6 13 (b+1)<|.W 3 0 [] (aB6 a (b+1)))<|gl 5 LUnit.av a<|gE 4 0 (bV (decide ((a.length:Int) ≤11))))<|gl 9 LUnit.av a<|gE 4 0 (bV (decide ((a.length:Int) ≤11)))
def aQT:=fun a b c d e f g i j k=>aB7 a b|>.t e|>.t f c g i d j|>.t k tv
def aQU:=fun a b c d e f g i j k l=>aB7 a b|>.t e|>.t f c g i d j|>.f k l tv
def aQV:=fun a b c d=>aB7 a b|>.t c|>.f d tv
def aIX:=fun a b c=>aB7 a b|>.f c tv
def aMa(a:List LUnit):=tT 0 (start PP 18 [(.ilst 5 (map LUnit.av a) false)])<|gl 8 LUnit.av a<|gd 2 6 ((a.length:Int) >10) (gE 6 0 (bV false))<|.W 9 0 [] (aGB a 0)
def aSZ:=fun a b=>aMa a|>.t b tv
def aS0:=fun a b=>aMa a|>.f b tv
def aGD(a:List LUnit)(b:Int):=tT 0 (aGB a b)<|gl 5 LUnit.av a<|gd 2 10 (b< (a.length:Int)) (gX LUnit.av 8 a b<|fun c=>eS 1 37 [(.agg [(aD c.name),(iC c.cons),(.ilst 2 (map LFun.av c.funs) false),(iS c.needs),(iN c.nodes)])]<|fun d=>.b 2 18 (!d) (gE 6 0 (bV false))<|gw 6 12 (b+1)<|.W 3 0 [] (aGB a (b+1)))<|gE 7 0 (bV true)
def aS1:=fun a b c d e f g i j=>aGD a b|>.t e c f g d i|>.t j tv
def aS2:=fun a b c d e f g i j k=>aGD a b|>.t e c f g d i|>.f j k tv
def aS3:=fun a b c=>aGD a b|>.f c tv
theorem uP (u:LUnit) :keyless u.av=true:=by simp [LUnit.av,keyless,keylessL,aD]
def eZ (s:aB) :List aB→Nat→Int
 | [],_=> -1
 |x::l,i=>if x=s then(i:Int)else eZ s l (i+1)
theorem aLg (n lo hi:Int) :Pure PP 116 [.int .i64 n,.int .i64 lo,.int .i64 hi] (.bool (cS n lo hi)) :=by
 refine aV (by kernel_rfl) rfl rfl ?_;unfold cS;by_cases h:lo≤n
 · have e: (decide (lo≤n) &&decide (n≤hi)) =decide (n≤hi) :=by simp [h]
   rw [e];exact aOa n lo hi (by simpa using h)
 · have e: (decide (lo≤n) &&decide (n≤hi)) =false:=by simp [h]
   rw [e];exact aOb n lo hi (by simpa using h)
def aE (u:LUnit) :List aB:=u.funs.map LFun.name
theorem aIY (u:LUnit)(hl:u.funs.length≤1000) :∀ (t:List LFun) (i:Nat) (acc:List aB),u.funs.drop i=t→acc.length=i→Ends PP 0 (aGw u (i:Int) acc).as (.ret (.ilst 1 (map aD (acc++t.map LFun.name)) false)) (aF [] 0)
 | [],i,acc,h,ha=>by
  have:=bE h;rw [map_nil,List.append_nil];exact aSH u i acc sd
 | c::t,i,acc,h,ha=>by
  obtain⟨q1,q2,q3⟩ :=bB h;have hi:= (List.getElem?_eq_some_iff.1 q1).1;refine(aSG u i acc c sd sd sd (by simp;omega) sd).ends ?_;have:=aIY u hl t (i+1) (acc++ [c.name]) q2 (by simp [ha]);rw [List.append_assoc]at this;exact this
theorem aAi (u:LUnit)(hl:u.funs.length≤1000) :Pure PP 39 [LUnit.av u] (.ilst 1 (map aD (aE u)) false) :=
 cJ (s:=aVn u) (by kernel_rfl) (by kernel_rfl) (by simp [keylessL,uP]) (by simp [keyless]) ((aSF u).ends (aIY u hl u.funs 0 [] rfl rfl))
def eK (l:List aB) :Bool:=l.all nH&&bU l
theorem aIZ (l:List aB)(hl:l.length<1000000) :∀ (t:List aB) (i:Nat),l.drop i=t→Ends PP 0 (aAh l (i:Int)).as (.ret (.bool (t.all nH&&bU l))) (aF [] 0)
 | [],i,h=>by
  have:=bE h;rw [all_nil,Bool.true_and];exact aN9 l i _ sd (rC l hl)
 | c::t,i,h=>by
  obtain⟨q1,q2,q3⟩ :=bB h;have hn:=aIK c;rw [all_cons];cases e:nH c with
  |false=>rw [e]at hn;exact aN7 l i c false sd sd sd hn rfl
  |true=>rw [e]at hn;rw [Bool.true_and];exact(aN8 l i c true sd sd sd hn rfl sd).ends (aIZ l hl t (i+1) q2)
theorem aBC (l:List aB)(hl:l.length<1000000) :Pure PP 115 [.ilst 1 (map aD l) false] (.bool (eK l)) :=
 aV (by kernel_rfl) rfl rfl ((aN6 l).ends (aIZ l hl l 0 rfl))
def aX (l:List LUnit) :List aB:= (l.map aE).flatten
theorem pC (u:LUnit)(l:List LUnit) :aX (u::l) =aE u++aX l:=rfl
structure FewU (u:LUnit) :Prop where
 f:u.funs.length≤30
 n:u.needs.length≤25
 p:aH ⟨u.nodes,[],0,u.cons⟩ =true
 nm:∀f∈u.funs,f.name.length≤30
 nd:∀s∈u.needs,s.length≤30
theorem aI0 (l:List LUnit)(hl:l.length≤11)(hu:∀u∈l,u.funs.length≤30) :∀ (t:List LUnit) (i:Nat) (acc:List aB),l.drop i=t→acc.length≤30*i→Ends PP 0 (aGx l (i:Int) acc).as (.ret (.ilst 1 (map aD (acc++aX t)) false)) (aF [] 0)
 | [],i,acc,h,ha=>by
  have:=bE h;rw [show aX [] = []from rfl,List.append_nil];exact aSK l i acc sd
 | u::t,i,acc,h,ha=>by
  obtain⟨q1,q2,q3⟩ :=bB h;have hi:= (List.getElem?_eq_some_iff.1 q1).1;have hf:=hu u (mem_of_getElem? q1);have hn: (aE u).length≤30:=by simp [aE];omega
  refine(aSJ l i acc u (aE u) sd sd sd (aAi u (by omega)) (by simp;omega) sd).ends ?_;have:=aI0 l hl hu t (i+1) (acc++aE u) q2 (by simp;omega);rw [List.append_assoc]at this;exact this
theorem aE4 (l:List LUnit)(hl:l.length≤11)(hu:∀u∈l,u.funs.length≤30) :Pure PP 72 [.ilst 5 (map LUnit.av l) false] (.ilst 1 (map aD (aX l)) false) :=
 cJ (s:=aVo l) (by kernel_rfl) (by kernel_rfl) (by simp [keylessL,keyless]) (by simp [keyless]) ((aSI l).ends (aI0 l hl hu l 0 [] rfl (by simp)))
def cF (s:aB) :List LUnit→Nat→Int
 | [],_=> -1
 |u::l,i=>if aQ (aE u) s=true then(i:Int)else cF s l (i+1)
theorem aI1 (l:List LUnit)(s:aB)(hl:l.length≤11)(hu:∀u∈l,u.funs.length≤30) :∀ (t:List LUnit) (i:Nat),l.drop i=t→Ends PP 0 (aGy l s (i:Int)).as (.ret (.int .i64 (cF s t i))) (aF [] 0)
 | [],i,h=>by
  have:=bE h;exact aSO l s i sd
 | u::t,i,h=>by
  obtain⟨q1,q2,q3⟩ :=bB h;have hf:=hu u (mem_of_getElem? q1);have hh:=oW (aE u) s (by simp [aE];omega);rw [cF];cases e:aQ (aE u) s with
  |true=>rw [e]at hh;rw [if_pos rfl];exact aSM l s i u (aE u) true sd sd sd (aAi u (by omega)) hh rfl
  |false=>rw [e]at hh;rw [if_neg (by simp)];exact(aSN l s i u (aE u) false sd sd sd (aAi u (by omega)) hh rfl sd).ends (aI1 l s hl hu t (i+1) q2)
theorem aDr (l:List LUnit)(s:aB)(hl:l.length≤11)(hu:∀u∈l,u.funs.length≤30) :Pure PP 73 [.ilst 5 (map LUnit.av l) false,aD s] (.int .i64 (cF s l 0)) :=
 cJ (s:=aVp l s) (by kernel_rfl) (by kernel_rfl) (by simp [keylessL,keyless,aD]) (by simp [keyless]) ((aSL l s).ends (aI1 l s hl hu l 0 rfl))
theorem aOc {f:Nat}{a a' v:AV}(h:Pure PP f [a] v)(ha:∀ (E:Emb) (c:Value),VR E a' c→VR E a c) :Pure PP f [a'] v:=
 aN5 h rfl (fun E i x x' c h1 h2 hv=>by
  cases i with
  |zero=>simp only [getElem?_cons_zero,Option.some.injEq]at h1 h2;subst h1 h2;exact ha E c hv
  |succ i=>simp at h1)
theorem aOd {E:Emb}{ns:List Node}{cs:List Con}{c:Value}(h:VR E (.agg [.ilst 4 (map Node.av ns) false,.nils,.int .i64 0,.ilst 2 (map Con.av cs) false]) c) :VR E (Prog.av ⟨ns,[],0,cs⟩) c:=by
 simp only [Prog.av,VR]at h ⊢;obtain⟨ws,rfl,h5⟩ :=h;obtain⟨a1,w1,rfl,c1,h5⟩ :=h5.cons_inv;obtain⟨a2,w2,rfl,c2,h5⟩ :=h5.cons_inv;exact⟨_,rfl,VRs.cons c1 (VRs.cons (aDq _ c2) h5)⟩
def aDs (u:LUnit) :Prog:= ⟨u.nodes,[],0,u.cons⟩
def rR (u:LUnit) :Bool:=decide (u.funs.length≤30) &&decide (u.needs.length≤25) &&decide (u.name.length≤30) &&u.funs.all (fun f=>decide (f.name.length≤30)) &&u.needs.all (fun s=>decide (s.length≤30)) &&aH (aDs u)
theorem aLh {u:LUnit}(h:rR u=true) :FewU u:=by
 simp only [rR,and_eq_true,decide_eq_true_eq]at h;obtain⟨⟨⟨⟨⟨h1,h2⟩,h3⟩,h4⟩,h5⟩,h6⟩ :=h;exact⟨h1,h2,h6,fun f hf=>by simpa using List.all_eq_true.1 h4 f hf,fun s hs=>by simpa using List.all_eq_true.1 h5 s hs⟩
theorem aVr (u:LUnit)(hn:u.needs.length≤25) :∀ (t:List aB) (i:Nat),u.needs.drop i=t→Ends PP 0 (aGA u (i:Int)).as (.ret (.bool (t.all (fun s=>decide (s.length≤30)) &&aH (aDs u)))) (aF [] 0)
 | [],i,h=>by
  have:=bE h;rw [all_nil,Bool.true_and];exact aSY u i _ sd (aOc (aBO (aDs u)) (fun E c h=>aOd h))
 | s ::t,i,h=>by
  obtain⟨q1,q2,q3⟩ :=bB h;by_cases hs:s.length≤30
  · rw [all_cons,decide_eq_true hs,Bool.true_and];exact(aSX u i s sd sd sd (by simp;omega) sd).ends (aVr u hn t (i+1) q2)
  · rw [all_cons,decide_eq_false hs,Bool.false_and,Bool.false_and];exact aSW u i s sd sd sd (by simp;omega)
theorem aVs (u:LUnit)(hf:u.funs.length≤30)(hn:u.needs.length≤25) :∀ (t:List LFun) (i:Nat),u.funs.drop i=t→Ends PP 0 (aGz u (i:Int)).as (.ret (.bool (t.all (fun f=>decide (f.name.length≤30)) &&u.needs.all (fun s=>decide (s.length≤30)) &&aH (aDs u)))) (aF [] 0)
 | [],i,h=>by
  have:=bE h;rw [all_nil,Bool.true_and];exact(aSV u i sd).ends (aVr u hn u.needs 0 rfl)
 | f ::t,i,h=>by
  obtain⟨q1,q2,q3⟩ :=bB h;by_cases hs:f.name.length≤30
  · rw [all_cons,decide_eq_true hs,Bool.true_and];exact(aSU u i f sd sd sd (by simp;omega) sd).ends (aVs u hf hn t (i+1) q2)
  · rw [all_cons,decide_eq_false hs,Bool.false_and,Bool.false_and,Bool.false_and];exact aST u i f sd sd sd (by simp;omega)
theorem aQW (u:LUnit) :Pure PP 36 [LUnit.av u] (.bool (rR u)) :=by
 refine cJ (s:=aVq u) (by kernel_rfl) (by kernel_rfl) (by simp [keylessL,uP]) (by simp [keyless]) ?_;unfold rR;by_cases h1:u.funs.length≤30
 · by_cases h2:u.needs.length≤25
   · by_cases h3:u.name.length≤30
     · rw [decide_eq_true h1,decide_eq_true h2,decide_eq_true h3,Bool.true_and,Bool.true_and,Bool.true_and];exact(aSS u (by simp;omega) (by simp;omega) (by simp;omega)).ends (aVs u h1 h2 u.funs 0 rfl)
     · rw [decide_eq_false h3];simp only [Bool.and_false,Bool.false_and];exact aSR u (by simp;omega) (by simp;omega) (by simp;omega)
   · rw [decide_eq_false h2];simp only [Bool.and_false,Bool.false_and];exact aSQ u (by simp;omega) (by simp;omega)
 · rw [decide_eq_false h1];simp only [Bool.false_and];exact aSP u (by simp;omega)
theorem aB8 {α:Type}{l:List α}{i:Nat}{y:α}(h:l[i]?=some y) :l.take (i+1) =l.take i++ [y] :=by rw [List.take_add_one,h];rfl
def jO (l:List LUnit) :Bool:= (l.take 11).all rR&&decide (l.length≤11)
theorem aE5 (l:List LUnit) :∀ (k i:Nat),i+k=11→ (∀u∈l.take i,rR u=true) →i≤l.length→Ends PP 0 (aB6 l (i:Int)).as (.ret (.bool (jO l))) (aF [] 0)
 | 0,i,hk,hs,hi=>by
  have e:i=11:=by omega
  subst e;have ev:jO l=decide (((length l:Nat) :Int) ≤ (11:Int)) :=by
   unfold jO;rw [List.all_eq_true.2 hs,Bool.true_and];by_cases h:l.length≤11
   ·rw [decide_eq_true h,decide_eq_true (by omega)]
   ·rw [decide_eq_false h,decide_eq_false (by omega)]
  rw [ev];by_cases h:11<l.length
  ·exact aQV l ((11:Nat) :Int) (by simp;omega) (by decide)
  ·exact aIX l ((11:Nat) :Int) (by simp;omega)
 | k + 1,i,hk,hs,hi=>by
  by_cases h:i<l.length
  · obtain⟨u,hu⟩ :∃u,l[i]?=some u:= ⟨_,getElem?_eq_getElem h⟩;have hp:=aQW u;cases e:rR u with
    | false=>
     rw [e]at hp;have ev:jO l=false:=by
      unfold jO;have: (l.take 11).all rR=false:=by
       rw [Bool.eq_false_iff];intro hh;have:=List.all_eq_true.1 hh u (mem_of_getElem? (by rw [List.getElem?_take,if_pos (show i<11 by omega)];exact hu));rw [e]at this;cases this
      rw [this,Bool.false_and]
     rw [ev];exact aQT l i u false sd (by simp;omega) sd sd hp rfl
    | true=>
     rw [e]at hp;refine(aQU l i u true sd (by simp;omega) sd sd hp rfl sd).ends (aE5 l k (i+1) (by omega) (fun x hx=>?_) (by omega));rw [aB8 hu]at hx;rcases List.mem_append.1 hx with g|g
     ·exact hs x g
     ·rw [List.mem_singleton.1 g];exact e
  · have ev:jO l=decide (((length l:Nat) :Int) ≤ (11:Int)) :=by
     unfold jO;have:l.take 11=l.take i:=by rw [take_of_length_le (by omega),take_of_length_le (by omega)]
     rw [this,List.all_eq_true.2 hs,Bool.true_and,decide_eq_true (show l.length≤11 by omega),decide_eq_true (by omega)]
    rw [ev];exact aIX l i sd
theorem aOe (l:List LUnit) :Pure PP 13 [.ilst 5 (map LUnit.av l) false] (.bool (jO l)) :=
 aV (by kernel_rfl) (by simp [keylessL,keyless]) rfl ((aQS l).ends (aE5 l 11 0 rfl (by simp) (Nat.zero_le _)))
theorem aI2 {l:List LUnit}(h:jO l=true) :l.length≤11∧∀u∈l,rR u=true:=by
 simp only [jO,and_eq_true,decide_eq_true_eq]at h;obtain⟨h1,h2⟩ :=h;rw [take_of_length_le h2]at h1;exact⟨h2,List.all_eq_true.1 h1⟩
structure FitU (u:LUnit) :Prop where
 p:FitP (aDs u)
 f:u.funs.length<1000000
 n:u.needs.length<1000000
def aVt(a:LUnit):TS:=dL PP 37 [(.agg [(aD a.name),(iC a.cons),(.ilst 2 (map LFun.av a.funs) false),(iS a.needs),(iN a.nodes)])] [] 0
def aGE(a:LUnit)(b:List aB)(c:Int):TS:=⟨(tf 37 126 [kp 1 0,(2,(bV false)),(3,(iS b)),(4,(nI c))] [kc f37 244,kl f37 244,.inBlock 0,kc f37 31]),[],[oC 0 [(aD a.name),(iC a.cons),(.ilst 2 (map LFun.av a.funs) false),(iS a.needs),(iN a.nodes)]],1⟩
def aGF(a:LUnit)(c:List aB)(d:Int)(b:List Int):TS:=⟨(tf 37 126 [kp 1 0,(2,(bV false)),(3,(iS c)),kp 6 1,(7,(nI d))] [kc f37 2036,kl f37 2036,.inBlock 2,kc f37 255]),[],[oC 0 [(aD a.name),(iC a.cons),(.ilst 2 (map LFun.av a.funs) false),(iS a.needs),(iN a.nodes)],oC 1 [(.gl 2 4 0 a.nodes.length false),(.gl 3 1 0 b.length false),(nI 0),(iC a.cons)],oL 2 4 (jN a.nodes),oL 3 1 (jI b)],4⟩
def aAW(a:LUnit)(d:List aB)(b:List Int)(e:Int)(c:List Node):TS:=⟨(tf 37 126 [kp 1 0,(2,(bV false)),(3,(iS d)),kp 6 1,(8,(nI e))] [kc f37 4084,kl f37 4084,.inBlock 4,kc f37 511]),[],[oC 0 [(aD a.name),(iC a.cons),(.ilst 2 (map LFun.av a.funs) false),(iS a.needs),(iN a.nodes)],oC 1 [(.gl 2 4 0 c.length false),(.gl 3 1 0 b.length false),(nI 0),(iC a.cons)],oL 2 4 (jN c),oL 3 1 (jI b)],4⟩
def aVu(a:List LUnit):TS:=dL PP 74 [(.ilst 5 (map LUnit.av a) false)] [] 0
def aDt(b:List LUnit)(c:List aB)(d:Int)(a:List aB):TS:=⟨(tf 74 49 [(0,(.ilst 5 (map LUnit.av b) false)),(2,.nils),(3,(iS c)),(4,(.gl 0 1 0 a.length false)),(5,(nI d))] [kc f74 244,kl f74 244,.inBlock 0,kc f74 31]),[],[oL 0 1 (map aD a)],1⟩
def yJ(b:List LUnit)(c:List aB)(d:Int)(a:List aB)(e:Int):TS:=⟨(tf 74 49 [(0,(.ilst 5 (map LUnit.av b) false)),(2,.nils),(3,(iS c)),(4,(.gl 0 1 0 a.length false)),(5,(nI e)),(6,(nI d))] [kc f74 15652,kl f74 15652,.inBlock 2,.inBlock 1,kc f74 979,kl f74 244,.inBlock 0,kc f74 31]),[],[oL 0 1 (map aD a)],1⟩
def aGG(c:List LUnit)(b:aB)(d:List aB)(e f:Int)(a:List aB)(g:Int):TS:=⟨(tf 111 18 [(0,(.gl 0 1 0 a.length false)),(1,(aD b)),(4,(bV false)),(5,(nI e))] [kc f111 52,kl f111 52,.inBlock 0,kc f111 7]),[(tf 74 49 [(0,(.ilst 5 (map LUnit.av c) false)),(2,.nils),(3,(iS d)),(4,(.gl 0 1 0 a.length false)),(5,(nI g)),(6,(nI f)),(7,(aD b)),(38,(bV true)),(39,(.gl 0 1 0 a.length false)),(40,(aD b))] [ko f74 500882 7,kc f74 500883,.inBlock 3,kc f74 62611,kl f74 15652,.inBlock 2,.inBlock 1,kc f74 979,kl f74 244,.inBlock 0,kc f74 31])],[oL 0 1 (map aD a)],1⟩
def aDu(a:LUnit):=tT 0 (aVt a)<|.y fun b:List aB=>gp 8 39 [(.agg [(aD a.name),(iC a.cons),(.ilst 2 (map LFun.av a.funs) false),(iS a.needs),(iN a.nodes)])] (iS b)<|eS 7 86 [(aD a.name)]<|fun c=>.b 2 16 (!c) (gE 23 1 (bV false))<|gl 2 aD a.needs<|gd 3 22 ((a.needs.length:Int) >20) (gE 17 1 (bV false))<|eS 1 115 [(iS b)]<|fun d=>.b 3 27 (!d) (gE 12 1 (bV false))<|eS 2 115 [(iS a.needs)]<|fun e=>.b 3 32 (!e) (gE 6 1 (bV false))<|.W 9 1 [0] (aGE a b 0)
def aS4:=fun a b c d e f=>aDu a b d c e|>.t f tv
def aS5:=fun a b c d e f g=>aDu a b d c e|>.f f|>.t g tv
def aS6:=fun a b c d e f g i j k=>aDu a b e c f|>.f g|>.f i d j|>.t k tv
def aS7:=fun a b c d e f g i j k l m n=>aDu a b f c g|>.f i|>.f j d k|>.f l e m|>.t n tv
def aS8:=fun a b c d e f g i j k l m n=>aDu a b f c g|>.f i|>.f j d k|>.f l e m|>.f n tv
def aDv(a:LUnit)(b:List aB)(c:Int):=tT 0 (aGE a b c)<|gl 6 aD a.needs<|gd 2 37 (c< (a.needs.length:Int)) (gX aD 10 a.needs c<|fun d=>eS 1 111 [(iS b),(aD d)]<|fun e=>.b 1 46 e (gE 6 1 (bV false))<|gw 6 39 (c+1)<|.W 3 1 [0] (aGE a b (c+1)))<|gl 6 aD b<|.b 2 49 ((b.length:Int) ==0) (.i [rn 13,.ctoL 3 0 true [(nI 3),(nI 0),.nils,.nils]] [hr (some [(nI 3),(nI 0),.nils,.nils]),hr true]<|.i [.lw 1 (jN [(Node.mk 3 0 [] [])])] [.q (p:=([(.agg [(nI 3),(nI 0),.nils,.nils])] :List AV) ≠ []) (by simp),.q (p:=VW [(.agg [(nI 3),(nI 0),.nils,.nils])] (jN [(Node.mk 3 0 [] [])])) (aL7 _ _)]<|gv 0 3 0 (.gl 1 4 0 [(Node.mk 3 0 [] [])].length true)<|.i [.cweak 3 0] []<|gy 0 3 0 1 4 Node.av [(Node.mk 3 0 [] [])] false<|.i [.ctoL 3 1 false [(nI 0)]] [hr (some [(nI 0)]),hr true]<|gu 0 2 (jI [0])<|gv 0 3 1 (.gl 2 1 0 [0].length true)<|.i [.cweak 3 1] []<|gy 0 3 1 2 1 bL [0] false<|gl 3 Node.av a.nodes<|.b 2 60 ((a.nodes.length:Int) ==0) (eS 1 38 [(.agg [(iN [(Node.mk 3 0 [] [])]),(iI [0]),(nI 0),(iC a.cons)])]<|fun d=>gE 4 4 (bV d))<|gE 6 4 (bV false))<|.i [rn 3,.reg (rd 4 (.app (jN a.nodes) a.nodes.length::rd 3 []))] [hA (length a.nodes≤1000000),hr (jN a.nodes),.q (p:=length (jN a.nodes) =length a.nodes) (List.length_map ..),hr (ilst 2 (jC a.cons) false),hr (ilst 2 (jC a.cons) false)]<|.i [rn 7,.cnil 1 1 1] []<|gu 0 3 (jI ([] :List Int))<|gv 0 1 1 (.gl 3 1 0 ([] :List Int).length false)<|.W 0 4 [0,1,2,3] (aGF a b 0 ([] :List Int))
def aS9:=fun a b c d e f g i j k=>aDv a b c|>.t f d g i e j|>.t k tv
def aTa:=fun a b c d e f g i j k l=>aDv a b c|>.t f d g i e j|>.f k l tv
def aTb:=fun a b c d e f g i=>aDv a b c|>.f e|>.t f|>.t g d i tv
def aTc:=fun a b c d e f=>aDv a b c|>.f d|>.t e|>.f f tv
def aTd:=fun a b c d e f=>aDv a b c|>.f d|>.f e f ⟨kk,⟨kk,trivial⟩⟩
def aQX(c:LUnit)(e:List aB)(d:Int)(a:List Int):=tT 0 (aGF c e d a)<|gl 6 LFun.av c.funs<|gd 2 74 (d< (c.funs.length:Int)) (.y fun b:LFun=>.i [rn 4,.reg (rd 5 (.ans (.idx (LFun.av b))::rd 3 [.app (jI (a++ [b.body])) (a++ [b.body]).length,.d,.d]))] [hA (0≤d),.a (((c.funs)[d.toNat]?) =some b) (cV (f:=LFun.av)),hb bL a,hA (length (a++ [b.body]) ≤1000000),hc bL a [b.body],he bL a [b.body]]<|gw 4 76 (d+1)<|.W 3 6 [0,1,2,5] (aGF c e (d+1) (a++ [b.body])))<|.W 9 4 [0,1,2,3] (aAW c e a 0 c.nodes)
def aTe:=fun a b c d e f g i j k=>aQX a b c d|>.t f e g i j k ⟨kk,⟨kk,trivial⟩⟩
def aTf:=fun a b c d e=>aQX a b c d|>.f e ⟨kk,⟨kk,trivial⟩⟩
def aGH(f:LUnit)(d:List aB)(e:List Int)(c:Int)(b:List Node):=tT 0 (aAW f d e c b)<|gd 9 92 (c< (b.length:Int)) (.i [rn 9,.ans (.ix)] [hA (0≤c),hA (c< (b.length:Int))]<|.y fun a:Node=>gj Node.av 0 b c.toNat a<|.b 9 103 (a.op==4) (gl 3 aD d<|gw 1 108 (0- (d.length:Int))<|gl 2 aD f.needs<|gw 1 112 ((0- (d.length:Int)) - (f.needs.length:Int))<|gl 1 aD d<|gw 1 115 (0- (d.length:Int))<|gw 1 116 ((0- (d.length:Int)) -1)<|eS 0 116 [(nI a.n),(nI ((0- (d.length:Int)) - (f.needs.length:Int))),(nI ((0- (d.length:Int)) -1))]<|fun g=>.b 2 118 g (.i [rn 5,.ans (.ix)] [hA (0≤c),hA (c< (b.length:Int))]<|.i [rn 1,.st (Node.av a) (Node.av (Node.mk a.op (-1) a.kids a.pats))] [.a (((b)[c.toNat]?) =some a) (jJ (f:=Node.av)),hr (some (Node.av (Node.mk a.op (-1) a.kids a.pats)))]<|.i [.lset 2 (jN (set b c.toNat (Node.mk a.op (-1) a.kids a.pats)))] [.q (p:=(jN b).set (0+c.toNat) (Node.av (Node.mk a.op (-1) a.kids a.pats)) = (jN (set b c.toNat (Node.mk a.op (-1) a.kids a.pats)))) (kQ _ _ _ _)]<|.i [.set 90 (.gl 2 4 0 (set b c.toNat (Node.mk a.op (-1) a.kids a.pats)).length false)] [.q (p:=(AV.gl 2 4 0 b.length false) = (.gl 2 4 0 (set b c.toNat (Node.mk a.op (-1) a.kids a.pats)).length false)) (dB (length_set ..).symm)]<|.i [.set 96 (.gl 2 4 0 (set b c.toNat (Node.mk a.op (-1) a.kids a.pats)).length false)] [.q (p:=(AV.gl 2 4 0 b.length false) = (.gl 2 4 0 (set b c.toNat (Node.mk a.op (-1) a.kids a.pats)).length false)) (dB (length_set ..).symm)]<|.i [.set 120 (.gl 2 4 0 (set b c.toNat (Node.mk a.op (-1) a.kids a.pats)).length false)] [.q (p:=(AV.gl 2 4 0 b.length false) = (.gl 2 4 0 (set b c.toNat (Node.mk a.op (-1) a.kids a.pats)).length false)) (dB (length_set ..).symm)]<|.i [.cset 1 0 (.gl 2 4 0 (set b c.toNat (Node.mk a.op (-1) a.kids a.pats)).length false)] [.q (p:=(AV.gl 2 4 0 b.length false) = (.gl 2 4 0 (set b c.toNat (Node.mk a.op (-1) a.kids a.pats)).length false)) (dB (length_set ..).symm)]<|gw 5 94 (c+1)<|.W 3 5 [0,1,2,3] (aAW f d e (c+1) (set b c.toNat (Node.mk a.op (-1) a.kids a.pats))))<|gw 6 94 (c+1)<|.W 3 5 [0,1,2,3] (aAW f d e (c+1) b))<|gw 22 94 (c+1)<|.W 3 5 [0,1,2,3] (aAW f d e (c+1) b))<|.i [rn 5,.frz 124 2 (jN b)] [hk Node.av b,.q (p:=frzOk 2 4 (jN b) (jN b) (.agg [(.gl 2 4 0 b.length false),(.gl 3 1 0 e.length false),(nI 0),(iC f.cons)])) (by simp [frzOk,AV.frzOkL,take_of_length_le])]<|.i [.frz 124 3 (jI e)] [hk bL e,.q (p:=frzOk 3 1 (jI e) (jI e) (.agg [(iN b),(.gl 3 1 0 e.length false),(nI 0),(iC f.cons)])) (by simp [frzOk,AV.frzOkL,take_of_length_le])]<|eS 0 38 [(.agg [(iN b),(iI e),(nI 0),(iC f.cons)])]<|fun a=>gE 3 4 (bV a)
def aTg:=fun e f g i j k l m a b c n d o p q r s=>aGH e f g i j|>.t m a b k c|>.t n d o d p l q|>.t r a b c s ⟨kk,⟨kk,trivial⟩⟩
def aTh:=fun b c d e f g i j k l m n a o p q r s=>aGH b c d e f|>.t j k l g m|>.t n a o a p i q|>.f r s ⟨kk,⟨kk,trivial⟩⟩
def aTi:=fun a b c d e f g i j k l m=>aGH a b c d e|>.t g i j f k|>.f l m ⟨kk,⟨kk,trivial⟩⟩
def aTj:=fun a b c d e f g i=>aGH a b c d e|>.f g f i tv
def aTk (b:List LUnit):=fun a c=>(tT 0 (aVu b)<|.y fun a:List aB=>gp 7 72 [(.ilst 5 (map LUnit.av b) false)] (iS a)<|.i [rn 13,.nilL 4 1] []<|gu 0 0 (map aD ([] :List aB))<|gs 0 4 (.gl 0 1 0 ([] :List aB).length false)<|.W 0 1 [0] (aDt b a 0 ([] :List aB))) a c ⟨kk,trivial⟩
def aQY(a:List LUnit)(d:List aB)(c:Int)(b:List aB):=tT 0 (aDt a d c b)<|gl 5 LUnit.av a<|gd 2 13 (c< (a.length:Int)) (.W 10 1 [0] (yJ a d 0 b c))<|gz 8 2 0 1 aD b false<|gE 0 1 (iS b)
def aTl:=fun a b c d e=>aQY a b c d|>.t e ⟨kk,trivial⟩
def aTm:=fun a b c d e=>aQY a b c d|>.f e tv
def aLi(b:List LUnit)(d:List aB)(c:Int)(e:List aB)(a:Int):=tT 0 (yJ b d c e a)<|gX LUnit.av 6 b a<|fun f=>gl 2 aD f.needs<|gd 2 23 (c< (f.needs.length:Int)) (gi LUnit.av 8 b a f<|gX aD 3 f.needs c<|fun g=>eS 7 111 [(iS d),(aD g)]<|fun i=>.b 2 38 (!i) (.W 14 1 [0] (aGG b g d 0 c e a))<|gw 12 25 (c+1)<|.W 3 1 [0] (yJ b d (c+1) e a))<|gw 6 15 (a+1)<|.W 3 1 [0] (aDt b d (a+1) e)
def aTn:=fun c d e f g i j k a b l m n o p=>aLi c d e f g i a b|>.t l a b j m n k o|>.t p ⟨kk,trivial⟩
def aTo:=fun c d e f g i j k a b l m n o p q=>aLi c d e f g i a b|>.t l a b j m n k o|>.f p q ⟨kk,trivial⟩
def aTp:=fun a b c d e f g i j k=>aLi a b c d e f g i|>.f j k ⟨kk,trivial⟩
def aLj(e:List LUnit)(c:aB)(f:List aB)(b d:Int)(a:List aB)(g:Int):=tT 0 (aGG e c f b d a g)<|gd 8 9 (b< (a.length:Int)) (.i [rn 8,.ans (.ix)] [hA (0≤b),hA (b< (a.length:Int))]<|.y fun i:aB=>gj aD 0 a b.toNat i<|.b 3 17 (bM i.length (aA i) c.length (aA c)) (gw 16 25 (d+1)<|.W 3 1 [0] (yJ e f (d+1) a g))<|gw 6 11 (b+1)<|.W 3 1 [0] (aGG e c f (b+1) d a g))<|ga 16 aD a [c]<|gw 6 25 (d+1)<|.W 3 3 [2] (yJ e f (d+1) (a++ [c]) g)
def aTq:=fun a b c d e f g i j k l m n o=>aLj a b c d e f g|>.t j k l i m|>.t n o ⟨kk,trivial⟩
def aTr:=fun a b c d e f g i j k l m n o=>aLj a b c d e f g|>.t j k l i m|>.f n o ⟨kk,trivial⟩
def aTs:=fun a b c d e f g i j k=>aLj a b c d e f g|>.f i j k ⟨kk,trivial⟩
def pD {α:Type}(f:α→α)(l:List α)(i:Nat) :List α:= (l.take i).map f++l.drop i
section
variable {α :Type} {f:α→α} {l:List α} {i:Nat}
theorem aE6 :pD f l 0=l:=by simp [pD]
theorem aDw : (pD f l i).length=l.length:=by simp [pD];omega
theorem aI3 (h:l.length≤i) :pD f l i=l.map f:=by simp [pD,take_of_length_le h,List.drop_eq_nil_of_le h]
theorem yK {x:α}(h:l[i]?=some x) :pD f l i= (l.take i).map f++x::l.drop (i+1) ∧ ((l.take i).map f).length=i:=by
 have hi:= (List.getElem?_eq_some_iff.1 h).1;refine⟨?_,by simp;omega⟩;unfold pD;rw [List.drop_eq_getElem_cons hi];rw [(List.getElem?_eq_some_iff.1 h).2]
theorem aI4 {x:α}(h:l[i]?=some x) : (pD f l i)[i]?=some x:=by
 obtain⟨e,hl⟩ :=yK (f:=f) h;rw [e,List.getElem?_append_right (by omega),hl];simp
theorem aE7 {x:α}(h:l[i]?=some x) :pD f l (i+1) = (l.take i).map f++f x::l.drop (i+1) :=by
 unfold pD;rw [aB8 h];simp
theorem aI5 {x:α}(h:l[i]?=some x) : (pD f l i).set i (f x) =pD f l (i+1) :=by
 obtain⟨e,hl⟩ :=yK (f:=f) h;rw [e,aE7 h,List.set_append_right _ _ (by omega),hl];simp
theorem pE {x:α}(h:l[i]?=some x)(e:f x=x) :pD f l i=pD f l (i+1) :=by
 rw [(yK (f:=f) h).1,aE7 h,e]
end
def fO (a b:Nat)(x:Node) :Node:=if x.op=4∧ -(a:Int) -b≤x.n∧x.n≤ -(a:Int) -1 then⟨x.op,-1,x.kids,x.pats⟩else x
def dJ (u:LUnit) :List Int:=u.funs.map LFun.body
def jP (u:LUnit) :Prog:= ⟨u.nodes.map (fO u.funs.length u.needs.length),dJ u,0,u.cons⟩
def xG (u:LUnit) :Prog:= ⟨[⟨3,0,[],[]⟩],[0],0,u.cons⟩
def fU (u:LUnit) :Bool:=nH u.name&&decide (u.needs.length≤20) &&eK (aE u) &&eK u.needs&&u.needs.all (fun s=> !aQ (aE u) s) &&
 (if u.funs.length=0 then decide (u.nodes.length=0) &&aO (xG u)else aO (jP u))
theorem lW {u:LUnit}(h:FewU u) :aH (jP u) =true:=by
 have h0:=h.p;have hf:=h.f;simp only [aH,and_eq_true,decide_eq_true_eq]at h0 ⊢;obtain⟨⟨⟨⟨h1,h2⟩,h3⟩,h4⟩,h5⟩ :=h0;refine⟨⟨⟨⟨by simp [jP];exact h1,by simp [jP,dJ];omega⟩,h3⟩,h4⟩,List.all_eq_true.2 (fun x hx=>?_)⟩;simp only [jP,List.mem_map]at hx;obtain⟨y,hy,rfl⟩ :=hx;have:=List.all_eq_true.1 h5 y hy;unfold fO;split<;>exact this
theorem yL {u:LUnit}(h:FewU u) :aH (xG u) =true:=by
 have h0:=h.p;simp only [aH,and_eq_true,decide_eq_true_eq]at h0 ⊢;obtain⟨⟨⟨⟨h1,h2⟩,h3⟩,h4⟩,h5⟩ :=h0;exact⟨⟨⟨⟨by simp [xG],by simp [xG]⟩,h3⟩,h4⟩,by rfl⟩
section
variable (u :LUnit) (hu:FewU u)
include hu
theorem aVv :∀ (t:List Node) (i:Nat),u.nodes.drop i=t→i≤u.nodes.length→Ends PP 0 (aAW u (aE u) (dJ u) (i:Int) (pD (fO u.funs.length u.needs.length) u.nodes i)).as (.ret (.bool (aO (jP u)))) (aF [] 0)
 | [],i,h,hi=>by
  have hd:=bE h;have hn:i=u.nodes.length:=by omega
  have hl: (pD (fO u.funs.length u.needs.length) u.nodes i).length=u.nodes.length:=aDw;rw [aI3 (by omega)]at hl ⊢;exact aTj u (aE u) (dJ u) i _ _ (by rw [hl];exact sd) (aAc (jP u) (lW hu))
 | x ::t,i,h,hi=>by
  obtain⟨q1,q2,q3⟩ :=bB h;have hi:= (List.getElem?_eq_some_iff.1 q1).1;have hn:u.nodes.length≤320:=by have:=hu.p;simp only [aH,and_eq_true,decide_eq_true_eq]at this;exact this.1.1.1.1
  have hf:=hu.f;have hd:=hu.n;have hl: (pD (fO u.funs.length u.needs.length) u.nodes i).length=u.nodes.length:=aDw;have ho: (aE u).length=u.funs.length:=by simp [aE]
  have hg:=aI4 (f:=fO u.funs.length u.needs.length) q1;have w1:IntKind.i64.wrap (0- ((length (aE u) :Nat) :Int)) =0- ((length (aE u) :Nat) :Int) :=by apply wrap64<;>omega
  have w2:IntKind.i64.wrap (0- ((length (aE u) :Nat) :Int) - ((length u.needs:Nat) :Int)) =0- ((length (aE u) :Nat) :Int) - ((length u.needs:Nat) :Int) :=by apply wrap64<;>omega
  have w3:IntKind.i64.wrap (0- ((length (aE u) :Nat) :Int) - (1:Int)) =0- ((length (aE u) :Nat) :Int) - (1:Int) :=by apply wrap64<;>omega
  have ih:=aVv t (i+1) q2 (by omega);by_cases h4:x.op=4
  · have hp:=aLg x.n (0- ((length (aE u) :Nat) :Int) - ((length u.needs:Nat) :Int)) (0- ((length (aE u) :Nat) :Int) - (1:Int));by_cases hb: -(u.funs.length:Int) -u.needs.length≤x.n∧x.n≤ -(u.funs.length:Int) -1
    · have eb:cS x.n (0- ((length (aE u) :Nat) :Int) - ((length u.needs:Nat) :Int)) (0- ((length (aE u) :Nat) :Int) - (1:Int)) =true:=by rw [inB_iff,ho];omega
      rw [eb]at hp;have ef:fO u.funs.length u.needs.length x= ⟨x.op,-1,x.kids,x.pats⟩ :=by unfold fO;rw [if_pos ⟨h4,hb⟩]
      have h1:=aTg u (aE u) (dJ u) i _ x true (by rw [hl];exact sd) sd (by rw [hl];omega) (by rw [toNat_natCast];exact hg) (by simp [h4]) w1 w2 w3 hp rfl sd;rw [toNat_natCast,←ef,aI5 q1]at h1;exact h1.ends ih
    · have eb:cS x.n (0- ((length (aE u) :Nat) :Int) - ((length u.needs:Nat) :Int)) (0- ((length (aE u) :Nat) :Int) - (1:Int)) =false:=by rw [Bool.eq_false_iff,Ne,inB_iff,ho];omega
      rw [eb]at hp;have ef:fO u.funs.length u.needs.length x=x:=by unfold fO;rw [if_neg (fun g=>hb g.2)]
      have h1:=aTh u (aE u) (dJ u) i _ x false (by rw [hl];exact sd) sd (by rw [hl];omega) (by rw [toNat_natCast];exact hg) (by simp [h4]) w1 w2 w3 hp rfl sd;rw [pE q1 ef]at h1 hl ⊢;exact h1.ends ih
  · have ef:fO u.funs.length u.needs.length x=x:=by unfold fO;rw [if_neg (fun g=>h4 g.1)]
    have h1:=aTi u (aE u) (dJ u) i _ x (by rw [hl];exact sd) sd (by rw [hl];omega) (by rw [toNat_natCast];exact hg) (by simp [h4]) sd;rw [pE q1 ef]at h1 hl ⊢;exact h1.ends ih
theorem aVw :∀ (t:List LFun) (i:Nat) (acc:List Int),u.funs.drop i=t→acc.length=i→Ends PP 0 (aGF u (aE u) (i:Int) acc).as (.ret (.bool (aO (jP u)))) (aF [] 0) ∨acc++t.map LFun.body≠dJ u
 | [],i,acc,h,ha=>by
  have:=bE h;by_cases e:acc=dJ u
  · subst e;have:=aVv u hu u.nodes 0 rfl (Nat.zero_le _);rw [aE6]at this;exact .inl ((aTf u (aE u) i _ sd).ends this)
  ·exact .inr (by simpa using e)
 | f::t,i,acc,h,ha=>by
  obtain⟨q1,q2,q3⟩ :=bB h;have hi:= (List.getElem?_eq_some_iff.1 q1).1;have hf:=hu.f;rcases aVw t (i+1) (acc++ [f.body]) q2 (by simp [ha])with g|g
  ·exact .inl ((aTe u (aE u) i acc f sd sd sd (by simp;omega) sd).ends g)
  ·exact .inr (by simpa using g)
theorem aVx :∀ (t:List aB) (i:Nat),u.needs.drop i=t→Ends PP 0 (aGE u (aE u) (i:Int)).as (.ret (.bool (t.all (fun s=> !aQ (aE u) s) && (if u.funs.length=0 then decide (u.nodes.length=0) &&aO (xG u)else aO (jP u))))) (aF [] 0)
 | [], i,h=>by
  have:=bE h;have ho: (aE u).length=u.funs.length:=by simp [aE]
  have hn:u.nodes.length≤320:=by have:=hu.p;simp only [aH,and_eq_true,decide_eq_true_eq]at this;exact this.1.1.1.1
  rw [all_nil,Bool.true_and];by_cases h0:u.funs.length=0
  · rw [if_pos h0];by_cases h1:u.nodes.length=0
    · rw [decide_eq_true h1,Bool.true_and];exact aTb u (aE u) i _ sd (by rw [ho,h0];rfl) (by rw [h1];rfl) (aAc (xG u) (yL hu))
    · rw [decide_eq_false h1,Bool.false_and];exact aTc u (aE u) i sd (by rw [ho,h0];rfl) (beq_eq_false_iff_ne.2 (by omega))
  · rw [if_neg h0];refine(aTd u (aE u) i sd (beq_eq_false_iff_ne.2 (by rw [ho];omega)) (by omega)).ends ?_;rcases aVw u hu u.funs 0 [] rfl rfl with g|g
    ·exact g
    ·exact absurd rfl g
 | s::t,i,h=>by
  obtain⟨q1,q2,q3⟩ :=bB h;have hf:=hu.f;have hd:=hu.n;have hh:=oW (aE u) s (by simp [aE];omega);rw [all_cons];cases e:aQ (aE u) s with
  | true=>
   rw [e]at hh;rw [Bool.not_true,Bool.false_and,Bool.false_and];exact aS9 u (aE u) i s true sd sd sd hh rfl
  | false=>
   rw [e]at hh;rw [Bool.not_false,Bool.true_and];exact(aTa u (aE u) i s false sd sd sd hh rfl sd).ends (aVx t (i+1) q2)
theorem aQZ :Pure PP 37 [LUnit.av u] (.bool (fU u)) :=by
 have hf:=hu.f;have hd:=hu.n;refine cJ (s:=aVt u) (by kernel_rfl) (by kernel_rfl) (by simp [keylessL,uP]) (by simp [keyless]) ?_;have a0:=aAi u (by omega);have a1:=aIK u.name;have a2:=aBC (aE u) (by simp [aE];omega);have a3:=aBC u.needs (by omega);unfold fU;cases e1:nH u.name with
 |false=>rw [e1]at a1;simp only [Bool.false_and];exact aS4 u (aE u) false a0 a1 rfl
 | true=>
  rw [e1]at a1;by_cases e2:u.needs.length≤20
  · rw [decide_eq_true e2];cases e3:eK (aE u)with
    |false=>rw [e3]at a2;simp only [Bool.true_and,Bool.false_and,Bool.and_false];exact aS6 u (aE u) true false a0 a1 rfl (by simp;omega) a2 rfl
    | true=>
     rw [e3]at a2;cases e4:eK u.needs with
     |false=>rw [e4]at a3;simp only [Bool.true_and,Bool.false_and,Bool.and_false];exact aS7 u (aE u) true true false a0 a1 rfl (by simp;omega) a2 rfl a3 rfl
     | true=>
      rw [e4]at a3;simp only [Bool.true_and];exact(aS8 u (aE u) true true true a0 a1 rfl (by simp;omega) a2 rfl a3 rfl).ends (aVx u hu u.needs 0 rfl)
  · rw [decide_eq_false e2];simp only [Bool.and_false,Bool.false_and];exact aS5 u (aE u) true a0 a1 rfl (by simp;omega)
end
def dS (l:List LUnit) :Bool:=decide (l.length≤10) &&l.all fU
theorem aI6 (l:List LUnit)(hl:l.length≤10)(hu:∀u∈l,FewU u) :∀ (t:List LUnit) (i:Nat),l.drop i=t→Ends PP 0 (aGB l (i:Int)).as (.ret (.bool (t.all fU))) (aF [] 0)
 | [],i,h=>by
  have:=bE h;exact aS3 l i sd
 | u::t,i,h=>by
  obtain⟨q1,q2,q3⟩ :=bB h;have hp:=aQZ u (hu u (mem_of_getElem? q1));rw [all_cons];cases e:fU u with
  |false=>rw [e]at hp;exact aS1 l i u false sd sd sd hp rfl
  |true=>rw [e]at hp;rw [Bool.true_and];exact(aS2 l i u true sd sd sd hp rfl sd).ends (aI6 l hl hu t (i+1) q2)
theorem aDx (l:List LUnit)(hu:∀u∈l,FewU u) :Pure PP 18 [.ilst 5 (map LUnit.av l) false] (.bool (dS l)) :=by
 refine aV (by kernel_rfl) (by simp [keylessL,keyless]) rfl ?_;unfold dS;by_cases h:l.length≤10
 · rw [decide_eq_true h,Bool.true_and];exact(aS0 l (by simp;omega)).ends (aI6 l h hu l 0 rfl)
 · rw [decide_eq_false h,Bool.false_and];exact aSZ l (by simp;omega)
def nL (own:List aB) :List aB→List aB→List aB
 |out,[] =>out
 |out,s::t=>nL own (if aQ own s=true∨aQ out s=true then out else out++ [s]) t
def mP (own:List aB) :List aB→List LUnit→List aB
 |out,[] =>out
 |out,u::l=>mP own (nL own out u.needs) l
def iU (l:List LUnit) :List aB:=mP (aX l) [] l
theorem vN (own:List aB) :∀ (t out:List aB),(nL own out t).length≤out.length+t.length
 | [],out=>by simp [nL]
 | s::t,out=>by
  rw [nL];have:=vN own t (if aQ own s=true∨aQ out s=true then out else out++ [s]);split at this<;>simp at this ⊢ <;>split<;>simp_all<;>omega
end
end Go.Hb
