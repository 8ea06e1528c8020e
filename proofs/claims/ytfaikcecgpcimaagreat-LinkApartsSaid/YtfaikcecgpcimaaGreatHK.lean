/- A machine on abstract values, its soundness, ways, plain laws. -/
import Derived.Test.YtfaikcecgpcimaaGreatHF
import Derived.Test.YtfaikcecgpcimaaGreatHG
import Derived.Test.YtfaikcecgpcimaaGreatHH
import Derived.Test.YtfaikcecgpcimaaGreatHI
import Derived.Test.YtfaikcecgpcimaaGreatHJ
set_option linter.defProp false
set_option linter.unusedVariables false
set_option linter.unusedSimpArgs false
set_option linter.unusedSectionVars false
set_option maxRecDepth 100000
set_option maxHeartbeats 4000000
namespace Go.Hb
open Bool (and_eq_true)
open List (count_append flatten_cons getElem?_cons_succ getElem?_cons_zero getElem?_eq_getElem length map map_cons mem_cons_of_mem mem_cons_self mem_of_getElem?)
open Go.Proofs Tryz
noncomputable section
section
variable {p :Prog} {mf mc:List (Int×Int)} {F C:List Int} {to:List Int}
end
def aQ4 (x:Node)(i:Nat) :Nat→List Int→List Int→List Int
 |_,[],l=>l
 |j,k::ks,l=>aQ4 x i (j+1) ks (l.set k.toNat (l.getD i 0+aJc x j))
def aMs :Nat→List Node→List Int→List Int
 |_,[],l=>l
 |i,x::t,l=>aMs (i+1) t (aQ4 x i 0 x.kids l)
def aQ5 :List Int→List Int→List Int
 | [],l=>l
 |f::fs,l=>aQ5 fs (l.set f.toNat 1)
def aLC (p:Prog) :List Int:=aMs 0 p.nodes (aQ5 p.funs (List.replicate p.nodes.length 0))
theorem aAk {lo n:Int}:∀ {ks:List Int} {u v:List Bool},marks lo n ks u=some v→∀k∈ks,lo≤k∧k≤n-1
 | [],_,_,_,k,hk=>by cases hk
 | a ::ks,u,v,h,k,hk=>by
  simp only [marks]at h;split at h
  · rename_i g;rcases List.mem_cons.1 hk with rfl|hk
    ·exact inB_iff.1 g.1
    ·exact aAk h k hk
  ·cases h
theorem aLD {lo n k:Int}{ks:List Int}{u v:List Bool}(h:marks lo n (k::ks) u=some v) :u[k.toNat]?=some false∧marks lo n ks (u.set k.toNat true) =some v:=by
 simp only [marks]at h;split at h
 ·rename_i g;exact⟨g.2,h⟩
 ·cases h
theorem oY {p:Prog}{i:Nat}{x:Node}{t:List Node}{u v:List Bool}(h:cG p i (x::t) u=some v) :aZ p x=true∧∃w,marks ((i:Int) +1) p.nodes.length x.kids u=some w∧cG p (i+1) t w=some v:=by
 simp only [cG]at h;split at h
 · rename_i g;split at h
   ·rename_i w hw;exact⟨g,w,hw,h⟩
   ·cases h
 ·cases h
theorem rQ {p:Prog}:∀ {t:List Node} {i:Nat} {u v:List Bool},cG p i t u=some v→v.length=u.length
 | [],i,u,v,h=>by simp only [cG,Option.some.injEq]at h;rw [h]
 | x::t,i,u,v,h=>by
  obtain⟨_,w,hw,h2⟩ :=oY h;rw [rQ h2,kD hw]
theorem rR {p:Prog}:∀ {t:List Node} {i:Nat} {u v:List Bool},cG p i t u=some v→∀ (j:Nat) (x:Node),t[j]?=some x→aZ p x=true∧∀k∈x.kids,((i+j:Nat) :Int) <k∧k<p.nodes.length
 | [],i,u,v,h,j,x,hx=>by simp at hx
 | y::t,i,u,v,h,j,x,hx=>by
  obtain⟨g,w,hw,h2⟩ :=oY h;cases j with
  | zero=>
   simp at hx;subst hx;exact⟨g,fun k hk=>by have:=aAk hw k hk;omega⟩
  | succ j=>
   have:=rR h2 j x (by simpa using hx);exact⟨this.1,fun k hk=>by have:=this.2 k hk;omega⟩
structure Sprop (p:Prog) (S:List Int) :Prop where
 len:S.length=p.nodes.length
 root:∀f∈p.funs,S[f.toNat]?=some 1
 kid:∀ (i:Nat) (x:Node) (d:Nat) (k:Int),p.nodes[i]?=some x→x.kids[d]?=some k→∃s,S[i]?=some s∧S[k.toNat]?=some (s+aJc x d)
inductive Reach (p:Prog) :Nat→Nat→Prop where
 |refl (a:Nat) :Reach p a a
 |step {a i:Nat} {x:Node} {k:Int}:Reach p a i→p.nodes[i]?=some x→k∈x.kids→Reach p a k.toNat
theorem Reach.first {p:Prog}{a m:Nat}(h:Reach p a m) :m=a∨∃ (x:Node) (k:Int),p.nodes[a]?=some x∧k∈x.kids∧Reach p k.toNat m:=by
 induction h with
 |refl=>exact .inl rfl
 | step h hx hk ih=>
  rename_i i x k;rcases ih with rfl| ⟨y,q,h1,h2,h3⟩
  ·exact .inr ⟨x,k,hx,hk,Reach.refl _⟩
  ·exact .inr ⟨y,q,h1,h2,h3.step hx hk⟩
theorem aQ6 {p:Prog}(hs:aH p=true) :Pure PP 138 [Prog.av p] (.int .i64 (checkN (aW p))) :=by
 have h2:=aI8 p hs;rw [aOl]at h2;exact h2
theorem uO {p:Prog}(hp:aH p=true)(hf:aW p=true) :FineP p:=by
 have hs:=hp;simp only [aH,and_eq_true,decide_eq_true_eq]at hs;obtain⟨⟨⟨⟨s1,s2⟩,s3⟩,_⟩,s5⟩ :=hs;simp only [aW,and_eq_true]at hf;obtain⟨_,hf⟩ :=hf;split at hf
 · rename_i u hu;unfold allT at hf;split at hf
   · rename_i v hv;refine⟨s1,s2,fun i x hx=>?_,fun f hf=>?_⟩
     · have:=rR hv i x hx;have h10:=List.all_eq_true.1 s5 x (mem_of_getElem? hx);simp only [aQ,and_eq_true,decide_eq_true_eq]at h10;exact⟨vM this.1,h10.1.1,fun k hk=>by have:=this.2 k hk;omega⟩
     ·have:=aAk hu f hf;omega
   ·cases hf
 ·cases hf
theorem aQ7 {n:Nat}{i:Int}(h0:0≤i)(h1:i<n) : (numsL 0 n)[i.toNat]?=some i:=by
 rw [iT 0 (by omega)];congr 1;omega
def aE3 (n:Nat)(m:List (Int×Int))(l:List Int) :Prop:=∀i:Int,0≤i→i<n→l[i.toNat]?=some (mF m i)
theorem aGM (n:Nat) :aE3 n (sM n) (numsL 0 n) :=fun i h0 h1=>by rw [aQ7 h0 h1,aVV h0 h1]
mutual
theorem aWQ (cons:List Con){mc:List (Int×Int)}{C:List Int}(hC:aE3 cons.length mc C) :∀ (q:Pat),cN cons q=true→aGG C q=some (vS mc q)
 | .mk f n s ps,h=>by
  rw [cN,and_eq_true]at h;have hps:=aGN cons hC ps h.2;have hN:aDp C f n=some (if f=6 then mF mc n else n) :=by
   unfold aDp;by_cases hf:f=6
   · subst hf;have hh:=h.1;simp only [cQ]at hh;simp [cR]at hh;obtain⟨⟨⟨h0,h1⟩,_⟩,_⟩ :=hh;rw [if_pos rfl,if_pos rfl,if_pos h0,hC n h0 (by omega)]
   ·rw [if_neg hf,if_neg hf]
  rw [aGG,hN];simp only;rw [hps,vS]
theorem aGN (cons:List Con){mc:List (Int×Int)}{C:List Int}(hC:aE3 cons.length mc C) :∀ (ps:List Pat),bH cons ps=true→jU C ps=some (fK mc ps)
 | [],_=>rfl
 | q::ps,h=>by
  rw [bH,and_eq_true]at h;rw [jU,aWQ cons hC q h.1];simp only;rw [aGN cons hC ps h.2,fK]
end
theorem kH {cons:List Con}:∀ {ps:List Pat},(∀q∈ps,cN cons q=true) →bH cons ps=true
 | [],_=>rfl
 | q::ps,h=>by
  rw [bH,h q (mem_cons_self ..),kH (fun x hx=>h x (mem_cons_of_mem _ hx))];rfl
theorem aA6 {c:Nat}:∀ {ps:List Pat},(∀q∈ps,cF q≤c) →aV ps≤c*ps.length
 | [],_=>by simp [aV]
 | q::ps,h=>by
  have h1:=h q (mem_cons_self ..);have h2:=aA6 (c:=c) (ps:=ps) (fun x hx=>h x (mem_cons_of_mem _ hx));simp only [aV,List.length_cons];rw [Nat.mul_add,Nat.mul_one];omega
theorem aJd {p:Prog}{mf mc:List (Int×Int)}{F C:List Int}(hF:aE3 p.funs.length mf F)(hC:aE3 p.cons.length mc C)(hB:∀i:Int,0≤i→i<p.funs.length→0≤mF mf i∧mF mf i≤1000000)(hs:p.funs.length≤320){x:Node}(h:aZ p x=true)(h10:x.pats.length≤10) :
  (aV x.pats<1000000∧mN F C x.op x.n=some (bN mf mc x.op x.n) ∧jU C x.pats=some (fK mc x.pats)) ∧nOk mf x:=by
 simp only [aZ,and_eq_true,fJ]at h;obtain⟨⟨⟨h1,_⟩,h2⟩,_⟩ :=h
 have hq:∀q∈x.pats,cF q≤12∧cN p.cons q=true:=fun q hq=>by
  have:=List.all_eq_true.1 h2 q hq;simpa [fF]using this
 have hps:aV x.pats≤12*x.pats.length:=aA6 (fun q h=> (hq q h).1)
 have hr4:x.op=4→ -(p.funs.length:Int) ≤x.n∧x.n≤29:=fun e=>by
  rw [e]at h1;simp [bL,cR]at h1;omega
 have hr14:x.op=14→0≤x.n∧x.n<p.cons.length:=fun e=>by
  rw [e]at h1;simp [bL,cR]at h1;omega
 refine⟨⟨by omega,?_,aGN p.cons hC x.pats (kH fun q h=> (hq q h).2)⟩,by omega,fun e hn=>?_⟩
 · unfold mN bN;by_cases h4:x.op=4
   · have hr:=hr4 h4;by_cases hn:x.n<0
     · have hb:=hB (-1-x.n) (by omega) (by omega);rw [if_pos ⟨h4,hn⟩,if_pos h4,if_neg (by omega),hF _ (by omega) (by omega)];simp only;rw [if_pos (by omega)]
     ·rw [if_neg (fun h=>hn h.2),if_neg (show ¬x.op=14 by omega),if_pos h4,if_pos (show 0≤x.n by omega)]
   · rw [if_neg (fun h=>h4 h.1),if_neg h4];by_cases h14:x.op=14
     · have hr:=hr14 h14;rw [if_pos h14,if_pos h14,if_pos hr.1,hC _ hr.1 hr.2]
     ·rw [if_neg h14,if_neg h14]
 · have hr:=hr4 e;have hb:=hB (-1-x.n) (by omega) (by omega);omega
theorem aOm {p:Prog}(hF:p.funs.length≤320){x:Node}(h:aZ p x=true)(h10:x.pats.length≤10) :
  (aV x.pats<1000000∧mN (numsL 0 p.funs.length) (numsL 0 p.cons.length) x.op x.n=some (bN (sM p.funs.length) (sM p.cons.length) x.op x.n) ∧jU (numsL 0 p.cons.length) x.pats=some (fK (sM p.cons.length) x.pats)) ∧nOk (sM p.funs.length) x:=
 aJd (aGM _) (aGM _) (fun i h0 h1=>by rw [aVV h0 h1];omega) hF h h10
def dD (p:Prog)(i:Int) :List Int:=match p.nodes[i.toNat]? with
 |some x=>x.kids
 |none=>[]
section
variable {p :Prog}
theorem rS {q:Int→List Int}(m:Int) :∀ (ks:List Int),(∀k∈ks,(q k).count m= [k].count m+ (((q k).map (dD p)).flatten).count m) →
  ((ks.map q).flatten).count m=ks.count m+ ((((ks.map q).flatten).map (dD p)).flatten).count m
 | [],_=>rfl
 | k::ks,h=>by
  have h1:=h k (mem_cons_self ..);have h2:=rS m ks (fun x hx=>h x (mem_cons_of_mem _ hx));rw [map_cons,flatten_cons,count_append,List.map_append,List.flatten_append,count_append,h1,h2,show k::ks= [k] ++ks from rfl,count_append];omega
theorem aA7 (hp:FineP p)(m:Int) :∀ (f:Nat) (a:Int),0≤a→a<p.nodes.length→p.nodes.length-a.toNat≤f→ (pre p f a).count m= [a].count m+ (((pre p f a).map (dD p)).flatten).count m
 |0,a,ha,hn,hf=>by omega
 | f+1,a,ha,hn,hf=>by
  obtain⟨x,hx⟩ :∃x,p.nodes[a.toNat]?=some x:= ⟨_,getElem?_eq_getElem (by omega)⟩;obtain⟨_,_,hks⟩ :=hp.node _ _ hx;have e:pre p (f+1) a=a:: (x.kids.map (pre p f)).flatten:=by rw [pre,hx]
  have ek:dD p a=x.kids:=by unfold dD;rw [hx]
  have h2:=rS (p:=p) m x.kids (fun k hk=>by
   have:=hks k hk;exact aA7 hp m f k (by omega) (by omega) (by omega))
  rw [e,map_cons,flatten_cons,count_append,ek,show a:: (x.kids.map (pre p f)).flatten= [a] ++ (x.kids.map (pre p f)).flatten from rfl,count_append,h2]
theorem aQ8 (hp:FineP p) :∀ (f:Nat) (a:Int),0≤a→a<p.nodes.length→∀y∈pre p f a,0≤y∧y<p.nodes.length
 |0,a,_,_,y,hy=>by cases hy
 | f +1,a,ha,hn,y,hy=>by
  obtain⟨x,hx⟩ :∃x,p.nodes[a.toNat]?=some x:= ⟨_,getElem?_eq_getElem (by omega)⟩;obtain⟨_,_,hks⟩ :=hp.node _ _ hx;have e:pre p (f+1) a=a:: (x.kids.map (pre p f)).flatten:=by rw [pre,hx]
  rw [e]at hy;rcases List.mem_cons.1 hy with rfl|hy
  ·exact⟨ha,hn⟩
  · obtain⟨l,hl,hy⟩ :=List.mem_flatten.1 hy;obtain⟨k,hk,rfl⟩ :=List.mem_map.1 hl;have:=hks k hk;exact aQ8 hp f k (by omega) (by omega) y hy
def iV (u:List Bool)(m:Int) :Nat:=if u[m.toNat]?=some true then 1 else 0
theorem fX {lo n:Int}(hlo:0≤lo){m:Int}(hm:0≤m) :∀ {ks:List Int} {u v:List Bool},marks lo n ks u=some v→ks.count m+iV u m=iV v m
 | [],u,v,h=>by cases h;simp
 | k ::ks,u,v,h=>by
  have hk:=aAk h k (mem_cons_self ..);obtain⟨h1,h2⟩ :=aLD h;have h3:=fX hlo hm h2;rw [←h3,show k::ks= [k] ++ks from rfl,count_append];have hlt:= (List.getElem?_eq_some_iff.1 h1).1;by_cases e:k=m
  · subst e;have a1:iV u k=0:=by unfold iV;rw [h1];rfl
    have a2:iV (u.set k.toNat true) k=1:=by unfold iV;rw [List.getElem?_set_self hlt];rfl
    rw [a1,a2];simp;omega
  · have a1:iV (u.set k.toNat true) m=iV u m:=by unfold iV;rw [List.getElem?_set_ne (by omega)]
    rw [a1,List.count_singleton,if_neg (by simpa using e)];omega
theorem jL {m:Int}(hm:0≤m) :∀ {t:List Node} {i:Nat} {u v:List Bool},cG p i t u=some v→ ((t.map Node.kids).flatten).count m+iV u m=iV v m
 | [],i,u,v,h=>by simp only [cG,Option.some.injEq]at h;subst h;simp
 | x::t,i,u,v,h=>by
  obtain⟨_,w,h1,h2⟩ :=oY h;have h3:=fX (by omega) hm h1;have h4:=jL hm h2;rw [map_cons,flatten_cons,count_append];omega
theorem aE4 {m:Int}:∀ {t:List Node},((t.map Node.kids).flatten).count m≤1→∀ (i j:Nat) (x y:Node),t[i]?=some x→t[j]?=some y→m∈x.kids→m∈y.kids→i=j
 | [],_,i,j,x,y,hx,_,_,_=>by simp at hx
 | z ::t,h,i,j,x,y,hx,hy,mx,my=>by
  rw [map_cons,flatten_cons,count_append]at h;have inT:∀ {i:Nat} {x:Node},t[i]?=some x→m∈x.kids→0< ((t.map Node.kids).flatten).count m:=fun {i x} hx mx=>
   List.count_pos_iff.2 (List.mem_flatten.2 ⟨x.kids,List.mem_map.2 ⟨x,mem_of_getElem? hx,rfl⟩,mx⟩)
  cases i with
  | zero=>
   simp only [getElem?_cons_zero,Option.some.injEq]at hx;subst hx;cases j with
   |zero=>rfl
   | succ j=>
    simp only [getElem?_cons_succ]at hy;have:=inT hy my;have:=List.count_pos_iff.2 mx;omega
  | succ i=>
   simp only [getElem?_cons_succ]at hx;cases j with
   | zero=>
    simp only [getElem?_cons_zero,Option.some.injEq]at hy;subst hy;have:=inT hx mx;have:=List.count_pos_iff.2 my;omega
   | succ j=>
    simp only [getElem?_cons_succ]at hy;rw [aE4 (by omega) i j x y hx hy mx my]
theorem aMt {m:Int}:∀ {t:List Node} {i:Nat} {x:Node},t[i]?=some x→x.kids.count m≤ ((t.map Node.kids).flatten).count m
 | [],i,x,hx=>by simp at hx
 | z::t,0,x,hx=>by
  simp only [getElem?_cons_zero,Option.some.injEq]at hx;subst hx;rw [map_cons,flatten_cons,count_append];omega
 | z::t,i+1,x,hx=>by
  simp only [getElem?_cons_succ]at hx;have:=aMt (m:=m) hx;rw [map_cons,flatten_cons,count_append];omega
theorem aMu {m i:Int}:∀ (L:List Int),(∀j∈L,m∈dD p j→j=i) → ((L.map (dD p)).flatten).count m≤L.count i* (dD p i).count m
 | [],_=>by simp
 | j ::L,h=>by
  have h1:=aMu L (fun x hx=>h x (mem_cons_of_mem _ hx));rw [map_cons,flatten_cons,count_append,show j::L= [j] ++L from rfl,count_append,Nat.add_mul];by_cases hm:m∈dD p j
  · have:=h j (mem_cons_self ..) hm;subst this;simp;exact h1
  · rw [List.count_eq_zero.2 hm];exact Nat.le_trans (by simpa using h1) (Nat.le_add_left ..)
theorem aYW (hp:FineP p)(hK:∀m:Int,0≤m→p.funs.count m+ ((p.nodes.map Node.kids).flatten).count m≤1){L:List Int}(hin:∀x∈L,0≤x∧x<p.nodes.length)(hL:∀m:Int,L.count m=p.funs.count m+ ((L.map (dD p)).flatten).count m) :∀ (b m:Nat),m≤b→L.count (m:Int) ≤1:=by
 intro b
 induction b with
 | zero=>
  intro m hmb;have hm:m=0:=by omega
  subst hm;have e:=hL ((0:Nat) :Int);have z: ((L.map (dD p)).flatten).count ((0:Nat) :Int) =0:=by
   refine List.count_eq_zero.2 (fun h=>?_);obtain⟨l,hl,hy⟩ :=List.mem_flatten.1 h;obtain⟨j,hj,rfl⟩ :=List.mem_map.1 hl;unfold dD at hy;split at hy
   · rename_i x hx;have:= (hp.node _ _ hx).2.2 _ hy;omega
   ·cases hy
  have:=hK ((0:Nat) :Int) (by omega);omega
 | succ b ih=>
  intro m hmb;have e:=hL (m:Int);have hk:=hK (m:Int) (by omega);by_cases hz: ((L.map (dD p)).flatten).count (m:Int) =0
  ·omega
  · have hpos:=List.count_pos_iff.1 (Nat.pos_of_ne_zero hz);obtain⟨l,hl,hy⟩ :=List.mem_flatten.1 hpos;obtain⟨i,hi,rfl⟩ :=List.mem_map.1 hl;have hir:=hin i hi;obtain⟨x,hx⟩ :∃x,p.nodes[i.toNat]?=some x:= ⟨_,getElem?_eq_getElem (by omega)⟩;have ei:dD p i=x.kids:=by unfold dD;rw [hx]
    rw [ei]at hy;have him:= (hp.node _ _ hx).2.2 _ hy;have hci:L.count i≤1:=by
     have:=ih i.toNat (by omega);rwa [show((i.toNat:Nat) :Int) =i by omega]at this
    have hle:=aMu (p:=p) (m:= (m:Int)) (i:=i) L (fun j hj hmj=>by
     have hjr:=hin j hj;obtain⟨y,hy'⟩ :∃y,p.nodes[j.toNat]?=some y:= ⟨_,getElem?_eq_getElem (by omega)⟩;have ej:dD p j=y.kids:=by unfold dD;rw [hy']
     rw [ej]at hmj;have:=aE4 (by omega) _ _ y x hy' hx hmj hy;omega)
    rw [ei]at hle;have hkl:=aMt (m:= (m:Int)) hx;have:L.count i*x.kids.count (m:Int) ≤1*x.kids.count (m:Int) :=Nat.mul_le_mul_right _ hci;omega
theorem mG :∀ (n:Nat) (l:List Nat),l.Nodup→ (∀x∈l,x<n) →l.length≤n
 |0,[],_,_=>by simp
 |0,x::l,_,h=>by have:=h x (mem_cons_self ..);omega
 | n+1,l,hd,h=>by
  by_cases hm:n∈l
  · have h1:=mG n (l.erase n) (hd.erase n) (fun x hx=>by
     have:=h x (List.mem_of_mem_erase hx)
     have hne:x≠n:=fun e=>by
      subst e;exact hd.not_mem_erase hx
     omega)
    rw [List.length_erase_of_mem hm]at h1;omega
  · have:=mG n l hd (fun x hx=>by
     have:=h x hx;have hne:x≠n:=fun e=>hm (e ▸ hx);omega)
    omega
end
theorem aDx {L:List Int}(h:∀a,L.count a≤1) :L.Nodup:=List.nodup_iff_count.2 h
theorem aMv :∀ (n:Nat) (l:List Int),(∀i:Nat,i<n→ (i:Int) ∈l) →n≤l.length
 |0,l,_=>Nat.zero_le _
 | n+1,l,h=>by
  have h0:=h n (Nat.lt_succ_self n);have h1:=aMv n (l.erase (n:Int)) (fun i hi=> (List.mem_erase_of_ne (by omega)).2 (h i (by omega)));rw [List.length_erase_of_mem h0]at h1;have:=List.length_pos_of_mem h0;omega
theorem all_in {p:Prog}(hp:FineP p)(hK:∀m:Nat,m<p.nodes.length→p.funs.count (m:Int) + ((p.nodes.map Node.kids).flatten).count (m:Int) =1){L:List Int}(hL:∀m:Int,L.count m=p.funs.count m+ ((L.map (dD p)).flatten).count m) :∀ (b m:Nat),m≤b→m<p.nodes.length→ (m:Int) ∈L:=by
 intro b
 induction b with
 | zero=>
  intro m hmb hm;have e:=hL (m:Int);have hk:=hK m hm;by_cases hz: ((p.nodes.map Node.kids).flatten).count (m:Int) =0
  ·exact List.count_pos_iff.1 (by omega)
  · obtain⟨l,hl,hy⟩ :=List.mem_flatten.1 (List.count_pos_iff.1 (Nat.pos_of_ne_zero hz));obtain⟨x,hx,rfl⟩ :=List.mem_map.1 hl;obtain⟨i,hi⟩ :=List.mem_iff_getElem?.1 hx;have:= (hp.node _ _ hi).2.2 _ hy;omega
 | succ b ih=>
  intro m hmb hm;have e:=hL (m:Int);have hk:=hK m hm;by_cases hz: ((p.nodes.map Node.kids).flatten).count (m:Int) =0
  ·exact List.count_pos_iff.1 (by omega)
  · obtain⟨l,hl,hy⟩ :=List.mem_flatten.1 (List.count_pos_iff.1 (Nat.pos_of_ne_zero hz));obtain⟨x,hx,rfl⟩ :=List.mem_map.1 hl;obtain⟨i,hi⟩ :=List.mem_iff_getElem?.1 hx;have him:= (hp.node _ _ hi).2.2 _ hy;have hiL:=ih i (by omega) (by omega);have: (m:Int) ∈ (L.map (dD p)).flatten:=List.mem_flatten.2 ⟨x.kids,List.mem_map.2 ⟨(i:Int),hiL,by unfold dD;rw [Int.toNat_natCast,hi]⟩,hy⟩;have:=List.count_pos_iff.2 this;exact List.count_pos_iff.1 (by omega)
theorem yM {p:Prog}(hs:aH p=true)(hf:aW p=true) : ((p.funs.map (pre p p.nodes.length)).flatten).Nodup∧ ((p.funs.map (pre p p.nodes.length)).flatten).length=p.nodes.length∧ (∀x∈ (p.funs.map (pre p p.nodes.length)).flatten,0≤x∧x<p.nodes.length) ∧
  (∀ (i:Nat) (x:Node),p.nodes[i]?=some x→aZ p x=true) :=by
 have hp:=uO hs hf;simp only [aW,and_eq_true]at hf;obtain⟨_,hf⟩ :=hf;split at hf
 · rename_i u hu;unfold allT at hf;split at hf
   · rename_i v hv
     have hK:∀m:Int,0≤m→p.funs.count m+ ((p.nodes.map Node.kids).flatten).count m≤1:=fun m hm=>by
      have h1:=fX (by omega) hm hu;have h2:=jL hm hv;have h3:iV v m≤1:=by unfold iV;split<;>omega
      omega
     have hin:∀x∈ (p.funs.map (pre p p.nodes.length)).flatten,0≤x∧x<p.nodes.length:=fun x hx=>by
      obtain⟨l,hl,hy⟩ :=List.mem_flatten.1 hx;obtain⟨k,hk,rfl⟩ :=List.mem_map.1 hl;have:=hp.funs k hk;exact aQ8 hp _ k this.1 this.2 x hy
     have hL:∀m:Int,((p.funs.map (pre p p.nodes.length)).flatten).count m=p.funs.count m+ ((((p.funs.map (pre p p.nodes.length)).flatten).map (dD p)).flatten).count m:=fun m=>rS m p.funs (fun k hk=>by
      have:=hp.funs k hk;exact aA7 hp m _ k this.1 this.2 (by omega))
     have hd: ((p.funs.map (pre p p.nodes.length)).flatten).Nodup:=aDx (fun a=>by
      by_cases ha:a∈ (p.funs.map (pre p p.nodes.length)).flatten
      · have hr:=hin a ha;have:=aYW hp hK hin hL a.toNat a.toNat (Nat.le_refl _);rwa [show((a.toNat:Nat) :Int) =a by omega]at this
      ·rw [List.count_eq_zero.2 ha];omega)
     refine⟨hd,?_,hin,fun i x hx=> (rR hv i x hx).1⟩;have hd2: (((p.funs.map (pre p p.nodes.length)).flatten).map Int.toNat).Nodup:=by
      rw [List.nodup_iff_pairwise_ne]at hd ⊢;refine List.pairwise_map.2 (hd.imp_of_mem (fun {a b} ha hb hne e=>?_));have:=hin a ha;have:=hin b hb;exact hne (by omega)
     have:=mG p.nodes.length _ hd2 (fun x hx=>by
      obtain⟨y,hy,rfl⟩ :=List.mem_map.1 hx;have:=hin y hy;omega)
     rw [List.length_map]at this;refine Nat.le_antisymm this (aMv _ _ (fun i hi=>all_in hp (fun m hm=>?_) hL i i (Nat.le_refl _) hi));have h1:=fX (m:= (m:Int)) (by omega) (by omega) hu;have h2:=jL (m:= (m:Int)) (by omega) hv;have hl1:=kD hu;have hl2:=rQ hv;rw [List.length_replicate]at hl1;have h3:iV (List.replicate p.nodes.length false) (m:Int) =0:=by
      unfold iV;rw [Int.toNat_natCast,List.getElem?_replicate,if_pos hm];rfl
     have h4:iV v (m:Int) =1:=by
      unfold iV;have hlt:m<v.length:=by omega
      have:=List.all_eq_true.1 hf _ (List.getElem_mem hlt);rw [Int.toNat_natCast,getElem?_eq_getElem hlt,this];rfl
     omega
   ·cases hf
 ·cases hf
def gR (s:Str) :List Con→Int→Int
 | [],_=> -1
 |c::t,i=>if c.name=s then i else gR s t (i+1)
theorem oK (s:Str) :∀ (l:List Con) (i:Int),0≤i→gR s l i= -1∨ (i≤gR s l i∧gR s l i<i+l.length∧∃d,l[(gR s l i-i).toNat]?=some d∧d.name=s)
 | [],i,h=>.inl rfl
 | c ::t,i,h=>by
  simp only [gR];split
  · rename_i e;exact .inr ⟨by omega,by simp;omega,c,by simp,e⟩
  · rcases oK s t (i+1) (by omega)with g| ⟨g1,g2,d,g3,g4⟩
    ·exact .inl g
    · refine .inr ⟨by omega,by rw [List.length_cons];omega,d,?_,g4⟩;rw [show(gR s t (i+1) -i).toNat= (gR s t (i+1) - (i+1)).toNat+1 by omega,getElem?_cons_succ];exact g3
def aGO(a:List Int)(b:Int):TS:=⟨(tf 75 26 [(0,(iI a)),(1,(iI a)),(4,(bV false)),(5,(nI b))] [kc f75 116,kl f75 116,.inBlock 0,kc f75 15]),[],[],0⟩
def aGP(a b:Int)(c:Str)(d:List Pat)(e:Int):TS:=⟨(tf 163 53 [kp 2 0,kp 3 1,(4,(bV false)),(5,(nI e))] [kc f163 116,kl f163 116,.inBlock 0,kc f163 15]),[],[oC 0 [(nI a),(nI b),(avS c),(iP d)],oC 1 [(nI a),(nI b),(avS c),(iP d)]],2⟩
def aGQ(a:Node)(b:Int):TS:=⟨(tf 83 54 [kp 2 0,kp 3 1,(4,(bV false)),(5,(nI b))] [kc f83 116,kl f83 116,.inBlock 0,kc f83 15]),[],[oC 0 [(nI a.op),(nI a.n),(iI a.kids),(iP a.pats)],oC 1 [(nI a.op),(nI a.n),(iI a.kids),(iP a.pats)]],2⟩
def aGR(a:Prog)(b:Int):TS:=⟨(tf 26 75 [kp 2 0,kp 3 1,(4,(bV false)),(5,(nI b))] [kc f26 116,kl f26 116,.inBlock 0,kc f26 15]),[],[oC 0 [(iN a.nodes),(iI a.funs),(nI a.main),(iC a.cons)],oC 1 [(iN a.nodes),(iI a.funs),(nI a.main),(iC a.cons)]],2⟩
def aGS(a:Prog)(b:Int):TS:=⟨(tf 26 75 [kp 2 0,kp 3 1,(4,(bV false)),(6,(nI b))] [kc f26 244,kl f26 244,.inBlock 2,kc f26 31]),[],[oC 0 [(iN a.nodes),(iI a.funs),(nI a.main),(iC a.cons)],oC 1 [(iN a.nodes),(iI a.funs),(nI a.main),(iC a.cons)]],2⟩
def aTD (a:List Int):=fun b=>(tT 0 (start PP 75 [(iI a),(iI a)])<|gl 8 bC a<|gl 1 bC a<|.b 2 10 ((a.length:Int) != (a.length:Int)) .x<|.W 9 0 [] (aGO a 0))|>.f b tv
def aVW(b:List Int)(a:Int):=tT 0 (aGO b a)<|gl 5 bC b<|gd 2 14 (a< (b.length:Int)) (.y fun c:Int=>.i [rn 5,.reg (.d::.d::.ans (.idx (bC c))::rd 3 [.ans (.idx (bC c)),.d,.d])] [hA (0≤a),.a (((b)[a.toNat]?) =some c) (aK (f:=bC)),hA (0≤a),.a (((b)[a.toNat]?) =some c) (aK (f:=bC))]<|.b 0 25 (c != c) .x<|gw 6 16 (a+1)<|.W 3 0 [] (aGO b (a+1)))<|gE 7 0 (bV true)
def aTE:=fun c d e f a b g i=>aVW c d|>.t f e a b a b|>.f g i tv
def aTF:=fun a b c=>aVW a b|>.f c tv
def aTG (c d:Int)(a:Str)(b:List Pat):=fun e f g i=>(tT 0 (start PP 163 [(.agg [(nI c),(nI d),(avS a),(iP b)]),(.agg [(nI c),(nI d),(avS a),(iP b)])])<|.b 15 11 (c != c) .x<|.b 7 18 (d != d) .x<|.b 7 25 (!(bE a.length (aA a) a.length (aA a))) .x<|gm 2 aD b<|gm 2 aD b<|.b 3 33 ((b.length:Int) != (b.length:Int)) .x<|.W 9 2 [0,1] (aGP c d a b 0))|>.f e|>.f f|>.f g|>.f i tv
def aVX(i j:Int)(k:Str)(b:List Pat)(a:Int):=tT 0 (aGP i j k b a)<|gm 6 aD b<|gd 2 38 (a< (b.length:Int)) (.y fun c:Int=>.y fun d:Int=>.y fun e:Str=>.y fun f:List Pat=>.y fun g:Bool=>.i [rn 5,.reg (rd 3 (.ans (.idx (Pat.av (Pat.mk c d e f)))::rd 4 [.ans (.idx (Pat.av (Pat.mk c d e f))),.d,.pure (bV g),.d]))] [hA (0≤a),.a (((b)[a.toNat]?) =some (Pat.mk c d e f)) (gZ aD),hA (0≤a),.a (((b)[a.toNat]?) =some (Pat.mk c d e f)) (gZ aD),hA (Pure PP 163 [(.agg [(nI c),(nI d),(avS e),(iP f)]),(.agg [(nI c),(nI d),(avS e),(iP f)])] (bV g))]<|.b 0 52 (!g) .x<|gw 6 40 (a+1)<|.W 3 2 [0,1] (aGP i j k b (a+1)))<|gE 7 2 (bV true)
def aTH:=fun c d e f g i j k l m n a b o p q=>aVX c d e f g|>.t n i j k l m a b a b o|>.f p q tv
def aTI:=fun a b c d e f=>aVX a b c d e|>.f f tv
def aTJ (a:Node):=fun b c d e f g=>(tT 0 (start PP 83 [(Node.av a),(Node.av a)])<|.b 15 11 (a.op != a.op) .x<|.b 7 18 (a.n != a.n) .x<|fZ 4 75 [(iI a.kids),(iI a.kids)]<|fun b=>.b 3 26 (!b) .x<|gm 2 aD a.pats<|gm 2 aD a.pats<|.b 3 34 ((a.pats.length:Int) != (a.pats.length:Int)) .x<|.W 9 2 [0,1] (aGQ a 0))|>.f c|>.f d b e|>.f f|>.f g tv
def aVY(b:Node)(a:Int):=tT 0 (aGQ b a)<|gm 6 aD b.pats<|gd 2 39 (a< (b.pats.length:Int)) (.y fun c:Int=>.y fun d:Int=>.y fun e:Str=>.y fun f:List Pat=>.y fun g:Bool=>.i [rn 5,.reg (rd 3 (.ans (.idx (Pat.av (Pat.mk c d e f)))::rd 4 [.ans (.idx (Pat.av (Pat.mk c d e f))),.d,.pure (bV g),.d]))] [hA (0≤a),.a (((b.pats)[a.toNat]?) =some (Pat.mk c d e f)) (gZ aD),hA (0≤a),.a (((b.pats)[a.toNat]?) =some (Pat.mk c d e f)) (gZ aD),hA (Pure PP 163 [(.agg [(nI c),(nI d),(avS e),(iP f)]),(.agg [(nI c),(nI d),(avS e),(iP f)])] (bV g))]<|.b 0 53 (!g) .x<|gw 6 41 (a+1)<|.W 3 2 [0,1] (aGQ b (a+1)))<|gE 7 2 (bV true)
def aTK:=fun c d e f g i j k a b l m n=>aVY c d|>.t k e f g i j a b a b l|>.f m n tv
def aTL:=fun a b c=>aVY a b|>.f c tv
def aTM (a:Prog):=fun b c d e f g=>(tT 0 (start PP 26 [(Prog.av a),(Prog.av a)])<|gl 11 Node.av a.nodes<|gl 2 Node.av a.nodes<|.b 2 14 ((a.nodes.length:Int) != (a.nodes.length:Int)) .x<|fZ 4 75 [(iI a.funs),(iI a.funs)]<|fun b=>.b 3 22 (!b) .x<|.b 7 29 (a.main != a.main) .x<|gl 2 Con.av a.cons<|gl 2 Con.av a.cons<|.b 3 37 ((a.cons.length:Int) != (a.cons.length:Int)) .x<|.W 9 2 [0,1] (aGR a 0))|>.f c b d|>.f e|>.f f|>.f g tv
def aVZ(c:Prog)(b:Int):=tT 0 (aGR c b)<|gl 6 Con.av c.cons<|gd 2 42 (b< (c.cons.length:Int)) (.y fun a:Con=>.i [rn 5,.reg (rd 3 (.ans (.idx (Con.av a))::rd 4 [.ans (.idx (Con.av a)),.d,.d]))] [hA (0≤b),.a (((c.cons)[b.toNat]?) =some a) (aK (f:=Con.av)),hA (0≤b),.a (((c.cons)[b.toNat]?) =some a) (aK (f:=Con.av))]<|.b 0 55 (!((bE a.name.length (aA a.name) a.name.length (aA a.name)) && ((a.args==a.args) &&true))) .x<|gw 6 44 (b+1)<|.W 3 2 [0,1] (aGR c (b+1)))<|.W 9 2 [0,1] (aGS c 0)
def aTN:=fun c d e f a b g i=>aVZ c d|>.t f e a b a b|>.f g i tv
def aTO:=fun a b c=>aVZ a b|>.f c tv
def aV0(b:Prog)(a:Int):=tT 0 (aGS b a)<|gl 6 Node.av b.nodes<|gd 2 60 (a< (b.nodes.length:Int)) (.y fun c:Node=>.y fun d:Bool=>.i [rn 5,.reg (rd 3 (.ans (.idx (Node.av c))::rd 4 [.ans (.idx (Node.av c)),.d,.pure (bV d),.d]))] [hA (0≤a),.a (((b.nodes)[a.toNat]?) =some c) (aK (f:=Node.av)),hA (0≤a),.a (((b.nodes)[a.toNat]?) =some c) (aK (f:=Node.av)),hA (Pure PP 83 [(Node.av c),(Node.av c)] (bV d))]<|.b 0 74 (!d) .x<|gw 6 62 (a+1)<|.W 3 2 [0,1] (aGS b (a+1)))<|gE 7 2 (bV true)
def aTP:=fun c d e f g a b i j k=>aV0 c d|>.t g e f a b a b i|>.f j k tv
def aTQ:=fun a b c=>aV0 a b|>.f c tv
theorem nB (s:Str) :bE (length s) (aA s) (length s) (aA s) =true:=by rw [hI];simp
theorem aJe (a:List Int)(ha:a.length<1000000) :∀ (t:List Int) (i:Nat),a.drop i=t→Ends PP 0 (aGO a (i:Int)).as (.ret (.bool true)) (aE [] 0)
 | [],i,h=>by
  have:=bK h;exact aTF a i sd
 | y::t,i,h=>by
  obtain⟨g1,g2,g3⟩ :=bJ h;have h1:=aTE a i y sd sd sd (by simp) sd;exact h1.ends (aJe a ha t (i+1) g2)
theorem aJf (a:List Int)(ha:a.length<1000000) :Pure PP 75 [.ilst 1 (map bC a) false,.ilst 1 (map bC a) false] (.bool true) :=
 aN (by kernel_rfl) rfl rfl ((aTD a (by simp)).ends (aJe a ha a 0 rfl))
theorem aJg (f n:Int)(s:Str)(ps:List Pat)(hl:ps.length<1000000)(ih:∀p∈ps,Pure PP 163 [Pat.av p,Pat.av p] (.bool true)) :∀ (t:List Pat) (i:Nat),ps.drop i=t→Ends PP 0 (aGP f n s ps (i:Int)).as (.ret (.bool true)) (aE [] 0)
 | [],i,h=>by
  have:=bK h;exact aTI f n s ps i sd
 | .mk f1 n1 s1 ps1::t,i,h=>by
  obtain⟨g1,g2,g3⟩ :=bJ h;have h1:=aTH f n s ps i f1 n1 s1 ps1 true sd sd sd (ih (.mk f1 n1 s1 ps1) (mem_of_getElem? g1)) rfl sd;exact h1.ends (aJg f n s ps hl ih t (i+1) g2)
mutual
theorem aQ9 :∀ (q:Pat),cF q<1000000→Pure PP 163 [Pat.av q,Pat.av q] (.bool true)
 | .mk f n s ps,h=>by
  simp only [cF]at h;have:=eP ps;exact aN (by kernel_rfl) (by simp [AV.keylessL,mV]) rfl ((aTG f n s ps (by simp) (by simp) (by rw [nB];rfl) (by simp)).ends (aJg f n s ps (by omega) (aGT ps (by omega)) ps 0 rfl))
theorem aGT :∀ (ps:List Pat),aV ps<1000000→∀p∈ps,Pure PP 163 [Pat.av p,Pat.av p] (.bool true)
 | [],_,p,hp=>by cases hp
 | q::ps,h,p,hp=>by
  simp only [aV]at h;rcases List.mem_cons.1 hp with e|hp
  ·rw [e];exact aQ9 q (by omega)
  ·exact aGT ps (by omega) p hp
end
theorem aJh (x:Node)(hl:x.pats.length<1000000)(ih:∀p∈x.pats,Pure PP 163 [Pat.av p,Pat.av p] (.bool true)) :∀ (t:List Pat) (i:Nat),x.pats.drop i=t→Ends PP 0 (aGQ x (i:Int)).as (.ret (.bool true)) (aE [] 0)
 | [],i,h=>by
  have:=bK h;exact aTL x i sd
 | .mk f1 n1 s1 ps1::t,i,h=>by
  obtain⟨g1,g2,g3⟩ :=bJ h;have h1:=aTK x i f1 n1 s1 ps1 true sd sd sd (ih (.mk f1 n1 s1 ps1) (mem_of_getElem? g1)) rfl sd;exact h1.ends (aJh x hl ih t (i+1) g2)
def aTR (x:Node) :Prop:=x.kids.length<1000000∧aV x.pats<1000000
structure FitP (q:Prog) :Prop where
 nodes:q.nodes.length≤1000000
 funs:q.funs.length<1000000
 cons:q.cons.length<1000000
 node:∀x∈q.nodes,aTR x
theorem aRa (x:Node)(h:aTR x) :Pure PP 83 [Node.av x,Node.av x] (.bool true) :=by
 have:=eP x.pats;have h1:=h.1;have h2:=h.2;exact aN (by kernel_rfl) (by simp [AV.keylessL,Node.av,AV.keyless]) rfl ((aTJ x true (by simp) (by simp) (aJf x.kids h.1) rfl (by simp)).ends (aJh x (by omega) (aGT x.pats h.2) x.pats 0 rfl))
theorem aV1 (p:Prog)(hp:FitP p) :∀ (t:List Node) (i:Nat),p.nodes.drop i=t→Ends PP 0 (aGS p (i:Int)).as (.ret (.bool true)) (aE [] 0)
 | [],i,h=>by
  have:=bK h;exact aTQ p i sd
 | x::t,i,h=>by
  obtain⟨g1,g2,g3⟩ :=bJ h;have hn:=hp.nodes;have h1:=aTP p i x true sd sd sd (aRa x (hp.node x (mem_of_getElem? g1))) rfl sd;exact h1.ends (aV1 p hp t (i+1) g2)
theorem aV2 (p:Prog)(hp:FitP p) :∀ (t:List Con) (i:Nat),p.cons.drop i=t→Ends PP 0 (aGR p (i:Int)).as (.ret (.bool true)) (aE [] 0)
 | [],i,h=>by
  have:=bK h;exact(aTO p i sd).ends (aV1 p hp p.nodes 0 rfl)
 | c::t,i,h=>by
  obtain⟨g1,g2,g3⟩ :=bJ h;have hn:=hp.cons;have h1:=aTN p i c sd sd sd (by rw [nB];simp) sd;exact h1.ends (aV2 p hp t (i+1) g2)
theorem aLE (p:Prog)(hp:FitP p) :Pure PP 26 [Prog.av p,Prog.av p] (.bool true) :=
 aN (by kernel_rfl) (by simp [AV.keylessL,Prog.av,AV.keyless]) rfl ((aTM p true (by simp) (aJf p.funs hp.funs) rfl (by simp) (by simp)).ends (aV2 p hp p.cons 0 rfl))
theorem aA8 {f:Nat}{args:List AV}{v v':AV}(h:Pure PP f args v)(hv:∀ (E:Emb) (cv:Value),VR E v cv→VR E v' cv) :Pure PP f args v':=fun hh=>by
 obtain⟨g,hg,he⟩ :=h hh;exact⟨g,hg,aE1 he hv⟩
mutual
theorem aA9 (mc:List (Int×Int)) :∀q:Pat,cF (vS mc q) =cF q
 | .mk f n t ps=>by rw [vS,cF,cF,aDy mc ps]
theorem aDy (mc:List (Int×Int)) :∀ps:List Pat,aV (fK mc ps) =aV ps
 | [] =>rfl
 |q::ps=>by rw [fK,aV,aV,aA9 mc q,aDy mc ps]
end
def FunD.nm :FunD→Str
 | .mk n _ _ _ _=>n
def aRb (l:List Str)(s:Str) :Nat→Int
 |0=> -1
 |i+1=>if l[i]?=some s then(i:Int)else aRb l s i
def aLF (l:List Str)(s:Str) :Int:=aRb l s l.length
def aLG (op:Int)(s:Str)(ps:List Pat)(k:Nat) :List Str:=
 if op=5∨op=27 then [s]else if op=7 then(if k=1 then [s]else [])else if op=15 then(match k with|0=>[] |j+1=>match ps[j]? with|some p=>aQ0 p|none=>[])else []
structure LFun where
 name:Str
 body:Int
def LFun.av (f:LFun) :AV:=.agg [avS f.name,.int .i64 f.body]
structure LUnit where
 name:Str
 cons:List Con
 funs:List LFun
 needs:List Str
 nodes:List Node
def LUnit.av (u:LUnit) :AV:=.agg [avS u.name,.ilst 2 (map Con.av u.cons) false,.ilst 2 (map LFun.av u.funs) false,.ilst 1 (map avS u.needs) false,.ilst 4 (map Node.av u.nodes) false]
structure LPlace where
 nodes:Int
 funs:Int
def LPlace.av (p:LPlace) :AV:=.agg [.int .i64 p.nodes,.int .i64 p.funs]
theorem uP {E:Emb}{e:Nat}{ex:Bool}:∀v,VR E .nils v→VR E (.ilst e [] ex) v:=fun v h=>by
 simp only [VR]at h;simp only [VR];exact⟨[],VRs.nil _,fun _ hu=>by(cases hu),.inl ⟨rfl,none,0,h,fun _=>rfl,fun _=>rfl⟩⟩
theorem aDz {l:List ONode}{nn:List Node}(h:l=map Node.o nn) :map ONode.av l=map Node.av nn:=by rw [h,aTa]
theorem aOn {f:Nat}{args args':List AV}{v:AV}(h:Pure PP f args v)(hl:args'.length=args.length)(ha:∀ (E:Emb) (i:Nat) (a a':AV) (c:Value),args[i]?=some a→args'[i]?=some a'→VR E a' c→VR E a c) :Pure PP f args' v:=fun hh=>by
 obtain⟨g,hg,he⟩ :=h hh;simp only [cO,bW]at hg;split at hg
 · rename_i fn hfn;split at hg
   · rename_i c hc;cases hg;refine⟨_,by simp only [cO,bW,hfn,hc];rfl,?_⟩;intro hm E fr ccs w hfr fs r cl base;refine he hm E fr ccs w ?_ fs r cl base;refine⟨hfr.fn,⟨by have:=hfr.tm.1;rw [hl]at this;exact this,fun t a e=>?_⟩,hfr.todo,hfr.defers,hfr.mode,hfr.kind,hfr.round⟩;have ht:t<args.length∧args[t]?=some a:=by
      have e': (cH .leaf 0 args).at t=some a:=e;unfold cH at e';rw [bM]at e';split at e'
      ·rename_i hlt;exact⟨hlt,e'⟩
      ·cases e'
     have ht':args'[t]?=some args'[t] :=getElem?_eq_getElem (by omega)
     obtain⟨cv,g1,g2⟩ :=hfr.tm.2 t args'[t] (by
      show(cH .leaf 0 args').at t=_;unfold cH;rw [bM,if_pos (by omega)];exact ht')
     exact⟨cv,g1,ha E t _ _ cv ht.2 ht' g2⟩
   ·cases hg
 ·cases hg
def aGU(a:List Str)(b:Str)(c:Int):TS:=⟨(tf 82 19 [(0,(iS a)),(1,(avS b)),(4,(nI 0)),(5,(nI c))] [kc f82 52,kl f82 52,.inBlock 0,kc f82 7]),[],[],0⟩
def aAl(a:List Str)(b:Int):TS:=⟨(tf 115 18 [(0,(iS a)),(2,(bV false)),(3,(nI b))] [kc f115 52,kl f115 52,.inBlock 0,kc f115 7]),[],[],0⟩
def aV3(a b:LUnit):TS:=dO PP 29 [(.agg [(avS a.name),(iC a.cons),(.ilst 2 (map LFun.av a.funs) false),(iS a.needs),(iN a.nodes)]),(.agg [(avS b.name),(iC b.cons),(.ilst 2 (map LFun.av b.funs) false),(iS b.needs),(iN b.nodes)])] [] 0
def aGV(a b:LUnit)(c:Int):TS:=⟨(tf 29 57 [kp 2 0,kp 3 1,(4,(bV false)),(5,(nI c))] [kc f29 116,kl f29 116,.inBlock 0,kc f29 15]),[],[oC 0 [(avS a.name),(iC a.cons),(.ilst 2 (map LFun.av a.funs) false),(iS a.needs),(iN a.nodes)],oC 1 [(avS b.name),(iC b.cons),(.ilst 2 (map LFun.av b.funs) false),(iS b.needs),(iN b.nodes)]],2⟩
def aTS (a:List Str)(b:Str):=(tT 0 (start PP 82 [(iS a),(avS b)])<|.W 11 0 [] (aGU a b 0)) tv
def aLH(b:List Str)(c:Str)(a:Int):=tT 0 (aGU b c a)<|gl 5 avS b<|gd 2 9 (a< (b.length:Int)) (gX avS 8 b a<|fun d=>.b 4 17 (bE d.length (aA d) c.length (aA c)) (gE 7 0 (nI a))<|gw 6 11 (a+1)<|.W 3 0 [] (aGU b c (a+1)))<|gE 7 0 (nI (-1))
def aTT:=fun a b c d e f g i=>aLH a b c|>.t e d f g|>.t i tv
def aTU:=fun a b c d e f g i j=>aLH a b c|>.t e d f g|>.f i j tv
def aTV:=fun a b c d=>aLH a b c|>.f d tv
def aOo (a:List Str):=(tT 0 (start PP 115 [(iS a)])<|.W 11 0 [] (aAl a 0)) tv
def aLI(a:List Str)(b:Int):=tT 0 (aAl a b)<|gl 5 avS a<|gd 2 7 (b< (a.length:Int)) (gX avS 8 a b<|fun c=>fZ 1 86 [(avS c)]<|fun d=>.b 2 15 (!d) (gE 6 0 (bV false))<|gw 6 9 (b+1)<|.W 3 0 [] (aAl a (b+1)))<|fZ 5 71 [(iS a)]<|fun c=>gE 3 0 (bV c)
def aOp:=fun a b c d e f g i j=>aLI a b|>.t e c f g d i|>.t j tv
def aOq:=fun a b c d e f g i j k=>aLI a b|>.t e c f g d i|>.f j k tv
def aOr:=fun a b c d e=>aLI a b|>.f d c e tv
def aTW(a b:LUnit):=tT 0 (aV3 a b)<|.b 15 11 (!(bE a.name.length (aA a.name) b.name.length (aA b.name))) (gE 23 2 (bV false))<|fZ 4 21 [(iS a.needs),(iS b.needs)]<|fun c=>.b 3 19 (!c) (gE 15 2 (bV false))<|gl 2 LFun.av a.funs<|gl 2 LFun.av b.funs<|.b 3 27 ((a.funs.length:Int) != (b.funs.length:Int)) (gE 6 2 (bV false))<|.W 9 2 [0,1] (aGV a b 0)
def aTX:=fun a b c d e f g=>aTW a b|>.f d c e|>.f f|>.f g tv
def aMw(b d:LUnit)(a:Int):=tT 0 (aGV b d a)<|gl 6 LFun.av b.funs<|gd 2 32 (a< (b.funs.length:Int)) (.y fun c:LFun=>.y fun e:LFun=>.i [rn 5,.reg (rd 3 (.ans (.idx (LFun.av c))::rd 4 [.ans (.idx (LFun.av e)),.d,.d]))] [hA (0≤a),.a (((b.funs)[a.toNat]?) =some c) (aK (f:=LFun.av)),hA (0≤a),.a (((d.funs)[a.toNat]?) =some e) (aK (f:=LFun.av))]<|.b 0 45 (!((bE c.name.length (aA c.name) e.name.length (aA e.name)) && ((c.body==e.body) &&true))) (gE 6 2 (bV false))<|gw 6 34 (a+1)<|.W 3 2 [0,1] (aGV b d (a+1)))<|fZ 14 26 [(.agg [(iN b.nodes),.nils,(nI 0),(iC b.cons)]),(.agg [(iN d.nodes),.nils,(nI 0),(iC d.cons)])]<|fun c=>gE 3 2 (bV c)
def aTY:=fun b c d e f g a i j k l=>aMw b c d|>.t g e f a i a j|>.f k l tv
def aTZ:=fun a b c d e f=>aMw a b c|>.f e d f tv
theorem aRc (u:LUnit) :AV.keyless u.av=true:=by simp [LUnit.av,AV.keyless,AV.keylessL,avS]
def dH (s:Str) :List Str→Nat→Int
 | [],_=> -1
 |x::l,i=>if x=s then(i:Int)else dH s l (i+1)
theorem aJi (l:List Str)(s:Str)(hl:l.length<1000000) :∀ (t:List Str) (i:Nat),l.drop i=t→Ends PP 0 (aGU l s (i:Int)).as (.ret (.int .i64 (dH s t i))) (aE [] 0)
 | [],i,h=>by
  have:=bK h;exact aTV l s i sd
 | c ::t,i,h=>by
  obtain⟨q1,q2,q3⟩ :=bJ h;rw [dH];by_cases e:c=s
  · rw [if_pos e];exact aTT l s i c sd sd sd (by rw [hI];simp [e])
  · rw [if_neg e];exact(aTU l s i c sd sd sd (by rw [hI];simp [e]) sd).ends (aJi l s hl t (i+1) q2)
theorem aRd (l:List Str)(s:Str)(hl:l.length<1000000) :Pure PP 82 [.ilst 1 (map avS l) false,avS s] (.int .i64 (dH s l 0)) :=
 aN (by kernel_rfl) rfl rfl ((aTS l s).ends (aJi l s hl l 0 rfl))
def fN (u:LUnit) :List Str:=u.funs.map LFun.name
def oM (l:List Str) :Bool:=l.all xC&&eI l
theorem aJj (l:List Str)(hl:l.length<1000000) :∀ (t:List Str) (i:Nat),l.drop i=t→Ends PP 0 (aAl l (i:Int)).as (.ret (.bool (t.all xC&&eI l))) (aE [] 0)
 | [],i,h=>by
  have:=bK h;rw [List.all_nil,Bool.true_and];exact aOr l i _ sd (aAf l hl)
 | c::t,i,h=>by
  obtain⟨q1,q2,q3⟩ :=bJ h;have hn:=aQY c;rw [List.all_cons];cases e:xC c with
  |false=>rw [e]at hn;exact aOp l i c false sd sd sd hn rfl
  |true=>rw [e]at hn;rw [Bool.true_and];exact(aOq l i c true sd sd sd hn rfl sd).ends (aJj l hl t (i+1) q2)
theorem aJk (l:List Str)(hl:l.length<1000000) :Pure PP 115 [.ilst 1 (map avS l) false] (.bool (oM l)) :=
 aN (by kernel_rfl) rfl rfl ((aOo l).ends (aJj l hl l 0 rfl))
def jQ (l:List LUnit) :List Str:= (l.map fN).flatten
theorem aBa (u:LUnit)(l:List LUnit) :jQ (u::l) =fN u++jQ l:=rfl
structure FewU (u:LUnit) :Prop where
 f:u.funs.length≤30
 n:u.needs.length≤25
 p:aH ⟨u.nodes,[],0,u.cons⟩ =true
 nm:∀f∈u.funs,f.name.length≤30
 nd:∀s∈u.needs,s.length≤30
def aJl (s:Str) :List LUnit→Nat→Int
 | [],_=> -1
 |u::l,i=>if bO (fN u) s=true then(i:Int)else aJl s l (i+1)
theorem aOs {f:Nat}{a a' b b' v:AV}(h:Pure PP f [a,b] v)(ha:∀ (E:Emb) (c:Value),VR E a' c→VR E a c)(hb:∀ (E:Emb) (c:Value),VR E b' c→VR E b c) :Pure PP f [a',b'] v:=
 aOn h rfl (fun E i x x' c h1 h2 hv=>by
  match i with
  |0=>simp only [getElem?_cons_zero,Option.some.injEq]at h1 h2;subst h1 h2;exact ha E c hv
  |1=>simp only [getElem?_cons_succ,getElem?_cons_zero,Option.some.injEq]at h1 h2;subst h1 h2;exact hb E c hv
  |i+2=>simp at h1)
theorem aE5 {E:Emb}{ns:List Node}{cs:List Con}{c:Value}(h:VR E (.agg [.ilst 4 (map Node.av ns) false,.nils,.int .i64 0,.ilst 2 (map Con.av cs) false]) c) :VR E (Prog.av ⟨ns,[],0,cs⟩) c:=by
 simp only [Prog.av,VR]at h ⊢;obtain⟨ws,rfl,h5⟩ :=h;obtain⟨a1,w1,rfl,c1,h5⟩ :=h5.cons_inv;obtain⟨a2,w2,rfl,c2,h5⟩ :=h5.cons_inv;exact⟨_,rfl,VRs.cons c1 (VRs.cons (uP _ c2) h5)⟩
def uQ (u:LUnit) :Prog:= ⟨u.nodes,[],0,u.cons⟩
theorem aMx {α:Type}{l:List α}{i:Nat}{y:α}(h:l[i]?=some y) :l.take (i+1) =l.take i++ [y] :=by rw [List.take_add_one,h];rfl
structure FitU (u:LUnit) :Prop where
 p:FitP (uQ u)
 f:u.funs.length<1000000
 n:u.needs.length<1000000
section
variable {α :Type} {f:α→α} {l:List α} {i:Nat}
end
def uR (a b:Nat)(x:Node) :Node:=if x.op=4∧ -(a:Int) -b≤x.n∧x.n≤ -(a:Int) -1 then⟨x.op,-1,x.kids,x.pats⟩else x
def hU (u:LUnit) :List Int:=u.funs.map LFun.body
def oZ (u:LUnit) :Prog:= ⟨u.nodes.map (uR u.funs.length u.needs.length),hU u,0,u.cons⟩
def aMy (u:LUnit) :Prog:= ⟨[⟨3,0,[],[]⟩],[0],0,u.cons⟩
def aGW (u:LUnit) :Bool:=xC u.name&&decide (u.needs.length≤20) &&oM (fN u) &&oM u.needs&&u.needs.all (fun s=> !bO (fN u) s) &&
 (if u.funs.length=0 then decide (u.nodes.length=0) &&aW (aMy u)else aW (oZ u))
theorem vN {u:LUnit}(h:FewU u) :aH (oZ u) =true:=by
 have h0:=h.p;have hf:=h.f;simp only [aH,and_eq_true,decide_eq_true_eq]at h0 ⊢;obtain⟨⟨⟨⟨h1,h2⟩,h3⟩,h4⟩,h5⟩ :=h0;refine⟨⟨⟨⟨by simp [oZ];exact h1,by simp [oZ,hU];omega⟩,h3⟩,h4⟩,List.all_eq_true.2 (fun x hx=>?_)⟩;simp only [oZ,List.mem_map]at hx;obtain⟨y,hy,rfl⟩ :=hx;have:=List.all_eq_true.1 h5 y hy;unfold uR;split<;>exact this
theorem aLJ {u:LUnit}(h:FewU u) :aH (aMy u) =true:=by
 have h0:=h.p;simp only [aH,and_eq_true,decide_eq_true_eq]at h0 ⊢;obtain⟨⟨⟨⟨h1,h2⟩,h3⟩,h4⟩,h5⟩ :=h0;exact⟨⟨⟨⟨by simp [aMy],by simp [aMy]⟩,h3⟩,h4⟩,by rfl⟩
section
variable (u :LUnit) (hu:FewU u)
include hu
end
def aE6 (own:List Str) :List Str→List Str→List Str
 |out,[] =>out
 |out,s::t=>aE6 own (if bO own s=true∨bO out s=true then out else out++ [s]) t
def aJm (own:List Str) :List Str→List LUnit→List Str
 |out,[] =>out
 |out,u::l=>aJm own (aE6 own out u.needs) l
def aV4 (l:List LUnit) :List Str:=aJm (jQ l) [] l
end
end Go.Hb
