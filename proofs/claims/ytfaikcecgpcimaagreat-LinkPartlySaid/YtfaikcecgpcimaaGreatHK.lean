/- A machine on abstract values, its soundness, ways, plain laws. -/
import Derived.Test.YtfaikcecgpcimaaGreatHF
import Derived.Test.YtfaikcecgpcimaaGreatHG
import Derived.Test.YtfaikcecgpcimaaGreatHH
import Derived.Test.YtfaikcecgpcimaaGreatHI
import Derived.Test.YtfaikcecgpcimaaGreatHJ
set_option linter.defProp false
set_option linter.unusedVariables false
set_option linter.unusedSimpArgs false
set_option linter.unusedSectionVars false
set_option maxRecDepth 100000
set_option maxHeartbeats 4000000
namespace Go.Hb
open AV (frzOk ilst keyless keylessL nils)
open Bool (and_eq_true)
open Int (toNat_natCast)
open List (all_cons all_nil append_assoc append_nil count_append flatten_cons getElem?_cons_succ getElem?_cons_zero getElem?_eq_getElem length length_cons length_set map map_cons map_nil mem_cons_of_mem mem_cons_self mem_of_getElem? replicate set take_of_length_le)
open Go.Proofs Tryz
noncomputable section
section
variable {p :Prog} {mf mc:List (Int×Int)} {F C:List Int} {to:List Int}
end
def aRg (x:Node)(i:Nat) :Nat→List Int→List Int→List Int
 |_,[],l=>l
 |j,k::ks,l=>aRg x i (j+1) ks (l.set k.toNat (l.getD i 0+aJl x j))
def aMH :Nat→List Node→List Int→List Int
 |_,[],l=>l
 |i,x::t,l=>aMH (i+1) t (aRg x i 0 x.kids l)
def aRh :List Int→List Int→List Int
 | [],l=>l
 |f::fs,l=>aRh fs (l.set f.toNat 1)
def aLG (p:Prog) :List Int:=aMH 0 p.nodes (aRh p.funs (replicate p.nodes.length 0))
theorem aAi {lo n:Int}:∀ {ks:List Int} {u v:List Bool},marks lo n ks u=some v→∀k∈ks,lo≤k∧k≤n-1
 | [],_,_,_,k,hk=>by cases hk
 | a ::ks,u,v,h,k,hk=>by
  simp only [marks]at h;split at h
  · rename_i g;rcases List.mem_cons.1 hk with rfl|hk
    ·exact inB_iff.1 g.1
    ·exact aAi h k hk
  ·cases h
theorem aLH {lo n k:Int}{ks:List Int}{u v:List Bool}(h:marks lo n (k::ks) u=some v) :u[k.toNat]?=some false∧marks lo n ks (u.set k.toNat true) =some v:=by
 simp only [marks]at h;split at h
 ·rename_i g;exact⟨g.2,h⟩
 ·cases h
theorem oD {p:Prog}{i:Nat}{x:Node}{t:List Node}{u v:List Bool}(h:cR p i (x::t) u=some v) :bR p x=true∧∃w,marks ((i:Int) +1) p.nodes.length x.kids u=some w∧cR p (i+1) t w=some v:=by
 simp only [cR]at h;split at h
 · rename_i g;split at h
   ·rename_i w hw;exact⟨g,w,hw,h⟩
   ·cases h
 ·cases h
theorem aAj {p:Prog}:∀ {t:List Node} {i:Nat} {u v:List Bool},cR p i t u=some v→v.length=u.length
 | [],i,u,v,h=>by simp only [cR,Option.some.injEq]at h;rw [h]
 | x::t,i,u,v,h=>by
  obtain⟨_,w,hw,h2⟩ :=oD h;rw [aAj h2,oU hw]
theorem rB {p:Prog}:∀ {t:List Node} {i:Nat} {u v:List Bool},cR p i t u=some v→∀ (j:Nat) (x:Node),t[j]?=some x→bR p x=true∧∀k∈x.kids,((i+j:Nat) :Int) <k∧k<p.nodes.length
 | [],i,u,v,h,j,x,hx=>by simp at hx
 | y::t,i,u,v,h,j,x,hx=>by
  obtain⟨g,w,hw,h2⟩ :=oD h;cases j with
  | zero=>
   simp at hx;subst hx;exact⟨g,fun k hk=>by have:=aAi hw k hk;omega⟩
  | succ j=>
   have:=rB h2 j x (by simpa using hx);exact⟨this.1,fun k hk=>by have:=this.2 k hk;omega⟩
structure Sprop (p:Prog) (S:List Int) :Prop where
 len:S.length=p.nodes.length
 root:∀f∈p.funs,S[f.toNat]?=some 1
 kid:∀ (i:Nat) (x:Node) (d:Nat) (k:Int),p.nodes[i]?=some x→x.kids[d]?=some k→∃s,S[i]?=some s∧S[k.toNat]?=some (s+aJl x d)
inductive Reach (p:Prog) :Nat→Nat→Prop where
 |refl (a:Nat) :Reach p a a
 |step {a i:Nat} {x:Node} {k:Int}:Reach p a i→p.nodes[i]?=some x→k∈x.kids→Reach p a k.toNat
theorem Reach.first {p:Prog}{a m:Nat}(h:Reach p a m) :m=a∨∃ (x:Node) (k:Int),p.nodes[a]?=some x∧k∈x.kids∧Reach p k.toNat m:=by
 induction h with
 |refl=>exact .inl rfl
 | step h hx hk ih=>
  rename_i i x k;rcases ih with rfl| ⟨y,q,h1,h2,h3⟩
  ·exact .inr ⟨x,k,hx,hk,Reach.refl _⟩
  ·exact .inr ⟨y,q,h1,h2,h3.step hx hk⟩
theorem aJm {p:Prog}(hs:aL p=true) :Pure PP 138 [Prog.av p] (.int .i64 (checkN (aZ p))) :=by
 have h2:=aJh p hs;rw [aOz]at h2;exact h2
theorem nM {p:Prog}(hp:aL p=true)(hf:aZ p=true) :FineP p:=by
 have hs:=hp;simp only [aL,and_eq_true,decide_eq_true_eq]at hs;obtain⟨⟨⟨⟨s1,s2⟩,s3⟩,_⟩,s5⟩ :=hs;simp only [aZ,and_eq_true]at hf;obtain⟨_,hf⟩ :=hf;split at hf
 · rename_i u hu;unfold allT at hf;split at hf
   · rename_i v hv;refine⟨s1,s2,fun i x hx=>?_,fun f hf=>?_⟩
     · have:=rB hv i x hx;have h10:=List.all_eq_true.1 s5 x (mem_of_getElem? hx);simp only [bG,and_eq_true,decide_eq_true_eq]at h10;exact⟨aUi this.1,h10.1.1,fun k hk=>by have:=this.2 k hk;omega⟩
     ·have:=aAi hu f hf;omega
   ·cases hf
 ·cases hf
theorem aRi {n:Nat}{i:Int}(h0:0≤i)(h1:i<n) : (numsL 0 n)[i.toNat]?=some i:=by
 rw [aEV 0 (by omega)];congr 1;omega
def aJn (n:Nat)(m:List (Int×Int))(l:List Int) :Prop:=∀i:Int,0≤i→i<n→l[i.toNat]?=some (wY m i)
theorem aMI (n:Nat) :aJn n (sM n) (numsL 0 n) :=fun i h0 h1=>by rw [aRi h0 h1,aX2 h0 h1]
mutual
theorem aZh (cons:List Con){mc:List (Int×Int)}{C:List Int}(hC:aJn cons.length mc C) :∀ (q:Pat),cT cons q=true→aGG C q=some (aGK mc q)
 | .mk f n s ps,h=>by
  rw [cT,and_eq_true]at h;have hps:=aGO cons hC ps h.2;have hN:aDk C f n=some (if f=6 then wY mc n else n) :=by
   unfold aDk;by_cases hf:f=6
   · subst hf;have hh:=h.1;simp only [cZ]at hh;simp [dB]at hh;obtain⟨⟨⟨h0,h1⟩,_⟩,_⟩ :=hh;rw [if_pos rfl,if_pos rfl,if_pos h0,hC n h0 (by omega)]
   ·rw [if_neg hf,if_neg hf]
  rw [aGG,hN];simp only;rw [hps,aGK]
theorem aGO (cons:List Con){mc:List (Int×Int)}{C:List Int}(hC:aJn cons.length mc C) :∀ (ps:List Pat),bS cons ps=true→jS C ps=some (oZ mc ps)
 | [],_=>rfl
 | q::ps,h=>by
  rw [bS,and_eq_true]at h;rw [jS,aZh cons hC q h.1];simp only;rw [aGO cons hC ps h.2,oZ]
end
theorem rC {cons:List Con}:∀ {ps:List Pat},(∀q∈ps,cT cons q=true) →bS cons ps=true
 | [],_=>rfl
 | q::ps,h=>by
  rw [bS,h q (mem_cons_self ..),rC (fun x hx=>h x (mem_cons_of_mem _ hx))];rfl
theorem aA5 {c:Nat}:∀ {ps:List Pat},(∀q∈ps,cL q≤c) →bC ps≤c*ps.length
 | [],_=>by simp [bC]
 | q::ps,h=>by
  have h1:=h q (mem_cons_self ..);have h2:=aA5 (c:=c) (ps:=ps) (fun x hx=>h x (mem_cons_of_mem _ hx));simp only [bC,length_cons];rw [Nat.mul_add,Nat.mul_one];omega
theorem aRj {p:Prog}{mf mc:List (Int×Int)}{F C:List Int}(hF:aJn p.funs.length mf F)(hC:aJn p.cons.length mc C)(hB:∀i:Int,0≤i→i<p.funs.length→0≤wY mf i∧wY mf i≤1000000)(hs:p.funs.length≤320){x:Node}(h:bR p x=true)(h10:x.pats.length≤10) :
  (bC x.pats<1000000∧mN F C x.op x.n=some (bN mf mc x.op x.n) ∧jS C x.pats=some (oZ mc x.pats)) ∧nOk mf x:=by
 simp only [bR,and_eq_true,jG]at h;obtain⟨⟨⟨h1,_⟩,h2⟩,_⟩ :=h
 have hq:∀q∈x.pats,cL q≤12∧cT p.cons q=true:=fun q hq=>by
  have:=List.all_eq_true.1 h2 q hq;simpa [fP]using this
 have hps:bC x.pats≤12*x.pats.length:=aA5 (fun q h=> (hq q h).1)
 have hr4:x.op=4→ -(p.funs.length:Int) ≤x.n∧x.n≤29:=fun e=>by
  rw [e]at h1;simp [dC,dB]at h1;omega
 have hr14:x.op=14→0≤x.n∧x.n<p.cons.length:=fun e=>by
  rw [e]at h1;simp [dC,dB]at h1;omega
 refine⟨⟨by omega,?_,aGO p.cons hC x.pats (rC fun q h=> (hq q h).2)⟩,by omega,fun e hn=>?_⟩
 · unfold mN bN;by_cases h4:x.op=4
   · have hr:=hr4 h4;by_cases hn:x.n<0
     · have hb:=hB (-1-x.n) (by omega) (by omega);rw [if_pos ⟨h4,hn⟩,if_pos h4,if_neg (by omega),hF _ (by omega) (by omega)];simp only;rw [if_pos (by omega)]
     ·rw [if_neg (fun h=>hn h.2),if_neg (show ¬x.op=14 by omega),if_pos h4,if_pos (show 0≤x.n by omega)]
   · rw [if_neg (fun h=>h4 h.1),if_neg h4];by_cases h14:x.op=14
     · have hr:=hr14 h14;rw [if_pos h14,if_pos h14,if_pos hr.1,hC _ hr.1 hr.2]
     ·rw [if_neg h14,if_neg h14]
 · have hr:=hr4 e;have hb:=hB (-1-x.n) (by omega) (by omega);omega
theorem aOB {p:Prog}(hF:p.funs.length≤320){x:Node}(h:bR p x=true)(h10:x.pats.length≤10) :
  (bC x.pats<1000000∧mN (numsL 0 p.funs.length) (numsL 0 p.cons.length) x.op x.n=some (bN (sM p.funs.length) (sM p.cons.length) x.op x.n) ∧jS (numsL 0 p.cons.length) x.pats=some (oZ (sM p.cons.length) x.pats)) ∧nOk (sM p.funs.length) x:=
 aRj (aMI _) (aMI _) (fun i h0 h1=>by rw [aX2 h0 h1];omega) hF h h10
def eE (p:Prog)(i:Int) :List Int:=match p.nodes[i.toNat]? with
 |some x=>x.kids
 |none=>[]
section
variable {p :Prog}
theorem yI {q:Int→List Int}(m:Int) :∀ (ks:List Int),(∀k∈ks,(q k).count m= [k].count m+ (((q k).map (eE p)).flatten).count m) →
  ((ks.map q).flatten).count m=ks.count m+ ((((ks.map q).flatten).map (eE p)).flatten).count m
 | [],_=>rfl
 | k::ks,h=>by
  have h1:=h k (mem_cons_self ..);have h2:=yI m ks (fun x hx=>h x (mem_cons_of_mem _ hx));rw [map_cons,flatten_cons,count_append,List.map_append,List.flatten_append,count_append,h1,h2,show k::ks= [k] ++ks from rfl,count_append];omega
theorem aE5 (hp:FineP p)(m:Int) :∀ (f:Nat) (a:Int),0≤a→a<p.nodes.length→p.nodes.length-a.toNat≤f→ (pre p f a).count m= [a].count m+ (((pre p f a).map (eE p)).flatten).count m
 |0,a,ha,hn,hf=>by omega
 | f+1,a,ha,hn,hf=>by
  obtain⟨x,hx⟩ :∃x,p.nodes[a.toNat]?=some x:= ⟨_,getElem?_eq_getElem (by omega)⟩;obtain⟨_,_,hks⟩ :=hp.node _ _ hx;have e:pre p (f+1) a=a:: (x.kids.map (pre p f)).flatten:=by rw [pre,hx]
  have ek:eE p a=x.kids:=by unfold eE;rw [hx]
  have h2:=yI (p:=p) m x.kids (fun k hk=>by
   have:=hks k hk;exact aE5 hp m f k (by omega) (by omega) (by omega))
  rw [e,map_cons,flatten_cons,count_append,ek,show a:: (x.kids.map (pre p f)).flatten= [a] ++ (x.kids.map (pre p f)).flatten from rfl,count_append,h2]
theorem aRk (hp:FineP p) :∀ (f:Nat) (a:Int),0≤a→a<p.nodes.length→∀y∈pre p f a,0≤y∧y<p.nodes.length
 |0,a,_,_,y,hy=>by cases hy
 | f +1,a,ha,hn,y,hy=>by
  obtain⟨x,hx⟩ :∃x,p.nodes[a.toNat]?=some x:= ⟨_,getElem?_eq_getElem (by omega)⟩;obtain⟨_,_,hks⟩ :=hp.node _ _ hx;have e:pre p (f+1) a=a:: (x.kids.map (pre p f)).flatten:=by rw [pre,hx]
  rw [e]at hy;rcases List.mem_cons.1 hy with rfl|hy
  ·exact⟨ha,hn⟩
  · obtain⟨l,hl,hy⟩ :=List.mem_flatten.1 hy;obtain⟨k,hk,rfl⟩ :=List.mem_map.1 hl;have:=hks k hk;exact aRk hp f k (by omega) (by omega) y hy
def uF (u:List Bool)(m:Int) :Nat:=if u[m.toNat]?=some true then 1 else 0
theorem nN {lo n:Int}(hlo:0≤lo){m:Int}(hm:0≤m) :∀ {ks:List Int} {u v:List Bool},marks lo n ks u=some v→ks.count m+uF u m=uF v m
 | [],u,v,h=>by cases h;simp
 | k ::ks,u,v,h=>by
  have hk:=aAi h k (mem_cons_self ..);obtain⟨h1,h2⟩ :=aLH h;have h3:=nN hlo hm h2;rw [←h3,show k::ks= [k] ++ks from rfl,count_append];have hlt:= (List.getElem?_eq_some_iff.1 h1).1;by_cases e:k=m
  · subst e;have a1:uF u k=0:=by unfold uF;rw [h1];rfl
    have a2:uF (u.set k.toNat true) k=1:=by unfold uF;rw [List.getElem?_set_self hlt];rfl
    rw [a1,a2];simp;omega
  · have a1:uF (u.set k.toNat true) m=uF u m:=by unfold uF;rw [List.getElem?_set_ne (by omega)]
    rw [a1,List.count_singleton,if_neg (by simpa using e)];omega
theorem mO {m:Int}(hm:0≤m) :∀ {t:List Node} {i:Nat} {u v:List Bool},cR p i t u=some v→ ((t.map Node.kids).flatten).count m+uF u m=uF v m
 | [],i,u,v,h=>by simp only [cR,Option.some.injEq]at h;subst h;simp
 | x::t,i,u,v,h=>by
  obtain⟨_,w,h1,h2⟩ :=oD h;have h3:=nN (by omega) hm h1;have h4:=mO hm h2;rw [map_cons,flatten_cons,count_append];omega
theorem aE6 {m:Int}:∀ {t:List Node},((t.map Node.kids).flatten).count m≤1→∀ (i j:Nat) (x y:Node),t[i]?=some x→t[j]?=some y→m∈x.kids→m∈y.kids→i=j
 | [],_,i,j,x,y,hx,_,_,_=>by simp at hx
 | z ::t,h,i,j,x,y,hx,hy,mx,my=>by
  rw [map_cons,flatten_cons,count_append]at h;have inT:∀ {i:Nat} {x:Node},t[i]?=some x→m∈x.kids→0< ((t.map Node.kids).flatten).count m:=fun {i x} hx mx=>
   List.count_pos_iff.2 (List.mem_flatten.2 ⟨x.kids,List.mem_map.2 ⟨x,mem_of_getElem? hx,rfl⟩,mx⟩)
  cases i with
  | zero=>
   simp only [getElem?_cons_zero,Option.some.injEq]at hx;subst hx;cases j with
   |zero=>rfl
   | succ j=>
    simp only [getElem?_cons_succ]at hy;have:=inT hy my;have:=List.count_pos_iff.2 mx;omega
  | succ i=>
   simp only [getElem?_cons_succ]at hx;cases j with
   | zero=>
    simp only [getElem?_cons_zero,Option.some.injEq]at hy;subst hy;have:=inT hx mx;have:=List.count_pos_iff.2 my;omega
   | succ j=>
    simp only [getElem?_cons_succ]at hy;rw [aE6 (by omega) i j x y hx hy mx my]
theorem aMJ {m:Int}:∀ {t:List Node} {i:Nat} {x:Node},t[i]?=some x→x.kids.count m≤ ((t.map Node.kids).flatten).count m
 | [],i,x,hx=>by simp at hx
 | z::t,0,x,hx=>by
  simp only [getElem?_cons_zero,Option.some.injEq]at hx;subst hx;rw [map_cons,flatten_cons,count_append];omega
 | z::t,i+1,x,hx=>by
  simp only [getElem?_cons_succ]at hx;have:=aMJ (m:=m) hx;rw [map_cons,flatten_cons,count_append];omega
theorem aMK {m i:Int}:∀ (L:List Int),(∀j∈L,m∈eE p j→j=i) → ((L.map (eE p)).flatten).count m≤L.count i* (eE p i).count m
 | [],_=>by simp
 | j ::L,h=>by
  have h1:=aMK L (fun x hx=>h x (mem_cons_of_mem _ hx));rw [map_cons,flatten_cons,count_append,show j::L= [j] ++L from rfl,count_append,Nat.add_mul];by_cases hm:m∈eE p j
  · have:=h j (mem_cons_self ..) hm;subst this;simp;exact h1
  · rw [List.count_eq_zero.2 hm];exact Nat.le_trans (by simpa using h1) (Nat.le_add_left ..)
theorem bBk (hp:FineP p)(hK:∀m:Int,0≤m→p.funs.count m+ ((p.nodes.map Node.kids).flatten).count m≤1){L:List Int}(hin:∀x∈L,0≤x∧x<p.nodes.length)(hL:∀m:Int,L.count m=p.funs.count m+ ((L.map (eE p)).flatten).count m) :∀ (b m:Nat),m≤b→L.count (m:Int) ≤1:=by
 intro b
 induction b with
 | zero=>
  intro m hmb;have hm:m=0:=by omega
  subst hm;have e:=hL ((0:Nat) :Int);have z: ((L.map (eE p)).flatten).count ((0:Nat) :Int) =0:=by
   refine List.count_eq_zero.2 (fun h=>?_);obtain⟨l,hl,hy⟩ :=List.mem_flatten.1 h;obtain⟨j,hj,rfl⟩ :=List.mem_map.1 hl;unfold eE at hy;split at hy
   · rename_i x hx;have:= (hp.node _ _ hx).2.2 _ hy;omega
   ·cases hy
  have:=hK ((0:Nat) :Int) (by omega);omega
 | succ b ih=>
  intro m hmb;have e:=hL (m:Int);have hk:=hK (m:Int) (by omega);by_cases hz: ((L.map (eE p)).flatten).count (m:Int) =0
  ·omega
  · have hpos:=List.count_pos_iff.1 (Nat.pos_of_ne_zero hz);obtain⟨l,hl,hy⟩ :=List.mem_flatten.1 hpos;obtain⟨i,hi,rfl⟩ :=List.mem_map.1 hl;have hir:=hin i hi;obtain⟨x,hx⟩ :∃x,p.nodes[i.toNat]?=some x:= ⟨_,getElem?_eq_getElem (by omega)⟩;have ei:eE p i=x.kids:=by unfold eE;rw [hx]
    rw [ei]at hy;have him:= (hp.node _ _ hx).2.2 _ hy;have hci:L.count i≤1:=by
     have:=ih i.toNat (by omega);rwa [show((i.toNat:Nat) :Int) =i by omega]at this
    have hle:=aMK (p:=p) (m:= (m:Int)) (i:=i) L (fun j hj hmj=>by
     have hjr:=hin j hj;obtain⟨y,hy'⟩ :∃y,p.nodes[j.toNat]?=some y:= ⟨_,getElem?_eq_getElem (by omega)⟩;have ej:eE p j=y.kids:=by unfold eE;rw [hy']
     rw [ej]at hmj;have:=aE6 (by omega) _ _ y x hy' hx hmj hy;omega)
    rw [ei]at hle;have hkl:=aMJ (m:= (m:Int)) hx;have:L.count i*x.kids.count (m:Int) ≤1*x.kids.count (m:Int) :=Nat.mul_le_mul_right _ hci;omega
theorem vF :∀ (n:Nat) (l:List Nat),l.Nodup→ (∀x∈l,x<n) →l.length≤n
 |0,[],_,_=>by simp
 |0,x::l,_,h=>by have:=h x (mem_cons_self ..);omega
 | n+1,l,hd,h=>by
  by_cases hm:n∈l
  · have h1:=vF n (l.erase n) (hd.erase n) (fun x hx=>by
     have:=h x (List.mem_of_mem_erase hx)
     have hne:x≠n:=fun e=>by
      subst e;exact hd.not_mem_erase hx
     omega)
    rw [List.length_erase_of_mem hm]at h1;omega
  · have:=vF n l hd (fun x hx=>by
     have:=h x hx;have hne:x≠n:=fun e=>hm (e ▸ hx);omega)
    omega
end
theorem aDt {L:List Int}(h:∀a,L.count a≤1) :L.Nodup:=List.nodup_iff_count.2 h
theorem aML :∀ (n:Nat) (l:List Int),(∀i:Nat,i<n→ (i:Int) ∈l) →n≤l.length
 |0,l,_=>Nat.zero_le _
 | n+1,l,h=>by
  have h0:=h n (Nat.lt_succ_self n);have h1:=aML n (l.erase (n:Int)) (fun i hi=> (List.mem_erase_of_ne (by omega)).2 (h i (by omega)));rw [List.length_erase_of_mem h0]at h1;have:=List.length_pos_of_mem h0;omega
theorem all_in {p:Prog}(hp:FineP p)(hK:∀m:Nat,m<p.nodes.length→p.funs.count (m:Int) + ((p.nodes.map Node.kids).flatten).count (m:Int) =1){L:List Int}(hL:∀m:Int,L.count m=p.funs.count m+ ((L.map (eE p)).flatten).count m) :∀ (b m:Nat),m≤b→m<p.nodes.length→ (m:Int) ∈L:=by
 intro b
 induction b with
 | zero=>
  intro m hmb hm;have e:=hL (m:Int);have hk:=hK m hm;by_cases hz: ((p.nodes.map Node.kids).flatten).count (m:Int) =0
  ·exact List.count_pos_iff.1 (by omega)
  · obtain⟨l,hl,hy⟩ :=List.mem_flatten.1 (List.count_pos_iff.1 (Nat.pos_of_ne_zero hz));obtain⟨x,hx,rfl⟩ :=List.mem_map.1 hl;obtain⟨i,hi⟩ :=List.mem_iff_getElem?.1 hx;have:= (hp.node _ _ hi).2.2 _ hy;omega
 | succ b ih=>
  intro m hmb hm;have e:=hL (m:Int);have hk:=hK m hm;by_cases hz: ((p.nodes.map Node.kids).flatten).count (m:Int) =0
  ·exact List.count_pos_iff.1 (by omega)
  · obtain⟨l,hl,hy⟩ :=List.mem_flatten.1 (List.count_pos_iff.1 (Nat.pos_of_ne_zero hz));obtain⟨x,hx,rfl⟩ :=List.mem_map.1 hl;obtain⟨i,hi⟩ :=List.mem_iff_getElem?.1 hx;have him:= (hp.node _ _ hi).2.2 _ hy;have hiL:=ih i (by omega) (by omega);have: (m:Int) ∈ (L.map (eE p)).flatten:=List.mem_flatten.2 ⟨x.kids,List.mem_map.2 ⟨(i:Int),hiL,by unfold eE;rw [toNat_natCast,hi]⟩,hy⟩;have:=List.count_pos_iff.2 this;exact List.count_pos_iff.1 (by omega)
theorem yJ {p:Prog}(hs:aL p=true)(hf:aZ p=true) : ((p.funs.map (pre p p.nodes.length)).flatten).Nodup∧ ((p.funs.map (pre p p.nodes.length)).flatten).length=p.nodes.length∧ (∀x∈ (p.funs.map (pre p p.nodes.length)).flatten,0≤x∧x<p.nodes.length) ∧
  (∀ (i:Nat) (x:Node),p.nodes[i]?=some x→bR p x=true) :=by
 have hp:=nM hs hf;simp only [aZ,and_eq_true]at hf;obtain⟨_,hf⟩ :=hf;split at hf
 · rename_i u hu;unfold allT at hf;split at hf
   · rename_i v hv
     have hK:∀m:Int,0≤m→p.funs.count m+ ((p.nodes.map Node.kids).flatten).count m≤1:=fun m hm=>by
      have h1:=nN (by omega) hm hu;have h2:=mO hm hv;have h3:uF v m≤1:=by unfold uF;split<;>omega
      omega
     have hin:∀x∈ (p.funs.map (pre p p.nodes.length)).flatten,0≤x∧x<p.nodes.length:=fun x hx=>by
      obtain⟨l,hl,hy⟩ :=List.mem_flatten.1 hx;obtain⟨k,hk,rfl⟩ :=List.mem_map.1 hl;have:=hp.funs k hk;exact aRk hp _ k this.1 this.2 x hy
     have hL:∀m:Int,((p.funs.map (pre p p.nodes.length)).flatten).count m=p.funs.count m+ ((((p.funs.map (pre p p.nodes.length)).flatten).map (eE p)).flatten).count m:=fun m=>yI m p.funs (fun k hk=>by
      have:=hp.funs k hk;exact aE5 hp m _ k this.1 this.2 (by omega))
     have hd: ((p.funs.map (pre p p.nodes.length)).flatten).Nodup:=aDt (fun a=>by
      by_cases ha:a∈ (p.funs.map (pre p p.nodes.length)).flatten
      · have hr:=hin a ha;have:=bBk hp hK hin hL a.toNat a.toNat (Nat.le_refl _);rwa [show((a.toNat:Nat) :Int) =a by omega]at this
      ·rw [List.count_eq_zero.2 ha];omega)
     refine⟨hd,?_,hin,fun i x hx=> (rB hv i x hx).1⟩;have hd2: (((p.funs.map (pre p p.nodes.length)).flatten).map Int.toNat).Nodup:=by
      rw [List.nodup_iff_pairwise_ne]at hd ⊢;refine List.pairwise_map.2 (hd.imp_of_mem (fun {a b} ha hb hne e=>?_));have:=hin a ha;have:=hin b hb;exact hne (by omega)
     have:=vF p.nodes.length _ hd2 (fun x hx=>by
      obtain⟨y,hy,rfl⟩ :=List.mem_map.1 hx;have:=hin y hy;omega)
     rw [List.length_map]at this;refine Nat.le_antisymm this (aML _ _ (fun i hi=>all_in hp (fun m hm=>?_) hL i i (Nat.le_refl _) hi));have h1:=nN (m:= (m:Int)) (by omega) (by omega) hu;have h2:=mO (m:= (m:Int)) (by omega) hv;have hl1:=oU hu;have hl2:=aAj hv;rw [List.length_replicate]at hl1;have h3:uF (replicate p.nodes.length false) (m:Int) =0:=by
      unfold uF;rw [toNat_natCast,List.getElem?_replicate,if_pos hm];rfl
     have h4:uF v (m:Int) =1:=by
      unfold uF;have hlt:m<v.length:=by omega
      have:=List.all_eq_true.1 hf _ (List.getElem_mem hlt);rw [toNat_natCast,getElem?_eq_getElem hlt,this];rfl
     omega
   ·cases hf
 ·cases hf
def nO (s:aC) :List Con→Int→Int
 | [],_=> -1
 |c::t,i=>if c.name=s then i else nO s t (i+1)
def aGP(a:List Int)(b:Int):TS:=⟨(tf 75 26 [(0,(iI a)),(1,(iI a)),(4,(bV false)),(5,(nI b))] [kc f75 116,kl f75 116,.inBlock 0,kc f75 15]),[],[],0⟩
def aGQ(a b:Int)(c:aC)(d:List Pat)(e:Int):TS:=⟨(tf 163 53 [kp 2 0,kp 3 1,(4,(bV false)),(5,(nI e))] [kc f163 116,kl f163 116,.inBlock 0,kc f163 15]),[],[oC 0 [(nI a),(nI b),(aB c),(iP d)],oC 1 [(nI a),(nI b),(aB c),(iP d)]],2⟩
def aGR(a:Node)(b:Int):TS:=⟨(tf 83 54 [kp 2 0,kp 3 1,(4,(bV false)),(5,(nI b))] [kc f83 116,kl f83 116,.inBlock 0,kc f83 15]),[],[oC 0 [(nI a.op),(nI a.n),(iI a.kids),(iP a.pats)],oC 1 [(nI a.op),(nI a.n),(iI a.kids),(iP a.pats)]],2⟩
def aGS(a:Prog)(b:Int):TS:=⟨(tf 26 75 [kp 2 0,kp 3 1,(4,(bV false)),(5,(nI b))] [kc f26 116,kl f26 116,.inBlock 0,kc f26 15]),[],[oC 0 [(iN a.nodes),(iI a.funs),(nI a.main),(iC a.cons)],oC 1 [(iN a.nodes),(iI a.funs),(nI a.main),(iC a.cons)]],2⟩
def aGT(a:Prog)(b:Int):TS:=⟨(tf 26 75 [kp 2 0,kp 3 1,(4,(bV false)),(6,(nI b))] [kc f26 244,kl f26 244,.inBlock 2,kc f26 31]),[],[oC 0 [(iN a.nodes),(iI a.funs),(nI a.main),(iC a.cons)],oC 1 [(iN a.nodes),(iI a.funs),(nI a.main),(iC a.cons)]],2⟩
def aUj (a:List Int):=fun b=>(tT 0 (start PP 75 [(iI a),(iI a)])<|gl 8 aQ a<|gl 1 aQ a<|.b 2 10 ((a.length:Int) != (a.length:Int)) .x<|.W 9 0 [] (aGP a 0))|>.f b tv
def aX3(b:List Int)(a:Int):=tT 0 (aGP b a)<|gl 5 aQ b<|gd 2 14 (a< (b.length:Int)) (.y fun c:Int=>.i [rn 5,.reg (.d::.d::.ans (.idx (aQ c))::rd 3 [.ans (.idx (aQ c)),.d,.d])] [hA (0≤a),.a (((b)[a.toNat]?) =some c) (cH (f:=aQ)),hA (0≤a),.a (((b)[a.toNat]?) =some c) (cH (f:=aQ))]<|.b 0 25 (c != c) .x<|gw 6 16 (a+1)<|.W 3 0 [] (aGP b (a+1)))<|gE 7 0 (bV true)
def aUk:=fun c d e f a b g i=>aX3 c d|>.t f e a b a b|>.f g i tv
def aUl:=fun a b c=>aX3 a b|>.f c tv
def aUm (c d:Int)(a:aC)(b:List Pat):=fun e f g i=>(tT 0 (start PP 163 [(.agg [(nI c),(nI d),(aB a),(iP b)]),(.agg [(nI c),(nI d),(aB a),(iP b)])])<|.b 15 11 (c != c) .x<|.b 7 18 (d != d) .x<|.b 7 25 (!(bB a.length (aA a) a.length (aA a))) .x<|gm 2 aI b<|gm 2 aI b<|.b 3 33 ((b.length:Int) != (b.length:Int)) .x<|.W 9 2 [0,1] (aGQ c d a b 0))|>.f e|>.f f|>.f g|>.f i tv
def aX4(i j:Int)(k:aC)(b:List Pat)(a:Int):=tT 0 (aGQ i j k b a)<|gm 6 aI b<|gd 2 38 (a< (b.length:Int)) (.y fun c:Int=>.y fun d:Int=>.y fun e:aC=>.y fun f:List Pat=>.y fun g:Bool=>.i [rn 5,.reg (rd 3 (.ans (.idx (Pat.av (Pat.mk c d e f)))::rd 4 [.ans (.idx (Pat.av (Pat.mk c d e f))),.d,.pure (bV g),.d]))] [hA (0≤a),.a (((b)[a.toNat]?) =some (Pat.mk c d e f)) (hJ aI),hA (0≤a),.a (((b)[a.toNat]?) =some (Pat.mk c d e f)) (hJ aI),hA (Pure PP 163 [(.agg [(nI c),(nI d),(aB e),(iP f)]),(.agg [(nI c),(nI d),(aB e),(iP f)])] (bV g))]<|.b 0 52 (!g) .x<|gw 6 40 (a+1)<|.W 3 2 [0,1] (aGQ i j k b (a+1)))<|gE 7 2 (bV true)
def aUn:=fun c d e f g i j k l m n a b o p q=>aX4 c d e f g|>.t n i j k l m a b a b o|>.f p q tv
def aUo:=fun a b c d e f=>aX4 a b c d e|>.f f tv
def aUp (a:Node):=fun b c d e f g=>(tT 0 (start PP 83 [(Node.av a),(Node.av a)])<|.b 15 11 (a.op != a.op) .x<|.b 7 18 (a.n != a.n) .x<|eU 4 75 [(iI a.kids),(iI a.kids)]<|fun b=>.b 3 26 (!b) .x<|gm 2 aI a.pats<|gm 2 aI a.pats<|.b 3 34 ((a.pats.length:Int) != (a.pats.length:Int)) .x<|.W 9 2 [0,1] (aGR a 0))|>.f c|>.f d b e|>.f f|>.f g tv
def aX5(b:Node)(a:Int):=tT 0 (aGR b a)<|gm 6 aI b.pats<|gd 2 39 (a< (b.pats.length:Int)) (.y fun c:Int=>.y fun d:Int=>.y fun e:aC=>.y fun f:List Pat=>.y fun g:Bool=>.i [rn 5,.reg (rd 3 (.ans (.idx (Pat.av (Pat.mk c d e f)))::rd 4 [.ans (.idx (Pat.av (Pat.mk c d e f))),.d,.pure (bV g),.d]))] [hA (0≤a),.a (((b.pats)[a.toNat]?) =some (Pat.mk c d e f)) (hJ aI),hA (0≤a),.a (((b.pats)[a.toNat]?) =some (Pat.mk c d e f)) (hJ aI),hA (Pure PP 163 [(.agg [(nI c),(nI d),(aB e),(iP f)]),(.agg [(nI c),(nI d),(aB e),(iP f)])] (bV g))]<|.b 0 53 (!g) .x<|gw 6 41 (a+1)<|.W 3 2 [0,1] (aGR b (a+1)))<|gE 7 2 (bV true)
def aUq:=fun c d e f g i j k a b l m n=>aX5 c d|>.t k e f g i j a b a b l|>.f m n tv
def aUr:=fun a b c=>aX5 a b|>.f c tv
def aUs (a:Prog):=fun b c d e f g=>(tT 0 (start PP 26 [(Prog.av a),(Prog.av a)])<|gl 11 Node.av a.nodes<|gl 2 Node.av a.nodes<|.b 2 14 ((a.nodes.length:Int) != (a.nodes.length:Int)) .x<|eU 4 75 [(iI a.funs),(iI a.funs)]<|fun b=>.b 3 22 (!b) .x<|.b 7 29 (a.main != a.main) .x<|gl 2 Con.av a.cons<|gl 2 Con.av a.cons<|.b 3 37 ((a.cons.length:Int) != (a.cons.length:Int)) .x<|.W 9 2 [0,1] (aGS a 0))|>.f c b d|>.f e|>.f f|>.f g tv
def aX6(c:Prog)(b:Int):=tT 0 (aGS c b)<|gl 6 Con.av c.cons<|gd 2 42 (b< (c.cons.length:Int)) (.y fun a:Con=>.i [rn 5,.reg (rd 3 (.ans (.idx (Con.av a))::rd 4 [.ans (.idx (Con.av a)),.d,.d]))] [hA (0≤b),.a (((c.cons)[b.toNat]?) =some a) (cH (f:=Con.av)),hA (0≤b),.a (((c.cons)[b.toNat]?) =some a) (cH (f:=Con.av))]<|.b 0 55 (!((bB a.name.length (aA a.name) a.name.length (aA a.name)) && ((a.args==a.args) &&true))) .x<|gw 6 44 (b+1)<|.W 3 2 [0,1] (aGS c (b+1)))<|.W 9 2 [0,1] (aGT c 0)
def aUt:=fun c d e f a b g i=>aX6 c d|>.t f e a b a b|>.f g i tv
def aUu:=fun a b c=>aX6 a b|>.f c tv
def aX7(b:Prog)(a:Int):=tT 0 (aGT b a)<|gl 6 Node.av b.nodes<|gd 2 60 (a< (b.nodes.length:Int)) (.y fun c:Node=>.y fun d:Bool=>.i [rn 5,.reg (rd 3 (.ans (.idx (Node.av c))::rd 4 [.ans (.idx (Node.av c)),.d,.pure (bV d),.d]))] [hA (0≤a),.a (((b.nodes)[a.toNat]?) =some c) (cH (f:=Node.av)),hA (0≤a),.a (((b.nodes)[a.toNat]?) =some c) (cH (f:=Node.av)),hA (Pure PP 83 [(Node.av c),(Node.av c)] (bV d))]<|.b 0 74 (!d) .x<|gw 6 62 (a+1)<|.W 3 2 [0,1] (aGT b (a+1)))<|gE 7 2 (bV true)
def aUv:=fun c d e f g a b i j k=>aX7 c d|>.t g e f a b a b i|>.f j k tv
def aUw:=fun a b c=>aX7 a b|>.f c tv
theorem mP (s:aC) :bB (length s) (aA s) (length s) (aA s) =true:=by rw [bT];simp
theorem aJo (a:List Int)(ha:a.length<1000000) :∀ (t:List Int) (i:Nat),a.drop i=t→Ends PP 0 (aGP a (i:Int)).as (.ret (.bool true)) (aE [] 0)
 | [],i,h=>by
  have:=aT h;exact aUl a i sd
 | y::t,i,h=>by
  obtain⟨g1,g2,g3⟩ :=aR h;have h1:=aUk a i y sd sd sd (by simp) sd;exact h1.ends (aJo a ha t (i+1) g2)
theorem aJp (a:List Int)(ha:a.length<1000000) :Pure PP 75 [.ilst 1 (map aQ a) false,.ilst 1 (map aQ a) false] (.bool true) :=
 aP (by kernel_rfl) rfl rfl ((aUj a (by simp)).ends (aJo a ha a 0 rfl))
theorem aJq (f n:Int)(s:aC)(ps:List Pat)(hl:ps.length<1000000)(ih:∀p∈ps,Pure PP 163 [Pat.av p,Pat.av p] (.bool true)) :∀ (t:List Pat) (i:Nat),ps.drop i=t→Ends PP 0 (aGQ f n s ps (i:Int)).as (.ret (.bool true)) (aE [] 0)
 | [],i,h=>by
  have:=aT h;exact aUo f n s ps i sd
 | .mk f1 n1 s1 ps1::t,i,h=>by
  obtain⟨g1,g2,g3⟩ :=aR h;have h1:=aUn f n s ps i f1 n1 s1 ps1 true sd sd sd (ih (.mk f1 n1 s1 ps1) (mem_of_getElem? g1)) rfl sd;exact h1.ends (aJq f n s ps hl ih t (i+1) g2)
mutual
theorem aRl :∀ (q:Pat),cL q<1000000→Pure PP 163 [Pat.av q,Pat.av q] (.bool true)
 | .mk f n s ps,h=>by
  simp only [cL]at h;have:=eP ps;exact aP (by kernel_rfl) (by simp [keylessL,mJ]) rfl ((aUm f n s ps (by simp) (by simp) (by rw [mP];rfl) (by simp)).ends (aJq f n s ps (by omega) (aGU ps (by omega)) ps 0 rfl))
theorem aGU :∀ (ps:List Pat),bC ps<1000000→∀p∈ps,Pure PP 163 [Pat.av p,Pat.av p] (.bool true)
 | [],_,p,hp=>by cases hp
 | q::ps,h,p,hp=>by
  simp only [bC]at h;rcases List.mem_cons.1 hp with e|hp
  ·rw [e];exact aRl q (by omega)
  ·exact aGU ps (by omega) p hp
end
theorem aJr (x:Node)(hl:x.pats.length<1000000)(ih:∀p∈x.pats,Pure PP 163 [Pat.av p,Pat.av p] (.bool true)) :∀ (t:List Pat) (i:Nat),x.pats.drop i=t→Ends PP 0 (aGR x (i:Int)).as (.ret (.bool true)) (aE [] 0)
 | [],i,h=>by
  have:=aT h;exact aUr x i sd
 | .mk f1 n1 s1 ps1::t,i,h=>by
  obtain⟨g1,g2,g3⟩ :=aR h;have h1:=aUq x i f1 n1 s1 ps1 true sd sd sd (ih (.mk f1 n1 s1 ps1) (mem_of_getElem? g1)) rfl sd;exact h1.ends (aJr x hl ih t (i+1) g2)
def aUx (x:Node) :Prop:=x.kids.length<1000000∧bC x.pats<1000000
structure FitP (q:Prog) :Prop where
 nodes:q.nodes.length≤1000000
 funs:q.funs.length<1000000
 cons:q.cons.length<1000000
 node:∀x∈q.nodes,aUx x
theorem aRm (x:Node)(h:aUx x) :Pure PP 83 [Node.av x,Node.av x] (.bool true) :=by
 have:=eP x.pats;have h1:=h.1;have h2:=h.2;exact aP (by kernel_rfl) (by simp [keylessL,Node.av,keyless]) rfl ((aUp x true (by simp) (by simp) (aJp x.kids h.1) rfl (by simp)).ends (aJr x (by omega) (aGU x.pats h.2) x.pats 0 rfl))
theorem aX8 (p:Prog)(hp:FitP p) :∀ (t:List Node) (i:Nat),p.nodes.drop i=t→Ends PP 0 (aGT p (i:Int)).as (.ret (.bool true)) (aE [] 0)
 | [],i,h=>by
  have:=aT h;exact aUw p i sd
 | x::t,i,h=>by
  obtain⟨g1,g2,g3⟩ :=aR h;have hn:=hp.nodes;have h1:=aUv p i x true sd sd sd (aRm x (hp.node x (mem_of_getElem? g1))) rfl sd;exact h1.ends (aX8 p hp t (i+1) g2)
theorem aX9 (p:Prog)(hp:FitP p) :∀ (t:List Con) (i:Nat),p.cons.drop i=t→Ends PP 0 (aGS p (i:Int)).as (.ret (.bool true)) (aE [] 0)
 | [],i,h=>by
  have:=aT h;exact(aUu p i sd).ends (aX8 p hp p.nodes 0 rfl)
 | c::t,i,h=>by
  obtain⟨g1,g2,g3⟩ :=aR h;have hn:=hp.cons;have h1:=aUt p i c sd sd sd (by rw [mP];simp) sd;exact h1.ends (aX9 p hp t (i+1) g2)
theorem aLI (p:Prog)(hp:FitP p) :Pure PP 26 [Prog.av p,Prog.av p] (.bool true) :=
 aP (by kernel_rfl) (by simp [keylessL,Prog.av,keyless]) rfl ((aUs p true (by simp) (aJp p.funs hp.funs) rfl (by simp) (by simp)).ends (aX9 p hp p.cons 0 rfl))
theorem aA6 {f:Nat}{args:List AV}{v v':AV}(h:Pure PP f args v)(hv:∀ (E:Emb) (cv:Value),VR E v cv→VR E v' cv) :Pure PP f args v':=fun hh=>by
 obtain⟨g,hg,he⟩ :=h hh;exact⟨g,hg,aOA he hv⟩
def FunD.nm :FunD→aC
 | .mk n _ _ _ _=>n
def aRn (l:List aC)(s:aC) :Nat→Int
 |0=> -1
 |i+1=>if l[i]?=some s then(i:Int)else aRn l s i
def aLJ (l:List aC)(s:aC) :Int:=aRn l s l.length
def aLK (op:Int)(s:aC)(ps:List Pat)(k:Nat) :List aC:=
 if op=5∨op=27 then [s]else if op=7 then(if k=1 then [s]else [])else if op=15 then(match k with|0=>[] |j+1=>match ps[j]? with|some p=>aRc p|none=>[])else []
structure LFun where
 name:aC
 body:Int
def LFun.av (f:LFun) :AV:=.agg [aB f.name,.int .i64 f.body]
structure LUnit where
 name:aC
 cons:List Con
 funs:List LFun
 needs:List aC
 nodes:List Node
def LUnit.av (u:LUnit) :AV:=.agg [aB u.name,.ilst 2 (map Con.av u.cons) false,.ilst 2 (map LFun.av u.funs) false,.ilst 1 (map aB u.needs) false,.ilst 4 (map Node.av u.nodes) false]
structure LPlace where
 nodes:Int
 funs:Int
def LPlace.av (p:LPlace) :AV:=.agg [.int .i64 p.nodes,.int .i64 p.funs]
theorem aDu {E:Emb}{e:Nat}{ex:Bool}:∀v,VR E .nils v→VR E (.ilst e [] ex) v:=fun v h=>by
 simp only [VR]at h;simp only [VR];exact⟨[],VRs.nil _,fun _ hu=>by(cases hu),.inl ⟨rfl,none,0,h,fun _=>rfl,fun _=>rfl⟩⟩
theorem aMM (o n:Int) :VW [.agg [.int .i64 o,.int .i64 n,.nils,.nils]] (map Node.av [Node.mk o n [] []]) :=fun E vs h=>by
 simp only [map_cons,map_nil,Node.av];obtain⟨v,vs',rfl,h1,h2⟩ :=h.cons_inv;refine VRs.cons ?_ h2;simp only [VR]at h1 ⊢;obtain⟨cs,rfl,h3⟩ :=h1;obtain⟨a1,w1,rfl,c1,h3⟩ :=h3.cons_inv;obtain⟨a2,w2,rfl,c2,h3⟩ :=h3.cons_inv;obtain⟨a3,w3,rfl,c3,h3⟩ :=h3.cons_inv;obtain⟨a4,w4,rfl,c4,h3⟩ :=h3.cons_inv;exact⟨_,rfl,VRs.cons c1 (VRs.cons c2 (VRs.cons (aDu _ c3) (VRs.cons (by simp only [Pats.av];exact aDu _ c4) h3)))⟩
theorem aDv {l:List ONode}{nn:List Node}(h:l=map Node.o nn) :map ONode.av l=map Node.av nn:=by rw [h,aTP]
theorem aJs :∀n:Nat,gU [AV.str 0 0] n=map aB (replicate n ([] :aC))
 |0=>rfl
 |n+1=>by rw [gU,aJs n];rfl
theorem uG :∀l:List aC,bU (map aB l) =true
 | [] =>rfl
 |s::l=>by rw [map_cons,bU,uG l];rfl
theorem aE7 :∀l:List AV,lD false 1 l.length l=l
 | [] =>rfl
 | a::l=>by
  rw [length_cons,lD];simp only [cond,List.headD_cons,List.drop_succ_cons,List.drop_zero];rw [aE7 l]
theorem aOC (l:List AV) :getCells (putCells .leaf 0 l) 0 l.length=some l:=qK l _ 0 (fun j hj=>by
 rw [cA,if_pos (by omega),Nat.zero_add])
theorem aRo (n:Nat) : (map aB (replicate n ([] :aC))).length=n:=by simp
theorem aRp (n:Nat) :getCells (putCells .leaf 0 (map aB (replicate n ([] :aC)))) 0 (n*1) =some (map aB (replicate n ([] :aC))) :=by
 have:=aOC (map aB (replicate n ([] :aC)));rw [aRo]at this;rw [Nat.mul_one];exact this
theorem aRq (n:Nat) :lD false 1 n (map aB (replicate n ([] :aC))) =map aB (replicate n ([] :aC)) :=by
 have:=aE7 (map aB (replicate n ([] :aC)));rwa [aRo]at this
theorem aMN {α β:Type}[DecidableEq α]{f:α→AV}{g:β→AV}(hf:aH3 f){k:α}{l:List (α×β)}(h:dL k l=none)(z:β) :
  aAS (aF f g 0 l) (length l) (f k) (g z) =some (.tup [g z,.int .i64 ((length l:Nat) :Int)],aF f g 0 (bP k z l),length (bP k z l)) :=by
 unfold aAS;rw [qN hf k l 0 0 h];obtain⟨a,b⟩ :=tW f g k z l 0 h;simp only [Nat.zero_add]at a;simp only [a,b]
theorem aMO {α β:Type}[DecidableEq α]{k:α}{l:List (α×β)}(h:dL k l=none)(z v:β) : (bP k z l).length= (bP k v l).length:=by
 rw [(tW (fun _=>nils) (fun _=>nils) k z l 0 h).2,(tW (fun _=>nils) (fun _=>nils) k v l 0 h).2]
theorem aE8 {α β:Type}[DecidableEq α]{f:α→AV}{g:β→AV}{k:α}(z v:β) :∀ (l:List (α×β)) (n:Nat),dL k l=none→hM (g v) (n+l.length) (aF f g n (bP k z l)) =some (aF f g n (bP k v l))
 | [],n,_=>by simp only [bP,aF,hM,List.length_nil,Nat.add_zero,Nat.beq_refl,cond]
 | e ::l,n,h=>by
  unfold dL at h;split at h
  ·cases h
  · rename_i hk;have ih:=aE8 (f:=f) (g:=g) z v l (n+1) h;simp only [bP,if_neg hk,aF,hM,length_cons];have:Nat.beq n (n+ (l.length+1)) =false:=by
     cases q:Nat.beq n (n+ (l.length+1))with
     |false=>rfl
     |true=>have:=Nat.eq_of_beq_eq_true q;omega
    rw [this];simp only [cond];rw [show n+ (l.length+1) =n+1+l.length by omega,ih]
theorem aJt {α β:Type}[DecidableEq α]{f:α→AV}{g:β→AV}{k:α}{l:List (α×β)}(h:dL k l=none)(z v:β) :
  hM (g v) (((length l:Nat) :Int)).toNat (aF f g 0 (bP k z l)) =some (aF f g 0 (bP k v l)) :=by
 have:=aE8 (f:=f) (g:=g) z v l 0 h;rwa [Nat.zero_add]at this
theorem aE9 {f:Nat}{args args':List AV}{v:AV}(h:Pure PP f args v)(hl:args'.length=args.length)(ha:∀ (E:Emb) (i:Nat) (a a':AV) (c:Value),args[i]?=some a→args'[i]?=some a'→VR E a' c→VR E a c) :Pure PP f args' v:=fun hh=>by
 obtain⟨g,hg,he⟩ :=h hh;simp only [dM,cU]at hg;split at hg
 · rename_i fn hfn;split at hg
   · rename_i c hc;cases hg;refine⟨_,by simp only [dM,cU,hfn,hc];rfl,?_⟩;intro hm E fr ccs w hfr fs r cl base;refine he hm E fr ccs w ?_ fs r cl base;refine⟨hfr.fn,⟨by have:=hfr.tm.1;rw [hl]at this;exact this,fun t a e=>?_⟩,hfr.todo,hfr.defers,hfr.mode,hfr.kind,hfr.round⟩;have ht:t<args.length∧args[t]?=some a:=by
      have e': (dT .leaf 0 args).at t=some a:=e;unfold dT at e';rw [cA]at e';split at e'
      ·rename_i hlt;exact⟨hlt,e'⟩
      ·cases e'
     have ht':args'[t]?=some args'[t] :=getElem?_eq_getElem (by omega)
     obtain⟨cv,g1,g2⟩ :=hfr.tm.2 t args'[t] (by
      show(dT .leaf 0 args').at t=_;unfold dT;rw [cA,if_pos (by omega)];exact ht')
     exact⟨cv,g1,ha E t _ _ cv ht.2 ht' g2⟩
   ·cases hg
 ·cases hg
def aGV(a:List aC)(b:aC)(c:Int):TS:=⟨(tf 82 19 [(0,(iS a)),(1,(aB b)),(4,(nI 0)),(5,(nI c))] [kc f82 52,kl f82 52,.inBlock 0,kc f82 7]),[],[],0⟩
def aYa(a:LUnit):TS:=cK PP 39 [(.agg [(aB a.name),(iC a.cons),(.ilst 2 (map LFun.av a.funs) false),(iS a.needs),(iN a.nodes)])] [] 0
def aGW(a:LUnit)(c:Int)(b:List aC):TS:=⟨(tf 39 22 [kp 1 0,(2,.nils),(3,(.gl 1 1 0 b.length false)),(4,(nI c))] [kc f39 116,kl f39 116,.inBlock 0,kc f39 15]),[],[oC 0 [(aB a.name),(iC a.cons),(.ilst 2 (map LFun.av a.funs) false),(iS a.needs),(iN a.nodes)],oL 1 1 (map aB b)],2⟩
def aAk(a:List aC)(b:Int):TS:=⟨(tf 115 18 [(0,(iS a)),(2,(bV false)),(3,(nI b))] [kc f115 52,kl f115 52,.inBlock 0,kc f115 7]),[],[],0⟩
def aYb(a:List LUnit):TS:=cK PP 72 [(.ilst 5 (map LUnit.av a) false)] [] 0
def aGX(b:List LUnit)(c:Int)(a:List aC):TS:=⟨(tf 72 19 [(0,(.ilst 5 (map LUnit.av b) false)),(2,.nils),(3,(.gl 0 1 0 a.length false)),(4,(nI c))] [kc f72 116,kl f72 116,.inBlock 0,kc f72 15]),[],[oL 0 1 (map aB a)],1⟩
def aAl(a:List Con)(b:aC)(c:Int):TS:=⟨(tf 162 20 [(0,(iC a)),(1,(aB b)),(4,(nI 0)),(5,(nI c))] [kc f162 52,kl f162 52,.inBlock 0,kc f162 7]),[],[],0⟩
def aYc(a:LUnit):TS:=cK PP 36 [(.agg [(aB a.name),(iC a.cons),(.ilst 2 (map LFun.av a.funs) false),(iS a.needs),(iN a.nodes)])] [] 0
def aGY(a:LUnit)(b:Int):TS:=⟨(tf 36 56 [kp 1 0,(2,(bV false)),(3,(nI b))] [kc f36 116,kl f36 116,.inBlock 0,kc f36 15]),[],[oC 0 [(aB a.name),(iC a.cons),(.ilst 2 (map LFun.av a.funs) false),(iS a.needs),(iN a.nodes)]],1⟩
def aGZ(a:LUnit)(b:Int):TS:=⟨(tf 36 56 [kp 1 0,(2,(bV false)),(4,(nI b))] [kc f36 244,kl f36 244,.inBlock 2,kc f36 31]),[],[oC 0 [(aB a.name),(iC a.cons),(.ilst 2 (map LFun.av a.funs) false),(iS a.needs),(iN a.nodes)]],1⟩
def aB9(a:List LUnit)(b:Int):TS:=⟨(tf 13 23 [(0,(.ilst 5 (map LUnit.av a) false)),(2,(bV false)),(3,(nI b))] [kc f13 52,kl f13 52,.inBlock 0,kc f13 7]),[],[],0⟩
def aG0(a:List LUnit)(b:Int):TS:=⟨(tf 18 19 [(0,(.ilst 5 (map LUnit.av a) false)),(2,(bV false)),(3,(nI b))] [kc f18 116,kl f18 116,.inBlock 0,kc f18 15]),[],[],0⟩
def aYd(a:List LUnit):TS:=cK PP 80 [(.ilst 5 (map LUnit.av a) false)] [] 0
def aDw(b:List LUnit)(c:Int)(a:List Con):TS:=⟨(tf 80 52 [(0,(.ilst 5 (map LUnit.av b) false)),(2,(.gl 0 2 0 ([] :List Con).length false)),(3,(bV false)),(4,(.gl 1 2 0 a.length false)),(5,(nI c))] [kc f80 116,kl f80 116,.inBlock 0,kc f80 15]),[],[oL 0 2 (jC ([] :List Con)),oL 1 2 (jC a)],2⟩
def uH(b:List LUnit)(c:Int)(a:List Con)(d:Int):TS:=⟨(tf 80 52 [(0,(.ilst 5 (map LUnit.av b) false)),(2,(.gl 0 2 0 ([] :List Con).length false)),(3,(bV false)),(4,(.gl 1 2 0 a.length false)),(5,(nI d)),(6,(nI c))] [kc f80 7460,kl f80 7460,.inBlock 2,.inBlock 1,kc f80 467,kl f80 116,.inBlock 0,kc f80 15]),[],[oL 0 2 (jC ([] :List Con)),oL 1 2 (jC a)],2⟩
def aDx(b:List LUnit)(c d e:aC)(f g i j:Int)(a:List Con):TS:=⟨(tf 162 20 [(0,(.gl 0 2 0 a.length false)),(1,(aB c)),(4,(nI 0)),(5,(nI g))] [kc f162 52,kl f162 52,.inBlock 0,kc f162 7]),[(tf 80 52 [(0,(.ilst 5 (map LUnit.av b) false)),(2,(.gl 1 2 0 ([] :List Con).length false)),(3,(bV false)),(4,(.gl 0 2 0 a.length false)),(5,(nI i)),(6,(nI j)),kp 7 2,(33,(.gl 0 2 0 a.length false)),(35,(aB d))] [ko f80 238738 3,kc f80 238739,.inBlock 3,kc f80 29843,kl f80 7460,.inBlock 2,.inBlock 1,kc f80 467,kl f80 116,.inBlock 0,kc f80 15])],[oL 0 2 (jC a),oL 1 2 (jC ([] :List Con)),oC 2 [(aB e),(nI f)]],3⟩
def aYe(a b:LUnit):TS:=cK PP 29 [(.agg [(aB a.name),(iC a.cons),(.ilst 2 (map LFun.av a.funs) false),(iS a.needs),(iN a.nodes)]),(.agg [(aB b.name),(iC b.cons),(.ilst 2 (map LFun.av b.funs) false),(iS b.needs),(iN b.nodes)])] [] 0
def aG1(a b:LUnit)(c:Int):TS:=⟨(tf 29 57 [kp 2 0,kp 3 1,(4,(bV false)),(5,(nI c))] [kc f29 116,kl f29 116,.inBlock 0,kc f29 15]),[],[oC 0 [(aB a.name),(iC a.cons),(.ilst 2 (map LFun.av a.funs) false),(iS a.needs),(iN a.nodes)],oC 1 [(aB b.name),(iC b.cons),(.ilst 2 (map LFun.av b.funs) false),(iS b.needs),(iN b.nodes)]],2⟩
def aRr(a:LUnit):TS:=cK PP 39 [(.agg [(aB a.name),(iC a.cons),(.ilst 2 (map LFun.av a.funs) false),(iS a.needs),(iN a.nodes)])] [] 0
def aG2(a:LUnit)(c:Int)(b:List aC):TS:=⟨(tf 39 22 [kp 1 0,(2,.nils),(3,(.gl 1 1 0 b.length false)),(4,(nI c))] [kc f39 116,kl f39 116,.inBlock 0,kc f39 15]),[],[oC 0 [(aB a.name),(iC a.cons),(.ilst 2 (map LFun.av a.funs) false),(iS a.needs),(iN a.nodes)],oL 1 1 (map aB b)],2⟩
def aUy (a:List aC)(b:aC):=(tT 0 (start PP 82 [(iS a),(aB b)])<|.W 11 0 [] (aGV a b 0)) tv
def aLL(b:List aC)(c:aC)(a:Int):=tT 0 (aGV b c a)<|gl 5 aB b<|gd 2 9 (a< (b.length:Int)) (gX aB 8 b a<|fun d=>.b 4 17 (bB d.length (aA d) c.length (aA c)) (gE 7 0 (nI a))<|gw 6 11 (a+1)<|.W 3 0 [] (aGV b c (a+1)))<|gE 7 0 (nI (-1))
def aUz:=fun a b c d e f g i=>aLL a b c|>.t e d f g|>.t i tv
def aUA:=fun a b c d e f g i j=>aLL a b c|>.t e d f g|>.f i j tv
def aUB:=fun a b c d=>aLL a b c|>.f d tv
def aUC (a:LUnit):=(tT 0 (aYa a)<|.i [rn 16,.nilL 3 1] []<|gu 0 1 (map aB ([] :List aC))<|gs 0 3 (.gl 1 1 0 ([] :List aC).length false)<|.W 0 2 [0,1] (aGW a 0 ([] :List aC))) ⟨kk,trivial⟩
def aRs(a:LUnit)(b:Int)(c:List aC):=tT 0 (aGW a b c)<|gl 6 LFun.av a.funs<|gd 2 9 (b< (a.funs.length:Int)) (gX LFun.av 9 a.funs b<|fun d=>ga 3 aB c [d.name]<|gw 6 11 (b+1)<|.W 3 4 [0,3] (aGW a (b+1) (c++ [d.name])))<|gz 8 2 1 1 aB c false<|gE 0 2 (iS c)
def aUD:=fun a b c d e f g i j=>aRs a b c|>.t e d f g i j ⟨kk,trivial⟩
def aUE:=fun a b c d=>aRs a b c|>.f d tv
def aOD (a:List aC):=(tT 0 (start PP 115 [(iS a)])<|.W 11 0 [] (aAk a 0)) tv
def aLM(a:List aC)(b:Int):=tT 0 (aAk a b)<|gl 5 aB a<|gd 2 7 (b< (a.length:Int)) (gX aB 8 a b<|fun c=>eU 1 86 [(aB c)]<|fun d=>.b 2 15 (!d) (gE 6 0 (bV false))<|gw 6 9 (b+1)<|.W 3 0 [] (aAk a (b+1)))<|eU 5 71 [(iS a)]<|fun c=>gE 3 0 (bV c)
def aOE:=fun a b c d e f g i j=>aLM a b|>.t e c f g d i|>.t j tv
def aOF:=fun a b c d e f g i j k=>aLM a b|>.t e c f g d i|>.f j k tv
def aOG:=fun a b c d e=>aLM a b|>.f d c e tv
def aUF (a:List LUnit):=(tT 0 (aYb a)<|.i [rn 15,.nilL 3 1] []<|gu 0 0 (map aB ([] :List aC))<|gs 0 3 (.gl 0 1 0 ([] :List aC).length false)<|.W 0 1 [0] (aGX a 0 ([] :List aC))) ⟨kk,trivial⟩
def aRt(a:List LUnit)(b:Int)(c:List aC):=tT 0 (aGX a b c)<|gl 5 LUnit.av a<|gd 2 8 (b< (a.length:Int)) (gX LUnit.av 8 a b<|fun d=>.y fun e:List aC=>gp 1 39 [(.agg [(aB d.name),(iC d.cons),(.ilst 2 (map LFun.av d.funs) false),(iS d.needs),(iN d.nodes)])] (iS e)<|ga 0 aB c e<|gw 6 10 (b+1)<|.W 3 2 [1] (aGX a (b+1) (c++e)))<|gz 8 2 0 1 aB c false<|gE 0 1 (iS c)
def aUG:=fun a b c d e f g i j k l=>aRt a b c|>.t f d g i e j k l ⟨kk,trivial⟩
def aUH:=fun a b c d=>aRt a b c|>.f d tv
def aOH (a:List Con)(b:aC):=(tT 0 (start PP 162 [(iC a),(aB b)])<|.W 11 0 [] (aAl a b 0)) tv
def aLN(b:List Con)(c:aC)(a:Int):=tT 0 (aAl b c a)<|gl 5 Con.av b<|gd 2 9 (a< (b.length:Int)) (gX Con.av 8 b a<|fun d=>.b 5 18 (bB d.name.length (aA d.name) c.length (aA c)) (gE 7 0 (nI a))<|gw 6 11 (a+1)<|.W 3 0 [] (aAl b c (a+1)))<|gE 7 0 (nI (-1))
def aOI:=fun a b c d e f g i=>aLN a b c|>.t e d f g|>.t i tv
def aOJ:=fun a b c d e f g i j=>aLN a b c|>.t e d f g|>.f i j tv
def aOK:=fun a b c d=>aLN a b c|>.f d tv
def aRu(a b c:Int):=tT 0 (start PP 116 [(nI a),(nI b),(nI c)])<|gd 10 10 (a≥b) (gE 7 0 (bV (decide (a≤c))))<|gE 7 0 (bV false)
def aOL:=fun a b c d=>aRu a b c|>.t d tv
def aOM:=fun a b c d=>aRu a b c|>.f d tv
def aG3(a:LUnit):=tT 0 (aYc a)<|gl 10 LFun.av a.funs<|gd 2 9 ((a.funs.length:Int) >30) (gE 18 1 (bV false))<|gl 2 aB a.needs<|gd 3 15 ((a.needs.length:Int) >25) (gE 12 1 (bV false))<|gd 6 20 ((a.name.length:Int) >30) (gE 6 1 (bV false))<|.W 9 1 [0] (aGY a 0)
def aUI:=fun a b=>aG3 a|>.t b tv
def aUJ:=fun a b c=>aG3 a|>.f b|>.t c tv
def aUK:=fun a b c d=>aG3 a|>.f b|>.f c|>.t d tv
def aUL:=fun a b c d=>aG3 a|>.f b|>.f c|>.f d tv
def aLO(a:LUnit)(b:Int):=tT 0 (aGY a b)<|gl 6 LFun.av a.funs<|gd 2 25 (b< (a.funs.length:Int)) (gX LFun.av 9 a.funs b<|fun c=>gd 5 35 ((c.name.length:Int) >30) (gE 6 1 (bV false))<|gw 6 27 (b+1)<|.W 3 1 [0] (aGY a (b+1)))<|.W 9 1 [0] (aGZ a 0)
def aUM:=fun a b c d e f g=>aLO a b|>.t d c e f|>.t g tv
def aUN:=fun a b c d e f g i=>aLO a b|>.t d c e f|>.f g i tv
def aUO:=fun a b c=>aLO a b|>.f c tv
def aLP(a:LUnit)(b:Int):=tT 0 (aGZ a b)<|gl 6 aB a.needs<|gd 2 40 (b< (a.needs.length:Int)) (gX aB 9 a.needs b<|fun c=>gd 4 49 ((c.length:Int) >30) (gE 6 1 (bV false))<|gw 6 42 (b+1)<|.W 3 1 [0] (aGZ a (b+1)))<|eU 9 50 [(.agg [(iN a.nodes),.nils,(nI 0),(iC a.cons)])]<|fun c=>gE 3 1 (bV c)
def aUP:=fun a b c d e f g=>aLP a b|>.t d c e f|>.t g tv
def aUQ:=fun a b c d e f g i=>aLP a b|>.t d c e f|>.f g i tv
def aUR:=fun a b c d e=>aLP a b|>.f d c e tv
def aRv (a:List LUnit):=(tT 0 (start PP 13 [(.ilst 5 (map LUnit.av a) false)])<|.W 11 0 [] (aB9 a 0)) tv
def aCa(a:List LUnit)(b:Int):=tT 0 (aB9 a b)<|gl 5 LUnit.av a<|gd 2 8 (b< (a.length:Int)) (gd 4 11 (b≤10) (gX LUnit.av 8 a b<|fun c=>eU 1 36 [(.agg [(aB c.name),(iC c.cons),(.ilst 2 (map LFun.av c.funs) false),(iS c.needs),(iN c.nodes)])]<|fun d=>.b 2 19 (!d) (gE 6 0 (bV false))<|gw 6 13 (b+1)<|.W 3 0 [] (aB9 a (b+1)))<|gl 5 LUnit.av a<|gE 4 0 (bV (decide ((a.length:Int) ≤11))))<|gl 9 LUnit.av a<|gE 4 0 (bV (decide ((a.length:Int) ≤11)))
def aRw:=fun a b c d e f g i j k=>aCa a b|>.t e|>.t f c g i d j|>.t k tv
def aRx:=fun a b c d e f g i j k l=>aCa a b|>.t e|>.t f c g i d j|>.f k l tv
def aRy:=fun a b c d=>aCa a b|>.t c|>.f d tv
def aJu:=fun a b c=>aCa a b|>.f c tv
def aMP(a:List LUnit):=tT 0 (start PP 18 [(.ilst 5 (map LUnit.av a) false)])<|gl 8 LUnit.av a<|gd 2 6 ((a.length:Int) >10) (gE 6 0 (bV false))<|.W 9 0 [] (aG0 a 0)
def aUS:=fun a b=>aMP a|>.t b tv
def aUT:=fun a b=>aMP a|>.f b tv
def aG4(a:List LUnit)(b:Int):=tT 0 (aG0 a b)<|gl 5 LUnit.av a<|gd 2 10 (b< (a.length:Int)) (gX LUnit.av 8 a b<|fun c=>eU 1 37 [(.agg [(aB c.name),(iC c.cons),(.ilst 2 (map LFun.av c.funs) false),(iS c.needs),(iN c.nodes)])]<|fun d=>.b 2 18 (!d) (gE 6 0 (bV false))<|gw 6 12 (b+1)<|.W 3 0 [] (aG0 a (b+1)))<|gE 7 0 (bV true)
def aUU:=fun a b c d e f g i j=>aG4 a b|>.t e c f g d i|>.t j tv
def aUV:=fun a b c d e f g i j k=>aG4 a b|>.t e c f g d i|>.f j k tv
def aUW:=fun a b c=>aG4 a b|>.f c tv
def aUX (a:List LUnit):=(tT 0 (aYd a)<|.i [rn 16,.nilL 2 2] []<|gu 0 0 (jC ([] :List Con))<|gs 0 2 (.gl 0 2 0 ([] :List Con).length false)<|.i [.nilL 4 2] []<|gu 0 1 (jC ([] :List Con))<|gs 0 4 (.gl 1 2 0 ([] :List Con).length false)<|.W 0 2 [0,1] (aDw a 0 ([] :List Con))) ⟨kk,⟨kk,trivial⟩⟩
def aMQ(a:List LUnit)(c:Int)(b:List Con):=tT 0 (aDw a c b)<|gl 5 LUnit.av a<|gd 2 12 (c< (a.length:Int)) (.W 10 2 [0,1] (uH a 0 b c))<|gz 9 2 1 2 Con.av b false<|gE 0 2 (.tup [(iC b),(bV true)])
def aUY:=fun a b c d=>aMQ a b c|>.t d ⟨kk,⟨kk,trivial⟩⟩
def aUZ:=fun a b c d=>aMQ a b c|>.f d tv
def aMR(b:List LUnit)(c:Int)(f:List Con)(a:Int):=tT 0 (uH b c f a)<|gX LUnit.av 6 b a<|fun d=>gl 2 Con.av d.cons<|gd 2 22 (c< (d.cons.length:Int)) (gi LUnit.av 8 b a d<|gX Con.av 3 d.cons c<|fun e=>.W 21 3 [1,0,2] (aDx b e.name e.name e.name e.args 0 a c f))<|gw 6 14 (a+1)<|.W 3 2 [0,1] (aDw b (a+1) f)
def aU0:=fun c d e f g i a b j k l=>aMR c d e f g a b|>.t j a b i k l ⟨kk,⟨kk,trivial⟩⟩
def aU1:=fun a b c d e f g i j=>aMR a b c d e f g|>.f i j ⟨kk,⟨kk,trivial⟩⟩
def aCb(g:List LUnit)(j k e:aC)(d b i c:Int)(a:List Con):=tT 0 (aDx g j k e d b i c a)<|gd 8 9 (b< (a.length:Int)) (.i [rn 8,.ans (.ix)] [hA (0≤b),hA (b< (a.length:Int))]<|.y fun f:Con=>gj Con.av 1 a b.toNat f<|.b 3 18 (bB f.name.length (aA f.name) j.length (aA j)) (gd 15 38 (b<0) (ga 5 Con.av a [(Con.mk e d)]<|gw 6 24 (c+1)<|.W 3 5 [1,4] (uH g (c+1) (a++ [(Con.mk e d)]) i))<|.i [rn 2,.reg (.d::.d::.ans (.ix)::.d::.ans (.idx (Con.av f))::rd 3 [])] [hA (0≤b),hA (b< (a.length:Int)),.a (((a)[b.toNat]?) =some f) (eZ (f:=Con.av))]<|.b 0 50 (f.args != d) (.i [rn 7,.nilI 2 2] []<|gE 0 3 (.tup [(.ilst 2 (jC ([] :List Con)) true),(bV false)]))<|gw 6 24 (c+1)<|.W 3 3 [1,0] (uH g (c+1) a i))<|gw 6 11 (b+1)<|.W 3 3 [0,1,2] (aDx g j k e d (b+1) i c a))<|ga 20 Con.av a [(Con.mk e d)]<|gw 6 24 (c+1)<|.W 3 5 [1,4] (uH g (c+1) (a++ [(Con.mk e d)]) i)
def aU2:=fun d e f g i j k l m n o a b c p q r=>aCb d e f g i j k l m|>.t o a b n c|>.t p|>.f q a b c|>.t r tv
def aU3:=fun d e f g i j k l m n o a b c p q r s=>aCb d e f g i j k l m|>.t o a b n c|>.t p|>.f q a b c|>.f r s ⟨kk,⟨kk,trivial⟩⟩
def aU4:=fun a b c d e f g i j k l m n o p q=>aCb a b c d e f g i j|>.t l m n k o|>.f p q ⟨kk,⟨kk,trivial⟩⟩
def aU5:=fun a b c d e f g i j k l m=>aCb a b c d e f g i j|>.f k l m ⟨kk,⟨kk,trivial⟩⟩
def aU6(a b:LUnit):=tT 0 (aYe a b)<|.b 15 11 (!(bB a.name.length (aA a.name) b.name.length (aA b.name))) (gE 23 2 (bV false))<|eU 4 21 [(iS a.needs),(iS b.needs)]<|fun c=>.b 3 19 (!c) (gE 15 2 (bV false))<|gl 2 LFun.av a.funs<|gl 2 LFun.av b.funs<|.b 3 27 ((a.funs.length:Int) != (b.funs.length:Int)) (gE 6 2 (bV false))<|.W 9 2 [0,1] (aG1 a b 0)
def aU7:=fun a b c d e f g=>aU6 a b|>.f d c e|>.f f|>.f g tv
def aMS(b d:LUnit)(a:Int):=tT 0 (aG1 b d a)<|gl 6 LFun.av b.funs<|gd 2 32 (a< (b.funs.length:Int)) (.y fun c:LFun=>.y fun e:LFun=>.i [rn 5,.reg (rd 3 (.ans (.idx (LFun.av c))::rd 4 [.ans (.idx (LFun.av e)),.d,.d]))] [hA (0≤a),.a (((b.funs)[a.toNat]?) =some c) (cH (f:=LFun.av)),hA (0≤a),.a (((d.funs)[a.toNat]?) =some e) (cH (f:=LFun.av))]<|.b 0 45 (!((bB c.name.length (aA c.name) e.name.length (aA e.name)) && ((c.body==e.body) &&true))) (gE 6 2 (bV false))<|gw 6 34 (a+1)<|.W 3 2 [0,1] (aG1 b d (a+1)))<|eU 14 26 [(.agg [(iN b.nodes),.nils,(nI 0),(iC b.cons)]),(.agg [(iN d.nodes),.nils,(nI 0),(iC d.cons)])]<|fun c=>gE 3 2 (bV c)
def aU8:=fun b c d e f g a i j k l=>aMS b c d|>.t g e f a i a j|>.f k l tv
def aU9:=fun a b c d e f=>aMS a b c|>.f e d f tv
def aVa (a:LUnit):=(tT 0 (aRr a)<|.i [rn 16,.nilL 3 1] []<|gu 0 1 (map aB ([] :List aC))<|gs 0 3 (.gl 1 1 0 ([] :List aC).length false)<|.W 0 2 [0,1] (aG2 a 0 ([] :List aC))) ⟨kk,trivial⟩
def aMT(a:LUnit)(b:Int)(c:List aC):=tT 0 (aG2 a b c)<|gl 6 LFun.av a.funs<|gd 2 9 (b< (a.funs.length:Int)) (gX LFun.av 9 a.funs b<|fun d=>ga 3 aB c [d.name]<|gw 6 11 (b+1)<|.W 3 4 [0,3] (aG2 a (b+1) (c++ [d.name])))<|.E 8 2 [1] (.gl 0 1 0 c.length false) [oL 0 1 (map aB c)] 1
def aVb:=fun a b c d e f g i j=>aMT a b c|>.t e d f g i j ⟨kk,trivial⟩
def aVc:=fun a b c d=>aMT a b c|>.f d ⟨kk,trivial⟩
theorem jL (u:LUnit) :keyless u.av=true:=by simp [LUnit.av,keyless,keylessL,aB]
def dH (s:aC) :List aC→Nat→Int
 | [],_=> -1
 |x::l,i=>if x=s then(i:Int)else dH s l (i+1)
theorem aJv (l:List aC)(s:aC)(hl:l.length<1000000) :∀ (t:List aC) (i:Nat),l.drop i=t→Ends PP 0 (aGV l s (i:Int)).as (.ret (.int .i64 (dH s t i))) (aE [] 0)
 | [],i,h=>by
  have:=aT h;exact aUB l s i sd
 | c ::t,i,h=>by
  obtain⟨q1,q2,q3⟩ :=aR h;rw [dH];by_cases e:c=s
  · rw [if_pos e];exact aUz l s i c sd sd sd (by rw [bT];simp [e])
  · rw [if_neg e];exact(aUA l s i c sd sd sd (by rw [bT];simp [e]) sd).ends (aJv l s hl t (i+1) q2)
theorem aDy (l:List aC)(s:aC)(hl:l.length<1000000) :Pure PP 82 [.ilst 1 (map aB l) false,aB s] (.int .i64 (dH s l 0)) :=
 aP (by kernel_rfl) rfl rfl ((aUy l s).ends (aJv l s hl l 0 rfl))
theorem aJw (l:List Con)(s:aC)(hl:l.length<1000000) :∀ (t:List Con) (i:Nat),l.drop i=t→Ends PP 0 (aAl l s (i:Int)).as (.ret (.int .i64 (nO s t i))) (aE [] 0)
 | [],i,h=>by
  have:=aT h;exact aOK l s i sd
 | c ::t,i,h=>by
  obtain⟨q1,q2,q3⟩ :=aR h;rw [nO];by_cases e:c.name=s
  · rw [if_pos e];exact aOI l s i c sd sd sd (by rw [bT];simp [e])
  · rw [if_neg e];exact(aOJ l s i c sd sd sd (by rw [bT];simp [e]) sd).ends (aJw l s hl t (i+1) q2)
theorem aRz (l:List Con)(s:aC)(hl:l.length<1000000) :Pure PP 162 [.ilst 2 (map Con.av l) false,aB s] (.int .i64 (nO s l 0)) :=
 aP (by kernel_rfl) rfl rfl ((aOH l s).ends (aJw l s hl l 0 rfl))
theorem aLQ (n lo hi:Int) :Pure PP 116 [.int .i64 n,.int .i64 lo,.int .i64 hi] (.bool (dB n lo hi)) :=by
 refine aP (by kernel_rfl) rfl rfl ?_;unfold dB;by_cases h:lo≤n
 · have e: (decide (lo≤n) &&decide (n≤hi)) =decide (n≤hi) :=by simp [h]
   rw [e];exact aOL n lo hi (by simpa using h)
 · have e: (decide (lo≤n) &&decide (n≤hi)) =false:=by simp [h]
   rw [e];exact aOM n lo hi (by simpa using h)
def aH (u:LUnit) :List aC:=u.funs.map LFun.name
theorem aJx (u:LUnit)(hl:u.funs.length≤1000) :∀ (t:List LFun) (i:Nat) (acc:List aC),u.funs.drop i=t→acc.length=i→Ends PP 0 (aGW u (i:Int) acc).as (.ret (.ilst 1 (map aB (acc++t.map LFun.name)) false)) (aE [] 0)
 | [],i,acc,h,ha=>by
  have:=aT h;rw [map_nil,append_nil];exact aUE u i acc sd
 | c::t,i,acc,h,ha=>by
  obtain⟨q1,q2,q3⟩ :=aR h;have hi:= (List.getElem?_eq_some_iff.1 q1).1;refine(aUD u i acc c sd sd sd (by simp;omega) sd).ends ?_;have:=aJx u hl t (i+1) (acc++ [c.name]) q2 (by simp [ha]);rw [append_assoc]at this;exact this
theorem aJy (u:LUnit)(hl:u.funs.length≤1000) :Pure PP 39 [LUnit.av u] (.ilst 1 (map aB (aH u)) false) :=
 dF (s:=aYa u) (by kernel_rfl) (by kernel_rfl) (by simp [keylessL,jL]) (by simp [keyless]) ((aUC u).ends (aJx u hl u.funs 0 [] rfl rfl))
theorem aJz (u:LUnit)(hl:u.funs.length≤1000) :∀ (t:List LFun) (i:Nat) (acc:List aC),u.funs.drop i=t→acc.length=i→Ends PP 0 (aG2 u (i:Int) acc).as (.ret (.gl 0 1 0 (length (acc++t.map LFun.name)) false)) (aE [(0,.lst 1 (map aB (acc++t.map LFun.name)),true)] 1)
 | [],i,acc,h,ha=>by
  have:=aT h;rw [map_nil,append_nil];exact aVc u i acc sd
 | c::t,i,acc,h,ha=>by
  obtain⟨q1,q2,q3⟩ :=aR h;have hi:= (List.getElem?_eq_some_iff.1 q1).1;refine(aVb u i acc c sd sd sd (by simp;omega) sd).ends ?_;have:=aJz u hl t (i+1) (acc++ [c.name]) q2 (by simp [ha]);rw [append_assoc]at this;exact this
theorem aRA (u:LUnit)(hl:u.funs.length≤1000) :aCR PP (.enter 39 [LUnit.av u]) (aE [] 0) (.ret (.gl 0 1 0 (length (aH u)) false)) (aE [(0,.lst 1 (map aB (aH u)),true)] 1) :=by
 suffices hh:Ends PP 0 (aRr u).as (.ret (.gl 0 1 0 (length (aH u)) false)) (aE [(0,.lst 1 (map aB (aH u)),true)] 1)from⟨(aRr u).as.fr,by kernel_rfl,Eq.mp (by kernel_rfl) hh⟩
 exact(aVa u).ends (aJz u hl u.funs 0 [] rfl rfl)
def gI (l:List aC) :Bool:=l.all lG&&cI l
theorem aJA (l:List aC)(hl:l.length<1000000) :∀ (t:List aC) (i:Nat),l.drop i=t→Ends PP 0 (aAk l (i:Int)).as (.ret (.bool (t.all lG&&cI l))) (aE [] 0)
 | [],i,h=>by
  have:=aT h;rw [all_nil,Bool.true_and];exact aOG l i _ sd (qR l hl)
 | c::t,i,h=>by
  obtain⟨q1,q2,q3⟩ :=aR h;have hn:=aDl c;rw [all_cons];cases e:lG c with
  |false=>rw [e]at hn;exact aOE l i c false sd sd sd hn rfl
  |true=>rw [e]at hn;rw [Bool.true_and];exact(aOF l i c true sd sd sd hn rfl sd).ends (aJA l hl t (i+1) q2)
theorem aBK (l:List aC)(hl:l.length<1000000) :Pure PP 115 [.ilst 1 (map aB l) false] (.bool (gI l)) :=
 aP (by kernel_rfl) rfl rfl ((aOD l).ends (aJA l hl l 0 rfl))
def dU (l:List LUnit) :List aC:= (l.map aH).flatten
theorem aON (u:LUnit)(l:List LUnit) :dU (u::l) =aH u++dU l:=rfl
structure FewU (u:LUnit) :Prop where
 f:u.funs.length≤30
 n:u.needs.length≤25
 p:aL ⟨u.nodes,[],0,u.cons⟩ =true
 nm:∀f∈u.funs,f.name.length≤30
 nd:∀s∈u.needs,s.length≤30
theorem aJB (l:List LUnit)(hl:l.length≤11)(hu:∀u∈l,u.funs.length≤30) :∀ (t:List LUnit) (i:Nat) (acc:List aC),l.drop i=t→acc.length≤30*i→Ends PP 0 (aGX l (i:Int) acc).as (.ret (.ilst 1 (map aB (acc++dU t)) false)) (aE [] 0)
 | [],i,acc,h,ha=>by
  have:=aT h;rw [show dU [] = []from rfl,append_nil];exact aUH l i acc sd
 | u::t,i,acc,h,ha=>by
  obtain⟨q1,q2,q3⟩ :=aR h;have hi:= (List.getElem?_eq_some_iff.1 q1).1;have hf:=hu u (mem_of_getElem? q1);have hn: (aH u).length≤30:=by simp [aH];omega
  refine(aUG l i acc u (aH u) sd sd sd (aJy u (by omega)) (by simp;omega) sd).ends ?_;have:=aJB l hl hu t (i+1) (acc++aH u) q2 (by simp;omega);rw [append_assoc]at this;exact this
theorem aA7 (l:List LUnit)(hl:l.length≤11)(hu:∀u∈l,u.funs.length≤30) :Pure PP 72 [.ilst 5 (map LUnit.av l) false] (.ilst 1 (map aB (dU l)) false) :=
 dF (s:=aYb l) (by kernel_rfl) (by kernel_rfl) (by simp [keylessL,keyless]) (by simp [keyless]) ((aUF l).ends (aJB l hl hu l 0 [] rfl (by simp)))
theorem aOO {f:Nat}{a a' v:AV}(h:Pure PP f [a] v)(ha:∀ (E:Emb) (c:Value),VR E a' c→VR E a c) :Pure PP f [a'] v:=
 aE9 h rfl (fun E i x x' c h1 h2 hv=>by
  cases i with
  |zero=>simp only [getElem?_cons_zero,Option.some.injEq]at h1 h2;subst h1 h2;exact ha E c hv
  |succ i=>simp at h1)
theorem aOP {f:Nat}{a a' b b' v:AV}(h:Pure PP f [a,b] v)(ha:∀ (E:Emb) (c:Value),VR E a' c→VR E a c)(hb:∀ (E:Emb) (c:Value),VR E b' c→VR E b c) :Pure PP f [a',b'] v:=
 aE9 h rfl (fun E i x x' c h1 h2 hv=>by
  match i with
  |0=>simp only [getElem?_cons_zero,Option.some.injEq]at h1 h2;subst h1 h2;exact ha E c hv
  |1=>simp only [getElem?_cons_succ,getElem?_cons_zero,Option.some.injEq]at h1 h2;subst h1 h2;exact hb E c hv
  |i+2=>simp at h1)
theorem aA8 {E:Emb}{ns:List Node}{cs:List Con}{c:Value}(h:VR E (.agg [.ilst 4 (map Node.av ns) false,.nils,.int .i64 0,.ilst 2 (map Con.av cs) false]) c) :VR E (Prog.av ⟨ns,[],0,cs⟩) c:=by
 simp only [Prog.av,VR]at h ⊢;obtain⟨ws,rfl,h5⟩ :=h;obtain⟨a1,w1,rfl,c1,h5⟩ :=h5.cons_inv;obtain⟨a2,w2,rfl,c2,h5⟩ :=h5.cons_inv;exact⟨_,rfl,VRs.cons c1 (VRs.cons (aDu _ c2) h5)⟩
def eV (u:LUnit) :Prog:= ⟨u.nodes,[],0,u.cons⟩
def rD (u:LUnit) :Bool:=decide (u.funs.length≤30) &&decide (u.needs.length≤25) &&decide (u.name.length≤30) &&u.funs.all (fun f=>decide (f.name.length≤30)) &&u.needs.all (fun s=>decide (s.length≤30)) &&aL (eV u)
theorem aLR {u:LUnit}(h:rD u=true) :FewU u:=by
 simp only [rD,and_eq_true,decide_eq_true_eq]at h;obtain⟨⟨⟨⟨⟨h1,h2⟩,h3⟩,h4⟩,h5⟩,h6⟩ :=h;exact⟨h1,h2,h6,fun f hf=>by simpa using List.all_eq_true.1 h4 f hf,fun s hs=>by simpa using List.all_eq_true.1 h5 s hs⟩
theorem aYf (u:LUnit)(hn:u.needs.length≤25) :∀ (t:List aC) (i:Nat),u.needs.drop i=t→Ends PP 0 (aGZ u (i:Int)).as (.ret (.bool (t.all (fun s=>decide (s.length≤30)) &&aL (eV u)))) (aE [] 0)
 | [],i,h=>by
  have:=aT h;rw [all_nil,Bool.true_and];exact aUR u i _ sd (aOO (aBR (eV u)) (fun E c h=>aA8 h))
 | s ::t,i,h=>by
  obtain⟨q1,q2,q3⟩ :=aR h;by_cases hs:s.length≤30
  · rw [all_cons,decide_eq_true hs,Bool.true_and];exact(aUQ u i s sd sd sd (by simp;omega) sd).ends (aYf u hn t (i+1) q2)
  · rw [all_cons,decide_eq_false hs,Bool.false_and,Bool.false_and];exact aUP u i s sd sd sd (by simp;omega)
theorem aYg (u:LUnit)(hf:u.funs.length≤30)(hn:u.needs.length≤25) :∀ (t:List LFun) (i:Nat),u.funs.drop i=t→Ends PP 0 (aGY u (i:Int)).as (.ret (.bool (t.all (fun f=>decide (f.name.length≤30)) &&u.needs.all (fun s=>decide (s.length≤30)) &&aL (eV u)))) (aE [] 0)
 | [],i,h=>by
  have:=aT h;rw [all_nil,Bool.true_and];exact(aUO u i sd).ends (aYf u hn u.needs 0 rfl)
 | f ::t,i,h=>by
  obtain⟨q1,q2,q3⟩ :=aR h;by_cases hs:f.name.length≤30
  · rw [all_cons,decide_eq_true hs,Bool.true_and];exact(aUN u i f sd sd sd (by simp;omega) sd).ends (aYg u hf hn t (i+1) q2)
  · rw [all_cons,decide_eq_false hs,Bool.false_and,Bool.false_and,Bool.false_and];exact aUM u i f sd sd sd (by simp;omega)
theorem aRB (u:LUnit) :Pure PP 36 [LUnit.av u] (.bool (rD u)) :=by
 refine dF (s:=aYc u) (by kernel_rfl) (by kernel_rfl) (by simp [keylessL,jL]) (by simp [keyless]) ?_;unfold rD;by_cases h1:u.funs.length≤30
 · by_cases h2:u.needs.length≤25
   · by_cases h3:u.name.length≤30
     · rw [decide_eq_true h1,decide_eq_true h2,decide_eq_true h3,Bool.true_and,Bool.true_and,Bool.true_and];exact(aUL u (by simp;omega) (by simp;omega) (by simp;omega)).ends (aYg u h1 h2 u.funs 0 rfl)
     · rw [decide_eq_false h3];simp only [Bool.and_false,Bool.false_and];exact aUK u (by simp;omega) (by simp;omega) (by simp;omega)
   · rw [decide_eq_false h2];simp only [Bool.and_false,Bool.false_and];exact aUJ u (by simp;omega) (by simp;omega)
 · rw [decide_eq_false h1];simp only [Bool.false_and];exact aUI u (by simp;omega)
theorem aCc {α:Type}{l:List α}{i:Nat}{y:α}(h:l[i]?=some y) :l.take (i+1) =l.take i++ [y] :=by rw [List.take_add_one,h];rfl
def jM (l:List LUnit) :Bool:= (l.take 11).all rD&&decide (l.length≤11)
theorem aFa (l:List LUnit) :∀ (k i:Nat),i+k=11→ (∀u∈l.take i,rD u=true) →i≤l.length→Ends PP 0 (aB9 l (i:Int)).as (.ret (.bool (jM l))) (aE [] 0)
 | 0,i,hk,hs,hi=>by
  have e:i=11:=by omega
  subst e;have ev:jM l=decide (((length l:Nat) :Int) ≤ (11:Int)) :=by
   unfold jM;rw [List.all_eq_true.2 hs,Bool.true_and];by_cases h:l.length≤11
   ·rw [decide_eq_true h,decide_eq_true (by omega)]
   ·rw [decide_eq_false h,decide_eq_false (by omega)]
  rw [ev];by_cases h:11<l.length
  ·exact aRy l ((11:Nat) :Int) (by simp;omega) (by decide)
  ·exact aJu l ((11:Nat) :Int) (by simp;omega)
 | k + 1,i,hk,hs,hi=>by
  by_cases h:i<l.length
  · obtain⟨u,hu⟩ :∃u,l[i]?=some u:= ⟨_,getElem?_eq_getElem h⟩;have hp:=aRB u;cases e:rD u with
    | false=>
     rw [e]at hp;have ev:jM l=false:=by
      unfold jM;have: (l.take 11).all rD=false:=by
       rw [Bool.eq_false_iff];intro hh;have:=List.all_eq_true.1 hh u (mem_of_getElem? (by rw [List.getElem?_take,if_pos (show i<11 by omega)];exact hu));rw [e]at this;cases this
      rw [this,Bool.false_and]
     rw [ev];exact aRw l i u false sd (by simp;omega) sd sd hp rfl
    | true=>
     rw [e]at hp;refine(aRx l i u true sd (by simp;omega) sd sd hp rfl sd).ends (aFa l k (i+1) (by omega) (fun x hx=>?_) (by omega));rw [aCc hu]at hx;rcases List.mem_append.1 hx with g|g
     ·exact hs x g
     ·rw [List.mem_singleton.1 g];exact e
  · have ev:jM l=decide (((length l:Nat) :Int) ≤ (11:Int)) :=by
     unfold jM;have:l.take 11=l.take i:=by rw [take_of_length_le (by omega),take_of_length_le (by omega)]
     rw [this,List.all_eq_true.2 hs,Bool.true_and,decide_eq_true (show l.length≤11 by omega),decide_eq_true (by omega)]
    rw [ev];exact aJu l i sd
theorem aOQ (l:List LUnit) :Pure PP 13 [.ilst 5 (map LUnit.av l) false] (.bool (jM l)) :=
 aP (by kernel_rfl) (by simp [keylessL,keyless]) rfl ((aRv l).ends (aFa l 11 0 rfl (by simp) (Nat.zero_le _)))
theorem aJC {l:List LUnit}(h:jM l=true) :l.length≤11∧∀u∈l,rD u=true:=by
 simp only [jM,and_eq_true,decide_eq_true_eq]at h;obtain⟨h1,h2⟩ :=h;rw [take_of_length_le h2]at h1;exact⟨h2,List.all_eq_true.1 h1⟩
structure FitU (u:LUnit) :Prop where
 p:FitP (eV u)
 f:u.funs.length<1000000
 n:u.needs.length<1000000
def aYh(a:LUnit):TS:=cK PP 37 [(.agg [(aB a.name),(iC a.cons),(.ilst 2 (map LFun.av a.funs) false),(iS a.needs),(iN a.nodes)])] [] 0
def aG5(a:LUnit)(b:List aC)(c:Int):TS:=⟨(tf 37 126 [kp 1 0,(2,(bV false)),(3,(iS b)),(4,(nI c))] [kc f37 244,kl f37 244,.inBlock 0,kc f37 31]),[],[oC 0 [(aB a.name),(iC a.cons),(.ilst 2 (map LFun.av a.funs) false),(iS a.needs),(iN a.nodes)]],1⟩
def aG6(a:LUnit)(c:List aC)(d:Int)(b:List Int):TS:=⟨(tf 37 126 [kp 1 0,(2,(bV false)),(3,(iS c)),kp 6 1,(7,(nI d))] [kc f37 2036,kl f37 2036,.inBlock 2,kc f37 255]),[],[oC 0 [(aB a.name),(iC a.cons),(.ilst 2 (map LFun.av a.funs) false),(iS a.needs),(iN a.nodes)],oC 1 [(.gl 2 4 0 a.nodes.length false),(.gl 3 1 0 b.length false),(nI 0),(iC a.cons)],oL 2 4 (jN a.nodes),oL 3 1 (jI b)],4⟩
def aA9(a:LUnit)(d:List aC)(b:List Int)(e:Int)(c:List Node):TS:=⟨(tf 37 126 [kp 1 0,(2,(bV false)),(3,(iS d)),kp 6 1,(8,(nI e))] [kc f37 4084,kl f37 4084,.inBlock 4,kc f37 511]),[],[oC 0 [(aB a.name),(iC a.cons),(.ilst 2 (map LFun.av a.funs) false),(iS a.needs),(iN a.nodes)],oC 1 [(.gl 2 4 0 c.length false),(.gl 3 1 0 b.length false),(nI 0),(iC a.cons)],oL 2 4 (jN c),oL 3 1 (jI b)],4⟩
def aYi(a:List LUnit):TS:=cK PP 74 [(.ilst 5 (map LUnit.av a) false)] [] 0
def aDz(b:List LUnit)(c:List aC)(d:Int)(a:List aC):TS:=⟨(tf 74 49 [(0,(.ilst 5 (map LUnit.av b) false)),(2,.nils),(3,(iS c)),(4,(.gl 0 1 0 a.length false)),(5,(nI d))] [kc f74 244,kl f74 244,.inBlock 0,kc f74 31]),[],[oL 0 1 (map aB a)],1⟩
def yK(b:List LUnit)(c:List aC)(d:Int)(a:List aC)(e:Int):TS:=⟨(tf 74 49 [(0,(.ilst 5 (map LUnit.av b) false)),(2,.nils),(3,(iS c)),(4,(.gl 0 1 0 a.length false)),(5,(nI e)),(6,(nI d))] [kc f74 15652,kl f74 15652,.inBlock 2,.inBlock 1,kc f74 979,kl f74 244,.inBlock 0,kc f74 31]),[],[oL 0 1 (map aB a)],1⟩
def aG7(c:List LUnit)(b:aC)(d:List aC)(e f:Int)(a:List aC)(g:Int):TS:=⟨(tf 111 18 [(0,(.gl 0 1 0 a.length false)),(1,(aB b)),(4,(bV false)),(5,(nI e))] [kc f111 52,kl f111 52,.inBlock 0,kc f111 7]),[(tf 74 49 [(0,(.ilst 5 (map LUnit.av c) false)),(2,.nils),(3,(iS d)),(4,(.gl 0 1 0 a.length false)),(5,(nI g)),(6,(nI f)),(7,(aB b)),(38,(bV true)),(39,(.gl 0 1 0 a.length false)),(40,(aB b))] [ko f74 500882 7,kc f74 500883,.inBlock 3,kc f74 62611,kl f74 15652,.inBlock 2,.inBlock 1,kc f74 979,kl f74 244,.inBlock 0,kc f74 31])],[oL 0 1 (map aB a)],1⟩
def aDA(a:LUnit):=tT 0 (aYh a)<|.y fun b:List aC=>gp 8 39 [(.agg [(aB a.name),(iC a.cons),(.ilst 2 (map LFun.av a.funs) false),(iS a.needs),(iN a.nodes)])] (iS b)<|eU 7 86 [(aB a.name)]<|fun c=>.b 2 16 (!c) (gE 23 1 (bV false))<|gl 2 aB a.needs<|gd 3 22 ((a.needs.length:Int) >20) (gE 17 1 (bV false))<|eU 1 115 [(iS b)]<|fun d=>.b 3 27 (!d) (gE 12 1 (bV false))<|eU 2 115 [(iS a.needs)]<|fun e=>.b 3 32 (!e) (gE 6 1 (bV false))<|.W 9 1 [0] (aG5 a b 0)
def aVd:=fun a b c d e f=>aDA a b d c e|>.t f tv
def aVe:=fun a b c d e f g=>aDA a b d c e|>.f f|>.t g tv
def aVf:=fun a b c d e f g i j k=>aDA a b e c f|>.f g|>.f i d j|>.t k tv
def aVg:=fun a b c d e f g i j k l m n=>aDA a b f c g|>.f i|>.f j d k|>.f l e m|>.t n tv
def aVh:=fun a b c d e f g i j k l m n=>aDA a b f c g|>.f i|>.f j d k|>.f l e m|>.f n tv
def aDB(a:LUnit)(b:List aC)(c:Int):=tT 0 (aG5 a b c)<|gl 6 aB a.needs<|gd 2 37 (c< (a.needs.length:Int)) (gX aB 10 a.needs c<|fun d=>eU 1 111 [(iS b),(aB d)]<|fun e=>.b 1 46 e (gE 6 1 (bV false))<|gw 6 39 (c+1)<|.W 3 1 [0] (aG5 a b (c+1)))<|gl 6 aB b<|.b 2 49 ((b.length:Int) ==0) (.i [rn 13,.ctoL 3 0 true [(nI 3),(nI 0),.nils,.nils]] [hr (some [(nI 3),(nI 0),.nils,.nils]),hr true]<|.i [.lw 1 (jN [(Node.mk 3 0 [] [])])] [.q (p:=([(.agg [(nI 3),(nI 0),.nils,.nils])] :List AV) ≠ []) (by simp),.q (p:=VW [(.agg [(nI 3),(nI 0),.nils,.nils])] (jN [(Node.mk 3 0 [] [])])) (aMM _ _)]<|gv 0 3 0 (.gl 1 4 0 [(Node.mk 3 0 [] [])].length true)<|.i [.cweak 3 0] []<|gy 0 3 0 1 4 Node.av [(Node.mk 3 0 [] [])] false<|.i [.ctoL 3 1 false [(nI 0)]] [hr (some [(nI 0)]),hr true]<|gu 0 2 (jI [0])<|gv 0 3 1 (.gl 2 1 0 [0].length true)<|.i [.cweak 3 1] []<|gy 0 3 1 2 1 aQ [0] false<|gl 3 Node.av a.nodes<|.b 2 60 ((a.nodes.length:Int) ==0) (eU 1 38 [(.agg [(iN [(Node.mk 3 0 [] [])]),(iI [0]),(nI 0),(iC a.cons)])]<|fun d=>gE 4 4 (bV d))<|gE 6 4 (bV false))<|.i [rn 3,.reg (rd 4 (.app (jN a.nodes) a.nodes.length::rd 3 []))] [hA (length a.nodes≤1000000),hr (jN a.nodes),.q (p:=length (jN a.nodes) =length a.nodes) (List.length_map ..),hr (ilst 2 (jC a.cons) false),hr (ilst 2 (jC a.cons) false)]<|.i [rn 7,.cnil 1 1 1] []<|gu 0 3 (jI ([] :List Int))<|gv 0 1 1 (.gl 3 1 0 ([] :List Int).length false)<|.W 0 4 [0,1,2,3] (aG6 a b 0 ([] :List Int))
def aVi:=fun a b c d e f g i j k=>aDB a b c|>.t f d g i e j|>.t k tv
def aVj:=fun a b c d e f g i j k l=>aDB a b c|>.t f d g i e j|>.f k l tv
def aVk:=fun a b c d e f g i=>aDB a b c|>.f e|>.t f|>.t g d i tv
def aVl:=fun a b c d e f=>aDB a b c|>.f d|>.t e|>.f f tv
def aVm:=fun a b c d e f=>aDB a b c|>.f d|>.f e f ⟨kk,⟨kk,trivial⟩⟩
def aRC(c:LUnit)(e:List aC)(d:Int)(a:List Int):=tT 0 (aG6 c e d a)<|gl 6 LFun.av c.funs<|gd 2 74 (d< (c.funs.length:Int)) (.y fun b:LFun=>.i [rn 4,.reg (rd 5 (.ans (.idx (LFun.av b))::rd 3 [.app (jI (a++ [b.body])) (a++ [b.body]).length,.d,.d]))] [hA (0≤d),.a (((c.funs)[d.toNat]?) =some b) (cH (f:=LFun.av)),hb aQ a,hA (length (a++ [b.body]) ≤1000000),hc aQ a [b.body],he aQ a [b.body]]<|gw 4 76 (d+1)<|.W 3 6 [0,1,2,5] (aG6 c e (d+1) (a++ [b.body])))<|.W 9 4 [0,1,2,3] (aA9 c e a 0 c.nodes)
def aVn:=fun a b c d e f g i j k=>aRC a b c d|>.t f e g i j k ⟨kk,⟨kk,trivial⟩⟩
def aVo:=fun a b c d e=>aRC a b c d|>.f e ⟨kk,⟨kk,trivial⟩⟩
def aG8(f:LUnit)(d:List aC)(e:List Int)(c:Int)(b:List Node):=tT 0 (aA9 f d e c b)<|gd 9 92 (c< (b.length:Int)) (.i [rn 9,.ans (.ix)] [hA (0≤c),hA (c< (b.length:Int))]<|.y fun a:Node=>gj Node.av 0 b c.toNat a<|.b 9 103 (a.op==4) (gl 3 aB d<|gw 1 108 (0- (d.length:Int))<|gl 2 aB f.needs<|gw 1 112 ((0- (d.length:Int)) - (f.needs.length:Int))<|gl 1 aB d<|gw 1 115 (0- (d.length:Int))<|gw 1 116 ((0- (d.length:Int)) -1)<|eU 0 116 [(nI a.n),(nI ((0- (d.length:Int)) - (f.needs.length:Int))),(nI ((0- (d.length:Int)) -1))]<|fun g=>.b 2 118 g (.i [rn 5,.ans (.ix)] [hA (0≤c),hA (c< (b.length:Int))]<|.i [rn 1,.st (Node.av a) (Node.av (Node.mk a.op (-1) a.kids a.pats))] [.a (((b)[c.toNat]?) =some a) (eZ (f:=Node.av)),hr (some (Node.av (Node.mk a.op (-1) a.kids a.pats)))]<|.i [.lset 2 (jN (set b c.toNat (Node.mk a.op (-1) a.kids a.pats)))] [.q (p:=(jN b).set (0+c.toNat) (Node.av (Node.mk a.op (-1) a.kids a.pats)) = (jN (set b c.toNat (Node.mk a.op (-1) a.kids a.pats)))) (mI _ _ _ _)]<|.i [.set 90 (.gl 2 4 0 (set b c.toNat (Node.mk a.op (-1) a.kids a.pats)).length false)] [.q (p:=(AV.gl 2 4 0 b.length false) = (.gl 2 4 0 (set b c.toNat (Node.mk a.op (-1) a.kids a.pats)).length false)) (bQ (length_set ..).symm)]<|.i [.set 96 (.gl 2 4 0 (set b c.toNat (Node.mk a.op (-1) a.kids a.pats)).length false)] [.q (p:=(AV.gl 2 4 0 b.length false) = (.gl 2 4 0 (set b c.toNat (Node.mk a.op (-1) a.kids a.pats)).length false)) (bQ (length_set ..).symm)]<|.i [.set 120 (.gl 2 4 0 (set b c.toNat (Node.mk a.op (-1) a.kids a.pats)).length false)] [.q (p:=(AV.gl 2 4 0 b.length false) = (.gl 2 4 0 (set b c.toNat (Node.mk a.op (-1) a.kids a.pats)).length false)) (bQ (length_set ..).symm)]<|.i [.cset 1 0 (.gl 2 4 0 (set b c.toNat (Node.mk a.op (-1) a.kids a.pats)).length false)] [.q (p:=(AV.gl 2 4 0 b.length false) = (.gl 2 4 0 (set b c.toNat (Node.mk a.op (-1) a.kids a.pats)).length false)) (bQ (length_set ..).symm)]<|gw 5 94 (c+1)<|.W 3 5 [0,1,2,3] (aA9 f d e (c+1) (set b c.toNat (Node.mk a.op (-1) a.kids a.pats))))<|gw 6 94 (c+1)<|.W 3 5 [0,1,2,3] (aA9 f d e (c+1) b))<|gw 22 94 (c+1)<|.W 3 5 [0,1,2,3] (aA9 f d e (c+1) b))<|.i [rn 5,.frz 124 2 (jN b)] [hk Node.av b,.q (p:=frzOk 2 4 (jN b) (jN b) (.agg [(.gl 2 4 0 b.length false),(.gl 3 1 0 e.length false),(nI 0),(iC f.cons)])) (by simp [frzOk,AV.frzOkL,take_of_length_le])]<|.i [.frz 124 3 (jI e)] [hk aQ e,.q (p:=frzOk 3 1 (jI e) (jI e) (.agg [(iN b),(.gl 3 1 0 e.length false),(nI 0),(iC f.cons)])) (by simp [frzOk,AV.frzOkL,take_of_length_le])]<|eU 0 38 [(.agg [(iN b),(iI e),(nI 0),(iC f.cons)])]<|fun a=>gE 3 4 (bV a)
def aVp:=fun e f g i j k l m a b c n d o p q r s=>aG8 e f g i j|>.t m a b k c|>.t n d o d p l q|>.t r a b c s ⟨kk,⟨kk,trivial⟩⟩
def aVq:=fun b c d e f g i j k l m n a o p q r s=>aG8 b c d e f|>.t j k l g m|>.t n a o a p i q|>.f r s ⟨kk,⟨kk,trivial⟩⟩
def aVr:=fun a b c d e f g i j k l m=>aG8 a b c d e|>.t g i j f k|>.f l m ⟨kk,⟨kk,trivial⟩⟩
def aVs:=fun a b c d e f g i=>aG8 a b c d e|>.f g f i tv
def aVt (b:List LUnit):=fun a c=>(tT 0 (aYi b)<|.y fun a:List aC=>gp 7 72 [(.ilst 5 (map LUnit.av b) false)] (iS a)<|.i [rn 13,.nilL 4 1] []<|gu 0 0 (map aB ([] :List aC))<|gs 0 4 (.gl 0 1 0 ([] :List aC).length false)<|.W 0 1 [0] (aDz b a 0 ([] :List aC))) a c ⟨kk,trivial⟩
def aRD(a:List LUnit)(d:List aC)(c:Int)(b:List aC):=tT 0 (aDz a d c b)<|gl 5 LUnit.av a<|gd 2 13 (c< (a.length:Int)) (.W 10 1 [0] (yK a d 0 b c))<|gz 8 2 0 1 aB b false<|gE 0 1 (iS b)
def aVu:=fun a b c d e=>aRD a b c d|>.t e ⟨kk,trivial⟩
def aVv:=fun a b c d e=>aRD a b c d|>.f e tv
def aLS(b:List LUnit)(d:List aC)(c:Int)(e:List aC)(a:Int):=tT 0 (yK b d c e a)<|gX LUnit.av 6 b a<|fun f=>gl 2 aB f.needs<|gd 2 23 (c< (f.needs.length:Int)) (gi LUnit.av 8 b a f<|gX aB 3 f.needs c<|fun g=>eU 7 111 [(iS d),(aB g)]<|fun i=>.b 2 38 (!i) (.W 14 1 [0] (aG7 b g d 0 c e a))<|gw 12 25 (c+1)<|.W 3 1 [0] (yK b d (c+1) e a))<|gw 6 15 (a+1)<|.W 3 1 [0] (aDz b d (a+1) e)
def aVw:=fun c d e f g i j k a b l m n o p=>aLS c d e f g i a b|>.t l a b j m n k o|>.t p ⟨kk,trivial⟩
def aVx:=fun c d e f g i j k a b l m n o p q=>aLS c d e f g i a b|>.t l a b j m n k o|>.f p q ⟨kk,trivial⟩
def aVy:=fun a b c d e f g i j k=>aLS a b c d e f g i|>.f j k ⟨kk,trivial⟩
def aLT(e:List LUnit)(c:aC)(f:List aC)(b d:Int)(a:List aC)(g:Int):=tT 0 (aG7 e c f b d a g)<|gd 8 9 (b< (a.length:Int)) (.i [rn 8,.ans (.ix)] [hA (0≤b),hA (b< (a.length:Int))]<|.y fun i:aC=>gj aB 0 a b.toNat i<|.b 3 17 (bB i.length (aA i) c.length (aA c)) (gw 16 25 (d+1)<|.W 3 1 [0] (yK e f (d+1) a g))<|gw 6 11 (b+1)<|.W 3 1 [0] (aG7 e c f (b+1) d a g))<|ga 16 aB a [c]<|gw 6 25 (d+1)<|.W 3 3 [2] (yK e f (d+1) (a++ [c]) g)
def aVz:=fun a b c d e f g i j k l m n o=>aLT a b c d e f g|>.t j k l i m|>.t n o ⟨kk,trivial⟩
def aVA:=fun a b c d e f g i j k l m n o=>aLT a b c d e f g|>.t j k l i m|>.f n o ⟨kk,trivial⟩
def aVB:=fun a b c d e f g i j k=>aLT a b c d e f g|>.f i j k ⟨kk,trivial⟩
def pA {α:Type}(f:α→α)(l:List α)(i:Nat) :List α:= (l.take i).map f++l.drop i
section
variable {α :Type} {f:α→α} {l:List α} {i:Nat}
theorem aFb :pA f l 0=l:=by simp [pA]
theorem aDC : (pA f l i).length=l.length:=by simp [pA];omega
theorem aJD (h:l.length≤i) :pA f l i=l.map f:=by simp [pA,take_of_length_le h,List.drop_eq_nil_of_le h]
theorem yL {x:α}(h:l[i]?=some x) :pA f l i= (l.take i).map f++x::l.drop (i+1) ∧ ((l.take i).map f).length=i:=by
 have hi:= (List.getElem?_eq_some_iff.1 h).1;refine⟨?_,by simp;omega⟩;unfold pA;rw [List.drop_eq_getElem_cons hi];rw [(List.getElem?_eq_some_iff.1 h).2]
theorem aJE {x:α}(h:l[i]?=some x) : (pA f l i)[i]?=some x:=by
 obtain⟨e,hl⟩ :=yL (f:=f) h;rw [e,List.getElem?_append_right (by omega),hl];simp
theorem aFc {x:α}(h:l[i]?=some x) :pA f l (i+1) = (l.take i).map f++f x::l.drop (i+1) :=by
 unfold pA;rw [aCc h];simp
theorem aJF {x:α}(h:l[i]?=some x) : (pA f l i).set i (f x) =pA f l (i+1) :=by
 obtain⟨e,hl⟩ :=yL (f:=f) h;rw [e,aFc h,List.set_append_right _ _ (by omega),hl];simp
theorem pC {x:α}(h:l[i]?=some x)(e:f x=x) :pA f l i=pA f l (i+1) :=by
 rw [(yL (f:=f) h).1,aFc h,e]
end
def fW (a b:Nat)(x:Node) :Node:=if x.op=4∧ -(a:Int) -b≤x.n∧x.n≤ -(a:Int) -1 then⟨x.op,-1,x.kids,x.pats⟩else x
def dE (u:LUnit) :List Int:=u.funs.map LFun.body
def jP (u:LUnit) :Prog:= ⟨u.nodes.map (fW u.funs.length u.needs.length),dE u,0,u.cons⟩
def wZ (u:LUnit) :Prog:= ⟨[⟨3,0,[],[]⟩],[0],0,u.cons⟩
def hR (u:LUnit) :Bool:=lG u.name&&decide (u.needs.length≤20) &&gI (aH u) &&gI u.needs&&u.needs.all (fun s=> !bW (aH u) s) &&
 (if u.funs.length=0 then decide (u.nodes.length=0) &&aZ (wZ u)else aZ (jP u))
theorem vG {u:LUnit}(h:FewU u) :aL (jP u) =true:=by
 have h0:=h.p;have hf:=h.f;simp only [aL,and_eq_true,decide_eq_true_eq]at h0 ⊢;obtain⟨⟨⟨⟨h1,h2⟩,h3⟩,h4⟩,h5⟩ :=h0;refine⟨⟨⟨⟨by simp [jP];exact h1,by simp [jP,dE];omega⟩,h3⟩,h4⟩,List.all_eq_true.2 (fun x hx=>?_)⟩;simp only [jP,List.mem_map]at hx;obtain⟨y,hy,rfl⟩ :=hx;have:=List.all_eq_true.1 h5 y hy;unfold fW;split<;>exact this
theorem aDD {u:LUnit}(h:FewU u) :aL (wZ u) =true:=by
 have h0:=h.p;simp only [aL,and_eq_true,decide_eq_true_eq]at h0 ⊢;obtain⟨⟨⟨⟨h1,h2⟩,h3⟩,h4⟩,h5⟩ :=h0;exact⟨⟨⟨⟨by simp [wZ],by simp [wZ]⟩,h3⟩,h4⟩,by rfl⟩
section
variable (u :LUnit) (hu:FewU u)
include hu
theorem aYj :∀ (t:List Node) (i:Nat),u.nodes.drop i=t→i≤u.nodes.length→Ends PP 0 (aA9 u (aH u) (dE u) (i:Int) (pA (fW u.funs.length u.needs.length) u.nodes i)).as (.ret (.bool (aZ (jP u)))) (aE [] 0)
 | [],i,h,hi=>by
  have hd:=aT h;have hn:i=u.nodes.length:=by omega
  have hl: (pA (fW u.funs.length u.needs.length) u.nodes i).length=u.nodes.length:=aDC;rw [aJD (by omega)]at hl ⊢;exact aVs u (aH u) (dE u) i _ _ (by rw [hl];exact sd) (aAe (jP u) (vG hu))
 | x ::t,i,h,hi=>by
  obtain⟨q1,q2,q3⟩ :=aR h;have hi:= (List.getElem?_eq_some_iff.1 q1).1;have hn:u.nodes.length≤320:=by have:=hu.p;simp only [aL,and_eq_true,decide_eq_true_eq]at this;exact this.1.1.1.1
  have hf:=hu.f;have hd:=hu.n;have hl: (pA (fW u.funs.length u.needs.length) u.nodes i).length=u.nodes.length:=aDC;have ho: (aH u).length=u.funs.length:=by simp [aH]
  have hg:=aJE (f:=fW u.funs.length u.needs.length) q1;have w1:IntKind.i64.wrap (0- ((length (aH u) :Nat) :Int)) =0- ((length (aH u) :Nat) :Int) :=by apply wrap64<;>omega
  have w2:IntKind.i64.wrap (0- ((length (aH u) :Nat) :Int) - ((length u.needs:Nat) :Int)) =0- ((length (aH u) :Nat) :Int) - ((length u.needs:Nat) :Int) :=by apply wrap64<;>omega
  have w3:IntKind.i64.wrap (0- ((length (aH u) :Nat) :Int) - (1:Int)) =0- ((length (aH u) :Nat) :Int) - (1:Int) :=by apply wrap64<;>omega
  have ih:=aYj t (i+1) q2 (by omega);by_cases h4:x.op=4
  · have hp:=aLQ x.n (0- ((length (aH u) :Nat) :Int) - ((length u.needs:Nat) :Int)) (0- ((length (aH u) :Nat) :Int) - (1:Int));by_cases hb: -(u.funs.length:Int) -u.needs.length≤x.n∧x.n≤ -(u.funs.length:Int) -1
    · have eb:dB x.n (0- ((length (aH u) :Nat) :Int) - ((length u.needs:Nat) :Int)) (0- ((length (aH u) :Nat) :Int) - (1:Int)) =true:=by rw [inB_iff,ho];omega
      rw [eb]at hp;have ef:fW u.funs.length u.needs.length x= ⟨x.op,-1,x.kids,x.pats⟩ :=by unfold fW;rw [if_pos ⟨h4,hb⟩]
      have h1:=aVp u (aH u) (dE u) i _ x true (by rw [hl];exact sd) sd (by rw [hl];omega) (by rw [toNat_natCast];exact hg) (by simp [h4]) w1 w2 w3 hp rfl sd;rw [toNat_natCast,←ef,aJF q1]at h1;exact h1.ends ih
    · have eb:dB x.n (0- ((length (aH u) :Nat) :Int) - ((length u.needs:Nat) :Int)) (0- ((length (aH u) :Nat) :Int) - (1:Int)) =false:=by rw [Bool.eq_false_iff,Ne,inB_iff,ho];omega
      rw [eb]at hp;have ef:fW u.funs.length u.needs.length x=x:=by unfold fW;rw [if_neg (fun g=>hb g.2)]
      have h1:=aVq u (aH u) (dE u) i _ x false (by rw [hl];exact sd) sd (by rw [hl];omega) (by rw [toNat_natCast];exact hg) (by simp [h4]) w1 w2 w3 hp rfl sd;rw [pC q1 ef]at h1 hl ⊢;exact h1.ends ih
  · have ef:fW u.funs.length u.needs.length x=x:=by unfold fW;rw [if_neg (fun g=>h4 g.1)]
    have h1:=aVr u (aH u) (dE u) i _ x (by rw [hl];exact sd) sd (by rw [hl];omega) (by rw [toNat_natCast];exact hg) (by simp [h4]) sd;rw [pC q1 ef]at h1 hl ⊢;exact h1.ends ih
theorem aYk :∀ (t:List LFun) (i:Nat) (acc:List Int),u.funs.drop i=t→acc.length=i→Ends PP 0 (aG6 u (aH u) (i:Int) acc).as (.ret (.bool (aZ (jP u)))) (aE [] 0) ∨acc++t.map LFun.body≠dE u
 | [],i,acc,h,ha=>by
  have:=aT h;by_cases e:acc=dE u
  · subst e;have:=aYj u hu u.nodes 0 rfl (Nat.zero_le _);rw [aFb]at this;exact .inl ((aVo u (aH u) i _ sd).ends this)
  ·exact .inr (by simpa using e)
 | f::t,i,acc,h,ha=>by
  obtain⟨q1,q2,q3⟩ :=aR h;have hi:= (List.getElem?_eq_some_iff.1 q1).1;have hf:=hu.f;rcases aYk t (i+1) (acc++ [f.body]) q2 (by simp [ha])with g|g
  ·exact .inl ((aVn u (aH u) i acc f sd sd sd (by simp;omega) sd).ends g)
  ·exact .inr (by simpa using g)
theorem aYl :∀ (t:List aC) (i:Nat),u.needs.drop i=t→Ends PP 0 (aG5 u (aH u) (i:Int)).as (.ret (.bool (t.all (fun s=> !bW (aH u) s) && (if u.funs.length=0 then decide (u.nodes.length=0) &&aZ (wZ u)else aZ (jP u))))) (aE [] 0)
 | [], i,h=>by
  have:=aT h;have ho: (aH u).length=u.funs.length:=by simp [aH]
  have hn:u.nodes.length≤320:=by have:=hu.p;simp only [aL,and_eq_true,decide_eq_true_eq]at this;exact this.1.1.1.1
  rw [all_nil,Bool.true_and];by_cases h0:u.funs.length=0
  · rw [if_pos h0];by_cases h1:u.nodes.length=0
    · rw [decide_eq_true h1,Bool.true_and];exact aVk u (aH u) i _ sd (by rw [ho,h0];rfl) (by rw [h1];rfl) (aAe (wZ u) (aDD hu))
    · rw [decide_eq_false h1,Bool.false_and];exact aVl u (aH u) i sd (by rw [ho,h0];rfl) (beq_eq_false_iff_ne.2 (by omega))
  · rw [if_neg h0];refine(aVm u (aH u) i sd (beq_eq_false_iff_ne.2 (by rw [ho];omega)) (by omega)).ends ?_;rcases aYk u hu u.funs 0 [] rfl rfl with g|g
    ·exact g
    ·exact absurd rfl g
 | s::t,i,h=>by
  obtain⟨q1,q2,q3⟩ :=aR h;have hf:=hu.f;have hd:=hu.n;have hh:=vB (aH u) s (by simp [aH];omega);rw [all_cons];cases e:bW (aH u) s with
  | true=>
   rw [e]at hh;rw [Bool.not_true,Bool.false_and,Bool.false_and];exact aVi u (aH u) i s true sd sd sd hh rfl
  | false=>
   rw [e]at hh;rw [Bool.not_false,Bool.true_and];exact(aVj u (aH u) i s false sd sd sd hh rfl sd).ends (aYl t (i+1) q2)
theorem aRE :Pure PP 37 [LUnit.av u] (.bool (hR u)) :=by
 have hf:=hu.f;have hd:=hu.n;refine dF (s:=aYh u) (by kernel_rfl) (by kernel_rfl) (by simp [keylessL,jL]) (by simp [keyless]) ?_;have a0:=aJy u (by omega);have a1:=aDl u.name;have a2:=aBK (aH u) (by simp [aH];omega);have a3:=aBK u.needs (by omega);unfold hR;cases e1:lG u.name with
 |false=>rw [e1]at a1;simp only [Bool.false_and];exact aVd u (aH u) false a0 a1 rfl
 | true=>
  rw [e1]at a1;by_cases e2:u.needs.length≤20
  · rw [decide_eq_true e2];cases e3:gI (aH u)with
    |false=>rw [e3]at a2;simp only [Bool.true_and,Bool.false_and,Bool.and_false];exact aVf u (aH u) true false a0 a1 rfl (by simp;omega) a2 rfl
    | true=>
     rw [e3]at a2;cases e4:gI u.needs with
     |false=>rw [e4]at a3;simp only [Bool.true_and,Bool.false_and,Bool.and_false];exact aVg u (aH u) true true false a0 a1 rfl (by simp;omega) a2 rfl a3 rfl
     | true=>
      rw [e4]at a3;simp only [Bool.true_and];exact(aVh u (aH u) true true true a0 a1 rfl (by simp;omega) a2 rfl a3 rfl).ends (aYl u hu u.needs 0 rfl)
  · rw [decide_eq_false e2];simp only [Bool.and_false,Bool.false_and];exact aVe u (aH u) true a0 a1 rfl (by simp;omega)
end
def jO (l:List LUnit) :Bool:=decide (l.length≤10) &&l.all hR
theorem aJG (l:List LUnit)(hl:l.length≤10)(hu:∀u∈l,FewU u) :∀ (t:List LUnit) (i:Nat),l.drop i=t→Ends PP 0 (aG0 l (i:Int)).as (.ret (.bool (t.all hR))) (aE [] 0)
 | [],i,h=>by
  have:=aT h;exact aUW l i sd
 | u::t,i,h=>by
  obtain⟨q1,q2,q3⟩ :=aR h;have hp:=aRE u (hu u (mem_of_getElem? q1));rw [all_cons];cases e:hR u with
  |false=>rw [e]at hp;exact aUU l i u false sd sd sd hp rfl
  |true=>rw [e]at hp;rw [Bool.true_and];exact(aUV l i u true sd sd sd hp rfl sd).ends (aJG l hl hu t (i+1) q2)
theorem aRF (l:List LUnit)(hu:∀u∈l,FewU u) :Pure PP 18 [.ilst 5 (map LUnit.av l) false] (.bool (jO l)) :=by
 refine aP (by kernel_rfl) (by simp [keylessL,keyless]) rfl ?_;unfold jO;by_cases h:l.length≤10
 · rw [decide_eq_true h,Bool.true_and];exact(aUT l (by simp;omega)).ends (aJG l h hu l 0 rfl)
 · rw [decide_eq_false h,Bool.false_and];exact aUS l (by simp;omega)
def xA (own:List aC) :List aC→List aC→List aC
 |out,[] =>out
 |out,s::t=>xA own (if bW own s=true∨bW out s=true then out else out++ [s]) t
def aAm (own:List aC) :List aC→List LUnit→List aC
 |out,[] =>out
 |out,u::l=>aAm own (xA own out u.needs) l
def dO (l:List LUnit) :List aC:=aAm (dU l) [] l
theorem vH (own:List aC) :∀ (t out:List aC),(xA own out t).length≤out.length+t.length
 | [],out=>by simp [xA]
 | s::t,out=>by
  rw [xA];have:=vH own t (if bW own s=true∨bW out s=true then out else out++ [s]);split at this<;>simp at this ⊢ <;>split<;>simp_all<;>omega
end
end Go.Hb
