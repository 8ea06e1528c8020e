/- A machine on abstract values, its soundness, ways, plain laws. -/
import Derived.Test.YtfaikcecgpcimaaGreatHF
import Derived.Test.YtfaikcecgpcimaaGreatHG
import Derived.Test.YtfaikcecgpcimaaGreatHH
import Derived.Test.YtfaikcecgpcimaaGreatHI
import Derived.Test.YtfaikcecgpcimaaGreatHJ
set_option linter.defProp false
set_option linter.unusedVariables false
set_option linter.unusedSimpArgs false
set_option linter.unusedSectionVars false
set_option maxRecDepth 100000
set_option maxHeartbeats 4000000
namespace Go.Hb
open AV (frzOk ilst keyless keylessL nils)
open Bool (and_eq_true)
open Int (toNat_natCast)
open List (all_cons all_nil count_append flatten_cons getElem?_cons_succ getElem?_cons_zero getElem?_eq_getElem length length_cons length_set map map_cons map_nil mem_cons_of_mem mem_cons_self mem_of_getElem? replicate set take_of_length_le)
open Go.Proofs Tryz
noncomputable section
section
variable {p :Prog} {mf mc:List (Int×Int)} {F C:List Int} {to:List Int}
def MOk (p:Prog)(mf mc:List (Int×Int))(F C:List Int) :Prop:=∀ (i:Nat) (x:Node),p.nodes[i]?=some x→bF x.pats<1000000∧mN F C x.op x.n=some (bN mf mc x.op x.n) ∧pI C x.pats=some (fK mc x.pats)
theorem aEH {g:Nat→Int→Option (List Node)}{h:Int→List Node}{q:Int→List Int}:∀ (ks:List Int) (len:Nat),
  (∀k∈ks,∀len:Nat,len+ (q k).length≤1000000→ (∀ (i:Nat) (b:Int),(q k)[i]?=some b→iH to b= ((len+i:Nat) :Int)) →g len k=some (h k)) → (∀k∈ks,(h k).length= (q k).length∧ (q k)[0]?=some k) →
  len+ ((ks.map q).flatten).length≤1000000→ (∀ (i:Nat) (b:Int),((ks.map q).flatten)[i]?=some b→iH to b= ((len+i:Nat) :Int)) →
  mO g len ks=some (ks.map (iH to),(ks.map h).flatten)
 | [],len,_,_,_,_=>rfl
 | k::ks,len,hg,hh,hb,ht=>by
  simp only [map_cons,flatten_cons,List.length_append]at hb ht ⊢;obtain⟨h1,h2⟩ :=hh k (mem_cons_self ..);have hlt:∀ {i:Nat} {b:Int},(q k)[i]?=some b→i< (q k).length:=fun e=> (List.getElem?_eq_some_iff.1 e).1;rw [mO,hg k (mem_cons_self ..) len (by omega) (fun i b e=>ht i b (by rw [List.getElem?_append_left (hlt e)];exact e))];simp only
  rw [aEH ks (len+ (h k).length) (fun k hk=>hg k (mem_cons_of_mem _ hk)) (fun k hk=>hh k (mem_cons_of_mem _ hk)) (by omega) (fun i b e=>by
   rw [ht ((q k).length+i) b (by rw [List.getElem?_append_right (by omega),show(q k).length+i- (q k).length=i by omega];exact e),h1];congr 1;omega)]
  simp only;rw [ht 0 k (by rw [List.getElem?_append_left (hlt h2)];exact h2)];rfl
theorem aGv (hp:FineP p)(hm:MOk p mf mc F C) :∀ (k:Nat) (a:Int) (len:Nat),0≤a→a<p.nodes.length→p.nodes.length-a.toNat≤k→len+ (pre p k a).length≤1000000→ (∀ (i:Nat) (b:Int),(pre p k a)[i]?=some b→iH to b= ((len+i:Nat) :Int)) →
  dZ p F C k len a=some (wB p mf mc to k a)
 |0,a,len,ha,hn,hf,_,_=>by omega
 | k +1,a,len,ha,hn,hf,hb,ht=>by
  obtain⟨x,hx⟩ :∃x,p.nodes[a.toNat]?=some x:= ⟨_,getElem?_eq_getElem (by omega)⟩;obtain⟨_,hk10,hks⟩ :=hp.node _ _ hx;obtain⟨m1,m2,m3⟩ :=hm _ _ hx;have e:pre p (k+1) a=a:: (x.kids.map (pre p k)).flatten:=by rw [pre,hx]
  rw [e]at hb ht;simp only [length_cons]at hb
  have hkk:=aEH (to:=to) (g:=dZ p F C k) (h:=wB p mf mc to k) (q:=pre p k) x.kids (len+1) (fun c hc len h1 h2=>by
    have:=hks c hc;exact aGv hp hm k c len (by omega) (by omega) (by omega) h1 h2) (fun c hc=>by
    have:=hks c hc;obtain⟨y,g,_,_,h3⟩ :=aEG hp (f:=k) (a:=c) (by omega) (by omega) (by omega);exact⟨aNg mf mc to k c,by rw [h3];rfl⟩) (by omega) (fun i b h=>by
    rw [ht (i+1) b (by simpa using h)];congr 1;omega)
  rw [dZ,if_pos ⟨ha,by omega⟩,hx];simp only;rw [if_pos ⟨by omega,m1⟩,m2];simp only;rw [m3];simp only;rw [hkk];simp only;rw [wB,hx];rfl
end
def aSJ (x:Node)(i:Nat) :Nat→List Int→List Int→List Int
 |_,[],l=>l
 |j,k::ks,l=>aSJ x i (j+1) ks (l.set k.toNat (l.getD i 0+aKL x j))
def aOi :Nat→List Node→List Int→List Int
 |_,[],l=>l
 |i,x::t,l=>aOi (i+1) t (aSJ x i 0 x.kids l)
def aSK :List Int→List Int→List Int
 | [],l=>l
 |f::fs,l=>aSK fs (l.set f.toNat 1)
def aNh (p:Prog) :List Int:=aOi 0 p.nodes (aSK p.funs (replicate p.nodes.length 0))
theorem aBr {lo n:Int}:∀ {ks:List Int} {u v:List Bool},marks lo n ks u=some v→∀k∈ks,lo≤k∧k≤n-1
 | [],_,_,_,k,hk=>by cases hk
 | a ::ks,u,v,h,k,hk=>by
  simp only [marks]at h;split at h
  · rename_i g;rcases List.mem_cons.1 hk with rfl|hk
    ·exact inB_iff.1 g.1
    ·exact aBr h k hk
  ·cases h
theorem aNi {lo n k:Int}{ks:List Int}{u v:List Bool}(h:marks lo n (k::ks) u=some v) :u[k.toNat]?=some false∧marks lo n ks (u.set k.toNat true) =some v:=by
 simp only [marks]at h;split at h
 ·rename_i g;exact⟨g.2,h⟩
 ·cases h
theorem qS {p:Prog}{i:Nat}{x:Node}{t:List Node}{u v:List Bool}(h:cM p i (x::t) u=some v) :bC p x=true∧∃w,marks ((i:Int) +1) p.nodes.length x.kids u=some w∧cM p (i+1) t w=some v:=by
 simp only [cM]at h;split at h
 · rename_i g;split at h
   ·rename_i w hw;exact⟨g,w,hw,h⟩
   ·cases h
 ·cases h
theorem tY {p:Prog}:∀ {t:List Node} {i:Nat} {u v:List Bool},cM p i t u=some v→v.length=u.length
 | [],i,u,v,h=>by simp only [cM,Option.some.injEq]at h;rw [h]
 | x::t,i,u,v,h=>by
  obtain⟨_,w,hw,h2⟩ :=qS h;rw [tY h2,lN hw]
theorem tZ {p:Prog}:∀ {t:List Node} {i:Nat} {u v:List Bool},cM p i t u=some v→∀ (j:Nat) (x:Node),t[j]?=some x→bC p x=true∧∀k∈x.kids,((i+j:Nat) :Int) <k∧k<p.nodes.length
 | [],i,u,v,h,j,x,hx=>by simp at hx
 | y::t,i,u,v,h,j,x,hx=>by
  obtain⟨g,w,hw,h2⟩ :=qS h;cases j with
  | zero=>
   simp at hx;subst hx;exact⟨g,fun k hk=>by have:=aBr hw k hk;omega⟩
  | succ j=>
   have:=tZ h2 j x (by simpa using hx);exact⟨this.1,fun k hk=>by have:=this.2 k hk;omega⟩
structure Sprop (p:Prog) (S:List Int) :Prop where
 len:S.length=p.nodes.length
 root:∀f∈p.funs,S[f.toNat]?=some 1
 kid:∀ (i:Nat) (x:Node) (d:Nat) (k:Int),p.nodes[i]?=some x→x.kids[d]?=some k→∃s,S[i]?=some s∧S[k.toNat]?=some (s+aKL x d)
inductive Reach (p:Prog) :Nat→Nat→Prop where
 |refl (a:Nat) :Reach p a a
 |step {a i:Nat} {x:Node} {k:Int}:Reach p a i→p.nodes[i]?=some x→k∈x.kids→Reach p a k.toNat
theorem Reach.first {p:Prog}{a m:Nat}(h:Reach p a m) :m=a∨∃ (x:Node) (k:Int),p.nodes[a]?=some x∧k∈x.kids∧Reach p k.toNat m:=by
 induction h with
 |refl=>exact .inl rfl
 | step h hx hk ih=>
  rename_i i x k;rcases ih with rfl| ⟨y,q,h1,h2,h3⟩
  ·exact .inr ⟨x,k,hx,hk,Reach.refl _⟩
  ·exact .inr ⟨y,q,h1,h2,h3.step hx hk⟩
theorem aKM {p:Prog}(hs:aM p=true) :Pure PP 138 [Prog.av p] (.int .i64 (checkN (bA p))) :=by
 have h2:=aKH p hs;rw [aP6]at h2;exact h2
theorem mP {p:Prog}(hp:aM p=true)(hf:bA p=true) :FineP p:=by
 have hs:=hp;simp only [aM,and_eq_true,decide_eq_true_eq]at hs;obtain⟨⟨⟨⟨s1,s2⟩,s3⟩,_⟩,s5⟩ :=hs;simp only [bA,and_eq_true]at hf;obtain⟨_,hf⟩ :=hf;split at hf
 · rename_i u hu;unfold allT at hf;split at hf
   · rename_i v hv;refine⟨s1,s2,fun i x hx=>?_,fun f hf=>?_⟩
     · have:=tZ hv i x hx;have h10:=List.all_eq_true.1 s5 x (mem_of_getElem? hx);simp only [aV,and_eq_true,decide_eq_true_eq]at h10;exact⟨aIj this.1,h10.1.1,fun k hk=>by have:=this.2 k hk;omega⟩
     ·have:=aBr hu f hf;omega
   ·cases hf
 ·cases hf
theorem aSL {n:Nat}{i:Int}(h0:0≤i)(h1:i<n) : (numsL 0 n)[i.toNat]?=some i:=by
 rw [aGk 0 (by omega)];congr 1;omega
def aEI (n:Nat)(m:List (Int×Int))(l:List Int) :Prop:=∀i:Int,0≤i→i<n→l[i.toNat]?=some (kO m i)
theorem aOj (n:Nat) :aEI n (sM n) (numsL 0 n) :=fun i h0 h1=>by rw [aSL h0 h1,aYf h0 h1]
mutual
theorem aZp (cons:List Con){mc:List (Int×Int)}{C:List Int}(hC:aEI cons.length mc C) :∀ (q:Pat),cS cons q=true→aNb C q=some (yJ mc q)
 | .mk f n s ps,h=>by
  rw [cS,and_eq_true]at h;have hps:=aIk cons hC ps h.2;have hN:aGj C f n=some (if f=6 then kO mc n else n) :=by
   unfold aGj;by_cases hf:f=6
   · subst hf;have hh:=h.1;simp only [cV]at hh;simp [cN]at hh;obtain⟨⟨⟨h0,h1⟩,_⟩,_⟩ :=hh;rw [if_pos rfl,if_pos rfl,if_pos h0,hC n h0 (by omega)]
   ·rw [if_neg hf,if_neg hf]
  rw [aNb,hN];simp only;rw [hps,yJ]
theorem aIk (cons:List Con){mc:List (Int×Int)}{C:List Int}(hC:aEI cons.length mc C) :∀ (ps:List Pat),bX cons ps=true→pI C ps=some (fK mc ps)
 | [],_=>rfl
 | q::ps,h=>by
  rw [bX,and_eq_true]at h;rw [pI,aZp cons hC q h.1];simp only;rw [aIk cons hC ps h.2,fK]
end
theorem pJ {cons:List Con}:∀ {ps:List Pat},(∀q∈ps,cS cons q=true) →bX cons ps=true
 | [],_=>rfl
 | q::ps,h=>by
  rw [bX,h q (mem_cons_self ..),pJ (fun x hx=>h x (mem_cons_of_mem _ hx))];rfl
theorem aCf {c:Nat}:∀ {ps:List Pat},(∀q∈ps,cR q≤c) →bF ps≤c*ps.length
 | [],_=>by simp [bF]
 | q::ps,h=>by
  have h1:=h q (mem_cons_self ..);have h2:=aCf (c:=c) (ps:=ps) (fun x hx=>h x (mem_cons_of_mem _ hx));simp only [bF,length_cons];rw [Nat.mul_add,Nat.mul_one];omega
theorem aKN {p:Prog}{mf mc:List (Int×Int)}{F C:List Int}(hF:aEI p.funs.length mf F)(hC:aEI p.cons.length mc C)(hB:∀i:Int,0≤i→i<p.funs.length→0≤kO mf i∧kO mf i≤1000000)(hs:p.funs.length≤320){x:Node}(h:bC p x=true)(h10:x.pats.length≤10) :
  (bF x.pats<1000000∧mN F C x.op x.n=some (bN mf mc x.op x.n) ∧pI C x.pats=some (fK mc x.pats)) ∧nOk mf x:=by
 simp only [bC,and_eq_true,eJ]at h;obtain⟨⟨⟨h1,_⟩,h2⟩,_⟩ :=h
 have hq:∀q∈x.pats,cR q≤12∧cS p.cons q=true:=fun q hq=>by
  have:=List.all_eq_true.1 h2 q hq;simpa [gI]using this
 have hps:bF x.pats≤12*x.pats.length:=aCf (fun q h=> (hq q h).1)
 have hr4:x.op=4→ -(p.funs.length:Int) ≤x.n∧x.n≤29:=fun e=>by
  rw [e]at h1;simp [bH,cN]at h1;omega
 have hr14:x.op=14→0≤x.n∧x.n<p.cons.length:=fun e=>by
  rw [e]at h1;simp [bH,cN]at h1;omega
 refine⟨⟨by omega,?_,aIk p.cons hC x.pats (pJ fun q h=> (hq q h).2)⟩,by omega,fun e hn=>?_⟩
 · unfold mN bN;by_cases h4:x.op=4
   · have hr:=hr4 h4;by_cases hn:x.n<0
     · have hb:=hB (-1-x.n) (by omega) (by omega);rw [if_pos ⟨h4,hn⟩,if_pos h4,if_neg (by omega),hF _ (by omega) (by omega)];simp only;rw [if_pos (by omega)]
     ·rw [if_neg (fun h=>hn h.2),if_neg (show ¬x.op=14 by omega),if_pos h4,if_pos (show 0≤x.n by omega)]
   · rw [if_neg (fun h=>h4 h.1),if_neg h4];by_cases h14:x.op=14
     · have hr:=hr14 h14;rw [if_pos h14,if_pos h14,if_pos hr.1,hC _ hr.1 hr.2]
     ·rw [if_neg h14,if_neg h14]
 · have hr:=hr4 e;have hb:=hB (-1-x.n) (by omega) (by omega);omega
theorem aP8 {p:Prog}(hF:p.funs.length≤320){x:Node}(h:bC p x=true)(h10:x.pats.length≤10) :
  (bF x.pats<1000000∧mN (numsL 0 p.funs.length) (numsL 0 p.cons.length) x.op x.n=some (bN (sM p.funs.length) (sM p.cons.length) x.op x.n) ∧pI (numsL 0 p.cons.length) x.pats=some (fK (sM p.cons.length) x.pats)) ∧nOk (sM p.funs.length) x:=
 aKN (aOj _) (aOj _) (fun i h0 h1=>by rw [aYf h0 h1];omega) hF h h10
def dA (p:Prog)(i:Int) :List Int:=match p.nodes[i.toNat]? with
 |some x=>x.kids
 |none=>[]
section
variable {p :Prog}
theorem uA {q:Int→List Int}(m:Int) :∀ (ks:List Int),(∀k∈ks,(q k).count m= [k].count m+ (((q k).map (dA p)).flatten).count m) →
  ((ks.map q).flatten).count m=ks.count m+ ((((ks.map q).flatten).map (dA p)).flatten).count m
 | [],_=>rfl
 | k::ks,h=>by
  have h1:=h k (mem_cons_self ..);have h2:=uA m ks (fun x hx=>h x (mem_cons_of_mem _ hx));rw [map_cons,flatten_cons,count_append,List.map_append,List.flatten_append,count_append,h1,h2,show k::ks= [k] ++ks from rfl,count_append];omega
theorem aCg (hp:FineP p)(m:Int) :∀ (f:Nat) (a:Int),0≤a→a<p.nodes.length→p.nodes.length-a.toNat≤f→ (pre p f a).count m= [a].count m+ (((pre p f a).map (dA p)).flatten).count m
 |0,a,ha,hn,hf=>by omega
 | f+1,a,ha,hn,hf=>by
  obtain⟨x,hx⟩ :∃x,p.nodes[a.toNat]?=some x:= ⟨_,getElem?_eq_getElem (by omega)⟩;obtain⟨_,_,hks⟩ :=hp.node _ _ hx;have e:pre p (f+1) a=a:: (x.kids.map (pre p f)).flatten:=by rw [pre,hx]
  have ek:dA p a=x.kids:=by unfold dA;rw [hx]
  have h2:=uA (p:=p) m x.kids (fun k hk=>by
   have:=hks k hk;exact aCg hp m f k (by omega) (by omega) (by omega))
  rw [e,map_cons,flatten_cons,count_append,ek,show a:: (x.kids.map (pre p f)).flatten= [a] ++ (x.kids.map (pre p f)).flatten from rfl,count_append,h2]
theorem aSM (hp:FineP p) :∀ (f:Nat) (a:Int),0≤a→a<p.nodes.length→∀y∈pre p f a,0≤y∧y<p.nodes.length
 |0,a,_,_,y,hy=>by cases hy
 | f +1,a,ha,hn,y,hy=>by
  obtain⟨x,hx⟩ :∃x,p.nodes[a.toNat]?=some x:= ⟨_,getElem?_eq_getElem (by omega)⟩;obtain⟨_,_,hks⟩ :=hp.node _ _ hx;have e:pre p (f+1) a=a:: (x.kids.map (pre p f)).flatten:=by rw [pre,hx]
  rw [e]at hy;rcases List.mem_cons.1 hy with rfl|hy
  ·exact⟨ha,hn⟩
  · obtain⟨l,hl,hy⟩ :=List.mem_flatten.1 hy;obtain⟨k,hk,rfl⟩ :=List.mem_map.1 hl;have:=hks k hk;exact aSM hp f k (by omega) (by omega) y hy
def kN (u:List Bool)(m:Int) :Nat:=if u[m.toNat]?=some true then 1 else 0
theorem iJ {lo n:Int}(hlo:0≤lo){m:Int}(hm:0≤m) :∀ {ks:List Int} {u v:List Bool},marks lo n ks u=some v→ks.count m+kN u m=kN v m
 | [],u,v,h=>by cases h;simp
 | k ::ks,u,v,h=>by
  have hk:=aBr h k (mem_cons_self ..);obtain⟨h1,h2⟩ :=aNi h;have h3:=iJ hlo hm h2;rw [←h3,show k::ks= [k] ++ks from rfl,count_append];have hlt:= (List.getElem?_eq_some_iff.1 h1).1;by_cases e:k=m
  · subst e;have a1:kN u k=0:=by unfold kN;rw [h1];rfl
    have a2:kN (u.set k.toNat true) k=1:=by unfold kN;rw [List.getElem?_set_self hlt];rfl
    rw [a1,a2];simp;omega
  · have a1:kN (u.set k.toNat true) m=kN u m:=by unfold kN;rw [List.getElem?_set_ne (by omega)]
    rw [a1,List.count_singleton,if_neg (by simpa using e)];omega
theorem lA {m:Int}(hm:0≤m) :∀ {t:List Node} {i:Nat} {u v:List Bool},cM p i t u=some v→ ((t.map Node.kids).flatten).count m+kN u m=kN v m
 | [],i,u,v,h=>by simp only [cM,Option.some.injEq]at h;subst h;simp
 | x::t,i,u,v,h=>by
  obtain⟨_,w,h1,h2⟩ :=qS h;have h3:=iJ (by omega) hm h1;have h4:=lA hm h2;rw [map_cons,flatten_cons,count_append];omega
theorem aGw {m:Int}:∀ {t:List Node},((t.map Node.kids).flatten).count m≤1→∀ (i j:Nat) (x y:Node),t[i]?=some x→t[j]?=some y→m∈x.kids→m∈y.kids→i=j
 | [],_,i,j,x,y,hx,_,_,_=>by simp at hx
 | z ::t,h,i,j,x,y,hx,hy,mx,my=>by
  rw [map_cons,flatten_cons,count_append]at h;have inT:∀ {i:Nat} {x:Node},t[i]?=some x→m∈x.kids→0< ((t.map Node.kids).flatten).count m:=fun {i x} hx mx=>
   List.count_pos_iff.2 (List.mem_flatten.2 ⟨x.kids,List.mem_map.2 ⟨x,mem_of_getElem? hx,rfl⟩,mx⟩)
  cases i with
  | zero=>
   simp only [getElem?_cons_zero,Option.some.injEq]at hx;subst hx;cases j with
   |zero=>rfl
   | succ j=>
    simp only [getElem?_cons_succ]at hy;have:=inT hy my;have:=List.count_pos_iff.2 mx;omega
  | succ i=>
   simp only [getElem?_cons_succ]at hx;cases j with
   | zero=>
    simp only [getElem?_cons_zero,Option.some.injEq]at hy;subst hy;have:=inT hx mx;have:=List.count_pos_iff.2 my;omega
   | succ j=>
    simp only [getElem?_cons_succ]at hy;rw [aGw (by omega) i j x y hx hy mx my]
theorem aOk {m:Int}:∀ {t:List Node} {i:Nat} {x:Node},t[i]?=some x→x.kids.count m≤ ((t.map Node.kids).flatten).count m
 | [],i,x,hx=>by simp at hx
 | z::t,0,x,hx=>by
  simp only [getElem?_cons_zero,Option.some.injEq]at hx;subst hx;rw [map_cons,flatten_cons,count_append];omega
 | z::t,i+1,x,hx=>by
  simp only [getElem?_cons_succ]at hx;have:=aOk (m:=m) hx;rw [map_cons,flatten_cons,count_append];omega
theorem aOl {m i:Int}:∀ (L:List Int),(∀j∈L,m∈dA p j→j=i) → ((L.map (dA p)).flatten).count m≤L.count i* (dA p i).count m
 | [],_=>by simp
 | j ::L,h=>by
  have h1:=aOl L (fun x hx=>h x (mem_cons_of_mem _ hx));rw [map_cons,flatten_cons,count_append,show j::L= [j] ++L from rfl,count_append,Nat.add_mul];by_cases hm:m∈dA p j
  · have:=h j (mem_cons_self ..) hm;subst this;simp;exact h1
  · rw [List.count_eq_zero.2 hm];exact Nat.le_trans (by simpa using h1) (Nat.le_add_left ..)
theorem bBr (hp:FineP p)(hK:∀m:Int,0≤m→p.funs.count m+ ((p.nodes.map Node.kids).flatten).count m≤1){L:List Int}(hin:∀x∈L,0≤x∧x<p.nodes.length)(hL:∀m:Int,L.count m=p.funs.count m+ ((L.map (dA p)).flatten).count m) :∀ (b m:Nat),m≤b→L.count (m:Int) ≤1:=by
 intro b
 induction b with
 | zero=>
  intro m hmb;have hm:m=0:=by omega
  subst hm;have e:=hL ((0:Nat) :Int);have z: ((L.map (dA p)).flatten).count ((0:Nat) :Int) =0:=by
   refine List.count_eq_zero.2 (fun h=>?_);obtain⟨l,hl,hy⟩ :=List.mem_flatten.1 h;obtain⟨j,hj,rfl⟩ :=List.mem_map.1 hl;unfold dA at hy;split at hy
   · rename_i x hx;have:= (hp.node _ _ hx).2.2 _ hy;omega
   ·cases hy
  have:=hK ((0:Nat) :Int) (by omega);omega
 | succ b ih=>
  intro m hmb;have e:=hL (m:Int);have hk:=hK (m:Int) (by omega);by_cases hz: ((L.map (dA p)).flatten).count (m:Int) =0
  ·omega
  · have hpos:=List.count_pos_iff.1 (Nat.pos_of_ne_zero hz);obtain⟨l,hl,hy⟩ :=List.mem_flatten.1 hpos;obtain⟨i,hi,rfl⟩ :=List.mem_map.1 hl;have hir:=hin i hi;obtain⟨x,hx⟩ :∃x,p.nodes[i.toNat]?=some x:= ⟨_,getElem?_eq_getElem (by omega)⟩;have ei:dA p i=x.kids:=by unfold dA;rw [hx]
    rw [ei]at hy;have him:= (hp.node _ _ hx).2.2 _ hy;have hci:L.count i≤1:=by
     have:=ih i.toNat (by omega);rwa [show((i.toNat:Nat) :Int) =i by omega]at this
    have hle:=aOl (p:=p) (m:= (m:Int)) (i:=i) L (fun j hj hmj=>by
     have hjr:=hin j hj;obtain⟨y,hy'⟩ :∃y,p.nodes[j.toNat]?=some y:= ⟨_,getElem?_eq_getElem (by omega)⟩;have ej:dA p j=y.kids:=by unfold dA;rw [hy']
     rw [ej]at hmj;have:=aGw (by omega) _ _ y x hy' hx hmj hy;omega)
    rw [ei]at hle;have hkl:=aOk (m:= (m:Int)) hx;have:L.count i*x.kids.count (m:Int) ≤1*x.kids.count (m:Int) :=Nat.mul_le_mul_right _ hci;omega
theorem rM :∀ (n:Nat) (l:List Nat),l.Nodup→ (∀x∈l,x<n) →l.length≤n
 |0,[],_,_=>by simp
 |0,x::l,_,h=>by have:=h x (mem_cons_self ..);omega
 | n+1,l,hd,h=>by
  by_cases hm:n∈l
  · have h1:=rM n (l.erase n) (hd.erase n) (fun x hx=>by
     have:=h x (List.mem_of_mem_erase hx)
     have hne:x≠n:=fun e=>by
      subst e;exact hd.not_mem_erase hx
     omega)
    rw [List.length_erase_of_mem hm]at h1;omega
  · have:=rM n l hd (fun x hx=>by
     have:=h x hx;have hne:x≠n:=fun e=>hm (e ▸ hx);omega)
    omega
end
theorem aEJ {L:List Int}(h:∀a,L.count a≤1) :L.Nodup:=List.nodup_iff_count.2 h
theorem aOm :∀ (n:Nat) (l:List Int),(∀i:Nat,i<n→ (i:Int) ∈l) →n≤l.length
 |0,l,_=>Nat.zero_le _
 | n+1,l,h=>by
  have h0:=h n (Nat.lt_succ_self n);have h1:=aOm n (l.erase (n:Int)) (fun i hi=> (List.mem_erase_of_ne (by omega)).2 (h i (by omega)));rw [List.length_erase_of_mem h0]at h1;have:=List.length_pos_of_mem h0;omega
theorem all_in {p:Prog}(hp:FineP p)(hK:∀m:Nat,m<p.nodes.length→p.funs.count (m:Int) + ((p.nodes.map Node.kids).flatten).count (m:Int) =1){L:List Int}(hL:∀m:Int,L.count m=p.funs.count m+ ((L.map (dA p)).flatten).count m) :∀ (b m:Nat),m≤b→m<p.nodes.length→ (m:Int) ∈L:=by
 intro b
 induction b with
 | zero=>
  intro m hmb hm;have e:=hL (m:Int);have hk:=hK m hm;by_cases hz: ((p.nodes.map Node.kids).flatten).count (m:Int) =0
  ·exact List.count_pos_iff.1 (by omega)
  · obtain⟨l,hl,hy⟩ :=List.mem_flatten.1 (List.count_pos_iff.1 (Nat.pos_of_ne_zero hz));obtain⟨x,hx,rfl⟩ :=List.mem_map.1 hl;obtain⟨i,hi⟩ :=List.mem_iff_getElem?.1 hx;have:= (hp.node _ _ hi).2.2 _ hy;omega
 | succ b ih=>
  intro m hmb hm;have e:=hL (m:Int);have hk:=hK m hm;by_cases hz: ((p.nodes.map Node.kids).flatten).count (m:Int) =0
  ·exact List.count_pos_iff.1 (by omega)
  · obtain⟨l,hl,hy⟩ :=List.mem_flatten.1 (List.count_pos_iff.1 (Nat.pos_of_ne_zero hz));obtain⟨x,hx,rfl⟩ :=List.mem_map.1 hl;obtain⟨i,hi⟩ :=List.mem_iff_getElem?.1 hx;have him:= (hp.node _ _ hi).2.2 _ hy;have hiL:=ih i (by omega) (by omega);have: (m:Int) ∈ (L.map (dA p)).flatten:=List.mem_flatten.2 ⟨x.kids,List.mem_map.2 ⟨(i:Int),hiL,by unfold dA;rw [toNat_natCast,hi]⟩,hy⟩;have:=List.count_pos_iff.2 this;exact List.count_pos_iff.1 (by omega)
theorem pK {p:Prog}(hs:aM p=true)(hf:bA p=true) : ((p.funs.map (pre p p.nodes.length)).flatten).Nodup∧ ((p.funs.map (pre p p.nodes.length)).flatten).length=p.nodes.length∧ (∀x∈ (p.funs.map (pre p p.nodes.length)).flatten,0≤x∧x<p.nodes.length) ∧
  (∀ (i:Nat) (x:Node),p.nodes[i]?=some x→bC p x=true) :=by
 have hp:=mP hs hf;simp only [bA,and_eq_true]at hf;obtain⟨_,hf⟩ :=hf;split at hf
 · rename_i u hu;unfold allT at hf;split at hf
   · rename_i v hv
     have hK:∀m:Int,0≤m→p.funs.count m+ ((p.nodes.map Node.kids).flatten).count m≤1:=fun m hm=>by
      have h1:=iJ (by omega) hm hu;have h2:=lA hm hv;have h3:kN v m≤1:=by unfold kN;split<;>omega
      omega
     have hin:∀x∈ (p.funs.map (pre p p.nodes.length)).flatten,0≤x∧x<p.nodes.length:=fun x hx=>by
      obtain⟨l,hl,hy⟩ :=List.mem_flatten.1 hx;obtain⟨k,hk,rfl⟩ :=List.mem_map.1 hl;have:=hp.funs k hk;exact aSM hp _ k this.1 this.2 x hy
     have hL:∀m:Int,((p.funs.map (pre p p.nodes.length)).flatten).count m=p.funs.count m+ ((((p.funs.map (pre p p.nodes.length)).flatten).map (dA p)).flatten).count m:=fun m=>uA m p.funs (fun k hk=>by
      have:=hp.funs k hk;exact aCg hp m _ k this.1 this.2 (by omega))
     have hd: ((p.funs.map (pre p p.nodes.length)).flatten).Nodup:=aEJ (fun a=>by
      by_cases ha:a∈ (p.funs.map (pre p p.nodes.length)).flatten
      · have hr:=hin a ha;have:=bBr hp hK hin hL a.toNat a.toNat (Nat.le_refl _);rwa [show((a.toNat:Nat) :Int) =a by omega]at this
      ·rw [List.count_eq_zero.2 ha];omega)
     refine⟨hd,?_,hin,fun i x hx=> (tZ hv i x hx).1⟩;have hd2: (((p.funs.map (pre p p.nodes.length)).flatten).map Int.toNat).Nodup:=by
      rw [List.nodup_iff_pairwise_ne]at hd ⊢;refine List.pairwise_map.2 (hd.imp_of_mem (fun {a b} ha hb hne e=>?_));have:=hin a ha;have:=hin b hb;exact hne (by omega)
     have:=rM p.nodes.length _ hd2 (fun x hx=>by
      obtain⟨y,hy,rfl⟩ :=List.mem_map.1 hx;have:=hin y hy;omega)
     rw [List.length_map]at this;refine Nat.le_antisymm this (aOm _ _ (fun i hi=>all_in hp (fun m hm=>?_) hL i i (Nat.le_refl _) hi));have h1:=iJ (m:= (m:Int)) (by omega) (by omega) hu;have h2:=lA (m:= (m:Int)) (by omega) hv;have hl1:=lN hu;have hl2:=tY hv;rw [List.length_replicate]at hl1;have h3:kN (replicate p.nodes.length false) (m:Int) =0:=by
      unfold kN;rw [toNat_natCast,List.getElem?_replicate,if_pos hm];rfl
     have h4:kN v (m:Int) =1:=by
      unfold kN;have hlt:m<v.length:=by omega
      have:=List.all_eq_true.1 hf _ (List.getElem_mem hlt);rw [toNat_natCast,getElem?_eq_getElem hlt,this];rfl
     omega
   ·cases hf
 ·cases hf
abbrev aIl :AV:=.agg [.ilst 4 (map Node.av ([] :List Node)) true,.ilst 1 (map aR ([] :List Int)) true,.int .i64 0,.ilst 2 (map Con.av ([] :List Con)) true]
def fO (s:aC) :List Con→Int→Int
 | [],_=> -1
 |c::t,i=>if c.name=s then i else fO s t (i+1)
theorem qE (s:aC) :∀ (l:List Con) (i:Int),0≤i→fO s l i= -1∨ (i≤fO s l i∧fO s l i<i+l.length∧∃d,l[(fO s l i-i).toNat]?=some d∧d.name=s)
 | [],i,h=>.inl rfl
 | c ::t,i,h=>by
  simp only [fO];split
  · rename_i e;exact .inr ⟨by omega,by simp;omega,c,by simp,e⟩
  · rcases qE s t (i+1) (by omega)with g| ⟨g1,g2,d,g3,g4⟩
    ·exact .inl g
    · refine .inr ⟨by omega,by rw [length_cons];omega,d,?_,g4⟩;rw [show(fO s t (i+1) -i).toNat= (fO s t (i+1) - (i+1)).toNat+1 by omega,getElem?_cons_succ];exact g3
def aIm(a:List Int)(b:Int):TS:=⟨(tf 75 26 [(0,(iI a)),(1,(iI a)),(4,(bV false)),(5,(nI b))] [kc f75 116,kl f75 116,.inBlock 0,kc f75 15]),[],[],0⟩
def aIn(a b:Int)(c:aC)(d:List Pat)(e:Int):TS:=⟨(tf 163 53 [kp 2 0,kp 3 1,(4,(bV false)),(5,(nI e))] [kc f163 116,kl f163 116,.inBlock 0,kc f163 15]),[],[oC 0 [(nI a),(nI b),(aA c),(iP d)],oC 1 [(nI a),(nI b),(aA c),(iP d)]],2⟩
def aIo(a:Node)(b:Int):TS:=⟨(tf 83 54 [kp 2 0,kp 3 1,(4,(bV false)),(5,(nI b))] [kc f83 116,kl f83 116,.inBlock 0,kc f83 15]),[],[oC 0 [(nI a.op),(nI a.n),(iI a.kids),(iP a.pats)],oC 1 [(nI a.op),(nI a.n),(iI a.kids),(iP a.pats)]],2⟩
def aIp(a:Prog)(b:Int):TS:=⟨(tf 26 75 [kp 2 0,kp 3 1,(4,(bV false)),(5,(nI b))] [kc f26 116,kl f26 116,.inBlock 0,kc f26 15]),[],[oC 0 [(iN a.nodes),(iI a.funs),(nI a.main),(iC a.cons)],oC 1 [(iN a.nodes),(iI a.funs),(nI a.main),(iC a.cons)]],2⟩
def aIq(a:Prog)(b:Int):TS:=⟨(tf 26 75 [kp 2 0,kp 3 1,(4,(bV false)),(6,(nI b))] [kc f26 244,kl f26 244,.inBlock 2,kc f26 31]),[],[oC 0 [(iN a.nodes),(iI a.funs),(nI a.main),(iC a.cons)],oC 1 [(iN a.nodes),(iI a.funs),(nI a.main),(iC a.cons)]],2⟩
def aUZ (a:List Int):=fun b=>(tT 0 (start PP 75 [(iI a),(iI a)])<|gl 8 aR a<|gl 1 aR a<|.b 2 10 ((a.length:Int) != (a.length:Int)) .x<|.W 9 0 [] (aIm a 0))|>.f b tv
def aYg(b:List Int)(a:Int):=tT 0 (aIm b a)<|gl 5 aR b<|gd 2 14 (a< (b.length:Int)) (.y fun c:Int=>.i [rn 5,.reg (.d::.d::.ans (.idx (aR c))::rd 3 [.ans (.idx (aR c)),.d,.d])] [hA (0≤a),.a (((b)[a.toNat]?) =some c) (eO (f:=aR)),hA (0≤a),.a (((b)[a.toNat]?) =some c) (eO (f:=aR))]<|.b 0 25 (c != c) .x<|gw 6 16 (a+1)<|.W 3 0 [] (aIm b (a+1)))<|gE 7 0 (bV true)
def aU0:=fun c d e f a b g i=>aYg c d|>.t f e a b a b|>.f g i tv
def aU1:=fun a b c=>aYg a b|>.f c tv
def aU2 (c d:Int)(a:aC)(b:List Pat):=fun e f g i=>(tT 0 (start PP 163 [(.agg [(nI c),(nI d),(aA a),(iP b)]),(.agg [(nI c),(nI d),(aA a),(iP b)])])<|.b 15 11 (c != c) .x<|.b 7 18 (d != d) .x<|.b 7 25 (!(bP a.length (aB a) a.length (aB a))) .x<|gm 2 aH b<|gm 2 aH b<|.b 3 33 ((b.length:Int) != (b.length:Int)) .x<|.W 9 2 [0,1] (aIn c d a b 0))|>.f e|>.f f|>.f g|>.f i tv
def aYh(i j:Int)(k:aC)(b:List Pat)(a:Int):=tT 0 (aIn i j k b a)<|gm 6 aH b<|gd 2 38 (a< (b.length:Int)) (.y fun c:Int=>.y fun d:Int=>.y fun e:aC=>.y fun f:List Pat=>.y fun g:Bool=>.i [rn 5,.reg (rd 3 (.ans (.idx (Pat.av (Pat.mk c d e f)))::rd 4 [.ans (.idx (Pat.av (Pat.mk c d e f))),.d,.pure (bV g),.d]))] [hA (0≤a),.a (((b)[a.toNat]?) =some (Pat.mk c d e f)) (mM aH),hA (0≤a),.a (((b)[a.toNat]?) =some (Pat.mk c d e f)) (mM aH),hA (Pure PP 163 [(.agg [(nI c),(nI d),(aA e),(iP f)]),(.agg [(nI c),(nI d),(aA e),(iP f)])] (bV g))]<|.b 0 52 (!g) .x<|gw 6 40 (a+1)<|.W 3 2 [0,1] (aIn i j k b (a+1)))<|gE 7 2 (bV true)
def aU3:=fun c d e f g i j k l m n a b o p q=>aYh c d e f g|>.t n i j k l m a b a b o|>.f p q tv
def aU4:=fun a b c d e f=>aYh a b c d e|>.f f tv
def aU5 (a:Node):=fun b c d e f g=>(tT 0 (start PP 83 [(Node.av a),(Node.av a)])<|.b 15 11 (a.op != a.op) .x<|.b 7 18 (a.n != a.n) .x<|fQ 4 75 [(iI a.kids),(iI a.kids)]<|fun b=>.b 3 26 (!b) .x<|gm 2 aH a.pats<|gm 2 aH a.pats<|.b 3 34 ((a.pats.length:Int) != (a.pats.length:Int)) .x<|.W 9 2 [0,1] (aIo a 0))|>.f c|>.f d b e|>.f f|>.f g tv
def aYi(b:Node)(a:Int):=tT 0 (aIo b a)<|gm 6 aH b.pats<|gd 2 39 (a< (b.pats.length:Int)) (.y fun c:Int=>.y fun d:Int=>.y fun e:aC=>.y fun f:List Pat=>.y fun g:Bool=>.i [rn 5,.reg (rd 3 (.ans (.idx (Pat.av (Pat.mk c d e f)))::rd 4 [.ans (.idx (Pat.av (Pat.mk c d e f))),.d,.pure (bV g),.d]))] [hA (0≤a),.a (((b.pats)[a.toNat]?) =some (Pat.mk c d e f)) (mM aH),hA (0≤a),.a (((b.pats)[a.toNat]?) =some (Pat.mk c d e f)) (mM aH),hA (Pure PP 163 [(.agg [(nI c),(nI d),(aA e),(iP f)]),(.agg [(nI c),(nI d),(aA e),(iP f)])] (bV g))]<|.b 0 53 (!g) .x<|gw 6 41 (a+1)<|.W 3 2 [0,1] (aIo b (a+1)))<|gE 7 2 (bV true)
def aU6:=fun c d e f g i j k a b l m n=>aYi c d|>.t k e f g i j a b a b l|>.f m n tv
def aU7:=fun a b c=>aYi a b|>.f c tv
def aU8 (a:Prog):=fun b c d e f g=>(tT 0 (start PP 26 [(Prog.av a),(Prog.av a)])<|gl 11 Node.av a.nodes<|gl 2 Node.av a.nodes<|.b 2 14 ((a.nodes.length:Int) != (a.nodes.length:Int)) .x<|fQ 4 75 [(iI a.funs),(iI a.funs)]<|fun b=>.b 3 22 (!b) .x<|.b 7 29 (a.main != a.main) .x<|gl 2 Con.av a.cons<|gl 2 Con.av a.cons<|.b 3 37 ((a.cons.length:Int) != (a.cons.length:Int)) .x<|.W 9 2 [0,1] (aIp a 0))|>.f c b d|>.f e|>.f f|>.f g tv
def aYj(c:Prog)(b:Int):=tT 0 (aIp c b)<|gl 6 Con.av c.cons<|gd 2 42 (b< (c.cons.length:Int)) (.y fun a:Con=>.i [rn 5,.reg (rd 3 (.ans (.idx (Con.av a))::rd 4 [.ans (.idx (Con.av a)),.d,.d]))] [hA (0≤b),.a (((c.cons)[b.toNat]?) =some a) (eO (f:=Con.av)),hA (0≤b),.a (((c.cons)[b.toNat]?) =some a) (eO (f:=Con.av))]<|.b 0 55 (!((bP a.name.length (aB a.name) a.name.length (aB a.name)) && ((a.args==a.args) &&true))) .x<|gw 6 44 (b+1)<|.W 3 2 [0,1] (aIp c (b+1)))<|.W 9 2 [0,1] (aIq c 0)
def aU9:=fun c d e f a b g i=>aYj c d|>.t f e a b a b|>.f g i tv
def aVa:=fun a b c=>aYj a b|>.f c tv
def aYk(b:Prog)(a:Int):=tT 0 (aIq b a)<|gl 6 Node.av b.nodes<|gd 2 60 (a< (b.nodes.length:Int)) (.y fun c:Node=>.y fun d:Bool=>.i [rn 5,.reg (rd 3 (.ans (.idx (Node.av c))::rd 4 [.ans (.idx (Node.av c)),.d,.pure (bV d),.d]))] [hA (0≤a),.a (((b.nodes)[a.toNat]?) =some c) (eO (f:=Node.av)),hA (0≤a),.a (((b.nodes)[a.toNat]?) =some c) (eO (f:=Node.av)),hA (Pure PP 83 [(Node.av c),(Node.av c)] (bV d))]<|.b 0 74 (!d) .x<|gw 6 62 (a+1)<|.W 3 2 [0,1] (aIq b (a+1)))<|gE 7 2 (bV true)
def aVb:=fun c d e f g a b i j k=>aYk c d|>.t g e f a b a b i|>.f j k tv
def aVc:=fun a b c=>aYk a b|>.f c tv
theorem aEK (s:aC) :bP (length s) (aB s) (length s) (aB s) =true:=by rw [eH];simp
theorem aKO (a:List Int)(ha:a.length<1000000) :∀ (t:List Int) (i:Nat),a.drop i=t→Ends PP 0 (aIm a (i:Int)).as (.ret (.bool true)) (aG [] 0)
 | [],i,h=>by
  have:=bL h;exact aU1 a i sd
 | y::t,i,h=>by
  obtain⟨g1,g2,g3⟩ :=bK h;have h1:=aU0 a i y sd sd sd (by simp) sd;exact h1.ends (aKO a ha t (i+1) g2)
theorem aKP (a:List Int)(ha:a.length<1000000) :Pure PP 75 [.ilst 1 (map aR a) false,.ilst 1 (map aR a) false] (.bool true) :=
 aT (by kernel_rfl) rfl rfl ((aUZ a (by simp)).ends (aKO a ha a 0 rfl))
theorem aKQ (f n:Int)(s:aC)(ps:List Pat)(hl:ps.length<1000000)(ih:∀p∈ps,Pure PP 163 [Pat.av p,Pat.av p] (.bool true)) :∀ (t:List Pat) (i:Nat),ps.drop i=t→Ends PP 0 (aIn f n s ps (i:Int)).as (.ret (.bool true)) (aG [] 0)
 | [],i,h=>by
  have:=bL h;exact aU4 f n s ps i sd
 | .mk f1 n1 s1 ps1::t,i,h=>by
  obtain⟨g1,g2,g3⟩ :=bK h;have h1:=aU3 f n s ps i f1 n1 s1 ps1 true sd sd sd (ih (.mk f1 n1 s1 ps1) (mem_of_getElem? g1)) rfl sd;exact h1.ends (aKQ f n s ps hl ih t (i+1) g2)
mutual
theorem aSN :∀ (q:Pat),cR q<1000000→Pure PP 163 [Pat.av q,Pat.av q] (.bool true)
 | .mk f n s ps,h=>by
  simp only [cR]at h;have:=iG ps;exact aT (by kernel_rfl) (by simp [keylessL,tI]) rfl ((aU2 f n s ps (by simp) (by simp) (by rw [aEK];rfl) (by simp)).ends (aKQ f n s ps (by omega) (aIr ps (by omega)) ps 0 rfl))
theorem aIr :∀ (ps:List Pat),bF ps<1000000→∀p∈ps,Pure PP 163 [Pat.av p,Pat.av p] (.bool true)
 | [],_,p,hp=>by cases hp
 | q::ps,h,p,hp=>by
  simp only [bF]at h;rcases List.mem_cons.1 hp with e|hp
  ·rw [e];exact aSN q (by omega)
  ·exact aIr ps (by omega) p hp
end
theorem aKR (x:Node)(hl:x.pats.length<1000000)(ih:∀p∈x.pats,Pure PP 163 [Pat.av p,Pat.av p] (.bool true)) :∀ (t:List Pat) (i:Nat),x.pats.drop i=t→Ends PP 0 (aIo x (i:Int)).as (.ret (.bool true)) (aG [] 0)
 | [],i,h=>by
  have:=bL h;exact aU7 x i sd
 | .mk f1 n1 s1 ps1::t,i,h=>by
  obtain⟨g1,g2,g3⟩ :=bK h;have h1:=aU6 x i f1 n1 s1 ps1 true sd sd sd (ih (.mk f1 n1 s1 ps1) (mem_of_getElem? g1)) rfl sd;exact h1.ends (aKR x hl ih t (i+1) g2)
def aVd (x:Node) :Prop:=x.kids.length<1000000∧bF x.pats<1000000
structure FitP (q:Prog) :Prop where
 nodes:q.nodes.length≤1000000
 funs:q.funs.length<1000000
 cons:q.cons.length<1000000
 node:∀x∈q.nodes,aVd x
theorem aSO (x:Node)(h:aVd x) :Pure PP 83 [Node.av x,Node.av x] (.bool true) :=by
 have:=iG x.pats;have h1:=h.1;have h2:=h.2;exact aT (by kernel_rfl) (by simp [keylessL,Node.av,keyless]) rfl ((aU5 x true (by simp) (by simp) (aKP x.kids h.1) rfl (by simp)).ends (aKR x (by omega) (aIr x.pats h.2) x.pats 0 rfl))
theorem aYl (p:Prog)(hp:FitP p) :∀ (t:List Node) (i:Nat),p.nodes.drop i=t→Ends PP 0 (aIq p (i:Int)).as (.ret (.bool true)) (aG [] 0)
 | [],i,h=>by
  have:=bL h;exact aVc p i sd
 | x::t,i,h=>by
  obtain⟨g1,g2,g3⟩ :=bK h;have hn:=hp.nodes;have h1:=aVb p i x true sd sd sd (aSO x (hp.node x (mem_of_getElem? g1))) rfl sd;exact h1.ends (aYl p hp t (i+1) g2)
theorem aYm (p:Prog)(hp:FitP p) :∀ (t:List Con) (i:Nat),p.cons.drop i=t→Ends PP 0 (aIp p (i:Int)).as (.ret (.bool true)) (aG [] 0)
 | [],i,h=>by
  have:=bL h;exact(aVa p i sd).ends (aYl p hp p.nodes 0 rfl)
 | c::t,i,h=>by
  obtain⟨g1,g2,g3⟩ :=bK h;have hn:=hp.cons;have h1:=aU9 p i c sd sd sd (by rw [aEK];simp) sd;exact h1.ends (aYm p hp t (i+1) g2)
theorem aNj (p:Prog)(hp:FitP p) :Pure PP 26 [Prog.av p,Prog.av p] (.bool true) :=
 aT (by kernel_rfl) (by simp [keylessL,Prog.av,keyless]) rfl ((aU8 p true (by simp) (aKP p.funs hp.funs) rfl (by simp) (by simp)).ends (aYm p hp p.cons 0 rfl))
theorem aGx {f:Nat}{args:List AV}{v v':AV}(h:Pure PP f args v)(hv:∀ (E:Emb) (cv:Value),VR E v cv→VR E v' cv) :Pure PP f args v':=fun hh=>by
 obtain⟨g,hg,he⟩ :=h hh;exact⟨g,hg,aP7 he hv⟩
theorem aVe {E:Emb}{e:Int}{cv:Value}(h:VR E (.tup [aIl,.int .i64 e]) cv) :VR E (.tup [Prog.av ⟨[],[],0,[]⟩,.int .i64 e]) cv:=by
 simp only [VR]at h ⊢;obtain⟨us,h1,h2⟩ :=h;obtain⟨u,us',rfl,h3,h4⟩ :=h2.cons_inv;simp only [aIl,VR]at h3;obtain⟨ws,rfl,h5⟩ :=h3;obtain⟨a1,w1,rfl,c1,h5⟩ :=h5.cons_inv;obtain⟨a2,w2,rfl,c2,h5⟩ :=h5.cons_inv;obtain⟨a3,w3,rfl,c3,h5⟩ :=h5.cons_inv;obtain⟨a4,w4,rfl,c4,h5⟩ :=h5.cons_inv;refine⟨_,h1,VRs.cons ?_ h4⟩;simp only [Prog.av,VR];exact⟨_,rfl,VRs.cons (gJ c1) (VRs.cons (gJ c2) (VRs.cons c3 (VRs.cons (gJ c4) h5)))⟩
mutual
theorem aCh (mc:List (Int×Int)) :∀q:Pat,cR (yJ mc q) =cR q
 | .mk f n t ps=>by rw [yJ,cR,cR,aEL mc ps]
theorem aEL (mc:List (Int×Int)) :∀ps:List Pat,bF (fK mc ps) =bF ps
 | [] =>rfl
 |q::ps=>by rw [fK,bF,bF,aCh mc q,aEL mc ps]
end
def FunD.nm :FunD→aC
 | .mk n _ _ _ _=>n
def aSP (l:List aC)(s:aC) :Nat→Int
 |0=> -1
 |i+1=>if l[i]?=some s then(i:Int)else aSP l s i
def aNk (l:List aC)(s:aC) :Int:=aSP l s l.length
def aNl (op:Int)(s:aC)(ps:List Pat)(k:Nat) :List aC:=
 if op=5∨op=27 then [s]else if op=7 then(if k=1 then [s]else [])else if op=15 then(match k with|0=>[] |j+1=>match ps[j]? with|some p=>aSF p|none=>[])else []
structure LFun where
 name:aC
 body:Int
def LFun.av (f:LFun) :AV:=.agg [aA f.name,.int .i64 f.body]
structure LUnit where
 name:aC
 cons:List Con
 funs:List LFun
 needs:List aC
 nodes:List Node
def LUnit.av (u:LUnit) :AV:=.agg [aA u.name,.ilst 2 (map Con.av u.cons) false,.ilst 2 (map LFun.av u.funs) false,.ilst 1 (map aA u.needs) false,.ilst 4 (map Node.av u.nodes) false]
structure LPlace where
 nodes:Int
 funs:Int
def LPlace.av (p:LPlace) :AV:=.agg [.int .i64 p.nodes,.int .i64 p.funs]
theorem aBs {E:Emb}{e:Nat}{ex:Bool}:∀v,VR E .nils v→VR E (.ilst e [] ex) v:=fun v h=>by
 simp only [VR]at h;simp only [VR];exact⟨[],VRs.nil _,fun _ hu=>by(cases hu),.inl ⟨rfl,none,0,h,fun _=>rfl,fun _=>rfl⟩⟩
theorem aOn (o n:Int) :VW [.agg [.int .i64 o,.int .i64 n,.nils,.nils]] (map Node.av [Node.mk o n [] []]) :=fun E vs h=>by
 simp only [map_cons,map_nil,Node.av];obtain⟨v,vs',rfl,h1,h2⟩ :=h.cons_inv;refine VRs.cons ?_ h2;simp only [VR]at h1 ⊢;obtain⟨cs,rfl,h3⟩ :=h1;obtain⟨a1,w1,rfl,c1,h3⟩ :=h3.cons_inv;obtain⟨a2,w2,rfl,c2,h3⟩ :=h3.cons_inv;obtain⟨a3,w3,rfl,c3,h3⟩ :=h3.cons_inv;obtain⟨a4,w4,rfl,c4,h3⟩ :=h3.cons_inv;exact⟨_,rfl,VRs.cons c1 (VRs.cons c2 (VRs.cons (aBs _ c3) (VRs.cons (by simp only [Pats.av];exact aBs _ c4) h3)))⟩
theorem aNm {l:List ONode}{nn:List Node}(h:l=map Node.o nn) :map ONode.av l=map Node.av nn:=by rw [h,aUw]
theorem aKS :∀n:Nat,jF [AV.str 0 0] n=map aA (replicate n ([] :aC))
 |0=>rfl
 |n+1=>by rw [jF,aKS n];rfl
theorem xB :∀l:List aC,cE (map aA l) =true
 | [] =>rfl
 |s::l=>by rw [map_cons,cE,xB l];rfl
theorem aGy :∀l:List AV,nF false 1 l.length l=l
 | [] =>rfl
 | a::l=>by
  rw [length_cons,nF];simp only [cond,List.headD_cons,List.drop_succ_cons,List.drop_zero];rw [aGy l]
theorem aP9 (l:List AV) :getCells (putCells .leaf 0 l) 0 l.length=some l:=tD l _ 0 (fun j hj=>by
 rw [bY,if_pos (by omega),Nat.zero_add])
theorem aSQ (n:Nat) : (map aA (replicate n ([] :aC))).length=n:=by simp
theorem aSR (n:Nat) :getCells (putCells .leaf 0 (map aA (replicate n ([] :aC)))) 0 (n*1) =some (map aA (replicate n ([] :aC))) :=by
 have:=aP9 (map aA (replicate n ([] :aC)));rw [aSQ]at this;rw [Nat.mul_one];exact this
theorem aSS (n:Nat) :nF false 1 n (map aA (replicate n ([] :aC))) =map aA (replicate n ([] :aC)) :=by
 have:=aGy (map aA (replicate n ([] :aC)));rwa [aSQ]at this
theorem aOo {α β:Type}[DecidableEq α]{f:α→AV}{g:β→AV}(hf:aJs f){k:α}{l:List (α×β)}(h:dR k l=none)(z:β) :
  aB1 (aD f g 0 l) (length l) (f k) (g z) =some (.tup [g z,.int .i64 ((length l:Nat) :Int)],aD f g 0 (bT k z l),length (bT k z l)) :=by
 unfold aB1;rw [tJ hf k l 0 0 h];obtain⟨a,b⟩ :=wR f g k z l 0 h;simp only [Nat.zero_add]at a;simp only [a,b]
theorem aOp {α β:Type}[DecidableEq α]{k:α}{l:List (α×β)}(h:dR k l=none)(z v:β) : (bT k z l).length= (bT k v l).length:=by
 rw [(wR (fun _=>nils) (fun _=>nils) k z l 0 h).2,(wR (fun _=>nils) (fun _=>nils) k v l 0 h).2]
theorem aGz {α β:Type}[DecidableEq α]{f:α→AV}{g:β→AV}{k:α}(z v:β) :∀ (l:List (α×β)) (n:Nat),dR k l=none→jO (g v) (n+l.length) (aD f g n (bT k z l)) =some (aD f g n (bT k v l))
 | [],n,_=>by simp only [bT,aD,jO,List.length_nil,Nat.add_zero,Nat.beq_refl,cond]
 | e ::l,n,h=>by
  unfold dR at h;split at h
  ·cases h
  · rename_i hk;have ih:=aGz (f:=f) (g:=g) z v l (n+1) h;simp only [bT,if_neg hk,aD,jO,length_cons];have:Nat.beq n (n+ (l.length+1)) =false:=by
     cases q:Nat.beq n (n+ (l.length+1))with
     |false=>rfl
     |true=>have:=Nat.eq_of_beq_eq_true q;omega
    rw [this];simp only [cond];rw [show n+ (l.length+1) =n+1+l.length by omega,ih]
theorem aKT {α β:Type}[DecidableEq α]{f:α→AV}{g:β→AV}{k:α}{l:List (α×β)}(h:dR k l=none)(z v:β) :
  jO (g v) (((length l:Nat) :Int)).toNat (aD f g 0 (bT k z l)) =some (aD f g 0 (bT k v l)) :=by
 have:=aGz (f:=f) (g:=g) z v l 0 h;rwa [Nat.zero_add]at this
theorem aQa {f:Nat}{args args':List AV}{v:AV}(h:Pure PP f args v)(hl:args'.length=args.length)(ha:∀ (E:Emb) (i:Nat) (a a':AV) (c:Value),args[i]?=some a→args'[i]?=some a'→VR E a' c→VR E a c) :Pure PP f args' v:=fun hh=>by
 obtain⟨g,hg,he⟩ :=h hh;simp only [dO,cO]at hg;split at hg
 · rename_i fn hfn;split at hg
   · rename_i c hc;cases hg;refine⟨_,by simp only [dO,cO,hfn,hc];rfl,?_⟩;intro hm E fr ccs w hfr fs r cl base;refine he hm E fr ccs w ?_ fs r cl base;refine⟨hfr.fn,⟨by have:=hfr.tm.1;rw [hl]at this;exact this,fun t a e=>?_⟩,hfr.todo,hfr.defers,hfr.mode,hfr.kind,hfr.round⟩;have ht:t<args.length∧args[t]?=some a:=by
      have e': (dG .leaf 0 args).at t=some a:=e;unfold dG at e';rw [bY]at e';split at e'
      ·rename_i hlt;exact⟨hlt,e'⟩
      ·cases e'
     have ht':args'[t]?=some args'[t] :=getElem?_eq_getElem (by omega)
     obtain⟨cv,g1,g2⟩ :=hfr.tm.2 t args'[t] (by
      show(dG .leaf 0 args').at t=_;unfold dG;rw [bY,if_pos (by omega)];exact ht')
     exact⟨cv,g1,ha E t _ _ cv ht.2 ht' g2⟩
   ·cases hg
 ·cases hg
def aYn(a:LUnit):TS:=dY PP 39 [(.agg [(aA a.name),(iC a.cons),(.ilst 2 (map LFun.av a.funs) false),(iS a.needs),(iN a.nodes)])] [] 0
def aIs(a:LUnit)(c:Int)(b:List aC):TS:=⟨(tf 39 22 [kp 1 0,(2,.nils),(3,(.gl 1 1 0 b.length false)),(4,(nI c))] [kc f39 116,kl f39 116,.inBlock 0,kc f39 15]),[],[oC 0 [(aA a.name),(iC a.cons),(.ilst 2 (map LFun.av a.funs) false),(iS a.needs),(iN a.nodes)],oL 1 1 (map aA b)],2⟩
def aBt(a:List aC)(b:Int):TS:=⟨(tf 115 18 [(0,(iS a)),(2,(bV false)),(3,(nI b))] [kc f115 52,kl f115 52,.inBlock 0,kc f115 7]),[],[],0⟩
def aYo(a:LUnit):TS:=dY PP 36 [(.agg [(aA a.name),(iC a.cons),(.ilst 2 (map LFun.av a.funs) false),(iS a.needs),(iN a.nodes)])] [] 0
def aIt(a:LUnit)(b:Int):TS:=⟨(tf 36 56 [kp 1 0,(2,(bV false)),(3,(nI b))] [kc f36 116,kl f36 116,.inBlock 0,kc f36 15]),[],[oC 0 [(aA a.name),(iC a.cons),(.ilst 2 (map LFun.av a.funs) false),(iS a.needs),(iN a.nodes)]],1⟩
def aIu(a:LUnit)(b:Int):TS:=⟨(tf 36 56 [kp 1 0,(2,(bV false)),(4,(nI b))] [kc f36 244,kl f36 244,.inBlock 2,kc f36 31]),[],[oC 0 [(aA a.name),(iC a.cons),(.ilst 2 (map LFun.av a.funs) false),(iS a.needs),(iN a.nodes)]],1⟩
def aDo(a:List LUnit)(b:Int):TS:=⟨(tf 13 23 [(0,(.ilst 5 (map LUnit.av a) false)),(2,(bV false)),(3,(nI b))] [kc f13 52,kl f13 52,.inBlock 0,kc f13 7]),[],[],0⟩
def aIv(a:List LUnit)(b:Int):TS:=⟨(tf 18 19 [(0,(.ilst 5 (map LUnit.av a) false)),(2,(bV false)),(3,(nI b))] [kc f18 116,kl f18 116,.inBlock 0,kc f18 15]),[],[],0⟩
def aVf (a:LUnit):=(tT 0 (aYn a)<|.i [rn 16,.nilL 3 1] []<|gu 0 1 (map aA ([] :List aC))<|gs 0 3 (.gl 1 1 0 ([] :List aC).length false)<|.W 0 2 [0,1] (aIs a 0 ([] :List aC))) ⟨kk,trivial⟩
def aST(a:LUnit)(b:Int)(c:List aC):=tT 0 (aIs a b c)<|gl 6 LFun.av a.funs<|gd 2 9 (b< (a.funs.length:Int)) (gX LFun.av 9 a.funs b<|fun d=>ga 3 aA c [d.name]<|gw 6 11 (b+1)<|.W 3 4 [0,3] (aIs a (b+1) (c++ [d.name])))<|gz 8 2 1 1 aA c false<|gE 0 2 (iS c)
def aVg:=fun a b c d e f g i j=>aST a b c|>.t e d f g i j ⟨kk,trivial⟩
def aVh:=fun a b c d=>aST a b c|>.f d tv
def aQb (a:List aC):=(tT 0 (start PP 115 [(iS a)])<|.W 11 0 [] (aBt a 0)) tv
def aNn(a:List aC)(b:Int):=tT 0 (aBt a b)<|gl 5 aA a<|gd 2 7 (b< (a.length:Int)) (gX aA 8 a b<|fun c=>fQ 1 86 [(aA c)]<|fun d=>.b 2 15 (!d) (gE 6 0 (bV false))<|gw 6 9 (b+1)<|.W 3 0 [] (aBt a (b+1)))<|fQ 5 71 [(iS a)]<|fun c=>gE 3 0 (bV c)
def aQc:=fun a b c d e f g i j=>aNn a b|>.t e c f g d i|>.t j tv
def aQd:=fun a b c d e f g i j k=>aNn a b|>.t e c f g d i|>.f j k tv
def aQe:=fun a b c d e=>aNn a b|>.f d c e tv
def aSU(a b c:Int):=tT 0 (start PP 116 [(nI a),(nI b),(nI c)])<|gd 10 10 (a≥b) (gE 7 0 (bV (decide (a≤c))))<|gE 7 0 (bV false)
def aQf:=fun a b c d=>aSU a b c|>.t d tv
def aQg:=fun a b c d=>aSU a b c|>.f d tv
def aIw(a:LUnit):=tT 0 (aYo a)<|gl 10 LFun.av a.funs<|gd 2 9 ((a.funs.length:Int) >30) (gE 18 1 (bV false))<|gl 2 aA a.needs<|gd 3 15 ((a.needs.length:Int) >25) (gE 12 1 (bV false))<|gd 6 20 ((a.name.length:Int) >30) (gE 6 1 (bV false))<|.W 9 1 [0] (aIt a 0)
def aVi:=fun a b=>aIw a|>.t b tv
def aVj:=fun a b c=>aIw a|>.f b|>.t c tv
def aVk:=fun a b c d=>aIw a|>.f b|>.f c|>.t d tv
def aVl:=fun a b c d=>aIw a|>.f b|>.f c|>.f d tv
def aNo(a:LUnit)(b:Int):=tT 0 (aIt a b)<|gl 6 LFun.av a.funs<|gd 2 25 (b< (a.funs.length:Int)) (gX LFun.av 9 a.funs b<|fun c=>gd 5 35 ((c.name.length:Int) >30) (gE 6 1 (bV false))<|gw 6 27 (b+1)<|.W 3 1 [0] (aIt a (b+1)))<|.W 9 1 [0] (aIu a 0)
def aVm:=fun a b c d e f g=>aNo a b|>.t d c e f|>.t g tv
def aVn:=fun a b c d e f g i=>aNo a b|>.t d c e f|>.f g i tv
def aVo:=fun a b c=>aNo a b|>.f c tv
def aNp(a:LUnit)(b:Int):=tT 0 (aIu a b)<|gl 6 aA a.needs<|gd 2 40 (b< (a.needs.length:Int)) (gX aA 9 a.needs b<|fun c=>gd 4 49 ((c.length:Int) >30) (gE 6 1 (bV false))<|gw 6 42 (b+1)<|.W 3 1 [0] (aIu a (b+1)))<|fQ 9 50 [(.agg [(iN a.nodes),.nils,(nI 0),(iC a.cons)])]<|fun c=>gE 3 1 (bV c)
def aVp:=fun a b c d e f g=>aNp a b|>.t d c e f|>.t g tv
def aVq:=fun a b c d e f g i=>aNp a b|>.t d c e f|>.f g i tv
def aVr:=fun a b c d e=>aNp a b|>.f d c e tv
def aSV (a:List LUnit):=(tT 0 (start PP 13 [(.ilst 5 (map LUnit.av a) false)])<|.W 11 0 [] (aDo a 0)) tv
def aDp(a:List LUnit)(b:Int):=tT 0 (aDo a b)<|gl 5 LUnit.av a<|gd 2 8 (b< (a.length:Int)) (gd 4 11 (b≤10) (gX LUnit.av 8 a b<|fun c=>fQ 1 36 [(.agg [(aA c.name),(iC c.cons),(.ilst 2 (map LFun.av c.funs) false),(iS c.needs),(iN c.nodes)])]<|fun d=>.b 2 19 (!d) (gE 6 0 (bV false))<|gw 6 13 (b+1)<|.W 3 0 [] (aDo a (b+1)))<|gl 5 LUnit.av a<|gE 4 0 (bV (decide ((a.length:Int) ≤11))))<|gl 9 LUnit.av a<|gE 4 0 (bV (decide ((a.length:Int) ≤11)))
def aSW:=fun a b c d e f g i j k=>aDp a b|>.t e|>.t f c g i d j|>.t k tv
def aSX:=fun a b c d e f g i j k l=>aDp a b|>.t e|>.t f c g i d j|>.f k l tv
def aSY:=fun a b c d=>aDp a b|>.t c|>.f d tv
def aKU:=fun a b c=>aDp a b|>.f c tv
def aOq(a:List LUnit):=tT 0 (start PP 18 [(.ilst 5 (map LUnit.av a) false)])<|gl 8 LUnit.av a<|gd 2 6 ((a.length:Int) >10) (gE 6 0 (bV false))<|.W 9 0 [] (aIv a 0)
def aVs:=fun a b=>aOq a|>.t b tv
def aVt:=fun a b=>aOq a|>.f b tv
def aIx(a:List LUnit)(b:Int):=tT 0 (aIv a b)<|gl 5 LUnit.av a<|gd 2 10 (b< (a.length:Int)) (gX LUnit.av 8 a b<|fun c=>fQ 1 37 [(.agg [(aA c.name),(iC c.cons),(.ilst 2 (map LFun.av c.funs) false),(iS c.needs),(iN c.nodes)])]<|fun d=>.b 2 18 (!d) (gE 6 0 (bV false))<|gw 6 12 (b+1)<|.W 3 0 [] (aIv a (b+1)))<|gE 7 0 (bV true)
def aVu:=fun a b c d e f g i j=>aIx a b|>.t e c f g d i|>.t j tv
def aVv:=fun a b c d e f g i j k=>aIx a b|>.t e c f g d i|>.f j k tv
def aVw:=fun a b c=>aIx a b|>.f c tv
theorem rN (u:LUnit) :keyless u.av=true:=by simp [LUnit.av,keyless,keylessL,aA]
def dM (s:aC) :List aC→Nat→Int
 | [],_=> -1
 |x::l,i=>if x=s then(i:Int)else dM s l (i+1)
theorem aNq (n lo hi:Int) :Pure PP 116 [.int .i64 n,.int .i64 lo,.int .i64 hi] (.bool (cN n lo hi)) :=by
 refine aT (by kernel_rfl) rfl rfl ?_;unfold cN;by_cases h:lo≤n
 · have e: (decide (lo≤n) &&decide (n≤hi)) =decide (n≤hi) :=by simp [h]
   rw [e];exact aQf n lo hi (by simpa using h)
 · have e: (decide (lo≤n) &&decide (n≤hi)) =false:=by simp [h]
   rw [e];exact aQg n lo hi (by simpa using h)
def aE (u:LUnit) :List aC:=u.funs.map LFun.name
theorem aKV (u:LUnit)(hl:u.funs.length≤1000) :∀ (t:List LFun) (i:Nat) (acc:List aC),u.funs.drop i=t→acc.length=i→Ends PP 0 (aIs u (i:Int) acc).as (.ret (.ilst 1 (map aA (acc++t.map LFun.name)) false)) (aG [] 0)
 | [],i,acc,h,ha=>by
  have:=bL h;rw [map_nil,List.append_nil];exact aVh u i acc sd
 | c::t,i,acc,h,ha=>by
  obtain⟨q1,q2,q3⟩ :=bK h;have hi:= (List.getElem?_eq_some_iff.1 q1).1;refine(aVg u i acc c sd sd sd (by simp;omega) sd).ends ?_;have:=aKV u hl t (i+1) (acc++ [c.name]) q2 (by simp [ha]);rw [List.append_assoc]at this;exact this
theorem aSZ (u:LUnit)(hl:u.funs.length≤1000) :Pure PP 39 [LUnit.av u] (.ilst 1 (map aA (aE u)) false) :=
 gW (s:=aYn u) (by kernel_rfl) (by kernel_rfl) (by simp [keylessL,rN]) (by simp [keyless]) ((aVf u).ends (aKV u hl u.funs 0 [] rfl rfl))
def gP (l:List aC) :Bool:=l.all jB&&bG l
theorem aKW (l:List aC)(hl:l.length<1000000) :∀ (t:List aC) (i:Nat),l.drop i=t→Ends PP 0 (aBt l (i:Int)).as (.ret (.bool (t.all jB&&bG l))) (aG [] 0)
 | [],i,h=>by
  have:=bL h;rw [all_nil,Bool.true_and];exact aQe l i _ sd (aBi l hl)
 | c::t,i,h=>by
  obtain⟨q1,q2,q3⟩ :=bK h;have hn:=aKD c;rw [all_cons];cases e:jB c with
  |false=>rw [e]at hn;exact aQc l i c false sd sd sd hn rfl
  |true=>rw [e]at hn;rw [Bool.true_and];exact(aQd l i c true sd sd sd hn rfl sd).ends (aKW l hl t (i+1) q2)
theorem aCU (l:List aC)(hl:l.length<1000000) :Pure PP 115 [.ilst 1 (map aA l) false] (.bool (gP l)) :=
 aT (by kernel_rfl) rfl rfl ((aQb l).ends (aKW l hl l 0 rfl))
def aP (l:List LUnit) :List aC:= (l.map aE).flatten
theorem lR (u:LUnit)(l:List LUnit) :aP (u::l) =aE u++aP l:=rfl
structure FewU (u:LUnit) :Prop where
 f:u.funs.length≤30
 n:u.needs.length≤25
 p:aM ⟨u.nodes,[],0,u.cons⟩ =true
 nm:∀f∈u.funs,f.name.length≤30
 nd:∀s∈u.needs,s.length≤30
def zU (s:aC) :List LUnit→Nat→Int
 | [],_=> -1
 |u::l,i=>if bE (aE u) s=true then(i:Int)else zU s l (i+1)
theorem aQh {f:Nat}{a a' v:AV}(h:Pure PP f [a] v)(ha:∀ (E:Emb) (c:Value),VR E a' c→VR E a c) :Pure PP f [a'] v:=
 aQa h rfl (fun E i x x' c h1 h2 hv=>by
  cases i with
  |zero=>simp only [getElem?_cons_zero,Option.some.injEq]at h1 h2;subst h1 h2;exact ha E c hv
  |succ i=>simp at h1)
theorem aQi {E:Emb}{ns:List Node}{cs:List Con}{c:Value}(h:VR E (.agg [.ilst 4 (map Node.av ns) false,.nils,.int .i64 0,.ilst 2 (map Con.av cs) false]) c) :VR E (Prog.av ⟨ns,[],0,cs⟩) c:=by
 simp only [Prog.av,VR]at h ⊢;obtain⟨ws,rfl,h5⟩ :=h;obtain⟨a1,w1,rfl,c1,h5⟩ :=h5.cons_inv;obtain⟨a2,w2,rfl,c2,h5⟩ :=h5.cons_inv;exact⟨_,rfl,VRs.cons c1 (VRs.cons (aBs _ c2) h5)⟩
def lE (u:LUnit) :Prog:= ⟨u.nodes,[],0,u.cons⟩
def jX (u:LUnit) :Bool:=decide (u.funs.length≤30) &&decide (u.needs.length≤25) &&decide (u.name.length≤30) &&u.funs.all (fun f=>decide (f.name.length≤30)) &&u.needs.all (fun s=>decide (s.length≤30)) &&aM (lE u)
theorem aEM {u:LUnit}(h:jX u=true) :FewU u:=by
 simp only [jX,and_eq_true,decide_eq_true_eq]at h;obtain⟨⟨⟨⟨⟨h1,h2⟩,h3⟩,h4⟩,h5⟩,h6⟩ :=h;exact⟨h1,h2,h6,fun f hf=>by simpa using List.all_eq_true.1 h4 f hf,fun s hs=>by simpa using List.all_eq_true.1 h5 s hs⟩
theorem aYp (u:LUnit)(hn:u.needs.length≤25) :∀ (t:List aC) (i:Nat),u.needs.drop i=t→Ends PP 0 (aIu u (i:Int)).as (.ret (.bool (t.all (fun s=>decide (s.length≤30)) &&aM (lE u)))) (aG [] 0)
 | [],i,h=>by
  have:=bL h;rw [all_nil,Bool.true_and];exact aVr u i _ sd (aQh (aC7 (lE u)) (fun E c h=>aQi h))
 | s ::t,i,h=>by
  obtain⟨q1,q2,q3⟩ :=bK h;by_cases hs:s.length≤30
  · rw [all_cons,decide_eq_true hs,Bool.true_and];exact(aVq u i s sd sd sd (by simp;omega) sd).ends (aYp u hn t (i+1) q2)
  · rw [all_cons,decide_eq_false hs,Bool.false_and,Bool.false_and];exact aVp u i s sd sd sd (by simp;omega)
theorem aYq (u:LUnit)(hf:u.funs.length≤30)(hn:u.needs.length≤25) :∀ (t:List LFun) (i:Nat),u.funs.drop i=t→Ends PP 0 (aIt u (i:Int)).as (.ret (.bool (t.all (fun f=>decide (f.name.length≤30)) &&u.needs.all (fun s=>decide (s.length≤30)) &&aM (lE u)))) (aG [] 0)
 | [],i,h=>by
  have:=bL h;rw [all_nil,Bool.true_and];exact(aVo u i sd).ends (aYp u hn u.needs 0 rfl)
 | f ::t,i,h=>by
  obtain⟨q1,q2,q3⟩ :=bK h;by_cases hs:f.name.length≤30
  · rw [all_cons,decide_eq_true hs,Bool.true_and];exact(aVn u i f sd sd sd (by simp;omega) sd).ends (aYq u hf hn t (i+1) q2)
  · rw [all_cons,decide_eq_false hs,Bool.false_and,Bool.false_and,Bool.false_and];exact aVm u i f sd sd sd (by simp;omega)
theorem aEN (u:LUnit) :Pure PP 36 [LUnit.av u] (.bool (jX u)) :=by
 refine gW (s:=aYo u) (by kernel_rfl) (by kernel_rfl) (by simp [keylessL,rN]) (by simp [keyless]) ?_;unfold jX;by_cases h1:u.funs.length≤30
 · by_cases h2:u.needs.length≤25
   · by_cases h3:u.name.length≤30
     · rw [decide_eq_true h1,decide_eq_true h2,decide_eq_true h3,Bool.true_and,Bool.true_and,Bool.true_and];exact(aVl u (by simp;omega) (by simp;omega) (by simp;omega)).ends (aYq u h1 h2 u.funs 0 rfl)
     · rw [decide_eq_false h3];simp only [Bool.and_false,Bool.false_and];exact aVk u (by simp;omega) (by simp;omega) (by simp;omega)
   · rw [decide_eq_false h2];simp only [Bool.and_false,Bool.false_and];exact aVj u (by simp;omega) (by simp;omega)
 · rw [decide_eq_false h1];simp only [Bool.false_and];exact aVi u (by simp;omega)
theorem aDq {α:Type}{l:List α}{i:Nat}{y:α}(h:l[i]?=some y) :l.take (i+1) =l.take i++ [y] :=by rw [List.take_add_one,h];rfl
def iU (l:List LUnit) :Bool:= (l.take 11).all jX&&decide (l.length≤11)
theorem aGA (l:List LUnit) :∀ (k i:Nat),i+k=11→ (∀u∈l.take i,jX u=true) →i≤l.length→Ends PP 0 (aDo l (i:Int)).as (.ret (.bool (iU l))) (aG [] 0)
 | 0,i,hk,hs,hi=>by
  have e:i=11:=by omega
  subst e;have ev:iU l=decide (((length l:Nat) :Int) ≤ (11:Int)) :=by
   unfold iU;rw [List.all_eq_true.2 hs,Bool.true_and];by_cases h:l.length≤11
   ·rw [decide_eq_true h,decide_eq_true (by omega)]
   ·rw [decide_eq_false h,decide_eq_false (by omega)]
  rw [ev];by_cases h:11<l.length
  ·exact aSY l ((11:Nat) :Int) (by simp;omega) (by decide)
  ·exact aKU l ((11:Nat) :Int) (by simp;omega)
 | k + 1,i,hk,hs,hi=>by
  by_cases h:i<l.length
  · obtain⟨u,hu⟩ :∃u,l[i]?=some u:= ⟨_,getElem?_eq_getElem h⟩;have hp:=aEN u;cases e:jX u with
    | false=>
     rw [e]at hp;have ev:iU l=false:=by
      unfold iU;have: (l.take 11).all jX=false:=by
       rw [Bool.eq_false_iff];intro hh;have:=List.all_eq_true.1 hh u (mem_of_getElem? (by rw [List.getElem?_take,if_pos (show i<11 by omega)];exact hu));rw [e]at this;cases this
      rw [this,Bool.false_and]
     rw [ev];exact aSW l i u false sd (by simp;omega) sd sd hp rfl
    | true=>
     rw [e]at hp;refine(aSX l i u true sd (by simp;omega) sd sd hp rfl sd).ends (aGA l k (i+1) (by omega) (fun x hx=>?_) (by omega));rw [aDq hu]at hx;rcases List.mem_append.1 hx with g|g
     ·exact hs x g
     ·rw [List.mem_singleton.1 g];exact e
  · have ev:iU l=decide (((length l:Nat) :Int) ≤ (11:Int)) :=by
     unfold iU;have:l.take 11=l.take i:=by rw [take_of_length_le (by omega),take_of_length_le (by omega)]
     rw [this,List.all_eq_true.2 hs,Bool.true_and,decide_eq_true (show l.length≤11 by omega),decide_eq_true (by omega)]
    rw [ev];exact aKU l i sd
theorem aQj (l:List LUnit) :Pure PP 13 [.ilst 5 (map LUnit.av l) false] (.bool (iU l)) :=
 aT (by kernel_rfl) (by simp [keylessL,keyless]) rfl ((aSV l).ends (aGA l 11 0 rfl (by simp) (Nat.zero_le _)))
theorem aCV {l:List LUnit}(h:iU l=true) :l.length≤11∧∀u∈l,jX u=true:=by
 simp only [iU,and_eq_true,decide_eq_true_eq]at h;obtain⟨h1,h2⟩ :=h;rw [take_of_length_le h2]at h1;exact⟨h2,List.all_eq_true.1 h1⟩
structure FitU (u:LUnit) :Prop where
 p:FitP (lE u)
 f:u.funs.length<1000000
 n:u.needs.length<1000000
def aYr(a:LUnit):TS:=dY PP 37 [(.agg [(aA a.name),(iC a.cons),(.ilst 2 (map LFun.av a.funs) false),(iS a.needs),(iN a.nodes)])] [] 0
def aIy(a:LUnit)(b:List aC)(c:Int):TS:=⟨(tf 37 126 [kp 1 0,(2,(bV false)),(3,(iS b)),(4,(nI c))] [kc f37 244,kl f37 244,.inBlock 0,kc f37 31]),[],[oC 0 [(aA a.name),(iC a.cons),(.ilst 2 (map LFun.av a.funs) false),(iS a.needs),(iN a.nodes)]],1⟩
def aIz(a:LUnit)(c:List aC)(d:Int)(b:List Int):TS:=⟨(tf 37 126 [kp 1 0,(2,(bV false)),(3,(iS c)),kp 6 1,(7,(nI d))] [kc f37 2036,kl f37 2036,.inBlock 2,kc f37 255]),[],[oC 0 [(aA a.name),(iC a.cons),(.ilst 2 (map LFun.av a.funs) false),(iS a.needs),(iN a.nodes)],oC 1 [(.gl 2 4 0 a.nodes.length false),(.gl 3 1 0 b.length false),(nI 0),(iC a.cons)],oL 2 4 (jN a.nodes),oL 3 1 (jI b)],4⟩
def aCi(a:LUnit)(d:List aC)(b:List Int)(e:Int)(c:List Node):TS:=⟨(tf 37 126 [kp 1 0,(2,(bV false)),(3,(iS d)),kp 6 1,(8,(nI e))] [kc f37 4084,kl f37 4084,.inBlock 4,kc f37 511]),[],[oC 0 [(aA a.name),(iC a.cons),(.ilst 2 (map LFun.av a.funs) false),(iS a.needs),(iN a.nodes)],oC 1 [(.gl 2 4 0 c.length false),(.gl 3 1 0 b.length false),(nI 0),(iC a.cons)],oL 2 4 (jN c),oL 3 1 (jI b)],4⟩
def aEO(a:LUnit):=tT 0 (aYr a)<|.y fun b:List aC=>gp 8 39 [(.agg [(aA a.name),(iC a.cons),(.ilst 2 (map LFun.av a.funs) false),(iS a.needs),(iN a.nodes)])] (iS b)<|fQ 7 86 [(aA a.name)]<|fun c=>.b 2 16 (!c) (gE 23 1 (bV false))<|gl 2 aA a.needs<|gd 3 22 ((a.needs.length:Int) >20) (gE 17 1 (bV false))<|fQ 1 115 [(iS b)]<|fun d=>.b 3 27 (!d) (gE 12 1 (bV false))<|fQ 2 115 [(iS a.needs)]<|fun e=>.b 3 32 (!e) (gE 6 1 (bV false))<|.W 9 1 [0] (aIy a b 0)
def aVx:=fun a b c d e f=>aEO a b d c e|>.t f tv
def aVy:=fun a b c d e f g=>aEO a b d c e|>.f f|>.t g tv
def aVz:=fun a b c d e f g i j k=>aEO a b e c f|>.f g|>.f i d j|>.t k tv
def aVA:=fun a b c d e f g i j k l m n=>aEO a b f c g|>.f i|>.f j d k|>.f l e m|>.t n tv
def aVB:=fun a b c d e f g i j k l m n=>aEO a b f c g|>.f i|>.f j d k|>.f l e m|>.f n tv
def aEP(a:LUnit)(b:List aC)(c:Int):=tT 0 (aIy a b c)<|gl 6 aA a.needs<|gd 2 37 (c< (a.needs.length:Int)) (gX aA 10 a.needs c<|fun d=>fQ 1 111 [(iS b),(aA d)]<|fun e=>.b 1 46 e (gE 6 1 (bV false))<|gw 6 39 (c+1)<|.W 3 1 [0] (aIy a b (c+1)))<|gl 6 aA b<|.b 2 49 ((b.length:Int) ==0) (.i [rn 13,.ctoL 3 0 true [(nI 3),(nI 0),.nils,.nils]] [hr (some [(nI 3),(nI 0),.nils,.nils]),hr true]<|.i [.lw 1 (jN [(Node.mk 3 0 [] [])])] [.q (p:=([(.agg [(nI 3),(nI 0),.nils,.nils])] :List AV) ≠ []) (by simp),.q (p:=VW [(.agg [(nI 3),(nI 0),.nils,.nils])] (jN [(Node.mk 3 0 [] [])])) (aOn _ _)]<|gv 0 3 0 (.gl 1 4 0 [(Node.mk 3 0 [] [])].length true)<|.i [.cweak 3 0] []<|gy 0 3 0 1 4 Node.av [(Node.mk 3 0 [] [])] false<|.i [.ctoL 3 1 false [(nI 0)]] [hr (some [(nI 0)]),hr true]<|gu 0 2 (jI [0])<|gv 0 3 1 (.gl 2 1 0 [0].length true)<|.i [.cweak 3 1] []<|gy 0 3 1 2 1 aR [0] false<|gl 3 Node.av a.nodes<|.b 2 60 ((a.nodes.length:Int) ==0) (fQ 1 38 [(.agg [(iN [(Node.mk 3 0 [] [])]),(iI [0]),(nI 0),(iC a.cons)])]<|fun d=>gE 4 4 (bV d))<|gE 6 4 (bV false))<|.i [rn 3,.reg (rd 4 (.app (jN a.nodes) a.nodes.length::rd 3 []))] [hA (length a.nodes≤1000000),hr (jN a.nodes),.q (p:=length (jN a.nodes) =length a.nodes) (List.length_map ..),hr (ilst 2 (jC a.cons) false),hr (ilst 2 (jC a.cons) false)]<|.i [rn 7,.cnil 1 1 1] []<|gu 0 3 (jI ([] :List Int))<|gv 0 1 1 (.gl 3 1 0 ([] :List Int).length false)<|.W 0 4 [0,1,2,3] (aIz a b 0 ([] :List Int))
def aVC:=fun a b c d e f g i j k=>aEP a b c|>.t f d g i e j|>.t k tv
def aVD:=fun a b c d e f g i j k l=>aEP a b c|>.t f d g i e j|>.f k l tv
def aVE:=fun a b c d e f g i=>aEP a b c|>.f e|>.t f|>.t g d i tv
def aVF:=fun a b c d e f=>aEP a b c|>.f d|>.t e|>.f f tv
def aVG:=fun a b c d e f=>aEP a b c|>.f d|>.f e f ⟨kk,⟨kk,trivial⟩⟩
def aS0(c:LUnit)(e:List aC)(d:Int)(a:List Int):=tT 0 (aIz c e d a)<|gl 6 LFun.av c.funs<|gd 2 74 (d< (c.funs.length:Int)) (.y fun b:LFun=>.i [rn 4,.reg (rd 5 (.ans (.idx (LFun.av b))::rd 3 [.app (jI (a++ [b.body])) (a++ [b.body]).length,.d,.d]))] [hA (0≤d),.a (((c.funs)[d.toNat]?) =some b) (eO (f:=LFun.av)),hb aR a,hA (length (a++ [b.body]) ≤1000000),hc aR a [b.body],he aR a [b.body]]<|gw 4 76 (d+1)<|.W 3 6 [0,1,2,5] (aIz c e (d+1) (a++ [b.body])))<|.W 9 4 [0,1,2,3] (aCi c e a 0 c.nodes)
def aVH:=fun a b c d e f g i j k=>aS0 a b c d|>.t f e g i j k ⟨kk,⟨kk,trivial⟩⟩
def aVI:=fun a b c d e=>aS0 a b c d|>.f e ⟨kk,⟨kk,trivial⟩⟩
def aIA(f:LUnit)(d:List aC)(e:List Int)(c:Int)(b:List Node):=tT 0 (aCi f d e c b)<|gd 9 92 (c< (b.length:Int)) (.i [rn 9,.ans (.ix)] [hA (0≤c),hA (c< (b.length:Int))]<|.y fun a:Node=>gj Node.av 0 b c.toNat a<|.b 9 103 (a.op==4) (gl 3 aA d<|gw 1 108 (0- (d.length:Int))<|gl 2 aA f.needs<|gw 1 112 ((0- (d.length:Int)) - (f.needs.length:Int))<|gl 1 aA d<|gw 1 115 (0- (d.length:Int))<|gw 1 116 ((0- (d.length:Int)) -1)<|fQ 0 116 [(nI a.n),(nI ((0- (d.length:Int)) - (f.needs.length:Int))),(nI ((0- (d.length:Int)) -1))]<|fun g=>.b 2 118 g (.i [rn 5,.ans (.ix)] [hA (0≤c),hA (c< (b.length:Int))]<|.i [rn 1,.st (Node.av a) (Node.av (Node.mk a.op (-1) a.kids a.pats))] [.a (((b)[c.toNat]?) =some a) (jL (f:=Node.av)),hr (some (Node.av (Node.mk a.op (-1) a.kids a.pats)))]<|.i [.lset 2 (jN (set b c.toNat (Node.mk a.op (-1) a.kids a.pats)))] [.q (p:=(jN b).set (0+c.toNat) (Node.av (Node.mk a.op (-1) a.kids a.pats)) = (jN (set b c.toNat (Node.mk a.op (-1) a.kids a.pats)))) (rE _ _ _ _)]<|.i [.set 90 (.gl 2 4 0 (set b c.toNat (Node.mk a.op (-1) a.kids a.pats)).length false)] [.q (p:=(AV.gl 2 4 0 b.length false) = (.gl 2 4 0 (set b c.toNat (Node.mk a.op (-1) a.kids a.pats)).length false)) (dJ (length_set ..).symm)]<|.i [.set 96 (.gl 2 4 0 (set b c.toNat (Node.mk a.op (-1) a.kids a.pats)).length false)] [.q (p:=(AV.gl 2 4 0 b.length false) = (.gl 2 4 0 (set b c.toNat (Node.mk a.op (-1) a.kids a.pats)).length false)) (dJ (length_set ..).symm)]<|.i [.set 120 (.gl 2 4 0 (set b c.toNat (Node.mk a.op (-1) a.kids a.pats)).length false)] [.q (p:=(AV.gl 2 4 0 b.length false) = (.gl 2 4 0 (set b c.toNat (Node.mk a.op (-1) a.kids a.pats)).length false)) (dJ (length_set ..).symm)]<|.i [.cset 1 0 (.gl 2 4 0 (set b c.toNat (Node.mk a.op (-1) a.kids a.pats)).length false)] [.q (p:=(AV.gl 2 4 0 b.length false) = (.gl 2 4 0 (set b c.toNat (Node.mk a.op (-1) a.kids a.pats)).length false)) (dJ (length_set ..).symm)]<|gw 5 94 (c+1)<|.W 3 5 [0,1,2,3] (aCi f d e (c+1) (set b c.toNat (Node.mk a.op (-1) a.kids a.pats))))<|gw 6 94 (c+1)<|.W 3 5 [0,1,2,3] (aCi f d e (c+1) b))<|gw 22 94 (c+1)<|.W 3 5 [0,1,2,3] (aCi f d e (c+1) b))<|.i [rn 5,.frz 124 2 (jN b)] [hk Node.av b,.q (p:=frzOk 2 4 (jN b) (jN b) (.agg [(.gl 2 4 0 b.length false),(.gl 3 1 0 e.length false),(nI 0),(iC f.cons)])) (by simp [frzOk,AV.frzOkL,take_of_length_le])]<|.i [.frz 124 3 (jI e)] [hk aR e,.q (p:=frzOk 3 1 (jI e) (jI e) (.agg [(iN b),(.gl 3 1 0 e.length false),(nI 0),(iC f.cons)])) (by simp [frzOk,AV.frzOkL,take_of_length_le])]<|fQ 0 38 [(.agg [(iN b),(iI e),(nI 0),(iC f.cons)])]<|fun a=>gE 3 4 (bV a)
def aVJ:=fun e f g i j k l m a b c n d o p q r s=>aIA e f g i j|>.t m a b k c|>.t n d o d p l q|>.t r a b c s ⟨kk,⟨kk,trivial⟩⟩
def aVK:=fun b c d e f g i j k l m n a o p q r s=>aIA b c d e f|>.t j k l g m|>.t n a o a p i q|>.f r s ⟨kk,⟨kk,trivial⟩⟩
def aVL:=fun a b c d e f g i j k l m=>aIA a b c d e|>.t g i j f k|>.f l m ⟨kk,⟨kk,trivial⟩⟩
def aVM:=fun a b c d e f g i=>aIA a b c d e|>.f g f i tv
def rO {α:Type}(f:α→α)(l:List α)(i:Nat) :List α:= (l.take i).map f++l.drop i
section
variable {α :Type} {f:α→α} {l:List α} {i:Nat}
theorem aGB :rO f l 0=l:=by simp [rO]
theorem aEQ : (rO f l i).length=l.length:=by simp [rO];omega
theorem aKX (h:l.length≤i) :rO f l i=l.map f:=by simp [rO,take_of_length_le h,List.drop_eq_nil_of_le h]
theorem aAz {x:α}(h:l[i]?=some x) :rO f l i= (l.take i).map f++x::l.drop (i+1) ∧ ((l.take i).map f).length=i:=by
 have hi:= (List.getElem?_eq_some_iff.1 h).1;refine⟨?_,by simp;omega⟩;unfold rO;rw [List.drop_eq_getElem_cons hi];rw [(List.getElem?_eq_some_iff.1 h).2]
theorem aKY {x:α}(h:l[i]?=some x) : (rO f l i)[i]?=some x:=by
 obtain⟨e,hl⟩ :=aAz (f:=f) h;rw [e,List.getElem?_append_right (by omega),hl];simp
theorem aGC {x:α}(h:l[i]?=some x) :rO f l (i+1) = (l.take i).map f++f x::l.drop (i+1) :=by
 unfold rO;rw [aDq h];simp
theorem aKZ {x:α}(h:l[i]?=some x) : (rO f l i).set i (f x) =rO f l (i+1) :=by
 obtain⟨e,hl⟩ :=aAz (f:=f) h;rw [e,aGC h,List.set_append_right _ _ (by omega),hl];simp
theorem rP {x:α}(h:l[i]?=some x)(e:f x=x) :rO f l i=rO f l (i+1) :=by
 rw [(aAz (f:=f) h).1,aGC h,e]
end
def eA (a b:Nat)(x:Node) :Node:=if x.op=4∧ -(a:Int) -b≤x.n∧x.n≤ -(a:Int) -1 then⟨x.op,-1,x.kids,x.pats⟩else x
def bU (u:LUnit) :List Int:=u.funs.map LFun.body
def eD (u:LUnit) :Prog:= ⟨u.nodes.map (eA u.funs.length u.needs.length),bU u,0,u.cons⟩
def mQ (u:LUnit) :Prog:= ⟨[⟨3,0,[],[]⟩],[0],0,u.cons⟩
def gR (u:LUnit) :Bool:=jB u.name&&decide (u.needs.length≤20) &&gP (aE u) &&gP u.needs&&u.needs.all (fun s=> !bE (aE u) s) &&
 (if u.funs.length=0 then decide (u.nodes.length=0) &&bA (mQ u)else bA (eD u))
theorem kK {u:LUnit}(h:FewU u) :aM (eD u) =true:=by
 have h0:=h.p;have hf:=h.f;simp only [aM,and_eq_true,decide_eq_true_eq]at h0 ⊢;obtain⟨⟨⟨⟨h1,h2⟩,h3⟩,h4⟩,h5⟩ :=h0;refine⟨⟨⟨⟨by simp [eD];exact h1,by simp [eD,bU];omega⟩,h3⟩,h4⟩,List.all_eq_true.2 (fun x hx=>?_)⟩;simp only [eD,List.mem_map]at hx;obtain⟨y,hy,rfl⟩ :=hx;have:=List.all_eq_true.1 h5 y hy;unfold eA;split<;>exact this
theorem aAA {u:LUnit}(h:FewU u) :aM (mQ u) =true:=by
 have h0:=h.p;simp only [aM,and_eq_true,decide_eq_true_eq]at h0 ⊢;obtain⟨⟨⟨⟨h1,h2⟩,h3⟩,h4⟩,h5⟩ :=h0;exact⟨⟨⟨⟨by simp [mQ],by simp [mQ]⟩,h3⟩,h4⟩,by rfl⟩
section
variable (u :LUnit) (hu:FewU u)
include hu
theorem aYs :∀ (t:List Node) (i:Nat),u.nodes.drop i=t→i≤u.nodes.length→Ends PP 0 (aCi u (aE u) (bU u) (i:Int) (rO (eA u.funs.length u.needs.length) u.nodes i)).as (.ret (.bool (bA (eD u)))) (aG [] 0)
 | [],i,h,hi=>by
  have hd:=bL h;have hn:i=u.nodes.length:=by omega
  have hl: (rO (eA u.funs.length u.needs.length) u.nodes i).length=u.nodes.length:=aEQ;rw [aKX (by omega)]at hl ⊢;exact aVM u (aE u) (bU u) i _ _ (by rw [hl];exact sd) (aBl (eD u) (kK hu))
 | x ::t,i,h,hi=>by
  obtain⟨q1,q2,q3⟩ :=bK h;have hi:= (List.getElem?_eq_some_iff.1 q1).1;have hn:u.nodes.length≤320:=by have:=hu.p;simp only [aM,and_eq_true,decide_eq_true_eq]at this;exact this.1.1.1.1
  have hf:=hu.f;have hd:=hu.n;have hl: (rO (eA u.funs.length u.needs.length) u.nodes i).length=u.nodes.length:=aEQ;have ho: (aE u).length=u.funs.length:=by simp [aE]
  have hg:=aKY (f:=eA u.funs.length u.needs.length) q1;have w1:IntKind.i64.wrap (0- ((length (aE u) :Nat) :Int)) =0- ((length (aE u) :Nat) :Int) :=by apply wrap64<;>omega
  have w2:IntKind.i64.wrap (0- ((length (aE u) :Nat) :Int) - ((length u.needs:Nat) :Int)) =0- ((length (aE u) :Nat) :Int) - ((length u.needs:Nat) :Int) :=by apply wrap64<;>omega
  have w3:IntKind.i64.wrap (0- ((length (aE u) :Nat) :Int) - (1:Int)) =0- ((length (aE u) :Nat) :Int) - (1:Int) :=by apply wrap64<;>omega
  have ih:=aYs t (i+1) q2 (by omega);by_cases h4:x.op=4
  · have hp:=aNq x.n (0- ((length (aE u) :Nat) :Int) - ((length u.needs:Nat) :Int)) (0- ((length (aE u) :Nat) :Int) - (1:Int));by_cases hb: -(u.funs.length:Int) -u.needs.length≤x.n∧x.n≤ -(u.funs.length:Int) -1
    · have eb:cN x.n (0- ((length (aE u) :Nat) :Int) - ((length u.needs:Nat) :Int)) (0- ((length (aE u) :Nat) :Int) - (1:Int)) =true:=by rw [inB_iff,ho];omega
      rw [eb]at hp;have ef:eA u.funs.length u.needs.length x= ⟨x.op,-1,x.kids,x.pats⟩ :=by unfold eA;rw [if_pos ⟨h4,hb⟩]
      have h1:=aVJ u (aE u) (bU u) i _ x true (by rw [hl];exact sd) sd (by rw [hl];omega) (by rw [toNat_natCast];exact hg) (by simp [h4]) w1 w2 w3 hp rfl sd;rw [toNat_natCast,←ef,aKZ q1]at h1;exact h1.ends ih
    · have eb:cN x.n (0- ((length (aE u) :Nat) :Int) - ((length u.needs:Nat) :Int)) (0- ((length (aE u) :Nat) :Int) - (1:Int)) =false:=by rw [Bool.eq_false_iff,Ne,inB_iff,ho];omega
      rw [eb]at hp;have ef:eA u.funs.length u.needs.length x=x:=by unfold eA;rw [if_neg (fun g=>hb g.2)]
      have h1:=aVK u (aE u) (bU u) i _ x false (by rw [hl];exact sd) sd (by rw [hl];omega) (by rw [toNat_natCast];exact hg) (by simp [h4]) w1 w2 w3 hp rfl sd;rw [rP q1 ef]at h1 hl ⊢;exact h1.ends ih
  · have ef:eA u.funs.length u.needs.length x=x:=by unfold eA;rw [if_neg (fun g=>h4 g.1)]
    have h1:=aVL u (aE u) (bU u) i _ x (by rw [hl];exact sd) sd (by rw [hl];omega) (by rw [toNat_natCast];exact hg) (by simp [h4]) sd;rw [rP q1 ef]at h1 hl ⊢;exact h1.ends ih
theorem aYt :∀ (t:List LFun) (i:Nat) (acc:List Int),u.funs.drop i=t→acc.length=i→Ends PP 0 (aIz u (aE u) (i:Int) acc).as (.ret (.bool (bA (eD u)))) (aG [] 0) ∨acc++t.map LFun.body≠bU u
 | [],i,acc,h,ha=>by
  have:=bL h;by_cases e:acc=bU u
  · subst e;have:=aYs u hu u.nodes 0 rfl (Nat.zero_le _);rw [aGB]at this;exact .inl ((aVI u (aE u) i _ sd).ends this)
  ·exact .inr (by simpa using e)
 | f::t,i,acc,h,ha=>by
  obtain⟨q1,q2,q3⟩ :=bK h;have hi:= (List.getElem?_eq_some_iff.1 q1).1;have hf:=hu.f;rcases aYt t (i+1) (acc++ [f.body]) q2 (by simp [ha])with g|g
  ·exact .inl ((aVH u (aE u) i acc f sd sd sd (by simp;omega) sd).ends g)
  ·exact .inr (by simpa using g)
theorem aYu :∀ (t:List aC) (i:Nat),u.needs.drop i=t→Ends PP 0 (aIy u (aE u) (i:Int)).as (.ret (.bool (t.all (fun s=> !bE (aE u) s) && (if u.funs.length=0 then decide (u.nodes.length=0) &&bA (mQ u)else bA (eD u))))) (aG [] 0)
 | [], i,h=>by
  have:=bL h;have ho: (aE u).length=u.funs.length:=by simp [aE]
  have hn:u.nodes.length≤320:=by have:=hu.p;simp only [aM,and_eq_true,decide_eq_true_eq]at this;exact this.1.1.1.1
  rw [all_nil,Bool.true_and];by_cases h0:u.funs.length=0
  · rw [if_pos h0];by_cases h1:u.nodes.length=0
    · rw [decide_eq_true h1,Bool.true_and];exact aVE u (aE u) i _ sd (by rw [ho,h0];rfl) (by rw [h1];rfl) (aBl (mQ u) (aAA hu))
    · rw [decide_eq_false h1,Bool.false_and];exact aVF u (aE u) i sd (by rw [ho,h0];rfl) (beq_eq_false_iff_ne.2 (by omega))
  · rw [if_neg h0];refine(aVG u (aE u) i sd (beq_eq_false_iff_ne.2 (by rw [ho];omega)) (by omega)).ends ?_;rcases aYt u hu u.funs 0 [] rfl rfl with g|g
    ·exact g
    ·exact absurd rfl g
 | s::t,i,h=>by
  obtain⟨q1,q2,q3⟩ :=bK h;have hf:=hu.f;have hd:=hu.n;have hh:=aCb (aE u) s (by simp [aE];omega);rw [all_cons];cases e:bE (aE u) s with
  | true=>
   rw [e]at hh;rw [Bool.not_true,Bool.false_and,Bool.false_and];exact aVC u (aE u) i s true sd sd sd hh rfl
  | false=>
   rw [e]at hh;rw [Bool.not_false,Bool.true_and];exact(aVD u (aE u) i s false sd sd sd hh rfl sd).ends (aYu t (i+1) q2)
theorem aER :Pure PP 37 [LUnit.av u] (.bool (gR u)) :=by
 have hf:=hu.f;have hd:=hu.n;refine gW (s:=aYr u) (by kernel_rfl) (by kernel_rfl) (by simp [keylessL,rN]) (by simp [keyless]) ?_;have a0:=aSZ u (by omega);have a1:=aKD u.name;have a2:=aCU (aE u) (by simp [aE];omega);have a3:=aCU u.needs (by omega);unfold gR;cases e1:jB u.name with
 |false=>rw [e1]at a1;simp only [Bool.false_and];exact aVx u (aE u) false a0 a1 rfl
 | true=>
  rw [e1]at a1;by_cases e2:u.needs.length≤20
  · rw [decide_eq_true e2];cases e3:gP (aE u)with
    |false=>rw [e3]at a2;simp only [Bool.true_and,Bool.false_and,Bool.and_false];exact aVz u (aE u) true false a0 a1 rfl (by simp;omega) a2 rfl
    | true=>
     rw [e3]at a2;cases e4:gP u.needs with
     |false=>rw [e4]at a3;simp only [Bool.true_and,Bool.false_and,Bool.and_false];exact aVA u (aE u) true true false a0 a1 rfl (by simp;omega) a2 rfl a3 rfl
     | true=>
      rw [e4]at a3;simp only [Bool.true_and];exact(aVB u (aE u) true true true a0 a1 rfl (by simp;omega) a2 rfl a3 rfl).ends (aYu u hu u.needs 0 rfl)
  · rw [decide_eq_false e2];simp only [Bool.and_false,Bool.false_and];exact aVy u (aE u) true a0 a1 rfl (by simp;omega)
end
def dE (l:List LUnit) :Bool:=decide (l.length≤10) &&l.all gR
theorem aK0 (l:List LUnit)(hl:l.length≤10)(hu:∀u∈l,FewU u) :∀ (t:List LUnit) (i:Nat),l.drop i=t→Ends PP 0 (aIv l (i:Int)).as (.ret (.bool (t.all gR))) (aG [] 0)
 | [],i,h=>by
  have:=bL h;exact aVw l i sd
 | u::t,i,h=>by
  obtain⟨q1,q2,q3⟩ :=bK h;have hp:=aER u (hu u (mem_of_getElem? q1));rw [all_cons];cases e:gR u with
  |false=>rw [e]at hp;exact aVu l i u false sd sd sd hp rfl
  |true=>rw [e]at hp;rw [Bool.true_and];exact(aVv l i u true sd sd sd hp rfl sd).ends (aK0 l hl hu t (i+1) q2)
theorem aS1 (l:List LUnit)(hu:∀u∈l,FewU u) :Pure PP 18 [.ilst 5 (map LUnit.av l) false] (.bool (dE l)) :=by
 refine aT (by kernel_rfl) (by simp [keylessL,keyless]) rfl ?_;unfold dE;by_cases h:l.length≤10
 · rw [decide_eq_true h,Bool.true_and];exact(aVt l (by simp;omega)).ends (aK0 l h hu l 0 rfl)
 · rw [decide_eq_false h,Bool.false_and];exact aVs l (by simp;omega)
def nJ (own:List aC) :List aC→List aC→List aC
 |out,[] =>out
 |out,s::t=>nJ own (if bE own s=true∨bE out s=true then out else out++ [s]) t
def nK (own:List aC) :List aC→List LUnit→List aC
 |out,[] =>out
 |out,u::l=>nK own (nJ own out u.needs) l
def cA (l:List LUnit) :List aC:=nK (aP l) [] l
theorem aCj (own:List aC) :∀ (t out:List aC),(nJ own out t).length≤out.length+t.length
 | [],out=>by simp [nJ]
 | s::t,out=>by
  rw [nJ];have:=aCj own t (if bE own s=true∨bE out s=true then out else out++ [s]);split at this<;>simp at this ⊢ <;>split<;>simp_all<;>omega
end
end Go.Hb
