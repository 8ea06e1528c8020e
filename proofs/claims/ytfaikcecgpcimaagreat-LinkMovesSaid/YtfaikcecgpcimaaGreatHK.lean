/- A machine on abstract values, its soundness, ways, plain laws. -/
import Derived.Test.YtfaikcecgpcimaaGreatHF
import Derived.Test.YtfaikcecgpcimaaGreatHG
import Derived.Test.YtfaikcecgpcimaaGreatHH
import Derived.Test.YtfaikcecgpcimaaGreatHI
import Derived.Test.YtfaikcecgpcimaaGreatHJ
set_option linter.defProp false
set_option linter.unusedVariables false
set_option linter.unusedSimpArgs false
set_option linter.unusedSectionVars false
set_option maxRecDepth 100000
set_option maxHeartbeats 4000000
namespace Go.Hb
open AV (frzOk ilst keyless keylessL nils)
open Bool (and_eq_true)
open Int (toNat_natCast)
open List (all_cons all_nil count_append flatten_cons getElem?_cons_succ getElem?_cons_zero getElem?_eq_getElem length length_cons length_set map map_cons map_nil mem_cons_of_mem mem_cons_self mem_of_getElem? replicate set take_of_length_le)
open Go.Proofs Tryz
noncomputable section
section
variable {p :Prog} {mf mc:List (Int×Int)} {F C:List Int} {to:List Int}
def MOk (p:Prog)(mf mc:List (Int×Int))(F C:List Int) :Prop:=∀ (i:Nat) (x:Node),p.nodes[i]?=some x→aX x.pats<1000000∧mN F C x.op x.n=some (bN mf mc x.op x.n) ∧kJ C x.pats=some (dX mc x.pats)
theorem aAZ {g:Nat→Int→Option (List Node)}{h:Int→List Node}{q:Int→List Int}:∀ (ks:List Int) (len:Nat),
  (∀k∈ks,∀len:Nat,len+ (q k).length≤1000000→ (∀ (i:Nat) (b:Int),(q k)[i]?=some b→eD to b= ((len+i:Nat) :Int)) →g len k=some (h k)) → (∀k∈ks,(h k).length= (q k).length∧ (q k)[0]?=some k) →
  len+ ((ks.map q).flatten).length≤1000000→ (∀ (i:Nat) (b:Int),((ks.map q).flatten)[i]?=some b→eD to b= ((len+i:Nat) :Int)) →
  gV g len ks=some (ks.map (eD to),(ks.map h).flatten)
 | [],len,_,_,_,_=>rfl
 | k::ks,len,hg,hh,hb,ht=>by
  simp only [map_cons,flatten_cons,List.length_append]at hb ht ⊢;obtain⟨h1,h2⟩ :=hh k (mem_cons_self ..);have hlt:∀ {i:Nat} {b:Int},(q k)[i]?=some b→i< (q k).length:=fun e=> (List.getElem?_eq_some_iff.1 e).1;rw [gV,hg k (mem_cons_self ..) len (by omega) (fun i b e=>ht i b (by rw [List.getElem?_append_left (hlt e)];exact e))];simp only
  rw [aAZ ks (len+ (h k).length) (fun k hk=>hg k (mem_cons_of_mem _ hk)) (fun k hk=>hh k (mem_cons_of_mem _ hk)) (by omega) (fun i b e=>by
   rw [ht ((q k).length+i) b (by rw [List.getElem?_append_right (by omega),show(q k).length+i- (q k).length=i by omega];exact e),h1];congr 1;omega)]
  simp only;rw [ht 0 k (by rw [List.getElem?_append_left (hlt h2)];exact h2)];rfl
theorem aBL (hp:FineP p)(hm:MOk p mf mc F C) :∀ (k:Nat) (a:Int) (len:Nat),0≤a→a<p.nodes.length→p.nodes.length-a.toNat≤k→len+ (pre p k a).length≤1000000→ (∀ (i:Nat) (b:Int),(pre p k a)[i]?=some b→eD to b= ((len+i:Nat) :Int)) →
  cP p F C k len a=some (wB p mf mc to k a)
 |0,a,len,ha,hn,hf,_,_=>by omega
 | k +1,a,len,ha,hn,hf,hb,ht=>by
  obtain⟨x,hx⟩ :∃x,p.nodes[a.toNat]?=some x:= ⟨_,getElem?_eq_getElem (by omega)⟩;obtain⟨_,hk10,hks⟩ :=hp.node _ _ hx;obtain⟨m1,m2,m3⟩ :=hm _ _ hx;have e:pre p (k+1) a=a:: (x.kids.map (pre p k)).flatten:=by rw [pre,hx]
  rw [e]at hb ht;simp only [length_cons]at hb
  have hkk:=aAZ (to:=to) (g:=cP p F C k) (h:=wB p mf mc to k) (q:=pre p k) x.kids (len+1) (fun c hc len h1 h2=>by
    have:=hks c hc;exact aBL hp hm k c len (by omega) (by omega) (by omega) h1 h2) (fun c hc=>by
    have:=hks c hc;obtain⟨y,g,_,_,h3⟩ :=vU hp (f:=k) (a:=c) (by omega) (by omega) (by omega);exact⟨aH0 mf mc to k c,by rw [h3];rfl⟩) (by omega) (fun i b h=>by
    rw [ht (i+1) b (by simpa using h)];congr 1;omega)
  rw [cP,if_pos ⟨ha,by omega⟩,hx];simp only;rw [if_pos ⟨by omega,m1⟩,m2];simp only;rw [m3];simp only;rw [hkk];simp only;rw [wB,hx];rfl
end
def aSW (x:Node)(i:Nat) :Nat→List Int→List Int→List Int
 |_,[],l=>l
 |j,k::ks,l=>aSW x i (j+1) ks (l.set k.toNat (l.getD i 0+aKz x j))
def aOa :Nat→List Node→List Int→List Int
 |_,[],l=>l
 |i,x::t,l=>aOa (i+1) t (aSW x i 0 x.kids l)
def aSX :List Int→List Int→List Int
 | [],l=>l
 |f::fs,l=>aSX fs (l.set f.toNat 1)
def aM5 (p:Prog) :List Int:=aOa 0 p.nodes (aSX p.funs (replicate p.nodes.length 0))
theorem aA0 {lo n:Int}:∀ {ks:List Int} {u v:List Bool},marks lo n ks u=some v→∀k∈ks,lo≤k∧k≤n-1
 | [],_,_,_,k,hk=>by cases hk
 | a ::ks,u,v,h,k,hk=>by
  simp only [marks]at h;split at h
  · rename_i g;rcases List.mem_cons.1 hk with rfl|hk
    ·exact inB_iff.1 g.1
    ·exact aA0 h k hk
  ·cases h
theorem aM6 {lo n k:Int}{ks:List Int}{u v:List Bool}(h:marks lo n (k::ks) u=some v) :u[k.toNat]?=some false∧marks lo n ks (u.set k.toNat true) =some v:=by
 simp only [marks]at h;split at h
 ·rename_i g;exact⟨g.2,h⟩
 ·cases h
theorem pN {p:Prog}{i:Nat}{x:Node}{t:List Node}{u v:List Bool}(h:cS p i (x::t) u=some v) :bH p x=true∧∃w,marks ((i:Int) +1) p.nodes.length x.kids u=some w∧cS p (i+1) t w=some v:=by
 simp only [cS]at h;split at h
 · rename_i g;split at h
   ·rename_i w hw;exact⟨g,w,hw,h⟩
   ·cases h
 ·cases h
theorem sQ {p:Prog}:∀ {t:List Node} {i:Nat} {u v:List Bool},cS p i t u=some v→v.length=u.length
 | [],i,u,v,h=>by simp only [cS,Option.some.injEq]at h;rw [h]
 | x::t,i,u,v,h=>by
  obtain⟨_,w,hw,h2⟩ :=pN h;rw [sQ h2,kX hw]
theorem sR {p:Prog}:∀ {t:List Node} {i:Nat} {u v:List Bool},cS p i t u=some v→∀ (j:Nat) (x:Node),t[j]?=some x→bH p x=true∧∀k∈x.kids,((i+j:Nat) :Int) <k∧k<p.nodes.length
 | [],i,u,v,h,j,x,hx=>by simp at hx
 | y::t,i,u,v,h,j,x,hx=>by
  obtain⟨g,w,hw,h2⟩ :=pN h;cases j with
  | zero=>
   simp at hx;subst hx;exact⟨g,fun k hk=>by have:=aA0 hw k hk;omega⟩
  | succ j=>
   have:=sR h2 j x (by simpa using hx);exact⟨this.1,fun k hk=>by have:=this.2 k hk;omega⟩
structure Sprop (p:Prog) (S:List Int) :Prop where
 len:S.length=p.nodes.length
 root:∀f∈p.funs,S[f.toNat]?=some 1
 kid:∀ (i:Nat) (x:Node) (d:Nat) (k:Int),p.nodes[i]?=some x→x.kids[d]?=some k→∃s,S[i]?=some s∧S[k.toNat]?=some (s+aKz x d)
inductive Reach (p:Prog) :Nat→Nat→Prop where
 |refl (a:Nat) :Reach p a a
 |step {a i:Nat} {x:Node} {k:Int}:Reach p a i→p.nodes[i]?=some x→k∈x.kids→Reach p a k.toNat
theorem Reach.first {p:Prog}{a m:Nat}(h:Reach p a m) :m=a∨∃ (x:Node) (k:Int),p.nodes[a]?=some x∧k∈x.kids∧Reach p k.toNat m:=by
 induction h with
 |refl=>exact .inl rfl
 | step h hx hk ih=>
  rename_i i x k;rcases ih with rfl| ⟨y,q,h1,h2,h3⟩
  ·exact .inr ⟨x,k,hx,hk,Reach.refl _⟩
  ·exact .inr ⟨y,q,h1,h2,h3.step hx hk⟩
theorem aKB {p:Prog}(hs:aN p=true) :Pure PP 138 [Prog.av p] (.int .i64 (checkN (aY p))) :=by
 have h2:=aKv p hs;rw [aP6]at h2;exact h2
theorem lT {p:Prog}(hp:aN p=true)(hf:aY p=true) :FineP p:=by
 have hs:=hp;simp only [aN,and_eq_true,decide_eq_true_eq]at hs;obtain⟨⟨⟨⟨s1,s2⟩,s3⟩,_⟩,s5⟩ :=hs;simp only [aY,and_eq_true]at hf;obtain⟨_,hf⟩ :=hf;split at hf
 · rename_i u hu;unfold allT at hf;split at hf
   · rename_i v hv;refine⟨s1,s2,fun i x hx=>?_,fun f hf=>?_⟩
     · have:=sR hv i x hx;have h10:=List.all_eq_true.1 s5 x (mem_of_getElem? hx);simp only [aV,and_eq_true,decide_eq_true_eq]at h10;exact⟨aCZ this.1,h10.1.1,fun k hk=>by have:=this.2 k hk;omega⟩
     ·have:=aA0 hu f hf;omega
   ·cases hf
 ·cases hf
theorem aSY {n:Nat}{i:Int}(h0:0≤i)(h1:i<n) : (numsL 0 n)[i.toNat]?=some i:=by
 rw [aFZ 0 (by omega)];congr 1;omega
def aEo (n:Nat)(m:List (Int×Int))(l:List Int) :Prop:=∀i:Int,0≤i→i<n→l[i.toNat]?=some (kN m i)
theorem aOb (n:Nat) :aEo n (sM n) (numsL 0 n) :=fun i h0 h1=>by rw [aSY h0 h1,aKA h0 h1]
mutual
theorem bAm (cons:List Con){mc:List (Int×Int)}{C:List Int}(hC:aEo cons.length mc C) :∀ (q:Pat),cD cons q=true→aEa C q=some (nX mc q)
 | .mk f n s ps,h=>by
  rw [cD,and_eq_true]at h;have hps:=aH1 cons hC ps h.2;have hN:aD9 C f n=some (if f=6 then kN mc n else n) :=by
   unfold aD9;by_cases hf:f=6
   · subst hf;have hh:=h.1;simp only [cO]at hh;simp [cX]at hh;obtain⟨⟨⟨h0,h1⟩,_⟩,_⟩ :=hh;rw [if_pos rfl,if_pos rfl,if_pos h0,hC n h0 (by omega)]
   ·rw [if_neg hf,if_neg hf]
  rw [aEa,hN];simp only;rw [hps,nX]
theorem aH1 (cons:List Con){mc:List (Int×Int)}{C:List Int}(hC:aEo cons.length mc C) :∀ (ps:List Pat),bQ cons ps=true→kJ C ps=some (dX mc ps)
 | [],_=>rfl
 | q::ps,h=>by
  rw [bQ,and_eq_true]at h;rw [kJ,bAm cons hC q h.1];simp only;rw [aH1 cons hC ps h.2,dX]
end
theorem nT {cons:List Con}:∀ {ps:List Pat},(∀q∈ps,cD cons q=true) →bQ cons ps=true
 | [],_=>rfl
 | q::ps,h=>by
  rw [bQ,h q (mem_cons_self ..),nT (fun x hx=>h x (mem_cons_of_mem _ hx))];rfl
theorem aBM {c:Nat}:∀ {ps:List Pat},(∀q∈ps,cC q≤c) →aX ps≤c*ps.length
 | [],_=>by simp [aX]
 | q::ps,h=>by
  have h1:=h q (mem_cons_self ..);have h2:=aBM (c:=c) (ps:=ps) (fun x hx=>h x (mem_cons_of_mem _ hx));simp only [aX,length_cons];rw [Nat.mul_add,Nat.mul_one];omega
theorem aKC {p:Prog}{mf mc:List (Int×Int)}{F C:List Int}(hF:aEo p.funs.length mf F)(hC:aEo p.cons.length mc C)(hB:∀i:Int,0≤i→i<p.funs.length→0≤kN mf i∧kN mf i≤1000000)(hs:p.funs.length≤320){x:Node}(h:bH p x=true)(h10:x.pats.length≤10) :
  (aX x.pats<1000000∧mN F C x.op x.n=some (bN mf mc x.op x.n) ∧kJ C x.pats=some (dX mc x.pats)) ∧nOk mf x:=by
 simp only [bH,and_eq_true,fO]at h;obtain⟨⟨⟨h1,_⟩,h2⟩,_⟩ :=h
 have hq:∀q∈x.pats,cC q≤12∧cD p.cons q=true:=fun q hq=>by
  have:=List.all_eq_true.1 h2 q hq;simpa [gB]using this
 have hps:aX x.pats≤12*x.pats.length:=aBM (fun q h=> (hq q h).1)
 have hr4:x.op=4→ -(p.funs.length:Int) ≤x.n∧x.n≤29:=fun e=>by
  rw [e]at h1;simp [bK,cX]at h1;omega
 have hr14:x.op=14→0≤x.n∧x.n<p.cons.length:=fun e=>by
  rw [e]at h1;simp [bK,cX]at h1;omega
 refine⟨⟨by omega,?_,aH1 p.cons hC x.pats (nT fun q h=> (hq q h).2)⟩,by omega,fun e hn=>?_⟩
 · unfold mN bN;by_cases h4:x.op=4
   · have hr:=hr4 h4;by_cases hn:x.n<0
     · have hb:=hB (-1-x.n) (by omega) (by omega);rw [if_pos ⟨h4,hn⟩,if_pos h4,if_neg (by omega),hF _ (by omega) (by omega)];simp only;rw [if_pos (by omega)]
     ·rw [if_neg (fun h=>hn h.2),if_neg (show ¬x.op=14 by omega),if_pos h4,if_pos (show 0≤x.n by omega)]
   · rw [if_neg (fun h=>h4 h.1),if_neg h4];by_cases h14:x.op=14
     · have hr:=hr14 h14;rw [if_pos h14,if_pos h14,if_pos hr.1,hC _ hr.1 hr.2]
     ·rw [if_neg h14,if_neg h14]
 · have hr:=hr4 e;have hb:=hB (-1-x.n) (by omega) (by omega);omega
theorem aGc {p:Prog}(hF:p.funs.length≤320){x:Node}(h:bH p x=true)(h10:x.pats.length≤10) :
  (aX x.pats<1000000∧mN (numsL 0 p.funs.length) (numsL 0 p.cons.length) x.op x.n=some (bN (sM p.funs.length) (sM p.cons.length) x.op x.n) ∧kJ (numsL 0 p.cons.length) x.pats=some (dX (sM p.cons.length) x.pats)) ∧nOk (sM p.funs.length) x:=
 aKC (aOb _) (aOb _) (fun i h0 h1=>by rw [aKA h0 h1];omega) hF h h10
def dL (p:Prog)(i:Int) :List Int:=match p.nodes[i.toNat]? with
 |some x=>x.kids
 |none=>[]
section
variable {p :Prog}
theorem sS {q:Int→List Int}(m:Int) :∀ (ks:List Int),(∀k∈ks,(q k).count m= [k].count m+ (((q k).map (dL p)).flatten).count m) →
  ((ks.map q).flatten).count m=ks.count m+ ((((ks.map q).flatten).map (dL p)).flatten).count m
 | [],_=>rfl
 | k::ks,h=>by
  have h1:=h k (mem_cons_self ..);have h2:=sS m ks (fun x hx=>h x (mem_cons_of_mem _ hx));rw [map_cons,flatten_cons,count_append,List.map_append,List.flatten_append,count_append,h1,h2,show k::ks= [k] ++ks from rfl,count_append];omega
theorem aBN (hp:FineP p)(m:Int) :∀ (f:Nat) (a:Int),0≤a→a<p.nodes.length→p.nodes.length-a.toNat≤f→ (pre p f a).count m= [a].count m+ (((pre p f a).map (dL p)).flatten).count m
 |0,a,ha,hn,hf=>by omega
 | f+1,a,ha,hn,hf=>by
  obtain⟨x,hx⟩ :∃x,p.nodes[a.toNat]?=some x:= ⟨_,getElem?_eq_getElem (by omega)⟩;obtain⟨_,_,hks⟩ :=hp.node _ _ hx;have e:pre p (f+1) a=a:: (x.kids.map (pre p f)).flatten:=by rw [pre,hx]
  have ek:dL p a=x.kids:=by unfold dL;rw [hx]
  have h2:=sS (p:=p) m x.kids (fun k hk=>by
   have:=hks k hk;exact aBN hp m f k (by omega) (by omega) (by omega))
  rw [e,map_cons,flatten_cons,count_append,ek,show a:: (x.kids.map (pre p f)).flatten= [a] ++ (x.kids.map (pre p f)).flatten from rfl,count_append,h2]
theorem aSZ (hp:FineP p) :∀ (f:Nat) (a:Int),0≤a→a<p.nodes.length→∀y∈pre p f a,0≤y∧y<p.nodes.length
 |0,a,_,_,y,hy=>by cases hy
 | f +1,a,ha,hn,y,hy=>by
  obtain⟨x,hx⟩ :∃x,p.nodes[a.toNat]?=some x:= ⟨_,getElem?_eq_getElem (by omega)⟩;obtain⟨_,_,hks⟩ :=hp.node _ _ hx;have e:pre p (f+1) a=a:: (x.kids.map (pre p f)).flatten:=by rw [pre,hx]
  rw [e]at hy;rcases List.mem_cons.1 hy with rfl|hy
  ·exact⟨ha,hn⟩
  · obtain⟨l,hl,hy⟩ :=List.mem_flatten.1 hy;obtain⟨k,hk,rfl⟩ :=List.mem_map.1 hl;have:=hks k hk;exact aSZ hp f k (by omega) (by omega) y hy
def jW (u:List Bool)(m:Int) :Nat:=if u[m.toNat]?=some true then 1 else 0
theorem hX {lo n:Int}(hlo:0≤lo){m:Int}(hm:0≤m) :∀ {ks:List Int} {u v:List Bool},marks lo n ks u=some v→ks.count m+jW u m=jW v m
 | [],u,v,h=>by cases h;simp
 | k ::ks,u,v,h=>by
  have hk:=aA0 h k (mem_cons_self ..);obtain⟨h1,h2⟩ :=aM6 h;have h3:=hX hlo hm h2;rw [←h3,show k::ks= [k] ++ks from rfl,count_append];have hlt:= (List.getElem?_eq_some_iff.1 h1).1;by_cases e:k=m
  · subst e;have a1:jW u k=0:=by unfold jW;rw [h1];rfl
    have a2:jW (u.set k.toNat true) k=1:=by unfold jW;rw [List.getElem?_set_self hlt];rfl
    rw [a1,a2];simp;omega
  · have a1:jW (u.set k.toNat true) m=jW u m:=by unfold jW;rw [List.getElem?_set_ne (by omega)]
    rw [a1,List.count_singleton,if_neg (by simpa using e)];omega
theorem kK {m:Int}(hm:0≤m) :∀ {t:List Node} {i:Nat} {u v:List Bool},cS p i t u=some v→ ((t.map Node.kids).flatten).count m+jW u m=jW v m
 | [],i,u,v,h=>by simp only [cS,Option.some.injEq]at h;subst h;simp
 | x::t,i,u,v,h=>by
  obtain⟨_,w,h1,h2⟩ :=pN h;have h3:=hX (by omega) hm h1;have h4:=kK hm h2;rw [map_cons,flatten_cons,count_append];omega
theorem aGd {m:Int}:∀ {t:List Node},((t.map Node.kids).flatten).count m≤1→∀ (i j:Nat) (x y:Node),t[i]?=some x→t[j]?=some y→m∈x.kids→m∈y.kids→i=j
 | [],_,i,j,x,y,hx,_,_,_=>by simp at hx
 | z ::t,h,i,j,x,y,hx,hy,mx,my=>by
  rw [map_cons,flatten_cons,count_append]at h;have inT:∀ {i:Nat} {x:Node},t[i]?=some x→m∈x.kids→0< ((t.map Node.kids).flatten).count m:=fun {i x} hx mx=>
   List.count_pos_iff.2 (List.mem_flatten.2 ⟨x.kids,List.mem_map.2 ⟨x,mem_of_getElem? hx,rfl⟩,mx⟩)
  cases i with
  | zero=>
   simp only [getElem?_cons_zero,Option.some.injEq]at hx;subst hx;cases j with
   |zero=>rfl
   | succ j=>
    simp only [getElem?_cons_succ]at hy;have:=inT hy my;have:=List.count_pos_iff.2 mx;omega
  | succ i=>
   simp only [getElem?_cons_succ]at hx;cases j with
   | zero=>
    simp only [getElem?_cons_zero,Option.some.injEq]at hy;subst hy;have:=inT hx mx;have:=List.count_pos_iff.2 my;omega
   | succ j=>
    simp only [getElem?_cons_succ]at hy;rw [aGd (by omega) i j x y hx hy mx my]
theorem aOc {m:Int}:∀ {t:List Node} {i:Nat} {x:Node},t[i]?=some x→x.kids.count m≤ ((t.map Node.kids).flatten).count m
 | [],i,x,hx=>by simp at hx
 | z::t,0,x,hx=>by
  simp only [getElem?_cons_zero,Option.some.injEq]at hx;subst hx;rw [map_cons,flatten_cons,count_append];omega
 | z::t,i+1,x,hx=>by
  simp only [getElem?_cons_succ]at hx;have:=aOc (m:=m) hx;rw [map_cons,flatten_cons,count_append];omega
theorem aOd {m i:Int}:∀ (L:List Int),(∀j∈L,m∈dL p j→j=i) → ((L.map (dL p)).flatten).count m≤L.count i* (dL p i).count m
 | [],_=>by simp
 | j ::L,h=>by
  have h1:=aOd L (fun x hx=>h x (mem_cons_of_mem _ hx));rw [map_cons,flatten_cons,count_append,show j::L= [j] ++L from rfl,count_append,Nat.add_mul];by_cases hm:m∈dL p j
  · have:=h j (mem_cons_self ..) hm;subst this;simp;exact h1
  · rw [List.count_eq_zero.2 hm];exact Nat.le_trans (by simpa using h1) (Nat.le_add_left ..)
theorem bCv (hp:FineP p)(hK:∀m:Int,0≤m→p.funs.count m+ ((p.nodes.map Node.kids).flatten).count m≤1){L:List Int}(hin:∀x∈L,0≤x∧x<p.nodes.length)(hL:∀m:Int,L.count m=p.funs.count m+ ((L.map (dL p)).flatten).count m) :∀ (b m:Nat),m≤b→L.count (m:Int) ≤1:=by
 intro b
 induction b with
 | zero=>
  intro m hmb;have hm:m=0:=by omega
  subst hm;have e:=hL ((0:Nat) :Int);have z: ((L.map (dL p)).flatten).count ((0:Nat) :Int) =0:=by
   refine List.count_eq_zero.2 (fun h=>?_);obtain⟨l,hl,hy⟩ :=List.mem_flatten.1 h;obtain⟨j,hj,rfl⟩ :=List.mem_map.1 hl;unfold dL at hy;split at hy
   · rename_i x hx;have:= (hp.node _ _ hx).2.2 _ hy;omega
   ·cases hy
  have:=hK ((0:Nat) :Int) (by omega);omega
 | succ b ih=>
  intro m hmb;have e:=hL (m:Int);have hk:=hK (m:Int) (by omega);by_cases hz: ((L.map (dL p)).flatten).count (m:Int) =0
  ·omega
  · have hpos:=List.count_pos_iff.1 (Nat.pos_of_ne_zero hz);obtain⟨l,hl,hy⟩ :=List.mem_flatten.1 hpos;obtain⟨i,hi,rfl⟩ :=List.mem_map.1 hl;have hir:=hin i hi;obtain⟨x,hx⟩ :∃x,p.nodes[i.toNat]?=some x:= ⟨_,getElem?_eq_getElem (by omega)⟩;have ei:dL p i=x.kids:=by unfold dL;rw [hx]
    rw [ei]at hy;have him:= (hp.node _ _ hx).2.2 _ hy;have hci:L.count i≤1:=by
     have:=ih i.toNat (by omega);rwa [show((i.toNat:Nat) :Int) =i by omega]at this
    have hle:=aOd (p:=p) (m:= (m:Int)) (i:=i) L (fun j hj hmj=>by
     have hjr:=hin j hj;obtain⟨y,hy'⟩ :∃y,p.nodes[j.toNat]?=some y:= ⟨_,getElem?_eq_getElem (by omega)⟩;have ej:dL p j=y.kids:=by unfold dL;rw [hy']
     rw [ej]at hmj;have:=aGd (by omega) _ _ y x hy' hx hmj hy;omega)
    rw [ei]at hle;have hkl:=aOc (m:= (m:Int)) hx;have:L.count i*x.kids.count (m:Int) ≤1*x.kids.count (m:Int) :=Nat.mul_le_mul_right _ hci;omega
theorem qI :∀ (n:Nat) (l:List Nat),l.Nodup→ (∀x∈l,x<n) →l.length≤n
 |0,[],_,_=>by simp
 |0,x::l,_,h=>by have:=h x (mem_cons_self ..);omega
 | n+1,l,hd,h=>by
  by_cases hm:n∈l
  · have h1:=qI n (l.erase n) (hd.erase n) (fun x hx=>by
     have:=h x (List.mem_of_mem_erase hx)
     have hne:x≠n:=fun e=>by
      subst e;exact hd.not_mem_erase hx
     omega)
    rw [List.length_erase_of_mem hm]at h1;omega
  · have:=qI n l hd (fun x hx=>by
     have:=h x hx;have hne:x≠n:=fun e=>hm (e ▸ hx);omega)
    omega
end
theorem aEp {L:List Int}(h:∀a,L.count a≤1) :L.Nodup:=List.nodup_iff_count.2 h
theorem aOe :∀ (n:Nat) (l:List Int),(∀i:Nat,i<n→ (i:Int) ∈l) →n≤l.length
 |0,l,_=>Nat.zero_le _
 | n+1,l,h=>by
  have h0:=h n (Nat.lt_succ_self n);have h1:=aOe n (l.erase (n:Int)) (fun i hi=> (List.mem_erase_of_ne (by omega)).2 (h i (by omega)));rw [List.length_erase_of_mem h0]at h1;have:=List.length_pos_of_mem h0;omega
theorem all_in {p:Prog}(hp:FineP p)(hK:∀m:Nat,m<p.nodes.length→p.funs.count (m:Int) + ((p.nodes.map Node.kids).flatten).count (m:Int) =1){L:List Int}(hL:∀m:Int,L.count m=p.funs.count m+ ((L.map (dL p)).flatten).count m) :∀ (b m:Nat),m≤b→m<p.nodes.length→ (m:Int) ∈L:=by
 intro b
 induction b with
 | zero=>
  intro m hmb hm;have e:=hL (m:Int);have hk:=hK m hm;by_cases hz: ((p.nodes.map Node.kids).flatten).count (m:Int) =0
  ·exact List.count_pos_iff.1 (by omega)
  · obtain⟨l,hl,hy⟩ :=List.mem_flatten.1 (List.count_pos_iff.1 (Nat.pos_of_ne_zero hz));obtain⟨x,hx,rfl⟩ :=List.mem_map.1 hl;obtain⟨i,hi⟩ :=List.mem_iff_getElem?.1 hx;have:= (hp.node _ _ hi).2.2 _ hy;omega
 | succ b ih=>
  intro m hmb hm;have e:=hL (m:Int);have hk:=hK m hm;by_cases hz: ((p.nodes.map Node.kids).flatten).count (m:Int) =0
  ·exact List.count_pos_iff.1 (by omega)
  · obtain⟨l,hl,hy⟩ :=List.mem_flatten.1 (List.count_pos_iff.1 (Nat.pos_of_ne_zero hz));obtain⟨x,hx,rfl⟩ :=List.mem_map.1 hl;obtain⟨i,hi⟩ :=List.mem_iff_getElem?.1 hx;have him:= (hp.node _ _ hi).2.2 _ hy;have hiL:=ih i (by omega) (by omega);have: (m:Int) ∈ (L.map (dL p)).flatten:=List.mem_flatten.2 ⟨x.kids,List.mem_map.2 ⟨(i:Int),hiL,by unfold dL;rw [toNat_natCast,hi]⟩,hy⟩;have:=List.count_pos_iff.2 this;exact List.count_pos_iff.1 (by omega)
theorem nU {p:Prog}(hs:aN p=true)(hf:aY p=true) : ((p.funs.map (pre p p.nodes.length)).flatten).Nodup∧ ((p.funs.map (pre p p.nodes.length)).flatten).length=p.nodes.length∧ (∀x∈ (p.funs.map (pre p p.nodes.length)).flatten,0≤x∧x<p.nodes.length) ∧
  (∀ (i:Nat) (x:Node),p.nodes[i]?=some x→bH p x=true) :=by
 have hp:=lT hs hf;simp only [aY,and_eq_true]at hf;obtain⟨_,hf⟩ :=hf;split at hf
 · rename_i u hu;unfold allT at hf;split at hf
   · rename_i v hv
     have hK:∀m:Int,0≤m→p.funs.count m+ ((p.nodes.map Node.kids).flatten).count m≤1:=fun m hm=>by
      have h1:=hX (by omega) hm hu;have h2:=kK hm hv;have h3:jW v m≤1:=by unfold jW;split<;>omega
      omega
     have hin:∀x∈ (p.funs.map (pre p p.nodes.length)).flatten,0≤x∧x<p.nodes.length:=fun x hx=>by
      obtain⟨l,hl,hy⟩ :=List.mem_flatten.1 hx;obtain⟨k,hk,rfl⟩ :=List.mem_map.1 hl;have:=hp.funs k hk;exact aSZ hp _ k this.1 this.2 x hy
     have hL:∀m:Int,((p.funs.map (pre p p.nodes.length)).flatten).count m=p.funs.count m+ ((((p.funs.map (pre p p.nodes.length)).flatten).map (dL p)).flatten).count m:=fun m=>sS m p.funs (fun k hk=>by
      have:=hp.funs k hk;exact aBN hp m _ k this.1 this.2 (by omega))
     have hd: ((p.funs.map (pre p p.nodes.length)).flatten).Nodup:=aEp (fun a=>by
      by_cases ha:a∈ (p.funs.map (pre p p.nodes.length)).flatten
      · have hr:=hin a ha;have:=bCv hp hK hin hL a.toNat a.toNat (Nat.le_refl _);rwa [show((a.toNat:Nat) :Int) =a by omega]at this
      ·rw [List.count_eq_zero.2 ha];omega)
     refine⟨hd,?_,hin,fun i x hx=> (sR hv i x hx).1⟩;have hd2: (((p.funs.map (pre p p.nodes.length)).flatten).map Int.toNat).Nodup:=by
      rw [List.nodup_iff_pairwise_ne]at hd ⊢;refine List.pairwise_map.2 (hd.imp_of_mem (fun {a b} ha hb hne e=>?_));have:=hin a ha;have:=hin b hb;exact hne (by omega)
     have:=qI p.nodes.length _ hd2 (fun x hx=>by
      obtain⟨y,hy,rfl⟩ :=List.mem_map.1 hx;have:=hin y hy;omega)
     rw [List.length_map]at this;refine Nat.le_antisymm this (aOe _ _ (fun i hi=>all_in hp (fun m hm=>?_) hL i i (Nat.le_refl _) hi));have h1:=hX (m:= (m:Int)) (by omega) (by omega) hu;have h2:=kK (m:= (m:Int)) (by omega) hv;have hl1:=kX hu;have hl2:=sQ hv;rw [List.length_replicate]at hl1;have h3:jW (replicate p.nodes.length false) (m:Int) =0:=by
      unfold jW;rw [toNat_natCast,List.getElem?_replicate,if_pos hm];rfl
     have h4:jW v (m:Int) =1:=by
      unfold jW;have hlt:m<v.length:=by omega
      have:=List.all_eq_true.1 hf _ (List.getElem_mem hlt);rw [toNat_natCast,getElem?_eq_getElem hlt,this];rfl
     omega
   ·cases hf
 ·cases hf
abbrev aH2 :AV:=.agg [.ilst 4 (map Node.av ([] :List Node)) true,.ilst 1 (map aP ([] :List Int)) true,.int .i64 0,.ilst 2 (map Con.av ([] :List Con)) true]
def fP (s:aC) :List Con→Int→Int
 | [],_=> -1
 |c::t,i=>if c.name=s then i else fP s t (i+1)
theorem pA (s:aC) :∀ (l:List Con) (i:Int),0≤i→fP s l i= -1∨ (i≤fP s l i∧fP s l i<i+l.length∧∃d,l[(fP s l i-i).toNat]?=some d∧d.name=s)
 | [],i,h=>.inl rfl
 | c ::t,i,h=>by
  simp only [fP];split
  · rename_i e;exact .inr ⟨by omega,by simp;omega,c,by simp,e⟩
  · rcases pA s t (i+1) (by omega)with g| ⟨g1,g2,d,g3,g4⟩
    ·exact .inl g
    · refine .inr ⟨by omega,by rw [length_cons];omega,d,?_,g4⟩;rw [show(fP s t (i+1) -i).toNat= (fP s t (i+1) - (i+1)).toNat+1 by omega,getElem?_cons_succ];exact g3
def aH3(a:List Int)(b:Int):TS:=⟨(tf 75 26 [(0,(iI a)),(1,(iI a)),(4,(bV false)),(5,(nI b))] [kc f75 116,kl f75 116,.inBlock 0,kc f75 15]),[],[],0⟩
def aH4(a b:Int)(c:aC)(d:List Pat)(e:Int):TS:=⟨(tf 163 53 [kp 2 0,kp 3 1,(4,(bV false)),(5,(nI e))] [kc f163 116,kl f163 116,.inBlock 0,kc f163 15]),[],[oC 0 [(nI a),(nI b),(aB c),(iP d)],oC 1 [(nI a),(nI b),(aB c),(iP d)]],2⟩
def aH5(a:Node)(b:Int):TS:=⟨(tf 83 54 [kp 2 0,kp 3 1,(4,(bV false)),(5,(nI b))] [kc f83 116,kl f83 116,.inBlock 0,kc f83 15]),[],[oC 0 [(nI a.op),(nI a.n),(iI a.kids),(iP a.pats)],oC 1 [(nI a.op),(nI a.n),(iI a.kids),(iP a.pats)]],2⟩
def aH6(a:Prog)(b:Int):TS:=⟨(tf 26 75 [kp 2 0,kp 3 1,(4,(bV false)),(5,(nI b))] [kc f26 116,kl f26 116,.inBlock 0,kc f26 15]),[],[oC 0 [(iN a.nodes),(iI a.funs),(nI a.main),(iC a.cons)],oC 1 [(iN a.nodes),(iI a.funs),(nI a.main),(iC a.cons)]],2⟩
def aH7(a:Prog)(b:Int):TS:=⟨(tf 26 75 [kp 2 0,kp 3 1,(4,(bV false)),(6,(nI b))] [kc f26 244,kl f26 244,.inBlock 2,kc f26 31]),[],[oC 0 [(iN a.nodes),(iI a.funs),(nI a.main),(iC a.cons)],oC 1 [(iN a.nodes),(iI a.funs),(nI a.main),(iC a.cons)]],2⟩
def aVF (a:List Int):=fun b=>(tT 0 (start PP 75 [(iI a),(iI a)])<|gl 8 aP a<|gl 1 aP a<|.b 2 10 ((a.length:Int) != (a.length:Int)) .x<|.W 9 0 [] (aH3 a 0))|>.f b tv
def aY9(b:List Int)(a:Int):=tT 0 (aH3 b a)<|gl 5 aP b<|gd 2 14 (a< (b.length:Int)) (.y fun c:Int=>.i [rn 5,.reg (.d::.d::.ans (.idx (aP c))::rd 3 [.ans (.idx (aP c)),.d,.d])] [hA (0≤a),.a (((b)[a.toNat]?) =some c) (bS (f:=aP)),hA (0≤a),.a (((b)[a.toNat]?) =some c) (bS (f:=aP))]<|.b 0 25 (c != c) .x<|gw 6 16 (a+1)<|.W 3 0 [] (aH3 b (a+1)))<|gE 7 0 (bV true)
def aVG:=fun c d e f a b g i=>aY9 c d|>.t f e a b a b|>.f g i tv
def aVH:=fun a b c=>aY9 a b|>.f c tv
def aVI (c d:Int)(a:aC)(b:List Pat):=fun e f g i=>(tT 0 (start PP 163 [(.agg [(nI c),(nI d),(aB a),(iP b)]),(.agg [(nI c),(nI d),(aB a),(iP b)])])<|.b 15 11 (c != c) .x<|.b 7 18 (d != d) .x<|.b 7 25 (!(bF a.length (aA a) a.length (aA a))) .x<|gm 2 aD b<|gm 2 aD b<|.b 3 33 ((b.length:Int) != (b.length:Int)) .x<|.W 9 2 [0,1] (aH4 c d a b 0))|>.f e|>.f f|>.f g|>.f i tv
def aZa(i j:Int)(k:aC)(b:List Pat)(a:Int):=tT 0 (aH4 i j k b a)<|gm 6 aD b<|gd 2 38 (a< (b.length:Int)) (.y fun c:Int=>.y fun d:Int=>.y fun e:aC=>.y fun f:List Pat=>.y fun g:Bool=>.i [rn 5,.reg (rd 3 (.ans (.idx (Pat.av (Pat.mk c d e f)))::rd 4 [.ans (.idx (Pat.av (Pat.mk c d e f))),.d,.pure (bV g),.d]))] [hA (0≤a),.a (((b)[a.toNat]?) =some (Pat.mk c d e f)) (gJ aD),hA (0≤a),.a (((b)[a.toNat]?) =some (Pat.mk c d e f)) (gJ aD),hA (Pure PP 163 [(.agg [(nI c),(nI d),(aB e),(iP f)]),(.agg [(nI c),(nI d),(aB e),(iP f)])] (bV g))]<|.b 0 52 (!g) .x<|gw 6 40 (a+1)<|.W 3 2 [0,1] (aH4 i j k b (a+1)))<|gE 7 2 (bV true)
def aVJ:=fun c d e f g i j k l m n a b o p q=>aZa c d e f g|>.t n i j k l m a b a b o|>.f p q tv
def aVK:=fun a b c d e f=>aZa a b c d e|>.f f tv
def aVL (a:Node):=fun b c d e f g=>(tT 0 (start PP 83 [(Node.av a),(Node.av a)])<|.b 15 11 (a.op != a.op) .x<|.b 7 18 (a.n != a.n) .x<|fQ 4 75 [(iI a.kids),(iI a.kids)]<|fun b=>.b 3 26 (!b) .x<|gm 2 aD a.pats<|gm 2 aD a.pats<|.b 3 34 ((a.pats.length:Int) != (a.pats.length:Int)) .x<|.W 9 2 [0,1] (aH5 a 0))|>.f c|>.f d b e|>.f f|>.f g tv
def aZb(b:Node)(a:Int):=tT 0 (aH5 b a)<|gm 6 aD b.pats<|gd 2 39 (a< (b.pats.length:Int)) (.y fun c:Int=>.y fun d:Int=>.y fun e:aC=>.y fun f:List Pat=>.y fun g:Bool=>.i [rn 5,.reg (rd 3 (.ans (.idx (Pat.av (Pat.mk c d e f)))::rd 4 [.ans (.idx (Pat.av (Pat.mk c d e f))),.d,.pure (bV g),.d]))] [hA (0≤a),.a (((b.pats)[a.toNat]?) =some (Pat.mk c d e f)) (gJ aD),hA (0≤a),.a (((b.pats)[a.toNat]?) =some (Pat.mk c d e f)) (gJ aD),hA (Pure PP 163 [(.agg [(nI c),(nI d),(aB e),(iP f)]),(.agg [(nI c),(nI d),(aB e),(iP f)])] (bV g))]<|.b 0 53 (!g) .x<|gw 6 41 (a+1)<|.W 3 2 [0,1] (aH5 b (a+1)))<|gE 7 2 (bV true)
def aVM:=fun c d e f g i j k a b l m n=>aZb c d|>.t k e f g i j a b a b l|>.f m n tv
def aVN:=fun a b c=>aZb a b|>.f c tv
def aVO (a:Prog):=fun b c d e f g=>(tT 0 (start PP 26 [(Prog.av a),(Prog.av a)])<|gl 11 Node.av a.nodes<|gl 2 Node.av a.nodes<|.b 2 14 ((a.nodes.length:Int) != (a.nodes.length:Int)) .x<|fQ 4 75 [(iI a.funs),(iI a.funs)]<|fun b=>.b 3 22 (!b) .x<|.b 7 29 (a.main != a.main) .x<|gl 2 Con.av a.cons<|gl 2 Con.av a.cons<|.b 3 37 ((a.cons.length:Int) != (a.cons.length:Int)) .x<|.W 9 2 [0,1] (aH6 a 0))|>.f c b d|>.f e|>.f f|>.f g tv
def aZc(c:Prog)(b:Int):=tT 0 (aH6 c b)<|gl 6 Con.av c.cons<|gd 2 42 (b< (c.cons.length:Int)) (.y fun a:Con=>.i [rn 5,.reg (rd 3 (.ans (.idx (Con.av a))::rd 4 [.ans (.idx (Con.av a)),.d,.d]))] [hA (0≤b),.a (((c.cons)[b.toNat]?) =some a) (bS (f:=Con.av)),hA (0≤b),.a (((c.cons)[b.toNat]?) =some a) (bS (f:=Con.av))]<|.b 0 55 (!((bF a.name.length (aA a.name) a.name.length (aA a.name)) && ((a.args==a.args) &&true))) .x<|gw 6 44 (b+1)<|.W 3 2 [0,1] (aH6 c (b+1)))<|.W 9 2 [0,1] (aH7 c 0)
def aVP:=fun c d e f a b g i=>aZc c d|>.t f e a b a b|>.f g i tv
def aVQ:=fun a b c=>aZc a b|>.f c tv
def aZd(b:Prog)(a:Int):=tT 0 (aH7 b a)<|gl 6 Node.av b.nodes<|gd 2 60 (a< (b.nodes.length:Int)) (.y fun c:Node=>.y fun d:Bool=>.i [rn 5,.reg (rd 3 (.ans (.idx (Node.av c))::rd 4 [.ans (.idx (Node.av c)),.d,.pure (bV d),.d]))] [hA (0≤a),.a (((b.nodes)[a.toNat]?) =some c) (bS (f:=Node.av)),hA (0≤a),.a (((b.nodes)[a.toNat]?) =some c) (bS (f:=Node.av)),hA (Pure PP 83 [(Node.av c),(Node.av c)] (bV d))]<|.b 0 74 (!d) .x<|gw 6 62 (a+1)<|.W 3 2 [0,1] (aH7 b (a+1)))<|gE 7 2 (bV true)
def aVR:=fun c d e f g a b i j k=>aZd c d|>.t g e f a b a b i|>.f j k tv
def aVS:=fun a b c=>aZd a b|>.f c tv
theorem aEq (s:aC) :bF (length s) (aA s) (length s) (aA s) =true:=by rw [dQ];simp
theorem aKD (a:List Int)(ha:a.length<1000000) :∀ (t:List Int) (i:Nat),a.drop i=t→Ends PP 0 (aH3 a (i:Int)).as (.ret (.bool true)) (aG [] 0)
 | [],i,h=>by
  have:=bD h;exact aVH a i sd
 | y::t,i,h=>by
  obtain⟨g1,g2,g3⟩ :=bC h;have h1:=aVG a i y sd sd sd (by simp) sd;exact h1.ends (aKD a ha t (i+1) g2)
theorem aKE (a:List Int)(ha:a.length<1000000) :Pure PP 75 [.ilst 1 (map aP a) false,.ilst 1 (map aP a) false] (.bool true) :=
 aQ (by kernel_rfl) rfl rfl ((aVF a (by simp)).ends (aKD a ha a 0 rfl))
theorem aKF (f n:Int)(s:aC)(ps:List Pat)(hl:ps.length<1000000)(ih:∀p∈ps,Pure PP 163 [Pat.av p,Pat.av p] (.bool true)) :∀ (t:List Pat) (i:Nat),ps.drop i=t→Ends PP 0 (aH4 f n s ps (i:Int)).as (.ret (.bool true)) (aG [] 0)
 | [],i,h=>by
  have:=bD h;exact aVK f n s ps i sd
 | .mk f1 n1 s1 ps1::t,i,h=>by
  obtain⟨g1,g2,g3⟩ :=bC h;have h1:=aVJ f n s ps i f1 n1 s1 ps1 true sd sd sd (ih (.mk f1 n1 s1 ps1) (mem_of_getElem? g1)) rfl sd;exact h1.ends (aKF f n s ps hl ih t (i+1) g2)
mutual
theorem aS0 :∀ (q:Pat),cC q<1000000→Pure PP 163 [Pat.av q,Pat.av q] (.bool true)
 | .mk f n s ps,h=>by
  simp only [cC]at h;have:=eJ ps;exact aQ (by kernel_rfl) (by simp [keylessL,mB]) rfl ((aVI f n s ps (by simp) (by simp) (by rw [aEq];rfl) (by simp)).ends (aKF f n s ps (by omega) (aH8 ps (by omega)) ps 0 rfl))
theorem aH8 :∀ (ps:List Pat),aX ps<1000000→∀p∈ps,Pure PP 163 [Pat.av p,Pat.av p] (.bool true)
 | [],_,p,hp=>by cases hp
 | q::ps,h,p,hp=>by
  simp only [aX]at h;rcases List.mem_cons.1 hp with e|hp
  ·rw [e];exact aS0 q (by omega)
  ·exact aH8 ps (by omega) p hp
end
theorem aKG (x:Node)(hl:x.pats.length<1000000)(ih:∀p∈x.pats,Pure PP 163 [Pat.av p,Pat.av p] (.bool true)) :∀ (t:List Pat) (i:Nat),x.pats.drop i=t→Ends PP 0 (aH5 x (i:Int)).as (.ret (.bool true)) (aG [] 0)
 | [],i,h=>by
  have:=bD h;exact aVN x i sd
 | .mk f1 n1 s1 ps1::t,i,h=>by
  obtain⟨g1,g2,g3⟩ :=bC h;have h1:=aVM x i f1 n1 s1 ps1 true sd sd sd (ih (.mk f1 n1 s1 ps1) (mem_of_getElem? g1)) rfl sd;exact h1.ends (aKG x hl ih t (i+1) g2)
def aVT (x:Node) :Prop:=x.kids.length<1000000∧aX x.pats<1000000
structure FitP (q:Prog) :Prop where
 nodes:q.nodes.length≤1000000
 funs:q.funs.length<1000000
 cons:q.cons.length<1000000
 node:∀x∈q.nodes,aVT x
theorem aS1 (x:Node)(h:aVT x) :Pure PP 83 [Node.av x,Node.av x] (.bool true) :=by
 have:=eJ x.pats;have h1:=h.1;have h2:=h.2;exact aQ (by kernel_rfl) (by simp [keylessL,Node.av,keyless]) rfl ((aVL x true (by simp) (by simp) (aKE x.kids h.1) rfl (by simp)).ends (aKG x (by omega) (aH8 x.pats h.2) x.pats 0 rfl))
theorem aZe (p:Prog)(hp:FitP p) :∀ (t:List Node) (i:Nat),p.nodes.drop i=t→Ends PP 0 (aH7 p (i:Int)).as (.ret (.bool true)) (aG [] 0)
 | [],i,h=>by
  have:=bD h;exact aVS p i sd
 | x::t,i,h=>by
  obtain⟨g1,g2,g3⟩ :=bC h;have hn:=hp.nodes;have h1:=aVR p i x true sd sd sd (aS1 x (hp.node x (mem_of_getElem? g1))) rfl sd;exact h1.ends (aZe p hp t (i+1) g2)
theorem aZf (p:Prog)(hp:FitP p) :∀ (t:List Con) (i:Nat),p.cons.drop i=t→Ends PP 0 (aH6 p (i:Int)).as (.ret (.bool true)) (aG [] 0)
 | [],i,h=>by
  have:=bD h;exact(aVQ p i sd).ends (aZe p hp p.nodes 0 rfl)
 | c::t,i,h=>by
  obtain⟨g1,g2,g3⟩ :=bC h;have hn:=hp.cons;have h1:=aVP p i c sd sd sd (by rw [aEq];simp) sd;exact h1.ends (aZf p hp t (i+1) g2)
theorem aM7 (p:Prog)(hp:FitP p) :Pure PP 26 [Prog.av p,Prog.av p] (.bool true) :=
 aQ (by kernel_rfl) (by simp [keylessL,Prog.av,keyless]) rfl ((aVO p true (by simp) (aKE p.funs hp.funs) rfl (by simp) (by simp)).ends (aZf p hp p.cons 0 rfl))
theorem aP8 {f:Nat}{args:List AV}{v v':AV}(h:Pure PP f args v)(hv:∀ (E:Emb) (cv:Value),VR E v cv→VR E v' cv) :Pure PP f args v':=fun hh=>by
 obtain⟨g,hg,he⟩ :=h hh;exact⟨g,hg,aP7 he hv⟩
theorem aVU {E:Emb}{e:Int}{cv:Value}(h:VR E (.tup [aH2,.int .i64 e]) cv) :VR E (.tup [Prog.av ⟨[],[],0,[]⟩,.int .i64 e]) cv:=by
 simp only [VR]at h ⊢;obtain⟨us,h1,h2⟩ :=h;obtain⟨u,us',rfl,h3,h4⟩ :=h2.cons_inv;simp only [aH2,VR]at h3;obtain⟨ws,rfl,h5⟩ :=h3;obtain⟨a1,w1,rfl,c1,h5⟩ :=h5.cons_inv;obtain⟨a2,w2,rfl,c2,h5⟩ :=h5.cons_inv;obtain⟨a3,w3,rfl,c3,h5⟩ :=h5.cons_inv;obtain⟨a4,w4,rfl,c4,h5⟩ :=h5.cons_inv;refine⟨_,h1,VRs.cons ?_ h4⟩;simp only [Prog.av,VR];exact⟨_,rfl,VRs.cons (sP c1) (VRs.cons (sP c2) (VRs.cons c3 (VRs.cons (sP c4) h5)))⟩
mutual
theorem aBO (mc:List (Int×Int)) :∀q:Pat,cC (nX mc q) =cC q
 | .mk f n t ps=>by rw [nX,cC,cC,aEr mc ps]
theorem aEr (mc:List (Int×Int)) :∀ps:List Pat,aX (dX mc ps) =aX ps
 | [] =>rfl
 |q::ps=>by rw [dX,aX,aX,aBO mc q,aEr mc ps]
end
def FunD.nm :FunD→aC
 | .mk n _ _ _ _=>n
def aS2 (l:List aC)(s:aC) :Nat→Int
 |0=> -1
 |i+1=>if l[i]?=some s then(i:Int)else aS2 l s i
def aM8 (l:List aC)(s:aC) :Int:=aS2 l s l.length
def aM9 (op:Int)(s:aC)(ps:List Pat)(k:Nat) :List aC:=
 if op=5∨op=27 then [s]else if op=7 then(if k=1 then [s]else [])else if op=15 then(match k with|0=>[] |j+1=>match ps[j]? with|some p=>aST p|none=>[])else []
structure LFun where
 name:aC
 body:Int
def LFun.av (f:LFun) :AV:=.agg [aB f.name,.int .i64 f.body]
structure LUnit where
 name:aC
 cons:List Con
 funs:List LFun
 needs:List aC
 nodes:List Node
def LUnit.av (u:LUnit) :AV:=.agg [aB u.name,.ilst 2 (map Con.av u.cons) false,.ilst 2 (map LFun.av u.funs) false,.ilst 1 (map aB u.needs) false,.ilst 4 (map Node.av u.nodes) false]
structure LPlace where
 nodes:Int
 funs:Int
def LPlace.av (p:LPlace) :AV:=.agg [.int .i64 p.nodes,.int .i64 p.funs]
theorem aA1 {E:Emb}{e:Nat}{ex:Bool}:∀v,VR E .nils v→VR E (.ilst e [] ex) v:=fun v h=>by
 simp only [VR]at h;simp only [VR];exact⟨[],VRs.nil _,fun _ hu=>by(cases hu),.inl ⟨rfl,none,0,h,fun _=>rfl,fun _=>rfl⟩⟩
theorem aOf (o n:Int) :VW [.agg [.int .i64 o,.int .i64 n,.nils,.nils]] (map Node.av [Node.mk o n [] []]) :=fun E vs h=>by
 simp only [map_cons,map_nil,Node.av];obtain⟨v,vs',rfl,h1,h2⟩ :=h.cons_inv;refine VRs.cons ?_ h2;simp only [VR]at h1 ⊢;obtain⟨cs,rfl,h3⟩ :=h1;obtain⟨a1,w1,rfl,c1,h3⟩ :=h3.cons_inv;obtain⟨a2,w2,rfl,c2,h3⟩ :=h3.cons_inv;obtain⟨a3,w3,rfl,c3,h3⟩ :=h3.cons_inv;obtain⟨a4,w4,rfl,c4,h3⟩ :=h3.cons_inv;exact⟨_,rfl,VRs.cons c1 (VRs.cons c2 (VRs.cons (aA1 _ c3) (VRs.cons (by simp only [Pats.av];exact aA1 _ c4) h3)))⟩
theorem aNa {l:List ONode}{nn:List Node}(h:l=map Node.o nn) :map ONode.av l=map Node.av nn:=by rw [h,aHs]
theorem aKH :∀n:Nat,iR [AV.str 0 0] n=map aB (replicate n ([] :aC))
 |0=>rfl
 |n+1=>by rw [iR,aKH n];rfl
theorem vV :∀l:List aC,cG (map aB l) =true
 | [] =>rfl
 |s::l=>by rw [map_cons,cG,vV l];rfl
theorem aGe :∀l:List AV,mH false 1 l.length l=l
 | [] =>rfl
 | a::l=>by
  rw [length_cons,mH];simp only [cond,List.headD_cons,List.drop_succ_cons,List.drop_zero];rw [aGe l]
theorem aP9 (l:List AV) :getCells (putCells .leaf 0 l) 0 l.length=some l:=rW l _ 0 (fun j hj=>by
 rw [bW,if_pos (by omega),Nat.zero_add])
theorem aS3 (n:Nat) : (map aB (replicate n ([] :aC))).length=n:=by simp
theorem aS4 (n:Nat) :getCells (putCells .leaf 0 (map aB (replicate n ([] :aC)))) 0 (n*1) =some (map aB (replicate n ([] :aC))) :=by
 have:=aP9 (map aB (replicate n ([] :aC)));rw [aS3]at this;rw [Nat.mul_one];exact this
theorem aS5 (n:Nat) :mH false 1 n (map aB (replicate n ([] :aC))) =map aB (replicate n ([] :aC)) :=by
 have:=aGe (map aB (replicate n ([] :aC)));rwa [aS3]at this
theorem aOg {α β:Type}[DecidableEq α]{f:α→AV}{g:β→AV}(hf:aJc f){k:α}{l:List (α×β)}(h:dU k l=none)(z:β) :
  aBw (aF f g 0 l) (length l) (f k) (g z) =some (.tup [g z,.int .i64 ((length l:Nat) :Int)],aF f g 0 (bX k z l),length (bX k z l)) :=by
 unfold aBw;rw [rZ hf k l 0 0 h];obtain⟨a,b⟩ :=vJ f g k z l 0 h;simp only [Nat.zero_add]at a;simp only [a,b]
theorem aOh {α β:Type}[DecidableEq α]{k:α}{l:List (α×β)}(h:dU k l=none)(z v:β) : (bX k z l).length= (bX k v l).length:=by
 rw [(vJ (fun _=>nils) (fun _=>nils) k z l 0 h).2,(vJ (fun _=>nils) (fun _=>nils) k v l 0 h).2]
theorem aGf {α β:Type}[DecidableEq α]{f:α→AV}{g:β→AV}{k:α}(z v:β) :∀ (l:List (α×β)) (n:Nat),dU k l=none→iZ (g v) (n+l.length) (aF f g n (bX k z l)) =some (aF f g n (bX k v l))
 | [],n,_=>by simp only [bX,aF,iZ,List.length_nil,Nat.add_zero,Nat.beq_refl,cond]
 | e ::l,n,h=>by
  unfold dU at h;split at h
  ·cases h
  · rename_i hk;have ih:=aGf (f:=f) (g:=g) z v l (n+1) h;simp only [bX,if_neg hk,aF,iZ,length_cons];have:Nat.beq n (n+ (l.length+1)) =false:=by
     cases q:Nat.beq n (n+ (l.length+1))with
     |false=>rfl
     |true=>have:=Nat.eq_of_beq_eq_true q;omega
    rw [this];simp only [cond];rw [show n+ (l.length+1) =n+1+l.length by omega,ih]
theorem aKI {α β:Type}[DecidableEq α]{f:α→AV}{g:β→AV}{k:α}{l:List (α×β)}(h:dU k l=none)(z v:β) :
  iZ (g v) (((length l:Nat) :Int)).toNat (aF f g 0 (bX k z l)) =some (aF f g 0 (bX k v l)) :=by
 have:=aGf (f:=f) (g:=g) z v l 0 h;rwa [Nat.zero_add]at this
theorem aQa {f:Nat}{args args':List AV}{v:AV}(h:Pure PP f args v)(hl:args'.length=args.length)(ha:∀ (E:Emb) (i:Nat) (a a':AV) (c:Value),args[i]?=some a→args'[i]?=some a'→VR E a' c→VR E a c) :Pure PP f args' v:=fun hh=>by
 obtain⟨g,hg,he⟩ :=h hh;simp only [dP,cE]at hg;split at hg
 · rename_i fn hfn;split at hg
   · rename_i c hc;cases hg;refine⟨_,by simp only [dP,cE,hfn,hc];rfl,?_⟩;intro hm E fr ccs w hfr fs r cl base;refine he hm E fr ccs w ?_ fs r cl base;refine⟨hfr.fn,⟨by have:=hfr.tm.1;rw [hl]at this;exact this,fun t a e=>?_⟩,hfr.todo,hfr.defers,hfr.mode,hfr.kind,hfr.round⟩;have ht:t<args.length∧args[t]?=some a:=by
      have e': (cT .leaf 0 args).at t=some a:=e;unfold cT at e';rw [bW]at e';split at e'
      ·rename_i hlt;exact⟨hlt,e'⟩
      ·cases e'
     have ht':args'[t]?=some args'[t] :=getElem?_eq_getElem (by omega)
     obtain⟨cv,g1,g2⟩ :=hfr.tm.2 t args'[t] (by
      show(cT .leaf 0 args').at t=_;unfold cT;rw [bW,if_pos (by omega)];exact ht')
     exact⟨cv,g1,ha E t _ _ cv ht.2 ht' g2⟩
   ·cases hg
 ·cases hg
def aZg(a:LUnit):TS:=dB PP 39 [(.agg [(aB a.name),(iC a.cons),(.ilst 2 (map LFun.av a.funs) false),(iS a.needs),(iN a.nodes)])] [] 0
def aH9(a:LUnit)(c:Int)(b:List aC):TS:=⟨(tf 39 22 [kp 1 0,(2,.nils),(3,(.gl 1 1 0 b.length false)),(4,(nI c))] [kc f39 116,kl f39 116,.inBlock 0,kc f39 15]),[],[oC 0 [(aB a.name),(iC a.cons),(.ilst 2 (map LFun.av a.funs) false),(iS a.needs),(iN a.nodes)],oL 1 1 (map aB b)],2⟩
def aA2(a:List aC)(b:Int):TS:=⟨(tf 115 18 [(0,(iS a)),(2,(bV false)),(3,(nI b))] [kc f115 52,kl f115 52,.inBlock 0,kc f115 7]),[],[],0⟩
def aZh(a:LUnit):TS:=dB PP 36 [(.agg [(aB a.name),(iC a.cons),(.ilst 2 (map LFun.av a.funs) false),(iS a.needs),(iN a.nodes)])] [] 0
def aIa(a:LUnit)(b:Int):TS:=⟨(tf 36 56 [kp 1 0,(2,(bV false)),(3,(nI b))] [kc f36 116,kl f36 116,.inBlock 0,kc f36 15]),[],[oC 0 [(aB a.name),(iC a.cons),(.ilst 2 (map LFun.av a.funs) false),(iS a.needs),(iN a.nodes)]],1⟩
def aIb(a:LUnit)(b:Int):TS:=⟨(tf 36 56 [kp 1 0,(2,(bV false)),(4,(nI b))] [kc f36 244,kl f36 244,.inBlock 2,kc f36 31]),[],[oC 0 [(aB a.name),(iC a.cons),(.ilst 2 (map LFun.av a.funs) false),(iS a.needs),(iN a.nodes)]],1⟩
def aC0(a:List LUnit)(b:Int):TS:=⟨(tf 13 23 [(0,(.ilst 5 (map LUnit.av a) false)),(2,(bV false)),(3,(nI b))] [kc f13 52,kl f13 52,.inBlock 0,kc f13 7]),[],[],0⟩
def aIc(a:List LUnit)(b:Int):TS:=⟨(tf 18 19 [(0,(.ilst 5 (map LUnit.av a) false)),(2,(bV false)),(3,(nI b))] [kc f18 116,kl f18 116,.inBlock 0,kc f18 15]),[],[],0⟩
def aS6(a:LUnit):TS:=dB PP 39 [(.agg [(aB a.name),(iC a.cons),(.ilst 2 (map LFun.av a.funs) false),(iS a.needs),(iN a.nodes)])] [] 0
def aId(a:LUnit)(c:Int)(b:List aC):TS:=⟨(tf 39 22 [kp 1 0,(2,.nils),(3,(.gl 1 1 0 b.length false)),(4,(nI c))] [kc f39 116,kl f39 116,.inBlock 0,kc f39 15]),[],[oC 0 [(aB a.name),(iC a.cons),(.ilst 2 (map LFun.av a.funs) false),(iS a.needs),(iN a.nodes)],oL 1 1 (map aB b)],2⟩
def aVV (a:LUnit):=(tT 0 (aZg a)<|.i [rn 16,.nilL 3 1] []<|gu 0 1 (map aB ([] :List aC))<|gs 0 3 (.gl 1 1 0 ([] :List aC).length false)<|.W 0 2 [0,1] (aH9 a 0 ([] :List aC))) ⟨kk,trivial⟩
def aS7(a:LUnit)(b:Int)(c:List aC):=tT 0 (aH9 a b c)<|gl 6 LFun.av a.funs<|gd 2 9 (b< (a.funs.length:Int)) (gX LFun.av 9 a.funs b<|fun d=>ga 3 aB c [d.name]<|gw 6 11 (b+1)<|.W 3 4 [0,3] (aH9 a (b+1) (c++ [d.name])))<|gz 8 2 1 1 aB c false<|gE 0 2 (iS c)
def aVW:=fun a b c d e f g i j=>aS7 a b c|>.t e d f g i j ⟨kk,trivial⟩
def aVX:=fun a b c d=>aS7 a b c|>.f d tv
def aQb (a:List aC):=(tT 0 (start PP 115 [(iS a)])<|.W 11 0 [] (aA2 a 0)) tv
def aNb(a:List aC)(b:Int):=tT 0 (aA2 a b)<|gl 5 aB a<|gd 2 7 (b< (a.length:Int)) (gX aB 8 a b<|fun c=>fQ 1 86 [(aB c)]<|fun d=>.b 2 15 (!d) (gE 6 0 (bV false))<|gw 6 9 (b+1)<|.W 3 0 [] (aA2 a (b+1)))<|fQ 5 71 [(iS a)]<|fun c=>gE 3 0 (bV c)
def aQc:=fun a b c d e f g i j=>aNb a b|>.t e c f g d i|>.t j tv
def aQd:=fun a b c d e f g i j k=>aNb a b|>.t e c f g d i|>.f j k tv
def aQe:=fun a b c d e=>aNb a b|>.f d c e tv
def aS8(a b c:Int):=tT 0 (start PP 116 [(nI a),(nI b),(nI c)])<|gd 10 10 (a≥b) (gE 7 0 (bV (decide (a≤c))))<|gE 7 0 (bV false)
def aQf:=fun a b c d=>aS8 a b c|>.t d tv
def aQg:=fun a b c d=>aS8 a b c|>.f d tv
def aIe(a:LUnit):=tT 0 (aZh a)<|gl 10 LFun.av a.funs<|gd 2 9 ((a.funs.length:Int) >30) (gE 18 1 (bV false))<|gl 2 aB a.needs<|gd 3 15 ((a.needs.length:Int) >25) (gE 12 1 (bV false))<|gd 6 20 ((a.name.length:Int) >30) (gE 6 1 (bV false))<|.W 9 1 [0] (aIa a 0)
def aVY:=fun a b=>aIe a|>.t b tv
def aVZ:=fun a b c=>aIe a|>.f b|>.t c tv
def aV0:=fun a b c d=>aIe a|>.f b|>.f c|>.t d tv
def aV1:=fun a b c d=>aIe a|>.f b|>.f c|>.f d tv
def aNc(a:LUnit)(b:Int):=tT 0 (aIa a b)<|gl 6 LFun.av a.funs<|gd 2 25 (b< (a.funs.length:Int)) (gX LFun.av 9 a.funs b<|fun c=>gd 5 35 ((c.name.length:Int) >30) (gE 6 1 (bV false))<|gw 6 27 (b+1)<|.W 3 1 [0] (aIa a (b+1)))<|.W 9 1 [0] (aIb a 0)
def aV2:=fun a b c d e f g=>aNc a b|>.t d c e f|>.t g tv
def aV3:=fun a b c d e f g i=>aNc a b|>.t d c e f|>.f g i tv
def aV4:=fun a b c=>aNc a b|>.f c tv
def aNd(a:LUnit)(b:Int):=tT 0 (aIb a b)<|gl 6 aB a.needs<|gd 2 40 (b< (a.needs.length:Int)) (gX aB 9 a.needs b<|fun c=>gd 4 49 ((c.length:Int) >30) (gE 6 1 (bV false))<|gw 6 42 (b+1)<|.W 3 1 [0] (aIb a (b+1)))<|fQ 9 50 [(.agg [(iN a.nodes),.nils,(nI 0),(iC a.cons)])]<|fun c=>gE 3 1 (bV c)
def aV5:=fun a b c d e f g=>aNd a b|>.t d c e f|>.t g tv
def aV6:=fun a b c d e f g i=>aNd a b|>.t d c e f|>.f g i tv
def aV7:=fun a b c d e=>aNd a b|>.f d c e tv
def aS9 (a:List LUnit):=(tT 0 (start PP 13 [(.ilst 5 (map LUnit.av a) false)])<|.W 11 0 [] (aC0 a 0)) tv
def aC1(a:List LUnit)(b:Int):=tT 0 (aC0 a b)<|gl 5 LUnit.av a<|gd 2 8 (b< (a.length:Int)) (gd 4 11 (b≤10) (gX LUnit.av 8 a b<|fun c=>fQ 1 36 [(.agg [(aB c.name),(iC c.cons),(.ilst 2 (map LFun.av c.funs) false),(iS c.needs),(iN c.nodes)])]<|fun d=>.b 2 19 (!d) (gE 6 0 (bV false))<|gw 6 13 (b+1)<|.W 3 0 [] (aC0 a (b+1)))<|gl 5 LUnit.av a<|gE 4 0 (bV (decide ((a.length:Int) ≤11))))<|gl 9 LUnit.av a<|gE 4 0 (bV (decide ((a.length:Int) ≤11)))
def aTa:=fun a b c d e f g i j k=>aC1 a b|>.t e|>.t f c g i d j|>.t k tv
def aTb:=fun a b c d e f g i j k l=>aC1 a b|>.t e|>.t f c g i d j|>.f k l tv
def aTc:=fun a b c d=>aC1 a b|>.t c|>.f d tv
def aKJ:=fun a b c=>aC1 a b|>.f c tv
def aOi(a:List LUnit):=tT 0 (start PP 18 [(.ilst 5 (map LUnit.av a) false)])<|gl 8 LUnit.av a<|gd 2 6 ((a.length:Int) >10) (gE 6 0 (bV false))<|.W 9 0 [] (aIc a 0)
def aV8:=fun a b=>aOi a|>.t b tv
def aV9:=fun a b=>aOi a|>.f b tv
def aIf(a:List LUnit)(b:Int):=tT 0 (aIc a b)<|gl 5 LUnit.av a<|gd 2 10 (b< (a.length:Int)) (gX LUnit.av 8 a b<|fun c=>fQ 1 37 [(.agg [(aB c.name),(iC c.cons),(.ilst 2 (map LFun.av c.funs) false),(iS c.needs),(iN c.nodes)])]<|fun d=>.b 2 18 (!d) (gE 6 0 (bV false))<|gw 6 12 (b+1)<|.W 3 0 [] (aIc a (b+1)))<|gE 7 0 (bV true)
def aWa:=fun a b c d e f g i j=>aIf a b|>.t e c f g d i|>.t j tv
def aWb:=fun a b c d e f g i j k=>aIf a b|>.t e c f g d i|>.f j k tv
def aWc:=fun a b c=>aIf a b|>.f c tv
def aWd (a:LUnit):=(tT 0 (aS6 a)<|.i [rn 16,.nilL 3 1] []<|gu 0 1 (map aB ([] :List aC))<|gs 0 3 (.gl 1 1 0 ([] :List aC).length false)<|.W 0 2 [0,1] (aId a 0 ([] :List aC))) ⟨kk,trivial⟩
def aOj(a:LUnit)(b:Int)(c:List aC):=tT 0 (aId a b c)<|gl 6 LFun.av a.funs<|gd 2 9 (b< (a.funs.length:Int)) (gX LFun.av 9 a.funs b<|fun d=>ga 3 aB c [d.name]<|gw 6 11 (b+1)<|.W 3 4 [0,3] (aId a (b+1) (c++ [d.name])))<|.E 8 2 [1] (.gl 0 1 0 c.length false) [oL 0 1 (map aB c)] 1
def aWe:=fun a b c d e f g i j=>aOj a b c|>.t e d f g i j ⟨kk,trivial⟩
def aWf:=fun a b c d=>aOj a b c|>.f d ⟨kk,trivial⟩
theorem vW (u:LUnit) :keyless u.av=true:=by simp [LUnit.av,keyless,keylessL,aB]
def dR (s:aC) :List aC→Nat→Int
 | [],_=> -1
 |x::l,i=>if x=s then(i:Int)else dR s l (i+1)
theorem aNe (n lo hi:Int) :Pure PP 116 [.int .i64 n,.int .i64 lo,.int .i64 hi] (.bool (cX n lo hi)) :=by
 refine aQ (by kernel_rfl) rfl rfl ?_;unfold cX;by_cases h:lo≤n
 · have e: (decide (lo≤n) &&decide (n≤hi)) =decide (n≤hi) :=by simp [h]
   rw [e];exact aQf n lo hi (by simpa using h)
 · have e: (decide (lo≤n) &&decide (n≤hi)) =false:=by simp [h]
   rw [e];exact aQg n lo hi (by simpa using h)
def aE (u:LUnit) :List aC:=u.funs.map LFun.name
theorem aKK (u:LUnit)(hl:u.funs.length≤1000) :∀ (t:List LFun) (i:Nat) (acc:List aC),u.funs.drop i=t→acc.length=i→Ends PP 0 (aH9 u (i:Int) acc).as (.ret (.ilst 1 (map aB (acc++t.map LFun.name)) false)) (aG [] 0)
 | [],i,acc,h,ha=>by
  have:=bD h;rw [map_nil,List.append_nil];exact aVX u i acc sd
 | c::t,i,acc,h,ha=>by
  obtain⟨q1,q2,q3⟩ :=bC h;have hi:= (List.getElem?_eq_some_iff.1 q1).1;refine(aVW u i acc c sd sd sd (by simp;omega) sd).ends ?_;have:=aKK u hl t (i+1) (acc++ [c.name]) q2 (by simp [ha]);rw [List.append_assoc]at this;exact this
theorem aKL (u:LUnit)(hl:u.funs.length≤1000) :Pure PP 39 [LUnit.av u] (.ilst 1 (map aB (aE u)) false) :=
 eM (s:=aZg u) (by kernel_rfl) (by kernel_rfl) (by simp [keylessL,vW]) (by simp [keyless]) ((aVV u).ends (aKK u hl u.funs 0 [] rfl rfl))
theorem aKM (u:LUnit)(hl:u.funs.length≤1000) :∀ (t:List LFun) (i:Nat) (acc:List aC),u.funs.drop i=t→acc.length=i→Ends PP 0 (aId u (i:Int) acc).as (.ret (.gl 0 1 0 (length (acc++t.map LFun.name)) false)) (aG [(0,.lst 1 (map aB (acc++t.map LFun.name)),true)] 1)
 | [],i,acc,h,ha=>by
  have:=bD h;rw [map_nil,List.append_nil];exact aWf u i acc sd
 | c::t,i,acc,h,ha=>by
  obtain⟨q1,q2,q3⟩ :=bC h;have hi:= (List.getElem?_eq_some_iff.1 q1).1;refine(aWe u i acc c sd sd sd (by simp;omega) sd).ends ?_;have:=aKM u hl t (i+1) (acc++ [c.name]) q2 (by simp [ha]);rw [List.append_assoc]at this;exact this
theorem aTd (u:LUnit)(hl:u.funs.length≤1000) :aAI PP (.enter 39 [LUnit.av u]) (aG [] 0) (.ret (.gl 0 1 0 (length (aE u)) false)) (aG [(0,.lst 1 (map aB (aE u)),true)] 1) :=by
 suffices hh:Ends PP 0 (aS6 u).as (.ret (.gl 0 1 0 (length (aE u)) false)) (aG [(0,.lst 1 (map aB (aE u)),true)] 1)from⟨(aS6 u).as.fr,by kernel_rfl,Eq.mp (by kernel_rfl) hh⟩
 exact(aWd u).ends (aKM u hl u.funs 0 [] rfl rfl)
def iH (l:List aC) :Bool:=l.all qG&&cN l
theorem aKN (l:List aC)(hl:l.length<1000000) :∀ (t:List aC) (i:Nat),l.drop i=t→Ends PP 0 (aA2 l (i:Int)).as (.ret (.bool (t.all qG&&cN l))) (aG [] 0)
 | [],i,h=>by
  have:=bD h;rw [all_nil,Bool.true_and];exact aQe l i _ sd (aAR l hl)
 | c::t,i,h=>by
  obtain⟨q1,q2,q3⟩ :=bC h;have hn:=aKq c;rw [all_cons];cases e:qG c with
  |false=>rw [e]at hn;exact aQc l i c false sd sd sd hn rfl
  |true=>rw [e]at hn;rw [Bool.true_and];exact(aQd l i c true sd sd sd hn rfl sd).ends (aKN l hl t (i+1) q2)
theorem aCr (l:List aC)(hl:l.length<1000000) :Pure PP 115 [.ilst 1 (map aB l) false] (.bool (iH l)) :=
 aQ (by kernel_rfl) rfl rfl ((aQb l).ends (aKN l hl l 0 rfl))
def bI (l:List LUnit) :List aC:= (l.map aE).flatten
theorem qJ (u:LUnit)(l:List LUnit) :bI (u::l) =aE u++bI l:=rfl
structure FewU (u:LUnit) :Prop where
 f:u.funs.length≤30
 n:u.needs.length≤25
 p:aN ⟨u.nodes,[],0,u.cons⟩ =true
 nm:∀f∈u.funs,f.name.length≤30
 nd:∀s∈u.needs,s.length≤30
def aEs (s:aC) :List LUnit→Nat→Int
 | [],_=> -1
 |u::l,i=>if bL (aE u) s=true then(i:Int)else aEs s l (i+1)
theorem aQh {f:Nat}{a a' v:AV}(h:Pure PP f [a] v)(ha:∀ (E:Emb) (c:Value),VR E a' c→VR E a c) :Pure PP f [a'] v:=
 aQa h rfl (fun E i x x' c h1 h2 hv=>by
  cases i with
  |zero=>simp only [getElem?_cons_zero,Option.some.injEq]at h1 h2;subst h1 h2;exact ha E c hv
  |succ i=>simp at h1)
theorem aQi {E:Emb}{ns:List Node}{cs:List Con}{c:Value}(h:VR E (.agg [.ilst 4 (map Node.av ns) false,.nils,.int .i64 0,.ilst 2 (map Con.av cs) false]) c) :VR E (Prog.av ⟨ns,[],0,cs⟩) c:=by
 simp only [Prog.av,VR]at h ⊢;obtain⟨ws,rfl,h5⟩ :=h;obtain⟨a1,w1,rfl,c1,h5⟩ :=h5.cons_inv;obtain⟨a2,w2,rfl,c2,h5⟩ :=h5.cons_inv;exact⟨_,rfl,VRs.cons c1 (VRs.cons (aA1 _ c2) h5)⟩
def kO (u:LUnit) :Prog:= ⟨u.nodes,[],0,u.cons⟩
def sT (u:LUnit) :Bool:=decide (u.funs.length≤30) &&decide (u.needs.length≤25) &&decide (u.name.length≤30) &&u.funs.all (fun f=>decide (f.name.length≤30)) &&u.needs.all (fun s=>decide (s.length≤30)) &&aN (kO u)
theorem aEt {u:LUnit}(h:sT u=true) :FewU u:=by
 simp only [sT,and_eq_true,decide_eq_true_eq]at h;obtain⟨⟨⟨⟨⟨h1,h2⟩,h3⟩,h4⟩,h5⟩,h6⟩ :=h;exact⟨h1,h2,h6,fun f hf=>by simpa using List.all_eq_true.1 h4 f hf,fun s hs=>by simpa using List.all_eq_true.1 h5 s hs⟩
theorem aZi (u:LUnit)(hn:u.needs.length≤25) :∀ (t:List aC) (i:Nat),u.needs.drop i=t→Ends PP 0 (aIb u (i:Int)).as (.ret (.bool (t.all (fun s=>decide (s.length≤30)) &&aN (kO u)))) (aG [] 0)
 | [],i,h=>by
  have:=bD h;rw [all_nil,Bool.true_and];exact aV7 u i _ sd (aQh (aCE (kO u)) (fun E c h=>aQi h))
 | s ::t,i,h=>by
  obtain⟨q1,q2,q3⟩ :=bC h;by_cases hs:s.length≤30
  · rw [all_cons,decide_eq_true hs,Bool.true_and];exact(aV6 u i s sd sd sd (by simp;omega) sd).ends (aZi u hn t (i+1) q2)
  · rw [all_cons,decide_eq_false hs,Bool.false_and,Bool.false_and];exact aV5 u i s sd sd sd (by simp;omega)
theorem aZj (u:LUnit)(hf:u.funs.length≤30)(hn:u.needs.length≤25) :∀ (t:List LFun) (i:Nat),u.funs.drop i=t→Ends PP 0 (aIa u (i:Int)).as (.ret (.bool (t.all (fun f=>decide (f.name.length≤30)) &&u.needs.all (fun s=>decide (s.length≤30)) &&aN (kO u)))) (aG [] 0)
 | [],i,h=>by
  have:=bD h;rw [all_nil,Bool.true_and];exact(aV4 u i sd).ends (aZi u hn u.needs 0 rfl)
 | f ::t,i,h=>by
  obtain⟨q1,q2,q3⟩ :=bC h;by_cases hs:f.name.length≤30
  · rw [all_cons,decide_eq_true hs,Bool.true_and];exact(aV3 u i f sd sd sd (by simp;omega) sd).ends (aZj u hf hn t (i+1) q2)
  · rw [all_cons,decide_eq_false hs,Bool.false_and,Bool.false_and,Bool.false_and];exact aV2 u i f sd sd sd (by simp;omega)
theorem aTe (u:LUnit) :Pure PP 36 [LUnit.av u] (.bool (sT u)) :=by
 refine eM (s:=aZh u) (by kernel_rfl) (by kernel_rfl) (by simp [keylessL,vW]) (by simp [keyless]) ?_;unfold sT;by_cases h1:u.funs.length≤30
 · by_cases h2:u.needs.length≤25
   · by_cases h3:u.name.length≤30
     · rw [decide_eq_true h1,decide_eq_true h2,decide_eq_true h3,Bool.true_and,Bool.true_and,Bool.true_and];exact(aV1 u (by simp;omega) (by simp;omega) (by simp;omega)).ends (aZj u h1 h2 u.funs 0 rfl)
     · rw [decide_eq_false h3];simp only [Bool.and_false,Bool.false_and];exact aV0 u (by simp;omega) (by simp;omega) (by simp;omega)
   · rw [decide_eq_false h2];simp only [Bool.and_false,Bool.false_and];exact aVZ u (by simp;omega) (by simp;omega)
 · rw [decide_eq_false h1];simp only [Bool.false_and];exact aVY u (by simp;omega)
theorem aC2 {α:Type}{l:List α}{i:Nat}{y:α}(h:l[i]?=some y) :l.take (i+1) =l.take i++ [y] :=by rw [List.take_add_one,h];rfl
def iJ (l:List LUnit) :Bool:= (l.take 11).all sT&&decide (l.length≤11)
theorem aGg (l:List LUnit) :∀ (k i:Nat),i+k=11→ (∀u∈l.take i,sT u=true) →i≤l.length→Ends PP 0 (aC0 l (i:Int)).as (.ret (.bool (iJ l))) (aG [] 0)
 | 0,i,hk,hs,hi=>by
  have e:i=11:=by omega
  subst e;have ev:iJ l=decide (((length l:Nat) :Int) ≤ (11:Int)) :=by
   unfold iJ;rw [List.all_eq_true.2 hs,Bool.true_and];by_cases h:l.length≤11
   ·rw [decide_eq_true h,decide_eq_true (by omega)]
   ·rw [decide_eq_false h,decide_eq_false (by omega)]
  rw [ev];by_cases h:11<l.length
  ·exact aTc l ((11:Nat) :Int) (by simp;omega) (by decide)
  ·exact aKJ l ((11:Nat) :Int) (by simp;omega)
 | k + 1,i,hk,hs,hi=>by
  by_cases h:i<l.length
  · obtain⟨u,hu⟩ :∃u,l[i]?=some u:= ⟨_,getElem?_eq_getElem h⟩;have hp:=aTe u;cases e:sT u with
    | false=>
     rw [e]at hp;have ev:iJ l=false:=by
      unfold iJ;have: (l.take 11).all sT=false:=by
       rw [Bool.eq_false_iff];intro hh;have:=List.all_eq_true.1 hh u (mem_of_getElem? (by rw [List.getElem?_take,if_pos (show i<11 by omega)];exact hu));rw [e]at this;cases this
      rw [this,Bool.false_and]
     rw [ev];exact aTa l i u false sd (by simp;omega) sd sd hp rfl
    | true=>
     rw [e]at hp;refine(aTb l i u true sd (by simp;omega) sd sd hp rfl sd).ends (aGg l k (i+1) (by omega) (fun x hx=>?_) (by omega));rw [aC2 hu]at hx;rcases List.mem_append.1 hx with g|g
     ·exact hs x g
     ·rw [List.mem_singleton.1 g];exact e
  · have ev:iJ l=decide (((length l:Nat) :Int) ≤ (11:Int)) :=by
     unfold iJ;have:l.take 11=l.take i:=by rw [take_of_length_le (by omega),take_of_length_le (by omega)]
     rw [this,List.all_eq_true.2 hs,Bool.true_and,decide_eq_true (show l.length≤11 by omega),decide_eq_true (by omega)]
    rw [ev];exact aKJ l i sd
theorem aQj (l:List LUnit) :Pure PP 13 [.ilst 5 (map LUnit.av l) false] (.bool (iJ l)) :=
 aQ (by kernel_rfl) (by simp [keylessL,keyless]) rfl ((aS9 l).ends (aGg l 11 0 rfl (by simp) (Nat.zero_le _)))
theorem aCs {l:List LUnit}(h:iJ l=true) :l.length≤11∧∀u∈l,sT u=true:=by
 simp only [iJ,and_eq_true,decide_eq_true_eq]at h;obtain⟨h1,h2⟩ :=h;rw [take_of_length_le h2]at h1;exact⟨h2,List.all_eq_true.1 h1⟩
structure FitU (u:LUnit) :Prop where
 p:FitP (kO u)
 f:u.funs.length<1000000
 n:u.needs.length<1000000
def aZk(a:LUnit):TS:=dB PP 37 [(.agg [(aB a.name),(iC a.cons),(.ilst 2 (map LFun.av a.funs) false),(iS a.needs),(iN a.nodes)])] [] 0
def aIg(a:LUnit)(b:List aC)(c:Int):TS:=⟨(tf 37 126 [kp 1 0,(2,(bV false)),(3,(iS b)),(4,(nI c))] [kc f37 244,kl f37 244,.inBlock 0,kc f37 31]),[],[oC 0 [(aB a.name),(iC a.cons),(.ilst 2 (map LFun.av a.funs) false),(iS a.needs),(iN a.nodes)]],1⟩
def aIh(a:LUnit)(c:List aC)(d:Int)(b:List Int):TS:=⟨(tf 37 126 [kp 1 0,(2,(bV false)),(3,(iS c)),kp 6 1,(7,(nI d))] [kc f37 2036,kl f37 2036,.inBlock 2,kc f37 255]),[],[oC 0 [(aB a.name),(iC a.cons),(.ilst 2 (map LFun.av a.funs) false),(iS a.needs),(iN a.nodes)],oC 1 [(.gl 2 4 0 a.nodes.length false),(.gl 3 1 0 b.length false),(nI 0),(iC a.cons)],oL 2 4 (jN a.nodes),oL 3 1 (jI b)],4⟩
def aBP(a:LUnit)(d:List aC)(b:List Int)(e:Int)(c:List Node):TS:=⟨(tf 37 126 [kp 1 0,(2,(bV false)),(3,(iS d)),kp 6 1,(8,(nI e))] [kc f37 4084,kl f37 4084,.inBlock 4,kc f37 511]),[],[oC 0 [(aB a.name),(iC a.cons),(.ilst 2 (map LFun.av a.funs) false),(iS a.needs),(iN a.nodes)],oC 1 [(.gl 2 4 0 c.length false),(.gl 3 1 0 b.length false),(nI 0),(iC a.cons)],oL 2 4 (jN c),oL 3 1 (jI b)],4⟩
def aEu(a:LUnit):=tT 0 (aZk a)<|.y fun b:List aC=>gp 8 39 [(.agg [(aB a.name),(iC a.cons),(.ilst 2 (map LFun.av a.funs) false),(iS a.needs),(iN a.nodes)])] (iS b)<|fQ 7 86 [(aB a.name)]<|fun c=>.b 2 16 (!c) (gE 23 1 (bV false))<|gl 2 aB a.needs<|gd 3 22 ((a.needs.length:Int) >20) (gE 17 1 (bV false))<|fQ 1 115 [(iS b)]<|fun d=>.b 3 27 (!d) (gE 12 1 (bV false))<|fQ 2 115 [(iS a.needs)]<|fun e=>.b 3 32 (!e) (gE 6 1 (bV false))<|.W 9 1 [0] (aIg a b 0)
def aWg:=fun a b c d e f=>aEu a b d c e|>.t f tv
def aWh:=fun a b c d e f g=>aEu a b d c e|>.f f|>.t g tv
def aWi:=fun a b c d e f g i j k=>aEu a b e c f|>.f g|>.f i d j|>.t k tv
def aWj:=fun a b c d e f g i j k l m n=>aEu a b f c g|>.f i|>.f j d k|>.f l e m|>.t n tv
def aWk:=fun a b c d e f g i j k l m n=>aEu a b f c g|>.f i|>.f j d k|>.f l e m|>.f n tv
def aEv(a:LUnit)(b:List aC)(c:Int):=tT 0 (aIg a b c)<|gl 6 aB a.needs<|gd 2 37 (c< (a.needs.length:Int)) (gX aB 10 a.needs c<|fun d=>fQ 1 111 [(iS b),(aB d)]<|fun e=>.b 1 46 e (gE 6 1 (bV false))<|gw 6 39 (c+1)<|.W 3 1 [0] (aIg a b (c+1)))<|gl 6 aB b<|.b 2 49 ((b.length:Int) ==0) (.i [rn 13,.ctoL 3 0 true [(nI 3),(nI 0),.nils,.nils]] [hr (some [(nI 3),(nI 0),.nils,.nils]),hr true]<|.i [.lw 1 (jN [(Node.mk 3 0 [] [])])] [.q (p:=([(.agg [(nI 3),(nI 0),.nils,.nils])] :List AV) ≠ []) (by simp),.q (p:=VW [(.agg [(nI 3),(nI 0),.nils,.nils])] (jN [(Node.mk 3 0 [] [])])) (aOf _ _)]<|gv 0 3 0 (.gl 1 4 0 [(Node.mk 3 0 [] [])].length true)<|.i [.cweak 3 0] []<|gy 0 3 0 1 4 Node.av [(Node.mk 3 0 [] [])] false<|.i [.ctoL 3 1 false [(nI 0)]] [hr (some [(nI 0)]),hr true]<|gu 0 2 (jI [0])<|gv 0 3 1 (.gl 2 1 0 [0].length true)<|.i [.cweak 3 1] []<|gy 0 3 1 2 1 aP [0] false<|gl 3 Node.av a.nodes<|.b 2 60 ((a.nodes.length:Int) ==0) (fQ 1 38 [(.agg [(iN [(Node.mk 3 0 [] [])]),(iI [0]),(nI 0),(iC a.cons)])]<|fun d=>gE 4 4 (bV d))<|gE 6 4 (bV false))<|.i [rn 3,.reg (rd 4 (.app (jN a.nodes) a.nodes.length::rd 3 []))] [hA (length a.nodes≤1000000),hr (jN a.nodes),.q (p:=length (jN a.nodes) =length a.nodes) (List.length_map ..),hr (ilst 2 (jC a.cons) false),hr (ilst 2 (jC a.cons) false)]<|.i [rn 7,.cnil 1 1 1] []<|gu 0 3 (jI ([] :List Int))<|gv 0 1 1 (.gl 3 1 0 ([] :List Int).length false)<|.W 0 4 [0,1,2,3] (aIh a b 0 ([] :List Int))
def aWl:=fun a b c d e f g i j k=>aEv a b c|>.t f d g i e j|>.t k tv
def aWm:=fun a b c d e f g i j k l=>aEv a b c|>.t f d g i e j|>.f k l tv
def aWn:=fun a b c d e f g i=>aEv a b c|>.f e|>.t f|>.t g d i tv
def aWo:=fun a b c d e f=>aEv a b c|>.f d|>.t e|>.f f tv
def aWp:=fun a b c d e f=>aEv a b c|>.f d|>.f e f ⟨kk,⟨kk,trivial⟩⟩
def aTf(c:LUnit)(e:List aC)(d:Int)(a:List Int):=tT 0 (aIh c e d a)<|gl 6 LFun.av c.funs<|gd 2 74 (d< (c.funs.length:Int)) (.y fun b:LFun=>.i [rn 4,.reg (rd 5 (.ans (.idx (LFun.av b))::rd 3 [.app (jI (a++ [b.body])) (a++ [b.body]).length,.d,.d]))] [hA (0≤d),.a (((c.funs)[d.toNat]?) =some b) (bS (f:=LFun.av)),hb aP a,hA (length (a++ [b.body]) ≤1000000),hc aP a [b.body],he aP a [b.body]]<|gw 4 76 (d+1)<|.W 3 6 [0,1,2,5] (aIh c e (d+1) (a++ [b.body])))<|.W 9 4 [0,1,2,3] (aBP c e a 0 c.nodes)
def aWq:=fun a b c d e f g i j k=>aTf a b c d|>.t f e g i j k ⟨kk,⟨kk,trivial⟩⟩
def aWr:=fun a b c d e=>aTf a b c d|>.f e ⟨kk,⟨kk,trivial⟩⟩
def aIi(f:LUnit)(d:List aC)(e:List Int)(c:Int)(b:List Node):=tT 0 (aBP f d e c b)<|gd 9 92 (c< (b.length:Int)) (.i [rn 9,.ans (.ix)] [hA (0≤c),hA (c< (b.length:Int))]<|.y fun a:Node=>gj Node.av 0 b c.toNat a<|.b 9 103 (a.op==4) (gl 3 aB d<|gw 1 108 (0- (d.length:Int))<|gl 2 aB f.needs<|gw 1 112 ((0- (d.length:Int)) - (f.needs.length:Int))<|gl 1 aB d<|gw 1 115 (0- (d.length:Int))<|gw 1 116 ((0- (d.length:Int)) -1)<|fQ 0 116 [(nI a.n),(nI ((0- (d.length:Int)) - (f.needs.length:Int))),(nI ((0- (d.length:Int)) -1))]<|fun g=>.b 2 118 g (.i [rn 5,.ans (.ix)] [hA (0≤c),hA (c< (b.length:Int))]<|.i [rn 1,.st (Node.av a) (Node.av (Node.mk a.op (-1) a.kids a.pats))] [.a (((b)[c.toNat]?) =some a) (gI (f:=Node.av)),hr (some (Node.av (Node.mk a.op (-1) a.kids a.pats)))]<|.i [.lset 2 (jN (set b c.toNat (Node.mk a.op (-1) a.kids a.pats)))] [.q (p:=(jN b).set (0+c.toNat) (Node.av (Node.mk a.op (-1) a.kids a.pats)) = (jN (set b c.toNat (Node.mk a.op (-1) a.kids a.pats)))) (nP _ _ _ _)]<|.i [.set 90 (.gl 2 4 0 (set b c.toNat (Node.mk a.op (-1) a.kids a.pats)).length false)] [.q (p:=(AV.gl 2 4 0 b.length false) = (.gl 2 4 0 (set b c.toNat (Node.mk a.op (-1) a.kids a.pats)).length false)) (cF (length_set ..).symm)]<|.i [.set 96 (.gl 2 4 0 (set b c.toNat (Node.mk a.op (-1) a.kids a.pats)).length false)] [.q (p:=(AV.gl 2 4 0 b.length false) = (.gl 2 4 0 (set b c.toNat (Node.mk a.op (-1) a.kids a.pats)).length false)) (cF (length_set ..).symm)]<|.i [.set 120 (.gl 2 4 0 (set b c.toNat (Node.mk a.op (-1) a.kids a.pats)).length false)] [.q (p:=(AV.gl 2 4 0 b.length false) = (.gl 2 4 0 (set b c.toNat (Node.mk a.op (-1) a.kids a.pats)).length false)) (cF (length_set ..).symm)]<|.i [.cset 1 0 (.gl 2 4 0 (set b c.toNat (Node.mk a.op (-1) a.kids a.pats)).length false)] [.q (p:=(AV.gl 2 4 0 b.length false) = (.gl 2 4 0 (set b c.toNat (Node.mk a.op (-1) a.kids a.pats)).length false)) (cF (length_set ..).symm)]<|gw 5 94 (c+1)<|.W 3 5 [0,1,2,3] (aBP f d e (c+1) (set b c.toNat (Node.mk a.op (-1) a.kids a.pats))))<|gw 6 94 (c+1)<|.W 3 5 [0,1,2,3] (aBP f d e (c+1) b))<|gw 22 94 (c+1)<|.W 3 5 [0,1,2,3] (aBP f d e (c+1) b))<|.i [rn 5,.frz 124 2 (jN b)] [hk Node.av b,.q (p:=frzOk 2 4 (jN b) (jN b) (.agg [(.gl 2 4 0 b.length false),(.gl 3 1 0 e.length false),(nI 0),(iC f.cons)])) (by simp [frzOk,AV.frzOkL,take_of_length_le])]<|.i [.frz 124 3 (jI e)] [hk aP e,.q (p:=frzOk 3 1 (jI e) (jI e) (.agg [(iN b),(.gl 3 1 0 e.length false),(nI 0),(iC f.cons)])) (by simp [frzOk,AV.frzOkL,take_of_length_le])]<|fQ 0 38 [(.agg [(iN b),(iI e),(nI 0),(iC f.cons)])]<|fun a=>gE 3 4 (bV a)
def aWs:=fun e f g i j k l m a b c n d o p q r s=>aIi e f g i j|>.t m a b k c|>.t n d o d p l q|>.t r a b c s ⟨kk,⟨kk,trivial⟩⟩
def aWt:=fun b c d e f g i j k l m n a o p q r s=>aIi b c d e f|>.t j k l g m|>.t n a o a p i q|>.f r s ⟨kk,⟨kk,trivial⟩⟩
def aWu:=fun a b c d e f g i j k l m=>aIi a b c d e|>.t g i j f k|>.f l m ⟨kk,⟨kk,trivial⟩⟩
def aWv:=fun a b c d e f g i=>aIi a b c d e|>.f g f i tv
def qK {α:Type}(f:α→α)(l:List α)(i:Nat) :List α:= (l.take i).map f++l.drop i
section
variable {α :Type} {f:α→α} {l:List α} {i:Nat}
theorem aGh :qK f l 0=l:=by simp [qK]
theorem aEw : (qK f l i).length=l.length:=by simp [qK];omega
theorem aKO (h:l.length≤i) :qK f l i=l.map f:=by simp [qK,take_of_length_le h,List.drop_eq_nil_of_le h]
theorem zV {x:α}(h:l[i]?=some x) :qK f l i= (l.take i).map f++x::l.drop (i+1) ∧ ((l.take i).map f).length=i:=by
 have hi:= (List.getElem?_eq_some_iff.1 h).1;refine⟨?_,by simp;omega⟩;unfold qK;rw [List.drop_eq_getElem_cons hi];rw [(List.getElem?_eq_some_iff.1 h).2]
theorem aKP {x:α}(h:l[i]?=some x) : (qK f l i)[i]?=some x:=by
 obtain⟨e,hl⟩ :=zV (f:=f) h;rw [e,List.getElem?_append_right (by omega),hl];simp
theorem aGi {x:α}(h:l[i]?=some x) :qK f l (i+1) = (l.take i).map f++f x::l.drop (i+1) :=by
 unfold qK;rw [aC2 h];simp
theorem aKQ {x:α}(h:l[i]?=some x) : (qK f l i).set i (f x) =qK f l (i+1) :=by
 obtain⟨e,hl⟩ :=zV (f:=f) h;rw [e,aGi h,List.set_append_right _ _ (by omega),hl];simp
theorem qL {x:α}(h:l[i]?=some x)(e:f x=x) :qK f l i=qK f l (i+1) :=by
 rw [(zV (f:=f) h).1,aGi h,e]
end
def fF (a b:Nat)(x:Node) :Node:=if x.op=4∧ -(a:Int) -b≤x.n∧x.n≤ -(a:Int) -1 then⟨x.op,-1,x.kids,x.pats⟩else x
def bO (u:LUnit) :List Int:=u.funs.map LFun.body
def fG (u:LUnit) :Prog:= ⟨u.nodes.map (fF u.funs.length u.needs.length),bO u,0,u.cons⟩
def yP (u:LUnit) :Prog:= ⟨[⟨3,0,[],[]⟩],[0],0,u.cons⟩
def iK (u:LUnit) :Bool:=qG u.name&&decide (u.needs.length≤20) &&iH (aE u) &&iH u.needs&&u.needs.all (fun s=> !bL (aE u) s) &&
 (if u.funs.length=0 then decide (u.nodes.length=0) &&aY (yP u)else aY (fG u))
theorem jU {u:LUnit}(h:FewU u) :aN (fG u) =true:=by
 have h0:=h.p;have hf:=h.f;simp only [aN,and_eq_true,decide_eq_true_eq]at h0 ⊢;obtain⟨⟨⟨⟨h1,h2⟩,h3⟩,h4⟩,h5⟩ :=h0;refine⟨⟨⟨⟨by simp [fG];exact h1,by simp [fG,bO];omega⟩,h3⟩,h4⟩,List.all_eq_true.2 (fun x hx=>?_)⟩;simp only [fG,List.mem_map]at hx;obtain⟨y,hy,rfl⟩ :=hx;have:=List.all_eq_true.1 h5 y hy;unfold fF;split<;>exact this
theorem zW {u:LUnit}(h:FewU u) :aN (yP u) =true:=by
 have h0:=h.p;simp only [aN,and_eq_true,decide_eq_true_eq]at h0 ⊢;obtain⟨⟨⟨⟨h1,h2⟩,h3⟩,h4⟩,h5⟩ :=h0;exact⟨⟨⟨⟨by simp [yP],by simp [yP]⟩,h3⟩,h4⟩,by rfl⟩
section
variable (u :LUnit) (hu:FewU u)
include hu
theorem aZl :∀ (t:List Node) (i:Nat),u.nodes.drop i=t→i≤u.nodes.length→Ends PP 0 (aBP u (aE u) (bO u) (i:Int) (qK (fF u.funs.length u.needs.length) u.nodes i)).as (.ret (.bool (aY (fG u)))) (aG [] 0)
 | [],i,h,hi=>by
  have hd:=bD h;have hn:i=u.nodes.length:=by omega
  have hl: (qK (fF u.funs.length u.needs.length) u.nodes i).length=u.nodes.length:=aEw;rw [aKO (by omega)]at hl ⊢;exact aWv u (aE u) (bO u) i _ _ (by rw [hl];exact sd) (sH (fG u) (jU hu))
 | x ::t,i,h,hi=>by
  obtain⟨q1,q2,q3⟩ :=bC h;have hi:= (List.getElem?_eq_some_iff.1 q1).1;have hn:u.nodes.length≤320:=by have:=hu.p;simp only [aN,and_eq_true,decide_eq_true_eq]at this;exact this.1.1.1.1
  have hf:=hu.f;have hd:=hu.n;have hl: (qK (fF u.funs.length u.needs.length) u.nodes i).length=u.nodes.length:=aEw;have ho: (aE u).length=u.funs.length:=by simp [aE]
  have hg:=aKP (f:=fF u.funs.length u.needs.length) q1;have w1:IntKind.i64.wrap (0- ((length (aE u) :Nat) :Int)) =0- ((length (aE u) :Nat) :Int) :=by apply wrap64<;>omega
  have w2:IntKind.i64.wrap (0- ((length (aE u) :Nat) :Int) - ((length u.needs:Nat) :Int)) =0- ((length (aE u) :Nat) :Int) - ((length u.needs:Nat) :Int) :=by apply wrap64<;>omega
  have w3:IntKind.i64.wrap (0- ((length (aE u) :Nat) :Int) - (1:Int)) =0- ((length (aE u) :Nat) :Int) - (1:Int) :=by apply wrap64<;>omega
  have ih:=aZl t (i+1) q2 (by omega);by_cases h4:x.op=4
  · have hp:=aNe x.n (0- ((length (aE u) :Nat) :Int) - ((length u.needs:Nat) :Int)) (0- ((length (aE u) :Nat) :Int) - (1:Int));by_cases hb: -(u.funs.length:Int) -u.needs.length≤x.n∧x.n≤ -(u.funs.length:Int) -1
    · have eb:cX x.n (0- ((length (aE u) :Nat) :Int) - ((length u.needs:Nat) :Int)) (0- ((length (aE u) :Nat) :Int) - (1:Int)) =true:=by rw [inB_iff,ho];omega
      rw [eb]at hp;have ef:fF u.funs.length u.needs.length x= ⟨x.op,-1,x.kids,x.pats⟩ :=by unfold fF;rw [if_pos ⟨h4,hb⟩]
      have h1:=aWs u (aE u) (bO u) i _ x true (by rw [hl];exact sd) sd (by rw [hl];omega) (by rw [toNat_natCast];exact hg) (by simp [h4]) w1 w2 w3 hp rfl sd;rw [toNat_natCast,←ef,aKQ q1]at h1;exact h1.ends ih
    · have eb:cX x.n (0- ((length (aE u) :Nat) :Int) - ((length u.needs:Nat) :Int)) (0- ((length (aE u) :Nat) :Int) - (1:Int)) =false:=by rw [Bool.eq_false_iff,Ne,inB_iff,ho];omega
      rw [eb]at hp;have ef:fF u.funs.length u.needs.length x=x:=by unfold fF;rw [if_neg (fun g=>hb g.2)]
      have h1:=aWt u (aE u) (bO u) i _ x false (by rw [hl];exact sd) sd (by rw [hl];omega) (by rw [toNat_natCast];exact hg) (by simp [h4]) w1 w2 w3 hp rfl sd;rw [qL q1 ef]at h1 hl ⊢;exact h1.ends ih
  · have ef:fF u.funs.length u.needs.length x=x:=by unfold fF;rw [if_neg (fun g=>h4 g.1)]
    have h1:=aWu u (aE u) (bO u) i _ x (by rw [hl];exact sd) sd (by rw [hl];omega) (by rw [toNat_natCast];exact hg) (by simp [h4]) sd;rw [qL q1 ef]at h1 hl ⊢;exact h1.ends ih
theorem aZm :∀ (t:List LFun) (i:Nat) (acc:List Int),u.funs.drop i=t→acc.length=i→Ends PP 0 (aIh u (aE u) (i:Int) acc).as (.ret (.bool (aY (fG u)))) (aG [] 0) ∨acc++t.map LFun.body≠bO u
 | [],i,acc,h,ha=>by
  have:=bD h;by_cases e:acc=bO u
  · subst e;have:=aZl u hu u.nodes 0 rfl (Nat.zero_le _);rw [aGh]at this;exact .inl ((aWr u (aE u) i _ sd).ends this)
  ·exact .inr (by simpa using e)
 | f::t,i,acc,h,ha=>by
  obtain⟨q1,q2,q3⟩ :=bC h;have hi:= (List.getElem?_eq_some_iff.1 q1).1;have hf:=hu.f;rcases aZm t (i+1) (acc++ [f.body]) q2 (by simp [ha])with g|g
  ·exact .inl ((aWq u (aE u) i acc f sd sd sd (by simp;omega) sd).ends g)
  ·exact .inr (by simpa using g)
theorem aZn :∀ (t:List aC) (i:Nat),u.needs.drop i=t→Ends PP 0 (aIg u (aE u) (i:Int)).as (.ret (.bool (t.all (fun s=> !bL (aE u) s) && (if u.funs.length=0 then decide (u.nodes.length=0) &&aY (yP u)else aY (fG u))))) (aG [] 0)
 | [], i,h=>by
  have:=bD h;have ho: (aE u).length=u.funs.length:=by simp [aE]
  have hn:u.nodes.length≤320:=by have:=hu.p;simp only [aN,and_eq_true,decide_eq_true_eq]at this;exact this.1.1.1.1
  rw [all_nil,Bool.true_and];by_cases h0:u.funs.length=0
  · rw [if_pos h0];by_cases h1:u.nodes.length=0
    · rw [decide_eq_true h1,Bool.true_and];exact aWn u (aE u) i _ sd (by rw [ho,h0];rfl) (by rw [h1];rfl) (sH (yP u) (zW hu))
    · rw [decide_eq_false h1,Bool.false_and];exact aWo u (aE u) i sd (by rw [ho,h0];rfl) (beq_eq_false_iff_ne.2 (by omega))
  · rw [if_neg h0];refine(aWp u (aE u) i sd (beq_eq_false_iff_ne.2 (by rw [ho];omega)) (by omega)).ends ?_;rcases aZm u hu u.funs 0 [] rfl rfl with g|g
    ·exact g
    ·exact absurd rfl g
 | s::t,i,h=>by
  obtain⟨q1,q2,q3⟩ :=bC h;have hf:=hu.f;have hd:=hu.n;have hh:=aBH (aE u) s (by simp [aE];omega);rw [all_cons];cases e:bL (aE u) s with
  | true=>
   rw [e]at hh;rw [Bool.not_true,Bool.false_and,Bool.false_and];exact aWl u (aE u) i s true sd sd sd hh rfl
  | false=>
   rw [e]at hh;rw [Bool.not_false,Bool.true_and];exact(aWm u (aE u) i s false sd sd sd hh rfl sd).ends (aZn t (i+1) q2)
theorem aTg :Pure PP 37 [LUnit.av u] (.bool (iK u)) :=by
 have hf:=hu.f;have hd:=hu.n;refine eM (s:=aZk u) (by kernel_rfl) (by kernel_rfl) (by simp [keylessL,vW]) (by simp [keyless]) ?_;have a0:=aKL u (by omega);have a1:=aKq u.name;have a2:=aCr (aE u) (by simp [aE];omega);have a3:=aCr u.needs (by omega);unfold iK;cases e1:qG u.name with
 |false=>rw [e1]at a1;simp only [Bool.false_and];exact aWg u (aE u) false a0 a1 rfl
 | true=>
  rw [e1]at a1;by_cases e2:u.needs.length≤20
  · rw [decide_eq_true e2];cases e3:iH (aE u)with
    |false=>rw [e3]at a2;simp only [Bool.true_and,Bool.false_and,Bool.and_false];exact aWi u (aE u) true false a0 a1 rfl (by simp;omega) a2 rfl
    | true=>
     rw [e3]at a2;cases e4:iH u.needs with
     |false=>rw [e4]at a3;simp only [Bool.true_and,Bool.false_and,Bool.and_false];exact aWj u (aE u) true true false a0 a1 rfl (by simp;omega) a2 rfl a3 rfl
     | true=>
      rw [e4]at a3;simp only [Bool.true_and];exact(aWk u (aE u) true true true a0 a1 rfl (by simp;omega) a2 rfl a3 rfl).ends (aZn u hu u.needs 0 rfl)
  · rw [decide_eq_false e2];simp only [Bool.and_false,Bool.false_and];exact aWh u (aE u) true a0 a1 rfl (by simp;omega)
end
def iL (l:List LUnit) :Bool:=decide (l.length≤10) &&l.all iK
theorem aKR (l:List LUnit)(hl:l.length≤10)(hu:∀u∈l,FewU u) :∀ (t:List LUnit) (i:Nat),l.drop i=t→Ends PP 0 (aIc l (i:Int)).as (.ret (.bool (t.all iK))) (aG [] 0)
 | [],i,h=>by
  have:=bD h;exact aWc l i sd
 | u::t,i,h=>by
  obtain⟨q1,q2,q3⟩ :=bC h;have hp:=aTg u (hu u (mem_of_getElem? q1));rw [all_cons];cases e:iK u with
  |false=>rw [e]at hp;exact aWa l i u false sd sd sd hp rfl
  |true=>rw [e]at hp;rw [Bool.true_and];exact(aWb l i u true sd sd sd hp rfl sd).ends (aKR l hl hu t (i+1) q2)
theorem aTh (l:List LUnit)(hu:∀u∈l,FewU u) :Pure PP 18 [.ilst 5 (map LUnit.av l) false] (.bool (iL l)) :=by
 refine aQ (by kernel_rfl) (by simp [keylessL,keyless]) rfl ?_;unfold iL;by_cases h:l.length≤10
 · rw [decide_eq_true h,Bool.true_and];exact(aV9 l (by simp;omega)).ends (aKR l h hu l 0 rfl)
 · rw [decide_eq_false h,Bool.false_and];exact aV8 l (by simp;omega)
def vX (own:List aC) :List aC→List aC→List aC
 |out,[] =>out
 |out,s::t=>vX own (if bL own s=true∨bL out s=true then out else out++ [s]) t
def aA3 (own:List aC) :List aC→List LUnit→List aC
 |out,[] =>out
 |out,u::l=>aA3 own (vX own out u.needs) l
def aA4 (l:List LUnit) :List aC:=aA3 (bI l) [] l
theorem aGj (own:List aC) :∀ (t out:List aC),(vX own out t).length≤out.length+t.length
 | [],out=>by simp [vX]
 | s::t,out=>by
  rw [vX];have:=aGj own t (if bL own s=true∨bL out s=true then out else out++ [s]);split at this<;>simp at this ⊢ <;>split<;>simp_all<;>omega
end
end Go.Hb
