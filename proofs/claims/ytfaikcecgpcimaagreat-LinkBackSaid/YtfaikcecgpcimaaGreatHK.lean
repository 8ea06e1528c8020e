/- A machine on abstract values, its soundness, ways, plain laws. -/
import Derived.Test.YtfaikcecgpcimaaGreatHF
import Derived.Test.YtfaikcecgpcimaaGreatHG
import Derived.Test.YtfaikcecgpcimaaGreatHH
import Derived.Test.YtfaikcecgpcimaaGreatHI
set_option linter.defProp false
set_option linter.unusedVariables false
set_option linter.unusedSimpArgs false
set_option linter.unusedSectionVars false
set_option maxRecDepth 100000
set_option maxHeartbeats 4000000
namespace Go.Hb
open AV (frzOk ilst keyless keylessL nils)
open Bool (and_eq_true)
open Int (toNat_natCast)
open List (all_cons all_nil count_append flatten_cons getElem?_cons_succ getElem?_cons_zero getElem?_eq_getElem length length_cons length_set map map_cons map_nil mem_cons_of_mem mem_cons_self mem_of_getElem? replicate set take_of_length_le)
open Go.Proofs Tryz
noncomputable section
section
variable {p :Prog} {mf mc:List (Int×Int)} {F C:List Int} {to:List Int}
def MOk (p:Prog)(mf mc:List (Int×Int))(F C:List Int) :Prop:=∀ (i:Nat) (x:Node),p.nodes[i]?=some x→bE x.pats<1000000∧mN F C x.op x.n=some (bN mf mc x.op x.n) ∧lE C x.pats=some (fZ mc x.pats)
theorem aBV {g:Nat→Int→Option (List Node)}{h:Int→List Node}{q:Int→List Int}:∀ (ks:List Int) (len:Nat),
  (∀k∈ks,∀len:Nat,len+ (q k).length≤1000000→ (∀ (i:Nat) (b:Int),(q k)[i]?=some b→fB to b= ((len+i:Nat) :Int)) →g len k=some (h k)) → (∀k∈ks,(h k).length= (q k).length∧ (q k)[0]?=some k) →
  len+ ((ks.map q).flatten).length≤1000000→ (∀ (i:Nat) (b:Int),((ks.map q).flatten)[i]?=some b→fB to b= ((len+i:Nat) :Int)) →
  iR g len ks=some (ks.map (fB to),(ks.map h).flatten)
 | [],len,_,_,_,_=>rfl
 | k::ks,len,hg,hh,hb,ht=>by
  simp only [map_cons,flatten_cons,List.length_append]at hb ht ⊢;obtain⟨h1,h2⟩ :=hh k (mem_cons_self ..);have hlt:∀ {i:Nat} {b:Int},(q k)[i]?=some b→i< (q k).length:=fun e=> (List.getElem?_eq_some_iff.1 e).1;rw [iR,hg k (mem_cons_self ..) len (by omega) (fun i b e=>ht i b (by rw [List.getElem?_append_left (hlt e)];exact e))];simp only
  rw [aBV ks (len+ (h k).length) (fun k hk=>hg k (mem_cons_of_mem _ hk)) (fun k hk=>hh k (mem_cons_of_mem _ hk)) (by omega) (fun i b e=>by
   rw [ht ((q k).length+i) b (by rw [List.getElem?_append_right (by omega),show(q k).length+i- (q k).length=i by omega];exact e),h1];congr 1;omega)]
  simp only;rw [ht 0 k (by rw [List.getElem?_append_left (hlt h2)];exact h2)];rfl
theorem yY (hp:FineP p)(hm:MOk p mf mc F C) :∀ (k:Nat) (a:Int) (len:Nat),0≤a→a<p.nodes.length→p.nodes.length-a.toNat≤k→len+ (pre p k a).length≤1000000→ (∀ (i:Nat) (b:Int),(pre p k a)[i]?=some b→fB to b= ((len+i:Nat) :Int)) →
  cN p F C k len a=some (wB p mf mc to k a)
 |0,a,len,ha,hn,hf,_,_=>by omega
 | k +1,a,len,ha,hn,hf,hb,ht=>by
  obtain⟨x,hx⟩ :∃x,p.nodes[a.toNat]?=some x:= ⟨_,getElem?_eq_getElem (by omega)⟩;obtain⟨_,hk10,hks⟩ :=hp.node _ _ hx;obtain⟨m1,m2,m3⟩ :=hm _ _ hx;have e:pre p (k+1) a=a:: (x.kids.map (pre p k)).flatten:=by rw [pre,hx]
  rw [e]at hb ht;simp only [length_cons]at hb
  have hkk:=aBV (to:=to) (g:=cN p F C k) (h:=wB p mf mc to k) (q:=pre p k) x.kids (len+1) (fun c hc len h1 h2=>by
    have:=hks c hc;exact yY hp hm k c len (by omega) (by omega) (by omega) h1 h2) (fun c hc=>by
    have:=hks c hc;obtain⟨y,g,_,_,h3⟩ :=xP hp (f:=k) (a:=c) (by omega) (by omega) (by omega);exact⟨aJs mf mc to k c,by rw [h3];rfl⟩) (by omega) (fun i b h=>by
    rw [ht (i+1) b (by simpa using h)];congr 1;omega)
  rw [cN,if_pos ⟨ha,by omega⟩,hx];simp only;rw [if_pos ⟨by omega,m1⟩,m2];simp only;rw [m3];simp only;rw [hkk];simp only;rw [wB,hx];rfl
end
def aUV (x:Node)(i:Nat) :Nat→List Int→List Int→List Int
 |_,[],l=>l
 |j,k::ks,l=>aUV x i (j+1) ks (l.set k.toNat (l.getD i 0+aL5 x j))
def aPZ :Nat→List Node→List Int→List Int
 |_,[],l=>l
 |i,x::t,l=>aPZ (i+1) t (aUV x i 0 x.kids l)
def aUW :List Int→List Int→List Int
 | [],l=>l
 |f::fs,l=>aUW fs (l.set f.toNat 1)
def aOL (p:Prog) :List Int:=aPZ 0 p.nodes (aUW p.funs (replicate p.nodes.length 0))
theorem aBW {lo n:Int}:∀ {ks:List Int} {u v:List Bool},marks lo n ks u=some v→∀k∈ks,lo≤k∧k≤n-1
 | [],_,_,_,k,hk=>by cases hk
 | a ::ks,u,v,h,k,hk=>by
  simp only [marks]at h;split at h
  · rename_i g;rcases List.mem_cons.1 hk with rfl|hk
    ·exact inB_iff.1 g.1
    ·exact aBW h k hk
  ·cases h
theorem aOM {lo n k:Int}{ks:List Int}{u v:List Bool}(h:marks lo n (k::ks) u=some v) :u[k.toNat]?=some false∧marks lo n ks (u.set k.toNat true) =some v:=by
 simp only [marks]at h;split at h
 ·rename_i g;exact⟨g.2,h⟩
 ·cases h
theorem qY {p:Prog}{i:Nat}{x:Node}{t:List Node}{u v:List Bool}(h:cY p i (x::t) u=some v) :bH p x=true∧∃w,marks ((i:Int) +1) p.nodes.length x.kids u=some w∧cY p (i+1) t w=some v:=by
 simp only [cY]at h;split at h
 · rename_i g;split at h
   ·rename_i w hw;exact⟨g,w,hw,h⟩
   ·cases h
 ·cases h
theorem uE {p:Prog}:∀ {t:List Node} {i:Nat} {u v:List Bool},cY p i t u=some v→v.length=u.length
 | [],i,u,v,h=>by simp only [cY,Option.some.injEq]at h;rw [h]
 | x::t,i,u,v,h=>by
  obtain⟨_,w,hw,h2⟩ :=qY h;rw [uE h2,lZ hw]
theorem uF {p:Prog}:∀ {t:List Node} {i:Nat} {u v:List Bool},cY p i t u=some v→∀ (j:Nat) (x:Node),t[j]?=some x→bH p x=true∧∀k∈x.kids,((i+j:Nat) :Int) <k∧k<p.nodes.length
 | [],i,u,v,h,j,x,hx=>by simp at hx
 | y::t,i,u,v,h,j,x,hx=>by
  obtain⟨g,w,hw,h2⟩ :=qY h;cases j with
  | zero=>
   simp at hx;subst hx;exact⟨g,fun k hk=>by have:=aBW hw k hk;omega⟩
  | succ j=>
   have:=uF h2 j x (by simpa using hx);exact⟨this.1,fun k hk=>by have:=this.2 k hk;omega⟩
structure Sprop (p:Prog) (S:List Int) :Prop where
 len:S.length=p.nodes.length
 root:∀f∈p.funs,S[f.toNat]?=some 1
 kid:∀ (i:Nat) (x:Node) (d:Nat) (k:Int),p.nodes[i]?=some x→x.kids[d]?=some k→∃s,S[i]?=some s∧S[k.toNat]?=some (s+aL5 x d)
inductive Reach (p:Prog) :Nat→Nat→Prop where
 |refl (a:Nat) :Reach p a a
 |step {a i:Nat} {x:Node} {k:Int}:Reach p a i→p.nodes[i]?=some x→k∈x.kids→Reach p a k.toNat
theorem Reach.first {p:Prog}{a m:Nat}(h:Reach p a m) :m=a∨∃ (x:Node) (k:Int),p.nodes[a]?=some x∧k∈x.kids∧Reach p k.toNat m:=by
 induction h with
 |refl=>exact .inl rfl
 | step h hx hk ih=>
  rename_i i x k;rcases ih with rfl| ⟨y,q,h1,h2,h3⟩
  ·exact .inr ⟨x,k,hx,hk,Reach.refl _⟩
  ·exact .inr ⟨y,q,h1,h2,h3.step hx hk⟩
theorem aFB {p:Prog}(hs:aJ p=true) :Pure PP 138 [Prog.av p] (.int .i64 (checkN (aR p))) :=by
 have h2:=aL1 p hs;rw [aR4]at h2;exact h2
theorem mX {p:Prog}(hp:aJ p=true)(hf:aR p=true) :FineP p:=by
 have hs:=hp;simp only [aJ,and_eq_true,decide_eq_true_eq]at hs;obtain⟨⟨⟨⟨s1,s2⟩,s3⟩,_⟩,s5⟩ :=hs;simp only [aR,and_eq_true]at hf;obtain⟨_,hf⟩ :=hf;split at hf
 · rename_i u hu;unfold allT at hf;split at hf
   · rename_i v hv;refine⟨s1,s2,fun i x hx=>?_,fun f hf=>?_⟩
     · have:=uF hv i x hx;have h10:=List.all_eq_true.1 s5 x (mem_of_getElem? hx);simp only [aX,and_eq_true,decide_eq_true_eq]at h10;exact⟨yX this.1,h10.1.1,fun k hk=>by have:=this.2 k hk;omega⟩
     ·have:=aBW hu f hf;omega
   ·cases hf
 ·cases hf
theorem aUX {n:Nat}{i:Int}(h0:0≤i)(h1:i<n) : (numsL 0 n)[i.toNat]?=some i:=by
 rw [rP 0 (by omega)];congr 1;omega
def aFC (n:Nat)(m:List (Int×Int))(l:List Int) :Prop:=∀i:Int,0≤i→i<n→l[i.toNat]?=some (lQ m i)
theorem aEd (n:Nat) :aFC n (sM n) (numsL 0 n) :=fun i h0 h1=>by rw [aUX h0 h1,aL6 h0 h1]
mutual
theorem bDl (cons:List Con){mc:List (Int×Int)}{C:List Int}(hC:aFC cons.length mc C) :∀ (q:Pat),dE cons q=true→aFn C q=some (zG mc q)
 | .mk f n s ps,h=>by
  rw [dE,and_eq_true]at h;have hps:=aJt cons hC ps h.2;have hN:aFm C f n=some (if f=6 then lQ mc n else n) :=by
   unfold aFm;by_cases hf:f=6
   · subst hf;have hh:=h.1;simp only [dH]at hh;simp [cT]at hh;obtain⟨⟨⟨h0,h1⟩,_⟩,_⟩ :=hh;rw [if_pos rfl,if_pos rfl,if_pos h0,hC n h0 (by omega)]
   ·rw [if_neg hf,if_neg hf]
  rw [aFn,hN];simp only;rw [hps,zG]
theorem aJt (cons:List Con){mc:List (Int×Int)}{C:List Int}(hC:aFC cons.length mc C) :∀ (ps:List Pat),bW cons ps=true→lE C ps=some (fZ mc ps)
 | [],_=>rfl
 | q::ps,h=>by
  rw [bW,and_eq_true]at h;rw [lE,bDl cons hC q h.1];simp only;rw [aJt cons hC ps h.2,fZ]
end
theorem kC {cons:List Con}:∀ {ps:List Pat},(∀q∈ps,dE cons q=true) →bW cons ps=true
 | [],_=>rfl
 | q::ps,h=>by
  rw [bW,h q (mem_cons_self ..),kC (fun x hx=>h x (mem_cons_of_mem _ hx))];rfl
theorem yZ {c:Nat}:∀ {ps:List Pat},(∀q∈ps,cU q≤c) →bE ps≤c*ps.length
 | [],_=>by simp [bE]
 | q::ps,h=>by
  have h1:=h q (mem_cons_self ..);have h2:=yZ (c:=c) (ps:=ps) (fun x hx=>h x (mem_cons_of_mem _ hx));simp only [bE,length_cons];rw [Nat.mul_add,Nat.mul_one];omega
theorem aBX {p:Prog}{mf mc:List (Int×Int)}{F C:List Int}(hF:aFC p.funs.length mf F)(hC:aFC p.cons.length mc C)(hB:∀i:Int,0≤i→i<p.funs.length→0≤lQ mf i∧lQ mf i≤1000000)(hs:p.funs.length≤320){x:Node}(h:bH p x=true)(h10:x.pats.length≤10) :
  (bE x.pats<1000000∧mN F C x.op x.n=some (bN mf mc x.op x.n) ∧lE C x.pats=some (fZ mc x.pats)) ∧nOk mf x:=by
 simp only [bH,and_eq_true,eP]at h;obtain⟨⟨⟨h1,_⟩,h2⟩,_⟩ :=h
 have hq:∀q∈x.pats,cU q≤12∧dE p.cons q=true:=fun q hq=>by
  have:=List.all_eq_true.1 h2 q hq;simpa [iD]using this
 have hps:bE x.pats≤12*x.pats.length:=yZ (fun q h=> (hq q h).1)
 have hr4:x.op=4→ -(p.funs.length:Int) ≤x.n∧x.n≤29:=fun e=>by
  rw [e]at h1;simp [bI,cT]at h1;omega
 have hr14:x.op=14→0≤x.n∧x.n<p.cons.length:=fun e=>by
  rw [e]at h1;simp [bI,cT]at h1;omega
 refine⟨⟨by omega,?_,aJt p.cons hC x.pats (kC fun q h=> (hq q h).2)⟩,by omega,fun e hn=>?_⟩
 · unfold mN bN;by_cases h4:x.op=4
   · have hr:=hr4 h4;by_cases hn:x.n<0
     · have hb:=hB (-1-x.n) (by omega) (by omega);rw [if_pos ⟨h4,hn⟩,if_pos h4,if_neg (by omega),hF _ (by omega) (by omega)];simp only;rw [if_pos (by omega)]
     ·rw [if_neg (fun h=>hn h.2),if_neg (show ¬x.op=14 by omega),if_pos h4,if_pos (show 0≤x.n by omega)]
   · rw [if_neg (fun h=>h4 h.1),if_neg h4];by_cases h14:x.op=14
     · have hr:=hr14 h14;rw [if_pos h14,if_pos h14,if_pos hr.1,hC _ hr.1 hr.2]
     ·rw [if_neg h14,if_neg h14]
 · have hr:=hr4 e;have hb:=hB (-1-x.n) (by omega) (by omega);omega
theorem aHu {p:Prog}(hF:p.funs.length≤320){x:Node}(h:bH p x=true)(h10:x.pats.length≤10) :
  (bE x.pats<1000000∧mN (numsL 0 p.funs.length) (numsL 0 p.cons.length) x.op x.n=some (bN (sM p.funs.length) (sM p.cons.length) x.op x.n) ∧lE (numsL 0 p.cons.length) x.pats=some (fZ (sM p.cons.length) x.pats)) ∧nOk (sM p.funs.length) x:=
 aBX (aEd _) (aEd _) (fun i h0 h1=>by rw [aL6 h0 h1];omega) hF h h10
def cM (p:Prog)(i:Int) :List Int:=match p.nodes[i.toNat]? with
 |some x=>x.kids
 |none=>[]
section
variable {p :Prog}
theorem uG {q:Int→List Int}(m:Int) :∀ (ks:List Int),(∀k∈ks,(q k).count m= [k].count m+ (((q k).map (cM p)).flatten).count m) →
  ((ks.map q).flatten).count m=ks.count m+ ((((ks.map q).flatten).map (cM p)).flatten).count m
 | [],_=>rfl
 | k::ks,h=>by
  have h1:=h k (mem_cons_self ..);have h2:=uG m ks (fun x hx=>h x (mem_cons_of_mem _ hx));rw [map_cons,flatten_cons,count_append,List.map_append,List.flatten_append,count_append,h1,h2,show k::ks= [k] ++ks from rfl,count_append];omega
theorem aCO (hp:FineP p)(m:Int) :∀ (f:Nat) (a:Int),0≤a→a<p.nodes.length→p.nodes.length-a.toNat≤f→ (pre p f a).count m= [a].count m+ (((pre p f a).map (cM p)).flatten).count m
 |0,a,ha,hn,hf=>by omega
 | f+1,a,ha,hn,hf=>by
  obtain⟨x,hx⟩ :∃x,p.nodes[a.toNat]?=some x:= ⟨_,getElem?_eq_getElem (by omega)⟩;obtain⟨_,_,hks⟩ :=hp.node _ _ hx;have e:pre p (f+1) a=a:: (x.kids.map (pre p f)).flatten:=by rw [pre,hx]
  have ek:cM p a=x.kids:=by unfold cM;rw [hx]
  have h2:=uG (p:=p) m x.kids (fun k hk=>by
   have:=hks k hk;exact aCO hp m f k (by omega) (by omega) (by omega))
  rw [e,map_cons,flatten_cons,count_append,ek,show a:: (x.kids.map (pre p f)).flatten= [a] ++ (x.kids.map (pre p f)).flatten from rfl,count_append,h2]
theorem aON (hp:FineP p) :∀ (f:Nat) (a:Int),0≤a→a<p.nodes.length→∀y∈pre p f a,0≤y∧y<p.nodes.length
 |0,a,_,_,y,hy=>by cases hy
 | f +1,a,ha,hn,y,hy=>by
  obtain⟨x,hx⟩ :∃x,p.nodes[a.toNat]?=some x:= ⟨_,getElem?_eq_getElem (by omega)⟩;obtain⟨_,_,hks⟩ :=hp.node _ _ hx;have e:pre p (f+1) a=a:: (x.kids.map (pre p f)).flatten:=by rw [pre,hx]
  rw [e]at hy;rcases List.mem_cons.1 hy with rfl|hy
  ·exact⟨ha,hn⟩
  · obtain⟨l,hl,hy⟩ :=List.mem_flatten.1 hy;obtain⟨k,hk,rfl⟩ :=List.mem_map.1 hl;have:=hks k hk;exact aON hp f k (by omega) (by omega) y hy
def kR (u:List Bool)(m:Int) :Nat:=if u[m.toNat]?=some true then 1 else 0
theorem jB {lo n:Int}(hlo:0≤lo){m:Int}(hm:0≤m) :∀ {ks:List Int} {u v:List Bool},marks lo n ks u=some v→ks.count m+kR u m=kR v m
 | [],u,v,h=>by cases h;simp
 | k ::ks,u,v,h=>by
  have hk:=aBW h k (mem_cons_self ..);obtain⟨h1,h2⟩ :=aOM h;have h3:=jB hlo hm h2;rw [←h3,show k::ks= [k] ++ks from rfl,count_append];have hlt:= (List.getElem?_eq_some_iff.1 h1).1;by_cases e:k=m
  · subst e;have a1:kR u k=0:=by unfold kR;rw [h1];rfl
    have a2:kR (u.set k.toNat true) k=1:=by unfold kR;rw [List.getElem?_set_self hlt];rfl
    rw [a1,a2];simp;omega
  · have a1:kR (u.set k.toNat true) m=kR u m:=by unfold kR;rw [List.getElem?_set_ne (by omega)]
    rw [a1,List.count_singleton,if_neg (by simpa using e)];omega
theorem lG {m:Int}(hm:0≤m) :∀ {t:List Node} {i:Nat} {u v:List Bool},cY p i t u=some v→ ((t.map Node.kids).flatten).count m+kR u m=kR v m
 | [],i,u,v,h=>by simp only [cY,Option.some.injEq]at h;subst h;simp
 | x::t,i,u,v,h=>by
  obtain⟨_,w,h1,h2⟩ :=qY h;have h3:=jB (by omega) hm h1;have h4:=lG hm h2;rw [map_cons,flatten_cons,count_append];omega
theorem aHv {m:Int}:∀ {t:List Node},((t.map Node.kids).flatten).count m≤1→∀ (i j:Nat) (x y:Node),t[i]?=some x→t[j]?=some y→m∈x.kids→m∈y.kids→i=j
 | [],_,i,j,x,y,hx,_,_,_=>by simp at hx
 | z ::t,h,i,j,x,y,hx,hy,mx,my=>by
  rw [map_cons,flatten_cons,count_append]at h;have inT:∀ {i:Nat} {x:Node},t[i]?=some x→m∈x.kids→0< ((t.map Node.kids).flatten).count m:=fun {i x} hx mx=>
   List.count_pos_iff.2 (List.mem_flatten.2 ⟨x.kids,List.mem_map.2 ⟨x,mem_of_getElem? hx,rfl⟩,mx⟩)
  cases i with
  | zero=>
   simp only [getElem?_cons_zero,Option.some.injEq]at hx;subst hx;cases j with
   |zero=>rfl
   | succ j=>
    simp only [getElem?_cons_succ]at hy;have:=inT hy my;have:=List.count_pos_iff.2 mx;omega
  | succ i=>
   simp only [getElem?_cons_succ]at hx;cases j with
   | zero=>
    simp only [getElem?_cons_zero,Option.some.injEq]at hy;subst hy;have:=inT hx mx;have:=List.count_pos_iff.2 my;omega
   | succ j=>
    simp only [getElem?_cons_succ]at hy;rw [aHv (by omega) i j x y hx hy mx my]
theorem aP0 {m:Int}:∀ {t:List Node} {i:Nat} {x:Node},t[i]?=some x→x.kids.count m≤ ((t.map Node.kids).flatten).count m
 | [],i,x,hx=>by simp at hx
 | z::t,0,x,hx=>by
  simp only [getElem?_cons_zero,Option.some.injEq]at hx;subst hx;rw [map_cons,flatten_cons,count_append];omega
 | z::t,i+1,x,hx=>by
  simp only [getElem?_cons_succ]at hx;have:=aP0 (m:=m) hx;rw [map_cons,flatten_cons,count_append];omega
theorem aP1 {m i:Int}:∀ (L:List Int),(∀j∈L,m∈cM p j→j=i) → ((L.map (cM p)).flatten).count m≤L.count i* (cM p i).count m
 | [],_=>by simp
 | j ::L,h=>by
  have h1:=aP1 L (fun x hx=>h x (mem_cons_of_mem _ hx));rw [map_cons,flatten_cons,count_append,show j::L= [j] ++L from rfl,count_append,Nat.add_mul];by_cases hm:m∈cM p j
  · have:=h j (mem_cons_self ..) hm;subst this;simp;exact h1
  · rw [List.count_eq_zero.2 hm];exact Nat.le_trans (by simpa using h1) (Nat.le_add_left ..)
theorem bFM (hp:FineP p)(hK:∀m:Int,0≤m→p.funs.count m+ ((p.nodes.map Node.kids).flatten).count m≤1){L:List Int}(hin:∀x∈L,0≤x∧x<p.nodes.length)(hL:∀m:Int,L.count m=p.funs.count m+ ((L.map (cM p)).flatten).count m) :∀ (b m:Nat),m≤b→L.count (m:Int) ≤1:=by
 intro b
 induction b with
 | zero=>
  intro m hmb;have hm:m=0:=by omega
  subst hm;have e:=hL ((0:Nat) :Int);have z: ((L.map (cM p)).flatten).count ((0:Nat) :Int) =0:=by
   refine List.count_eq_zero.2 (fun h=>?_);obtain⟨l,hl,hy⟩ :=List.mem_flatten.1 h;obtain⟨j,hj,rfl⟩ :=List.mem_map.1 hl;unfold cM at hy;split at hy
   · rename_i x hx;have:= (hp.node _ _ hx).2.2 _ hy;omega
   ·cases hy
  have:=hK ((0:Nat) :Int) (by omega);omega
 | succ b ih=>
  intro m hmb;have e:=hL (m:Int);have hk:=hK (m:Int) (by omega);by_cases hz: ((L.map (cM p)).flatten).count (m:Int) =0
  ·omega
  · have hpos:=List.count_pos_iff.1 (Nat.pos_of_ne_zero hz);obtain⟨l,hl,hy⟩ :=List.mem_flatten.1 hpos;obtain⟨i,hi,rfl⟩ :=List.mem_map.1 hl;have hir:=hin i hi;obtain⟨x,hx⟩ :∃x,p.nodes[i.toNat]?=some x:= ⟨_,getElem?_eq_getElem (by omega)⟩;have ei:cM p i=x.kids:=by unfold cM;rw [hx]
    rw [ei]at hy;have him:= (hp.node _ _ hx).2.2 _ hy;have hci:L.count i≤1:=by
     have:=ih i.toNat (by omega);rwa [show((i.toNat:Nat) :Int) =i by omega]at this
    have hle:=aP1 (p:=p) (m:= (m:Int)) (i:=i) L (fun j hj hmj=>by
     have hjr:=hin j hj;obtain⟨y,hy'⟩ :∃y,p.nodes[j.toNat]?=some y:= ⟨_,getElem?_eq_getElem (by omega)⟩;have ej:cM p j=y.kids:=by unfold cM;rw [hy']
     rw [ej]at hmj;have:=aHv (by omega) _ _ y x hy' hx hmj hy;omega)
    rw [ei]at hle;have hkl:=aP0 (m:= (m:Int)) hx;have:L.count i*x.kids.count (m:Int) ≤1*x.kids.count (m:Int) :=Nat.mul_le_mul_right _ hci;omega
theorem oI :∀ (n:Nat) (l:List Nat),l.Nodup→ (∀x∈l,x<n) →l.length≤n
 |0,[],_,_=>by simp
 |0,x::l,_,h=>by have:=h x (mem_cons_self ..);omega
 | n+1,l,hd,h=>by
  by_cases hm:n∈l
  · have h1:=oI n (l.erase n) (hd.erase n) (fun x hx=>by
     have:=h x (List.mem_of_mem_erase hx)
     have hne:x≠n:=fun e=>by
      subst e;exact hd.not_mem_erase hx
     omega)
    rw [List.length_erase_of_mem hm]at h1;omega
  · have:=oI n l hd (fun x hx=>by
     have:=h x hx;have hne:x≠n:=fun e=>hm (e ▸ hx);omega)
    omega
end
theorem aFD {L:List Int}(h:∀a,L.count a≤1) :L.Nodup:=List.nodup_iff_count.2 h
theorem aP2 :∀ (n:Nat) (l:List Int),(∀i:Nat,i<n→ (i:Int) ∈l) →n≤l.length
 |0,l,_=>Nat.zero_le _
 | n+1,l,h=>by
  have h0:=h n (Nat.lt_succ_self n);have h1:=aP2 n (l.erase (n:Int)) (fun i hi=> (List.mem_erase_of_ne (by omega)).2 (h i (by omega)));rw [List.length_erase_of_mem h0]at h1;have:=List.length_pos_of_mem h0;omega
theorem all_in {p:Prog}(hp:FineP p)(hK:∀m:Nat,m<p.nodes.length→p.funs.count (m:Int) + ((p.nodes.map Node.kids).flatten).count (m:Int) =1){L:List Int}(hL:∀m:Int,L.count m=p.funs.count m+ ((L.map (cM p)).flatten).count m) :∀ (b m:Nat),m≤b→m<p.nodes.length→ (m:Int) ∈L:=by
 intro b
 induction b with
 | zero=>
  intro m hmb hm;have e:=hL (m:Int);have hk:=hK m hm;by_cases hz: ((p.nodes.map Node.kids).flatten).count (m:Int) =0
  ·exact List.count_pos_iff.1 (by omega)
  · obtain⟨l,hl,hy⟩ :=List.mem_flatten.1 (List.count_pos_iff.1 (Nat.pos_of_ne_zero hz));obtain⟨x,hx,rfl⟩ :=List.mem_map.1 hl;obtain⟨i,hi⟩ :=List.mem_iff_getElem?.1 hx;have:= (hp.node _ _ hi).2.2 _ hy;omega
 | succ b ih=>
  intro m hmb hm;have e:=hL (m:Int);have hk:=hK m hm;by_cases hz: ((p.nodes.map Node.kids).flatten).count (m:Int) =0
  ·exact List.count_pos_iff.1 (by omega)
  · obtain⟨l,hl,hy⟩ :=List.mem_flatten.1 (List.count_pos_iff.1 (Nat.pos_of_ne_zero hz));obtain⟨x,hx,rfl⟩ :=List.mem_map.1 hl;obtain⟨i,hi⟩ :=List.mem_iff_getElem?.1 hx;have him:= (hp.node _ _ hi).2.2 _ hy;have hiL:=ih i (by omega) (by omega);have: (m:Int) ∈ (L.map (cM p)).flatten:=List.mem_flatten.2 ⟨x.kids,List.mem_map.2 ⟨(i:Int),hiL,by unfold cM;rw [toNat_natCast,hi]⟩,hy⟩;have:=List.count_pos_iff.2 this;exact List.count_pos_iff.1 (by omega)
theorem pJ {p:Prog}(hs:aJ p=true)(hf:aR p=true) : ((p.funs.map (pre p p.nodes.length)).flatten).Nodup∧ ((p.funs.map (pre p p.nodes.length)).flatten).length=p.nodes.length∧ (∀x∈ (p.funs.map (pre p p.nodes.length)).flatten,0≤x∧x<p.nodes.length) ∧
  (∀ (i:Nat) (x:Node),p.nodes[i]?=some x→bH p x=true) :=by
 have hp:=mX hs hf;simp only [aR,and_eq_true]at hf;obtain⟨_,hf⟩ :=hf;split at hf
 · rename_i u hu;unfold allT at hf;split at hf
   · rename_i v hv
     have hK:∀m:Int,0≤m→p.funs.count m+ ((p.nodes.map Node.kids).flatten).count m≤1:=fun m hm=>by
      have h1:=jB (by omega) hm hu;have h2:=lG hm hv;have h3:kR v m≤1:=by unfold kR;split<;>omega
      omega
     have hin:∀x∈ (p.funs.map (pre p p.nodes.length)).flatten,0≤x∧x<p.nodes.length:=fun x hx=>by
      obtain⟨l,hl,hy⟩ :=List.mem_flatten.1 hx;obtain⟨k,hk,rfl⟩ :=List.mem_map.1 hl;have:=hp.funs k hk;exact aON hp _ k this.1 this.2 x hy
     have hL:∀m:Int,((p.funs.map (pre p p.nodes.length)).flatten).count m=p.funs.count m+ ((((p.funs.map (pre p p.nodes.length)).flatten).map (cM p)).flatten).count m:=fun m=>uG m p.funs (fun k hk=>by
      have:=hp.funs k hk;exact aCO hp m _ k this.1 this.2 (by omega))
     have hd: ((p.funs.map (pre p p.nodes.length)).flatten).Nodup:=aFD (fun a=>by
      by_cases ha:a∈ (p.funs.map (pre p p.nodes.length)).flatten
      · have hr:=hin a ha;have:=bFM hp hK hin hL a.toNat a.toNat (Nat.le_refl _);rwa [show((a.toNat:Nat) :Int) =a by omega]at this
      ·rw [List.count_eq_zero.2 ha];omega)
     refine⟨hd,?_,hin,fun i x hx=> (uF hv i x hx).1⟩;have hd2: (((p.funs.map (pre p p.nodes.length)).flatten).map Int.toNat).Nodup:=by
      rw [List.nodup_iff_pairwise_ne]at hd ⊢;refine List.pairwise_map.2 (hd.imp_of_mem (fun {a b} ha hb hne e=>?_));have:=hin a ha;have:=hin b hb;exact hne (by omega)
     have:=oI p.nodes.length _ hd2 (fun x hx=>by
      obtain⟨y,hy,rfl⟩ :=List.mem_map.1 hx;have:=hin y hy;omega)
     rw [List.length_map]at this;refine Nat.le_antisymm this (aP2 _ _ (fun i hi=>all_in hp (fun m hm=>?_) hL i i (Nat.le_refl _) hi));have h1:=jB (m:= (m:Int)) (by omega) (by omega) hu;have h2:=lG (m:= (m:Int)) (by omega) hv;have hl1:=lZ hu;have hl2:=uE hv;rw [List.length_replicate]at hl1;have h3:kR (replicate p.nodes.length false) (m:Int) =0:=by
      unfold kR;rw [toNat_natCast,List.getElem?_replicate,if_pos hm];rfl
     have h4:kR v (m:Int) =1:=by
      unfold kR;have hlt:m<v.length:=by omega
      have:=List.all_eq_true.1 hf _ (List.getElem_mem hlt);rw [toNat_natCast,getElem?_eq_getElem hlt,this];rfl
     omega
   ·cases hf
 ·cases hf
abbrev aJu :AV:=.agg [.ilst 4 (map Node.av ([] :List Node)) true,.ilst 1 (map aP ([] :List Int)) true,.int .i64 0,.ilst 2 (map Con.av ([] :List Con)) true]
def gU (s:aB) :List Con→Int→Int
 | [],_=> -1
 |c::t,i=>if c.name=s then i else gU s t (i+1)
theorem qL (s:aB) :∀ (l:List Con) (i:Int),0≤i→gU s l i= -1∨ (i≤gU s l i∧gU s l i<i+l.length∧∃d,l[(gU s l i-i).toNat]?=some d∧d.name=s)
 | [],i,h=>.inl rfl
 | c ::t,i,h=>by
  simp only [gU];split
  · rename_i e;exact .inr ⟨by omega,by simp;omega,c,by simp,e⟩
  · rcases qL s t (i+1) (by omega)with g| ⟨g1,g2,d,g3,g4⟩
    ·exact .inl g
    · refine .inr ⟨by omega,by rw [length_cons];omega,d,?_,g4⟩;rw [show(gU s t (i+1) -i).toNat= (gU s t (i+1) - (i+1)).toNat+1 by omega,getElem?_cons_succ];exact g3
def aJv(a:List Int)(b:Int):TS:=⟨(tf 75 26 [(0,(iI a)),(1,(iI a)),(4,(bV false)),(5,(nI b))] [kc f75 116,kl f75 116,.inBlock 0,kc f75 15]),[],[],0⟩
def aJw(a b:Int)(c:aB)(d:List Pat)(e:Int):TS:=⟨(tf 163 53 [kp 2 0,kp 3 1,(4,(bV false)),(5,(nI e))] [kc f163 116,kl f163 116,.inBlock 0,kc f163 15]),[],[oC 0 [(nI a),(nI b),(aA c),(iP d)],oC 1 [(nI a),(nI b),(aA c),(iP d)]],2⟩
def aJx(a:Node)(b:Int):TS:=⟨(tf 83 54 [kp 2 0,kp 3 1,(4,(bV false)),(5,(nI b))] [kc f83 116,kl f83 116,.inBlock 0,kc f83 15]),[],[oC 0 [(nI a.op),(nI a.n),(iI a.kids),(iP a.pats)],oC 1 [(nI a.op),(nI a.n),(iI a.kids),(iP a.pats)]],2⟩
def aJy(a:Prog)(b:Int):TS:=⟨(tf 26 75 [kp 2 0,kp 3 1,(4,(bV false)),(5,(nI b))] [kc f26 116,kl f26 116,.inBlock 0,kc f26 15]),[],[oC 0 [(iN a.nodes),(iI a.funs),(nI a.main),(iC a.cons)],oC 1 [(iN a.nodes),(iI a.funs),(nI a.main),(iC a.cons)]],2⟩
def aJz(a:Prog)(b:Int):TS:=⟨(tf 26 75 [kp 2 0,kp 3 1,(4,(bV false)),(6,(nI b))] [kc f26 244,kl f26 244,.inBlock 2,kc f26 31]),[],[oC 0 [(iN a.nodes),(iI a.funs),(nI a.main),(iC a.cons)],oC 1 [(iN a.nodes),(iI a.funs),(nI a.main),(iC a.cons)]],2⟩
def aX4 (a:List Int):=fun b=>(tT 0 (start PP 75 [(iI a),(iI a)])<|gl 8 aP a<|gl 1 aP a<|.b 2 10 ((a.length:Int) != (a.length:Int)) .x<|.W 9 0 [] (aJv a 0))|>.f b tv
def bB1(b:List Int)(a:Int):=tT 0 (aJv b a)<|gl 5 aP b<|gd 2 14 (a< (b.length:Int)) (.y fun c:Int=>.i [rn 5,.reg (.d::.d::.ans (.idx (aP c))::rd 3 [.ans (.idx (aP c)),.d,.d])] [hA (0≤a),.a (((b)[a.toNat]?) =some c) (bF (f:=aP)),hA (0≤a),.a (((b)[a.toNat]?) =some c) (bF (f:=aP))]<|.b 0 25 (c != c) .x<|gw 6 16 (a+1)<|.W 3 0 [] (aJv b (a+1)))<|gE 7 0 (bV true)
def aX5:=fun c d e f a b g i=>bB1 c d|>.t f e a b a b|>.f g i tv
def aX6:=fun a b c=>bB1 a b|>.f c tv
def aX7 (c d:Int)(a:aB)(b:List Pat):=fun e f g i=>(tT 0 (start PP 163 [(.agg [(nI c),(nI d),(aA a),(iP b)]),(.agg [(nI c),(nI d),(aA a),(iP b)])])<|.b 15 11 (c != c) .x<|.b 7 18 (d != d) .x<|.b 7 25 (!(bL a.length (aC a) a.length (aC a))) .x<|gm 2 aK b<|gm 2 aK b<|.b 3 33 ((b.length:Int) != (b.length:Int)) .x<|.W 9 2 [0,1] (aJw c d a b 0))|>.f e|>.f f|>.f g|>.f i tv
def bB2(i j:Int)(k:aB)(b:List Pat)(a:Int):=tT 0 (aJw i j k b a)<|gm 6 aK b<|gd 2 38 (a< (b.length:Int)) (.y fun c:Int=>.y fun d:Int=>.y fun e:aB=>.y fun f:List Pat=>.y fun g:Bool=>.i [rn 5,.reg (rd 3 (.ans (.idx (Pat.av (Pat.mk c d e f)))::rd 4 [.ans (.idx (Pat.av (Pat.mk c d e f))),.d,.pure (bV g),.d]))] [hA (0≤a),.a (((b)[a.toNat]?) =some (Pat.mk c d e f)) (mW aK),hA (0≤a),.a (((b)[a.toNat]?) =some (Pat.mk c d e f)) (mW aK),hA (Pure PP 163 [(.agg [(nI c),(nI d),(aA e),(iP f)]),(.agg [(nI c),(nI d),(aA e),(iP f)])] (bV g))]<|.b 0 52 (!g) .x<|gw 6 40 (a+1)<|.W 3 2 [0,1] (aJw i j k b (a+1)))<|gE 7 2 (bV true)
def aX8:=fun c d e f g i j k l m n a b o p q=>bB2 c d e f g|>.t n i j k l m a b a b o|>.f p q tv
def aX9:=fun a b c d e f=>bB2 a b c d e|>.f f tv
def aYa (a:Node):=fun b c d e f g=>(tT 0 (start PP 83 [(Node.av a),(Node.av a)])<|.b 15 11 (a.op != a.op) .x<|.b 7 18 (a.n != a.n) .x<|gG 4 75 [(iI a.kids),(iI a.kids)]<|fun b=>.b 3 26 (!b) .x<|gm 2 aK a.pats<|gm 2 aK a.pats<|.b 3 34 ((a.pats.length:Int) != (a.pats.length:Int)) .x<|.W 9 2 [0,1] (aJx a 0))|>.f c|>.f d b e|>.f f|>.f g tv
def bB3(b:Node)(a:Int):=tT 0 (aJx b a)<|gm 6 aK b.pats<|gd 2 39 (a< (b.pats.length:Int)) (.y fun c:Int=>.y fun d:Int=>.y fun e:aB=>.y fun f:List Pat=>.y fun g:Bool=>.i [rn 5,.reg (rd 3 (.ans (.idx (Pat.av (Pat.mk c d e f)))::rd 4 [.ans (.idx (Pat.av (Pat.mk c d e f))),.d,.pure (bV g),.d]))] [hA (0≤a),.a (((b.pats)[a.toNat]?) =some (Pat.mk c d e f)) (mW aK),hA (0≤a),.a (((b.pats)[a.toNat]?) =some (Pat.mk c d e f)) (mW aK),hA (Pure PP 163 [(.agg [(nI c),(nI d),(aA e),(iP f)]),(.agg [(nI c),(nI d),(aA e),(iP f)])] (bV g))]<|.b 0 53 (!g) .x<|gw 6 41 (a+1)<|.W 3 2 [0,1] (aJx b (a+1)))<|gE 7 2 (bV true)
def aYb:=fun c d e f g i j k a b l m n=>bB3 c d|>.t k e f g i j a b a b l|>.f m n tv
def aYc:=fun a b c=>bB3 a b|>.f c tv
def aYd (a:Prog):=fun b c d e f g=>(tT 0 (start PP 26 [(Prog.av a),(Prog.av a)])<|gl 11 Node.av a.nodes<|gl 2 Node.av a.nodes<|.b 2 14 ((a.nodes.length:Int) != (a.nodes.length:Int)) .x<|gG 4 75 [(iI a.funs),(iI a.funs)]<|fun b=>.b 3 22 (!b) .x<|.b 7 29 (a.main != a.main) .x<|gl 2 Con.av a.cons<|gl 2 Con.av a.cons<|.b 3 37 ((a.cons.length:Int) != (a.cons.length:Int)) .x<|.W 9 2 [0,1] (aJy a 0))|>.f c b d|>.f e|>.f f|>.f g tv
def bB4(c:Prog)(b:Int):=tT 0 (aJy c b)<|gl 6 Con.av c.cons<|gd 2 42 (b< (c.cons.length:Int)) (.y fun a:Con=>.i [rn 5,.reg (rd 3 (.ans (.idx (Con.av a))::rd 4 [.ans (.idx (Con.av a)),.d,.d]))] [hA (0≤b),.a (((c.cons)[b.toNat]?) =some a) (bF (f:=Con.av)),hA (0≤b),.a (((c.cons)[b.toNat]?) =some a) (bF (f:=Con.av))]<|.b 0 55 (!((bL a.name.length (aC a.name) a.name.length (aC a.name)) && ((a.args==a.args) &&true))) .x<|gw 6 44 (b+1)<|.W 3 2 [0,1] (aJy c (b+1)))<|.W 9 2 [0,1] (aJz c 0)
def aYe:=fun c d e f a b g i=>bB4 c d|>.t f e a b a b|>.f g i tv
def aYf:=fun a b c=>bB4 a b|>.f c tv
def bB5(b:Prog)(a:Int):=tT 0 (aJz b a)<|gl 6 Node.av b.nodes<|gd 2 60 (a< (b.nodes.length:Int)) (.y fun c:Node=>.y fun d:Bool=>.i [rn 5,.reg (rd 3 (.ans (.idx (Node.av c))::rd 4 [.ans (.idx (Node.av c)),.d,.pure (bV d),.d]))] [hA (0≤a),.a (((b.nodes)[a.toNat]?) =some c) (bF (f:=Node.av)),hA (0≤a),.a (((b.nodes)[a.toNat]?) =some c) (bF (f:=Node.av)),hA (Pure PP 83 [(Node.av c),(Node.av c)] (bV d))]<|.b 0 74 (!d) .x<|gw 6 62 (a+1)<|.W 3 2 [0,1] (aJz b (a+1)))<|gE 7 2 (bV true)
def aYg:=fun c d e f g a b i j k=>bB5 c d|>.t g e f a b a b i|>.f j k tv
def aYh:=fun a b c=>bB5 a b|>.f c tv
theorem aAX (s:aB) :bL (length s) (aC s) (length s) (aC s) =true:=by rw [dG];simp
theorem aL7 (a:List Int)(ha:a.length<1000000) :∀ (t:List Int) (i:Nat),a.drop i=t→Ends PP 0 (aJv a (i:Int)).as (.ret (.bool true)) (aD [] 0)
 | [],i,h=>by
  have:=bA h;exact aX6 a i sd
 | y::t,i,h=>by
  obtain⟨g1,g2,g3⟩ :=aY h;have h1:=aX5 a i y sd sd sd (by simp) sd;exact h1.ends (aL7 a ha t (i+1) g2)
theorem aL8 (a:List Int)(ha:a.length<1000000) :Pure PP 75 [.ilst 1 (map aP a) false,.ilst 1 (map aP a) false] (.bool true) :=
 aU (by kernel_rfl) rfl rfl ((aX4 a (by simp)).ends (aL7 a ha a 0 rfl))
theorem aL9 (f n:Int)(s:aB)(ps:List Pat)(hl:ps.length<1000000)(ih:∀p∈ps,Pure PP 163 [Pat.av p,Pat.av p] (.bool true)) :∀ (t:List Pat) (i:Nat),ps.drop i=t→Ends PP 0 (aJw f n s ps (i:Int)).as (.ret (.bool true)) (aD [] 0)
 | [],i,h=>by
  have:=bA h;exact aX9 f n s ps i sd
 | .mk f1 n1 s1 ps1::t,i,h=>by
  obtain⟨g1,g2,g3⟩ :=aY h;have h1:=aX8 f n s ps i f1 n1 s1 ps1 true sd sd sd (ih (.mk f1 n1 s1 ps1) (mem_of_getElem? g1)) rfl sd;exact h1.ends (aL9 f n s ps hl ih t (i+1) g2)
mutual
theorem aUY :∀ (q:Pat),cU q<1000000→Pure PP 163 [Pat.av q,Pat.av q] (.bool true)
 | .mk f n s ps,h=>by
  simp only [cU]at h;have:=gC ps;exact aU (by kernel_rfl) (by simp [keylessL,pD]) rfl ((aX7 f n s ps (by simp) (by simp) (by rw [aAX];rfl) (by simp)).ends (aL9 f n s ps (by omega) (aJA ps (by omega)) ps 0 rfl))
theorem aJA :∀ (ps:List Pat),bE ps<1000000→∀p∈ps,Pure PP 163 [Pat.av p,Pat.av p] (.bool true)
 | [],_,p,hp=>by cases hp
 | q::ps,h,p,hp=>by
  simp only [bE]at h;rcases List.mem_cons.1 hp with e|hp
  ·rw [e];exact aUY q (by omega)
  ·exact aJA ps (by omega) p hp
end
theorem aMa (x:Node)(hl:x.pats.length<1000000)(ih:∀p∈x.pats,Pure PP 163 [Pat.av p,Pat.av p] (.bool true)) :∀ (t:List Pat) (i:Nat),x.pats.drop i=t→Ends PP 0 (aJx x (i:Int)).as (.ret (.bool true)) (aD [] 0)
 | [],i,h=>by
  have:=bA h;exact aYc x i sd
 | .mk f1 n1 s1 ps1::t,i,h=>by
  obtain⟨g1,g2,g3⟩ :=aY h;have h1:=aYb x i f1 n1 s1 ps1 true sd sd sd (ih (.mk f1 n1 s1 ps1) (mem_of_getElem? g1)) rfl sd;exact h1.ends (aMa x hl ih t (i+1) g2)
def aYi (x:Node) :Prop:=x.kids.length<1000000∧bE x.pats<1000000
structure FitP (q:Prog) :Prop where
 nodes:q.nodes.length≤1000000
 funs:q.funs.length<1000000
 cons:q.cons.length<1000000
 node:∀x∈q.nodes,aYi x
theorem aUZ (x:Node)(h:aYi x) :Pure PP 83 [Node.av x,Node.av x] (.bool true) :=by
 have:=gC x.pats;have h1:=h.1;have h2:=h.2;exact aU (by kernel_rfl) (by simp [keylessL,Node.av,keyless]) rfl ((aYa x true (by simp) (by simp) (aL8 x.kids h.1) rfl (by simp)).ends (aMa x (by omega) (aJA x.pats h.2) x.pats 0 rfl))
theorem bB6 (p:Prog)(hp:FitP p) :∀ (t:List Node) (i:Nat),p.nodes.drop i=t→Ends PP 0 (aJz p (i:Int)).as (.ret (.bool true)) (aD [] 0)
 | [],i,h=>by
  have:=bA h;exact aYh p i sd
 | x::t,i,h=>by
  obtain⟨g1,g2,g3⟩ :=aY h;have hn:=hp.nodes;have h1:=aYg p i x true sd sd sd (aUZ x (hp.node x (mem_of_getElem? g1))) rfl sd;exact h1.ends (bB6 p hp t (i+1) g2)
theorem bB7 (p:Prog)(hp:FitP p) :∀ (t:List Con) (i:Nat),p.cons.drop i=t→Ends PP 0 (aJy p (i:Int)).as (.ret (.bool true)) (aD [] 0)
 | [],i,h=>by
  have:=bA h;exact(aYf p i sd).ends (bB6 p hp p.nodes 0 rfl)
 | c::t,i,h=>by
  obtain⟨g1,g2,g3⟩ :=aY h;have hn:=hp.cons;have h1:=aYe p i c sd sd sd (by rw [aAX];simp) sd;exact h1.ends (bB7 p hp t (i+1) g2)
theorem aOO (p:Prog)(hp:FitP p) :Pure PP 26 [Prog.av p,Prog.av p] (.bool true) :=
 aU (by kernel_rfl) (by simp [keylessL,Prog.av,keyless]) rfl ((aYd p true (by simp) (aL8 p.funs hp.funs) rfl (by simp) (by simp)).ends (bB7 p hp p.cons 0 rfl))
theorem aHw {f:Nat}{args:List AV}{v v':AV}(h:Pure PP f args v)(hv:∀ (E:Emb) (cv:Value),VR E v cv→VR E v' cv) :Pure PP f args v':=fun hh=>by
 obtain⟨g,hg,he⟩ :=h hh;exact⟨g,hg,aHt he hv⟩
theorem aYj {E:Emb}{e:Int}{cv:Value}(h:VR E (.tup [aJu,.int .i64 e]) cv) :VR E (.tup [Prog.av ⟨[],[],0,[]⟩,.int .i64 e]) cv:=by
 simp only [VR]at h ⊢;obtain⟨us,h1,h2⟩ :=h;obtain⟨u,us',rfl,h3,h4⟩ :=h2.cons_inv;simp only [aJu,VR]at h3;obtain⟨ws,rfl,h5⟩ :=h3;obtain⟨a1,w1,rfl,c1,h5⟩ :=h5.cons_inv;obtain⟨a2,w2,rfl,c2,h5⟩ :=h5.cons_inv;obtain⟨a3,w3,rfl,c3,h5⟩ :=h5.cons_inv;obtain⟨a4,w4,rfl,c4,h5⟩ :=h5.cons_inv;refine⟨_,h1,VRs.cons ?_ h4⟩;simp only [Prog.av,VR];exact⟨_,rfl,VRs.cons (nW c1) (VRs.cons (nW c2) (VRs.cons c3 (VRs.cons (nW c4) h5)))⟩
mutual
theorem aCP (mc:List (Int×Int)) :∀q:Pat,cU (zG mc q) =cU q
 | .mk f n t ps=>by rw [zG,cU,cU,aFE mc ps]
theorem aFE (mc:List (Int×Int)) :∀ps:List Pat,bE (fZ mc ps) =bE ps
 | [] =>rfl
 |q::ps=>by rw [fZ,bE,bE,aCP mc q,aFE mc ps]
end
def FunD.nm :FunD→aB
 | .mk n _ _ _ _=>n
def aU0 (l:List aB)(s:aB) :Nat→Int
 |0=> -1
 |i+1=>if l[i]?=some s then(i:Int)else aU0 l s i
def aOP (l:List aB)(s:aB) :Int:=aU0 l s l.length
def aOQ (op:Int)(s:aB)(ps:List Pat)(k:Nat) :List aB:=
 if op=5∨op=27 then [s]else if op=7 then(if k=1 then [s]else [])else if op=15 then(match k with|0=>[] |j+1=>match ps[j]? with|some p=>aUS p|none=>[])else []
structure LFun where
 name:aB
 body:Int
def LFun.av (f:LFun) :AV:=.agg [aA f.name,.int .i64 f.body]
structure LUnit where
 name:aB
 cons:List Con
 funs:List LFun
 needs:List aB
 nodes:List Node
def LUnit.av (u:LUnit) :AV:=.agg [aA u.name,.ilst 2 (map Con.av u.cons) false,.ilst 2 (map LFun.av u.funs) false,.ilst 1 (map aA u.needs) false,.ilst 4 (map Node.av u.nodes) false]
structure LPlace where
 nodes:Int
 funs:Int
def LPlace.av (p:LPlace) :AV:=.agg [.int .i64 p.nodes,.int .i64 p.funs]
theorem lH {E:Emb}{e:Nat}{ex:Bool}:∀v,VR E .nils v→VR E (.ilst e [] ex) v:=fun v h=>by
 simp only [VR]at h;simp only [VR];exact⟨[],VRs.nil _,fun _ hu=>by(cases hu),.inl ⟨rfl,none,0,h,fun _=>rfl,fun _=>rfl⟩⟩
theorem aP3 (o n:Int) :VW [.agg [.int .i64 o,.int .i64 n,.nils,.nils]] (map Node.av [Node.mk o n [] []]) :=fun E vs h=>by
 simp only [map_cons,map_nil,Node.av];obtain⟨v,vs',rfl,h1,h2⟩ :=h.cons_inv;refine VRs.cons ?_ h2;simp only [VR]at h1 ⊢;obtain⟨cs,rfl,h3⟩ :=h1;obtain⟨a1,w1,rfl,c1,h3⟩ :=h3.cons_inv;obtain⟨a2,w2,rfl,c2,h3⟩ :=h3.cons_inv;obtain⟨a3,w3,rfl,c3,h3⟩ :=h3.cons_inv;obtain⟨a4,w4,rfl,c4,h3⟩ :=h3.cons_inv;exact⟨_,rfl,VRs.cons c1 (VRs.cons c2 (VRs.cons (lH _ c3) (VRs.cons (by simp only [Pats.av];exact lH _ c4) h3)))⟩
theorem aFF {l:List ONode}{nn:List Node}(h:l=map Node.o nn) :map ONode.av l=map Node.av nn:=by rw [h,aIU]
theorem aMb :∀n:Nat,eI [AV.str 0 0] n=map aA (replicate n ([] :aB))
 |0=>rfl
 |n+1=>by rw [eI,aMb n];rfl
theorem xQ :∀l:List aB,cC (map aA l) =true
 | [] =>rfl
 |s::l=>by rw [map_cons,cC,xQ l];rfl
theorem aHx :∀l:List AV,kS false 1 l.length l=l
 | [] =>rfl
 | a::l=>by
  rw [length_cons,kS];simp only [cond,List.headD_cons,List.drop_succ_cons,List.drop_zero];rw [aHx l]
theorem aHy (l:List AV) :getCells (putCells .leaf 0 l) 0 l.length=some l:=tL l _ 0 (fun j hj=>by
 rw [bX,if_pos (by omega),Nat.zero_add])
theorem aU1 (n:Nat) : (map aA (replicate n ([] :aB))).length=n:=by simp
theorem aU2 (n:Nat) :getCells (putCells .leaf 0 (map aA (replicate n ([] :aB)))) 0 (n*1) =some (map aA (replicate n ([] :aB))) :=by
 have:=aHy (map aA (replicate n ([] :aB)));rw [aU1]at this;rw [Nat.mul_one];exact this
theorem aU3 (n:Nat) :kS false 1 n (map aA (replicate n ([] :aB))) =map aA (replicate n ([] :aB)) :=by
 have:=aHx (map aA (replicate n ([] :aB)));rwa [aU1]at this
theorem aP4 {α β:Type}[DecidableEq α]{f:α→AV}{g:β→AV}(hf:aKI f){k:α}{l:List (α×β)}(h:eA k l=none)(z:β) :
  aCA (aF f g 0 l) (length l) (f k) (g z) =some (.tup [g z,.int .i64 ((length l:Nat) :Int)],aF f g 0 (bY k z l),length (bY k z l)) :=by
 unfold aCA;rw [tO hf k l 0 0 h];obtain⟨a,b⟩ :=xC f g k z l 0 h;simp only [Nat.zero_add]at a;simp only [a,b]
theorem aP5 {α β:Type}[DecidableEq α]{k:α}{l:List (α×β)}(h:eA k l=none)(z v:β) : (bY k z l).length= (bY k v l).length:=by
 rw [(xC (fun _=>nils) (fun _=>nils) k z l 0 h).2,(xC (fun _=>nils) (fun _=>nils) k v l 0 h).2]
theorem aHz {α β:Type}[DecidableEq α]{f:α→AV}{g:β→AV}{k:α}(z v:β) :∀ (l:List (α×β)) (n:Nat),eA k l=none→jS (g v) (n+l.length) (aF f g n (bY k z l)) =some (aF f g n (bY k v l))
 | [],n,_=>by simp only [bY,aF,jS,List.length_nil,Nat.add_zero,Nat.beq_refl,cond]
 | e ::l,n,h=>by
  unfold eA at h;split at h
  ·cases h
  · rename_i hk;have ih:=aHz (f:=f) (g:=g) z v l (n+1) h;simp only [bY,if_neg hk,aF,jS,length_cons];have:Nat.beq n (n+ (l.length+1)) =false:=by
     cases q:Nat.beq n (n+ (l.length+1))with
     |false=>rfl
     |true=>have:=Nat.eq_of_beq_eq_true q;omega
    rw [this];simp only [cond];rw [show n+ (l.length+1) =n+1+l.length by omega,ih]
theorem aMc {α β:Type}[DecidableEq α]{f:α→AV}{g:β→AV}{k:α}{l:List (α×β)}(h:eA k l=none)(z v:β) :
  jS (g v) (((length l:Nat) :Int)).toNat (aF f g 0 (bY k z l)) =some (aF f g 0 (bY k v l)) :=by
 have:=aHz (f:=f) (g:=g) z v l 0 h;rwa [Nat.zero_add]at this
theorem aR5 {f:Nat}{args args':List AV}{v:AV}(h:Pure PP f args v)(hl:args'.length=args.length)(ha:∀ (E:Emb) (i:Nat) (a a':AV) (c:Value),args[i]?=some a→args'[i]?=some a'→VR E a' c→VR E a c) :Pure PP f args' v:=fun hh=>by
 obtain⟨g,hg,he⟩ :=h hh;simp only [dP,cK]at hg;split at hg
 · rename_i fn hfn;split at hg
   · rename_i c hc;cases hg;refine⟨_,by simp only [dP,cK,hfn,hc];rfl,?_⟩;intro hm E fr ccs w hfr fs r cl base;refine he hm E fr ccs w ?_ fs r cl base;refine⟨hfr.fn,⟨by have:=hfr.tm.1;rw [hl]at this;exact this,fun t a e=>?_⟩,hfr.todo,hfr.defers,hfr.mode,hfr.kind,hfr.round⟩;have ht:t<args.length∧args[t]?=some a:=by
      have e': (dA .leaf 0 args).at t=some a:=e;unfold dA at e';rw [bX]at e';split at e'
      ·rename_i hlt;exact⟨hlt,e'⟩
      ·cases e'
     have ht':args'[t]?=some args'[t] :=getElem?_eq_getElem (by omega)
     obtain⟨cv,g1,g2⟩ :=hfr.tm.2 t args'[t] (by
      show(dA .leaf 0 args').at t=_;unfold dA;rw [bX,if_pos (by omega)];exact ht')
     exact⟨cv,g1,ha E t _ _ cv ht.2 ht' g2⟩
   ·cases hg
 ·cases hg
def bB8(a:LUnit):TS:=cI PP 39 [(.agg [(aA a.name),(iC a.cons),(.ilst 2 (map LFun.av a.funs) false),(iS a.needs),(iN a.nodes)])] [] 0
def aJB(a:LUnit)(c:Int)(b:List aB):TS:=⟨(tf 39 22 [kp 1 0,(2,.nils),(3,(.gl 1 1 0 b.length false)),(4,(nI c))] [kc f39 116,kl f39 116,.inBlock 0,kc f39 15]),[],[oC 0 [(aA a.name),(iC a.cons),(.ilst 2 (map LFun.av a.funs) false),(iS a.needs),(iN a.nodes)],oL 1 1 (map aA b)],2⟩
def aBY(a:List aB)(b:Int):TS:=⟨(tf 115 18 [(0,(iS a)),(2,(bV false)),(3,(nI b))] [kc f115 52,kl f115 52,.inBlock 0,kc f115 7]),[],[],0⟩
def bB9(a:LUnit):TS:=cI PP 36 [(.agg [(aA a.name),(iC a.cons),(.ilst 2 (map LFun.av a.funs) false),(iS a.needs),(iN a.nodes)])] [] 0
def aJC(a:LUnit)(b:Int):TS:=⟨(tf 36 56 [kp 1 0,(2,(bV false)),(3,(nI b))] [kc f36 116,kl f36 116,.inBlock 0,kc f36 15]),[],[oC 0 [(aA a.name),(iC a.cons),(.ilst 2 (map LFun.av a.funs) false),(iS a.needs),(iN a.nodes)]],1⟩
def aJD(a:LUnit)(b:Int):TS:=⟨(tf 36 56 [kp 1 0,(2,(bV false)),(4,(nI b))] [kc f36 244,kl f36 244,.inBlock 2,kc f36 31]),[],[oC 0 [(aA a.name),(iC a.cons),(.ilst 2 (map LFun.av a.funs) false),(iS a.needs),(iN a.nodes)]],1⟩
def aEe(a:List LUnit)(b:Int):TS:=⟨(tf 13 23 [(0,(.ilst 5 (map LUnit.av a) false)),(2,(bV false)),(3,(nI b))] [kc f13 52,kl f13 52,.inBlock 0,kc f13 7]),[],[],0⟩
def aJE(a:List LUnit)(b:Int):TS:=⟨(tf 18 19 [(0,(.ilst 5 (map LUnit.av a) false)),(2,(bV false)),(3,(nI b))] [kc f18 116,kl f18 116,.inBlock 0,kc f18 15]),[],[],0⟩
def aYk (a:LUnit):=(tT 0 (bB8 a)<|.i [rn 16,.nilL 3 1] []<|gu 0 1 (map aA ([] :List aB))<|gs 0 3 (.gl 1 1 0 ([] :List aB).length false)<|.W 0 2 [0,1] (aJB a 0 ([] :List aB))) ⟨kk,trivial⟩
def aU4(a:LUnit)(b:Int)(c:List aB):=tT 0 (aJB a b c)<|gl 6 LFun.av a.funs<|gd 2 9 (b< (a.funs.length:Int)) (gX LFun.av 9 a.funs b<|fun d=>ga 3 aA c [d.name]<|gw 6 11 (b+1)<|.W 3 4 [0,3] (aJB a (b+1) (c++ [d.name])))<|gz 8 2 1 1 aA c false<|gE 0 2 (iS c)
def aYl:=fun a b c d e f g i j=>aU4 a b c|>.t e d f g i j ⟨kk,trivial⟩
def aYm:=fun a b c d=>aU4 a b c|>.f d tv
def aR6 (a:List aB):=(tT 0 (start PP 115 [(iS a)])<|.W 11 0 [] (aBY a 0)) tv
def aOR(a:List aB)(b:Int):=tT 0 (aBY a b)<|gl 5 aA a<|gd 2 7 (b< (a.length:Int)) (gX aA 8 a b<|fun c=>gG 1 86 [(aA c)]<|fun d=>.b 2 15 (!d) (gE 6 0 (bV false))<|gw 6 9 (b+1)<|.W 3 0 [] (aBY a (b+1)))<|gG 5 71 [(iS a)]<|fun c=>gE 3 0 (bV c)
def aR7:=fun a b c d e f g i j=>aOR a b|>.t e c f g d i|>.t j tv
def aR8:=fun a b c d e f g i j k=>aOR a b|>.t e c f g d i|>.f j k tv
def aR9:=fun a b c d e=>aOR a b|>.f d c e tv
def aU5(a b c:Int):=tT 0 (start PP 116 [(nI a),(nI b),(nI c)])<|gd 10 10 (a≥b) (gE 7 0 (bV (decide (a≤c))))<|gE 7 0 (bV false)
def aSa:=fun a b c d=>aU5 a b c|>.t d tv
def aSb:=fun a b c d=>aU5 a b c|>.f d tv
def aJF(a:LUnit):=tT 0 (bB9 a)<|gl 10 LFun.av a.funs<|gd 2 9 ((a.funs.length:Int) >30) (gE 18 1 (bV false))<|gl 2 aA a.needs<|gd 3 15 ((a.needs.length:Int) >25) (gE 12 1 (bV false))<|gd 6 20 ((a.name.length:Int) >30) (gE 6 1 (bV false))<|.W 9 1 [0] (aJC a 0)
def aYn:=fun a b=>aJF a|>.t b tv
def aYo:=fun a b c=>aJF a|>.f b|>.t c tv
def aYp:=fun a b c d=>aJF a|>.f b|>.f c|>.t d tv
def aYq:=fun a b c d=>aJF a|>.f b|>.f c|>.f d tv
def aOS(a:LUnit)(b:Int):=tT 0 (aJC a b)<|gl 6 LFun.av a.funs<|gd 2 25 (b< (a.funs.length:Int)) (gX LFun.av 9 a.funs b<|fun c=>gd 5 35 ((c.name.length:Int) >30) (gE 6 1 (bV false))<|gw 6 27 (b+1)<|.W 3 1 [0] (aJC a (b+1)))<|.W 9 1 [0] (aJD a 0)
def aYr:=fun a b c d e f g=>aOS a b|>.t d c e f|>.t g tv
def aYs:=fun a b c d e f g i=>aOS a b|>.t d c e f|>.f g i tv
def aYt:=fun a b c=>aOS a b|>.f c tv
def aOT(a:LUnit)(b:Int):=tT 0 (aJD a b)<|gl 6 aA a.needs<|gd 2 40 (b< (a.needs.length:Int)) (gX aA 9 a.needs b<|fun c=>gd 4 49 ((c.length:Int) >30) (gE 6 1 (bV false))<|gw 6 42 (b+1)<|.W 3 1 [0] (aJD a (b+1)))<|gG 9 50 [(.agg [(iN a.nodes),.nils,(nI 0),(iC a.cons)])]<|fun c=>gE 3 1 (bV c)
def aYu:=fun a b c d e f g=>aOT a b|>.t d c e f|>.t g tv
def aYv:=fun a b c d e f g i=>aOT a b|>.t d c e f|>.f g i tv
def aYw:=fun a b c d e=>aOT a b|>.f d c e tv
def aU6 (a:List LUnit):=(tT 0 (start PP 13 [(.ilst 5 (map LUnit.av a) false)])<|.W 11 0 [] (aEe a 0)) tv
def aEf(a:List LUnit)(b:Int):=tT 0 (aEe a b)<|gl 5 LUnit.av a<|gd 2 8 (b< (a.length:Int)) (gd 4 11 (b≤10) (gX LUnit.av 8 a b<|fun c=>gG 1 36 [(.agg [(aA c.name),(iC c.cons),(.ilst 2 (map LFun.av c.funs) false),(iS c.needs),(iN c.nodes)])]<|fun d=>.b 2 19 (!d) (gE 6 0 (bV false))<|gw 6 13 (b+1)<|.W 3 0 [] (aEe a (b+1)))<|gl 5 LUnit.av a<|gE 4 0 (bV (decide ((a.length:Int) ≤11))))<|gl 9 LUnit.av a<|gE 4 0 (bV (decide ((a.length:Int) ≤11)))
def aU7:=fun a b c d e f g i j k=>aEf a b|>.t e|>.t f c g i d j|>.t k tv
def aU8:=fun a b c d e f g i j k l=>aEf a b|>.t e|>.t f c g i d j|>.f k l tv
def aU9:=fun a b c d=>aEf a b|>.t c|>.f d tv
def aMd:=fun a b c=>aEf a b|>.f c tv
def aP6(a:List LUnit):=tT 0 (start PP 18 [(.ilst 5 (map LUnit.av a) false)])<|gl 8 LUnit.av a<|gd 2 6 ((a.length:Int) >10) (gE 6 0 (bV false))<|.W 9 0 [] (aJE a 0)
def aYx:=fun a b=>aP6 a|>.t b tv
def aYy:=fun a b=>aP6 a|>.f b tv
def aJG(a:List LUnit)(b:Int):=tT 0 (aJE a b)<|gl 5 LUnit.av a<|gd 2 10 (b< (a.length:Int)) (gX LUnit.av 8 a b<|fun c=>gG 1 37 [(.agg [(aA c.name),(iC c.cons),(.ilst 2 (map LFun.av c.funs) false),(iS c.needs),(iN c.nodes)])]<|fun d=>.b 2 18 (!d) (gE 6 0 (bV false))<|gw 6 12 (b+1)<|.W 3 0 [] (aJE a (b+1)))<|gE 7 0 (bV true)
def aYz:=fun a b c d e f g i j=>aJG a b|>.t e c f g d i|>.t j tv
def aYA:=fun a b c d e f g i j k=>aJG a b|>.t e c f g d i|>.f j k tv
def aYB:=fun a b c=>aJG a b|>.f c tv
theorem xR (u:LUnit) :keyless u.av=true:=by simp [LUnit.av,keyless,keylessL,aA]
def cZ (s:aB) :List aB→Nat→Int
 | [],_=> -1
 |x::l,i=>if x=s then(i:Int)else cZ s l (i+1)
theorem aOU (n lo hi:Int) :Pure PP 116 [.int .i64 n,.int .i64 lo,.int .i64 hi] (.bool (cT n lo hi)) :=by
 refine aU (by kernel_rfl) rfl rfl ?_;unfold cT;by_cases h:lo≤n
 · have e: (decide (lo≤n) &&decide (n≤hi)) =decide (n≤hi) :=by simp [h]
   rw [e];exact aSa n lo hi (by simpa using h)
 · have e: (decide (lo≤n) &&decide (n≤hi)) =false:=by simp [h]
   rw [e];exact aSb n lo hi (by simpa using h)
def aH (u:LUnit) :List aB:=u.funs.map LFun.name
theorem aMe (u:LUnit)(hl:u.funs.length≤1000) :∀ (t:List LFun) (i:Nat) (acc:List aB),u.funs.drop i=t→acc.length=i→Ends PP 0 (aJB u (i:Int) acc).as (.ret (.ilst 1 (map aA (acc++t.map LFun.name)) false)) (aD [] 0)
 | [],i,acc,h,ha=>by
  have:=bA h;rw [map_nil,List.append_nil];exact aYm u i acc sd
 | c::t,i,acc,h,ha=>by
  obtain⟨q1,q2,q3⟩ :=aY h;have hi:= (List.getElem?_eq_some_iff.1 q1).1;refine(aYl u i acc c sd sd sd (by simp;omega) sd).ends ?_;have:=aMe u hl t (i+1) (acc++ [c.name]) q2 (by simp [ha]);rw [List.append_assoc]at this;exact this
theorem aVa (u:LUnit)(hl:u.funs.length≤1000) :Pure PP 39 [LUnit.av u] (.ilst 1 (map aA (aH u)) false) :=
 dT (s:=bB8 u) (by kernel_rfl) (by kernel_rfl) (by simp [keylessL,xR]) (by simp [keyless]) ((aYk u).ends (aMe u hl u.funs 0 [] rfl rfl))
def eG (l:List aB) :Bool:=l.all lF&&cA l
theorem aMf (l:List aB)(hl:l.length<1000000) :∀ (t:List aB) (i:Nat),l.drop i=t→Ends PP 0 (aBY l (i:Int)).as (.ret (.bool (t.all lF&&cA l))) (aD [] 0)
 | [],i,h=>by
  have:=bA h;rw [all_nil,Bool.true_and];exact aR9 l i _ sd (aBN l hl)
 | c::t,i,h=>by
  obtain⟨q1,q2,q3⟩ :=aY h;have hn:=aBS c;rw [all_cons];cases e:lF c with
  |false=>rw [e]at hn;exact aR7 l i c false sd sd sd hn rfl
  |true=>rw [e]at hn;rw [Bool.true_and];exact(aR8 l i c true sd sd sd hn rfl sd).ends (aMf l hl t (i+1) q2)
theorem aDF (l:List aB)(hl:l.length<1000000) :Pure PP 115 [.ilst 1 (map aA l) false] (.bool (eG l)) :=
 aU (by kernel_rfl) rfl rfl ((aR6 l).ends (aMf l hl l 0 rfl))
def bS (l:List LUnit) :List aB:= (l.map aH).flatten
theorem rR (u:LUnit)(l:List LUnit) :bS (u::l) =aH u++bS l:=rfl
structure FewU (u:LUnit) :Prop where
 f:u.funs.length≤30
 n:u.needs.length≤25
 p:aJ ⟨u.nodes,[],0,u.cons⟩ =true
 nm:∀f∈u.funs,f.name.length≤30
 nd:∀s∈u.needs,s.length≤30
def aDG (s:aB) :List LUnit→Nat→Int
 | [],_=> -1
 |u::l,i=>if aV (aH u) s=true then(i:Int)else aDG s l (i+1)
theorem aSc {f:Nat}{a a' v:AV}(h:Pure PP f [a] v)(ha:∀ (E:Emb) (c:Value),VR E a' c→VR E a c) :Pure PP f [a'] v:=
 aR5 h rfl (fun E i x x' c h1 h2 hv=>by
  cases i with
  |zero=>simp only [getElem?_cons_zero,Option.some.injEq]at h1 h2;subst h1 h2;exact ha E c hv
  |succ i=>simp at h1)
theorem aSd {E:Emb}{ns:List Node}{cs:List Con}{c:Value}(h:VR E (.agg [.ilst 4 (map Node.av ns) false,.nils,.int .i64 0,.ilst 2 (map Con.av cs) false]) c) :VR E (Prog.av ⟨ns,[],0,cs⟩) c:=by
 simp only [Prog.av,VR]at h ⊢;obtain⟨ws,rfl,h5⟩ :=h;obtain⟨a1,w1,rfl,c1,h5⟩ :=h5.cons_inv;obtain⟨a2,w2,rfl,c2,h5⟩ :=h5.cons_inv;exact⟨_,rfl,VRs.cons c1 (VRs.cons (lH _ c2) h5)⟩
def lR (u:LUnit) :Prog:= ⟨u.nodes,[],0,u.cons⟩
def qZ (u:LUnit) :Bool:=decide (u.funs.length≤30) &&decide (u.needs.length≤25) &&decide (u.name.length≤30) &&u.funs.all (fun f=>decide (f.name.length≤30)) &&u.needs.all (fun s=>decide (s.length≤30)) &&aJ (lR u)
theorem aOV {u:LUnit}(h:qZ u=true) :FewU u:=by
 simp only [qZ,and_eq_true,decide_eq_true_eq]at h;obtain⟨⟨⟨⟨⟨h1,h2⟩,h3⟩,h4⟩,h5⟩,h6⟩ :=h;exact⟨h1,h2,h6,fun f hf=>by simpa using List.all_eq_true.1 h4 f hf,fun s hs=>by simpa using List.all_eq_true.1 h5 s hs⟩
theorem bCa (u:LUnit)(hn:u.needs.length≤25) :∀ (t:List aB) (i:Nat),u.needs.drop i=t→Ends PP 0 (aJD u (i:Int)).as (.ret (.bool (t.all (fun s=>decide (s.length≤30)) &&aJ (lR u)))) (aD [] 0)
 | [],i,h=>by
  have:=bA h;rw [all_nil,Bool.true_and];exact aYw u i _ sd (aSc (vM (lR u)) (fun E c h=>aSd h))
 | s ::t,i,h=>by
  obtain⟨q1,q2,q3⟩ :=aY h;by_cases hs:s.length≤30
  · rw [all_cons,decide_eq_true hs,Bool.true_and];exact(aYv u i s sd sd sd (by simp;omega) sd).ends (bCa u hn t (i+1) q2)
  · rw [all_cons,decide_eq_false hs,Bool.false_and,Bool.false_and];exact aYu u i s sd sd sd (by simp;omega)
theorem bCb (u:LUnit)(hf:u.funs.length≤30)(hn:u.needs.length≤25) :∀ (t:List LFun) (i:Nat),u.funs.drop i=t→Ends PP 0 (aJC u (i:Int)).as (.ret (.bool (t.all (fun f=>decide (f.name.length≤30)) &&u.needs.all (fun s=>decide (s.length≤30)) &&aJ (lR u)))) (aD [] 0)
 | [],i,h=>by
  have:=bA h;rw [all_nil,Bool.true_and];exact(aYt u i sd).ends (bCa u hn u.needs 0 rfl)
 | f ::t,i,h=>by
  obtain⟨q1,q2,q3⟩ :=aY h;by_cases hs:f.name.length≤30
  · rw [all_cons,decide_eq_true hs,Bool.true_and];exact(aYs u i f sd sd sd (by simp;omega) sd).ends (bCb u hf hn t (i+1) q2)
  · rw [all_cons,decide_eq_false hs,Bool.false_and,Bool.false_and,Bool.false_and];exact aYr u i f sd sd sd (by simp;omega)
theorem aVb (u:LUnit) :Pure PP 36 [LUnit.av u] (.bool (qZ u)) :=by
 refine dT (s:=bB9 u) (by kernel_rfl) (by kernel_rfl) (by simp [keylessL,xR]) (by simp [keyless]) ?_;unfold qZ;by_cases h1:u.funs.length≤30
 · by_cases h2:u.needs.length≤25
   · by_cases h3:u.name.length≤30
     · rw [decide_eq_true h1,decide_eq_true h2,decide_eq_true h3,Bool.true_and,Bool.true_and,Bool.true_and];exact(aYq u (by simp;omega) (by simp;omega) (by simp;omega)).ends (bCb u h1 h2 u.funs 0 rfl)
     · rw [decide_eq_false h3];simp only [Bool.and_false,Bool.false_and];exact aYp u (by simp;omega) (by simp;omega) (by simp;omega)
   · rw [decide_eq_false h2];simp only [Bool.and_false,Bool.false_and];exact aYo u (by simp;omega) (by simp;omega)
 · rw [decide_eq_false h1];simp only [Bool.false_and];exact aYn u (by simp;omega)
theorem aEg {α:Type}{l:List α}{i:Nat}{y:α}(h:l[i]?=some y) :l.take (i+1) =l.take i++ [y] :=by rw [List.take_add_one,h];rfl
def iE (l:List LUnit) :Bool:= (l.take 11).all qZ&&decide (l.length≤11)
theorem aHA (l:List LUnit) :∀ (k i:Nat),i+k=11→ (∀u∈l.take i,qZ u=true) →i≤l.length→Ends PP 0 (aEe l (i:Int)).as (.ret (.bool (iE l))) (aD [] 0)
 | 0,i,hk,hs,hi=>by
  have e:i=11:=by omega
  subst e;have ev:iE l=decide (((length l:Nat) :Int) ≤ (11:Int)) :=by
   unfold iE;rw [List.all_eq_true.2 hs,Bool.true_and];by_cases h:l.length≤11
   ·rw [decide_eq_true h,decide_eq_true (by omega)]
   ·rw [decide_eq_false h,decide_eq_false (by omega)]
  rw [ev];by_cases h:11<l.length
  ·exact aU9 l ((11:Nat) :Int) (by simp;omega) (by decide)
  ·exact aMd l ((11:Nat) :Int) (by simp;omega)
 | k + 1,i,hk,hs,hi=>by
  by_cases h:i<l.length
  · obtain⟨u,hu⟩ :∃u,l[i]?=some u:= ⟨_,getElem?_eq_getElem h⟩;have hp:=aVb u;cases e:qZ u with
    | false=>
     rw [e]at hp;have ev:iE l=false:=by
      unfold iE;have: (l.take 11).all qZ=false:=by
       rw [Bool.eq_false_iff];intro hh;have:=List.all_eq_true.1 hh u (mem_of_getElem? (by rw [List.getElem?_take,if_pos (show i<11 by omega)];exact hu));rw [e]at this;cases this
      rw [this,Bool.false_and]
     rw [ev];exact aU7 l i u false sd (by simp;omega) sd sd hp rfl
    | true=>
     rw [e]at hp;refine(aU8 l i u true sd (by simp;omega) sd sd hp rfl sd).ends (aHA l k (i+1) (by omega) (fun x hx=>?_) (by omega));rw [aEg hu]at hx;rcases List.mem_append.1 hx with g|g
     ·exact hs x g
     ·rw [List.mem_singleton.1 g];exact e
  · have ev:iE l=decide (((length l:Nat) :Int) ≤ (11:Int)) :=by
     unfold iE;have:l.take 11=l.take i:=by rw [take_of_length_le (by omega),take_of_length_le (by omega)]
     rw [this,List.all_eq_true.2 hs,Bool.true_and,decide_eq_true (show l.length≤11 by omega),decide_eq_true (by omega)]
    rw [ev];exact aMd l i sd
theorem aSe (l:List LUnit) :Pure PP 13 [.ilst 5 (map LUnit.av l) false] (.bool (iE l)) :=
 aU (by kernel_rfl) (by simp [keylessL,keyless]) rfl ((aU6 l).ends (aHA l 11 0 rfl (by simp) (Nat.zero_le _)))
theorem aMg {l:List LUnit}(h:iE l=true) :l.length≤11∧∀u∈l,qZ u=true:=by
 simp only [iE,and_eq_true,decide_eq_true_eq]at h;obtain⟨h1,h2⟩ :=h;rw [take_of_length_le h2]at h1;exact⟨h2,List.all_eq_true.1 h1⟩
structure FitU (u:LUnit) :Prop where
 p:FitP (lR u)
 f:u.funs.length<1000000
 n:u.needs.length<1000000
def bCc(a:LUnit):TS:=cI PP 37 [(.agg [(aA a.name),(iC a.cons),(.ilst 2 (map LFun.av a.funs) false),(iS a.needs),(iN a.nodes)])] [] 0
def aJH(a:LUnit)(b:List aB)(c:Int):TS:=⟨(tf 37 126 [kp 1 0,(2,(bV false)),(3,(iS b)),(4,(nI c))] [kc f37 244,kl f37 244,.inBlock 0,kc f37 31]),[],[oC 0 [(aA a.name),(iC a.cons),(.ilst 2 (map LFun.av a.funs) false),(iS a.needs),(iN a.nodes)]],1⟩
def aJI(a:LUnit)(c:List aB)(d:Int)(b:List Int):TS:=⟨(tf 37 126 [kp 1 0,(2,(bV false)),(3,(iS c)),kp 6 1,(7,(nI d))] [kc f37 2036,kl f37 2036,.inBlock 2,kc f37 255]),[],[oC 0 [(aA a.name),(iC a.cons),(.ilst 2 (map LFun.av a.funs) false),(iS a.needs),(iN a.nodes)],oC 1 [(.gl 2 4 0 a.nodes.length false),(.gl 3 1 0 b.length false),(nI 0),(iC a.cons)],oL 2 4 (jN a.nodes),oL 3 1 (jI b)],4⟩
def aCQ(a:LUnit)(d:List aB)(b:List Int)(e:Int)(c:List Node):TS:=⟨(tf 37 126 [kp 1 0,(2,(bV false)),(3,(iS d)),kp 6 1,(8,(nI e))] [kc f37 4084,kl f37 4084,.inBlock 4,kc f37 511]),[],[oC 0 [(aA a.name),(iC a.cons),(.ilst 2 (map LFun.av a.funs) false),(iS a.needs),(iN a.nodes)],oC 1 [(.gl 2 4 0 c.length false),(.gl 3 1 0 b.length false),(nI 0),(iC a.cons)],oL 2 4 (jN c),oL 3 1 (jI b)],4⟩
def aFG(a:LUnit):=tT 0 (bCc a)<|.y fun b:List aB=>gp 8 39 [(.agg [(aA a.name),(iC a.cons),(.ilst 2 (map LFun.av a.funs) false),(iS a.needs),(iN a.nodes)])] (iS b)<|gG 7 86 [(aA a.name)]<|fun c=>.b 2 16 (!c) (gE 23 1 (bV false))<|gl 2 aA a.needs<|gd 3 22 ((a.needs.length:Int) >20) (gE 17 1 (bV false))<|gG 1 115 [(iS b)]<|fun d=>.b 3 27 (!d) (gE 12 1 (bV false))<|gG 2 115 [(iS a.needs)]<|fun e=>.b 3 32 (!e) (gE 6 1 (bV false))<|.W 9 1 [0] (aJH a b 0)
def aYC:=fun a b c d e f=>aFG a b d c e|>.t f tv
def aYD:=fun a b c d e f g=>aFG a b d c e|>.f f|>.t g tv
def aYE:=fun a b c d e f g i j k=>aFG a b e c f|>.f g|>.f i d j|>.t k tv
def aYF:=fun a b c d e f g i j k l m n=>aFG a b f c g|>.f i|>.f j d k|>.f l e m|>.t n tv
def aYG:=fun a b c d e f g i j k l m n=>aFG a b f c g|>.f i|>.f j d k|>.f l e m|>.f n tv
def aFH(a:LUnit)(b:List aB)(c:Int):=tT 0 (aJH a b c)<|gl 6 aA a.needs<|gd 2 37 (c< (a.needs.length:Int)) (gX aA 10 a.needs c<|fun d=>gG 1 111 [(iS b),(aA d)]<|fun e=>.b 1 46 e (gE 6 1 (bV false))<|gw 6 39 (c+1)<|.W 3 1 [0] (aJH a b (c+1)))<|gl 6 aA b<|.b 2 49 ((b.length:Int) ==0) (.i [rn 13,.ctoL 3 0 true [(nI 3),(nI 0),.nils,.nils]] [hr (some [(nI 3),(nI 0),.nils,.nils]),hr true]<|.i [.lw 1 (jN [(Node.mk 3 0 [] [])])] [.q (p:=([(.agg [(nI 3),(nI 0),.nils,.nils])] :List AV) ≠ []) (by simp),.q (p:=VW [(.agg [(nI 3),(nI 0),.nils,.nils])] (jN [(Node.mk 3 0 [] [])])) (aP3 _ _)]<|gv 0 3 0 (.gl 1 4 0 [(Node.mk 3 0 [] [])].length true)<|.i [.cweak 3 0] []<|gy 0 3 0 1 4 Node.av [(Node.mk 3 0 [] [])] false<|.i [.ctoL 3 1 false [(nI 0)]] [hr (some [(nI 0)]),hr true]<|gu 0 2 (jI [0])<|gv 0 3 1 (.gl 2 1 0 [0].length true)<|.i [.cweak 3 1] []<|gy 0 3 1 2 1 aP [0] false<|gl 3 Node.av a.nodes<|.b 2 60 ((a.nodes.length:Int) ==0) (gG 1 38 [(.agg [(iN [(Node.mk 3 0 [] [])]),(iI [0]),(nI 0),(iC a.cons)])]<|fun d=>gE 4 4 (bV d))<|gE 6 4 (bV false))<|.i [rn 3,.reg (rd 4 (.app (jN a.nodes) a.nodes.length::rd 3 []))] [hA (length a.nodes≤1000000),hr (jN a.nodes),.q (p:=length (jN a.nodes) =length a.nodes) (List.length_map ..),hr (ilst 2 (jC a.cons) false),hr (ilst 2 (jC a.cons) false)]<|.i [rn 7,.cnil 1 1 1] []<|gu 0 3 (jI ([] :List Int))<|gv 0 1 1 (.gl 3 1 0 ([] :List Int).length false)<|.W 0 4 [0,1,2,3] (aJI a b 0 ([] :List Int))
def aYH:=fun a b c d e f g i j k=>aFH a b c|>.t f d g i e j|>.t k tv
def aYI:=fun a b c d e f g i j k l=>aFH a b c|>.t f d g i e j|>.f k l tv
def aYJ:=fun a b c d e f g i=>aFH a b c|>.f e|>.t f|>.t g d i tv
def aYK:=fun a b c d e f=>aFH a b c|>.f d|>.t e|>.f f tv
def aYL:=fun a b c d e f=>aFH a b c|>.f d|>.f e f ⟨kk,⟨kk,trivial⟩⟩
def aVc(c:LUnit)(e:List aB)(d:Int)(a:List Int):=tT 0 (aJI c e d a)<|gl 6 LFun.av c.funs<|gd 2 74 (d< (c.funs.length:Int)) (.y fun b:LFun=>.i [rn 4,.reg (rd 5 (.ans (.idx (LFun.av b))::rd 3 [.app (jI (a++ [b.body])) (a++ [b.body]).length,.d,.d]))] [hA (0≤d),.a (((c.funs)[d.toNat]?) =some b) (bF (f:=LFun.av)),hb aP a,hA (length (a++ [b.body]) ≤1000000),hc aP a [b.body],he aP a [b.body]]<|gw 4 76 (d+1)<|.W 3 6 [0,1,2,5] (aJI c e (d+1) (a++ [b.body])))<|.W 9 4 [0,1,2,3] (aCQ c e a 0 c.nodes)
def aYM:=fun a b c d e f g i j k=>aVc a b c d|>.t f e g i j k ⟨kk,⟨kk,trivial⟩⟩
def aYN:=fun a b c d e=>aVc a b c d|>.f e ⟨kk,⟨kk,trivial⟩⟩
def aJJ(f:LUnit)(d:List aB)(e:List Int)(c:Int)(b:List Node):=tT 0 (aCQ f d e c b)<|gd 9 92 (c< (b.length:Int)) (.i [rn 9,.ans (.ix)] [hA (0≤c),hA (c< (b.length:Int))]<|.y fun a:Node=>gj Node.av 0 b c.toNat a<|.b 9 103 (a.op==4) (gl 3 aA d<|gw 1 108 (0- (d.length:Int))<|gl 2 aA f.needs<|gw 1 112 ((0- (d.length:Int)) - (f.needs.length:Int))<|gl 1 aA d<|gw 1 115 (0- (d.length:Int))<|gw 1 116 ((0- (d.length:Int)) -1)<|gG 0 116 [(nI a.n),(nI ((0- (d.length:Int)) - (f.needs.length:Int))),(nI ((0- (d.length:Int)) -1))]<|fun g=>.b 2 118 g (.i [rn 5,.ans (.ix)] [hA (0≤c),hA (c< (b.length:Int))]<|.i [rn 1,.st (Node.av a) (Node.av (Node.mk a.op (-1) a.kids a.pats))] [.a (((b)[c.toNat]?) =some a) (iL (f:=Node.av)),hr (some (Node.av (Node.mk a.op (-1) a.kids a.pats)))]<|.i [.lset 2 (jN (set b c.toNat (Node.mk a.op (-1) a.kids a.pats)))] [.q (p:=(jN b).set (0+c.toNat) (Node.av (Node.mk a.op (-1) a.kids a.pats)) = (jN (set b c.toNat (Node.mk a.op (-1) a.kids a.pats)))) (mV _ _ _ _)]<|.i [.set 90 (.gl 2 4 0 (set b c.toNat (Node.mk a.op (-1) a.kids a.pats)).length false)] [.q (p:=(AV.gl 2 4 0 b.length false) = (.gl 2 4 0 (set b c.toNat (Node.mk a.op (-1) a.kids a.pats)).length false)) (cB (length_set ..).symm)]<|.i [.set 96 (.gl 2 4 0 (set b c.toNat (Node.mk a.op (-1) a.kids a.pats)).length false)] [.q (p:=(AV.gl 2 4 0 b.length false) = (.gl 2 4 0 (set b c.toNat (Node.mk a.op (-1) a.kids a.pats)).length false)) (cB (length_set ..).symm)]<|.i [.set 120 (.gl 2 4 0 (set b c.toNat (Node.mk a.op (-1) a.kids a.pats)).length false)] [.q (p:=(AV.gl 2 4 0 b.length false) = (.gl 2 4 0 (set b c.toNat (Node.mk a.op (-1) a.kids a.pats)).length false)) (cB (length_set ..).symm)]<|.i [.cset 1 0 (.gl 2 4 0 (set b c.toNat (Node.mk a.op (-1) a.kids a.pats)).length false)] [.q (p:=(AV.gl 2 4 0 b.length false) = (.gl 2 4 0 (set b c.toNat (Node.mk a.op (-1) a.kids a.pats)).length false)) (cB (length_set ..).symm)]<|gw 5 94 (c+1)<|.W 3 5 [0,1,2,3] (aCQ f d e (c+1) (set b c.toNat (Node.mk a.op (-1) a.kids a.pats))))<|gw 6 94 (c+1)<|.W 3 5 [0,1,2,3] (aCQ f d e (c+1) b))<|gw 22 94 (c+1)<|.W 3 5 [0,1,2,3] (aCQ f d e (c+1) b))<|.i [rn 5,.frz 124 2 (jN b)] [hk Node.av b,.q (p:=frzOk 2 4 (jN b) (jN b) (.agg [(.gl 2 4 0 b.length false),(.gl 3 1 0 e.length false),(nI 0),(iC f.cons)])) (by simp [frzOk,AV.frzOkL,take_of_length_le])]<|.i [.frz 124 3 (jI e)] [hk aP e,.q (p:=frzOk 3 1 (jI e) (jI e) (.agg [(iN b),(.gl 3 1 0 e.length false),(nI 0),(iC f.cons)])) (by simp [frzOk,AV.frzOkL,take_of_length_le])]<|gG 0 38 [(.agg [(iN b),(iI e),(nI 0),(iC f.cons)])]<|fun a=>gE 3 4 (bV a)
def aYO:=fun e f g i j k l m a b c n d o p q r s=>aJJ e f g i j|>.t m a b k c|>.t n d o d p l q|>.t r a b c s ⟨kk,⟨kk,trivial⟩⟩
def aYP:=fun b c d e f g i j k l m n a o p q r s=>aJJ b c d e f|>.t j k l g m|>.t n a o a p i q|>.f r s ⟨kk,⟨kk,trivial⟩⟩
def aYQ:=fun a b c d e f g i j k l m=>aJJ a b c d e|>.t g i j f k|>.f l m ⟨kk,⟨kk,trivial⟩⟩
def aYR:=fun a b c d e f g i=>aJJ a b c d e|>.f g f i tv
def rS {α:Type}(f:α→α)(l:List α)(i:Nat) :List α:= (l.take i).map f++l.drop i
section
variable {α :Type} {f:α→α} {l:List α} {i:Nat}
theorem aHB :rS f l 0=l:=by simp [rS]
theorem aFI : (rS f l i).length=l.length:=by simp [rS];omega
theorem aMh (h:l.length≤i) :rS f l i=l.map f:=by simp [rS,take_of_length_le h,List.drop_eq_nil_of_le h]
theorem aAY {x:α}(h:l[i]?=some x) :rS f l i= (l.take i).map f++x::l.drop (i+1) ∧ ((l.take i).map f).length=i:=by
 have hi:= (List.getElem?_eq_some_iff.1 h).1;refine⟨?_,by simp;omega⟩;unfold rS;rw [List.drop_eq_getElem_cons hi];rw [(List.getElem?_eq_some_iff.1 h).2]
theorem aMi {x:α}(h:l[i]?=some x) : (rS f l i)[i]?=some x:=by
 obtain⟨e,hl⟩ :=aAY (f:=f) h;rw [e,List.getElem?_append_right (by omega),hl];simp
theorem aHC {x:α}(h:l[i]?=some x) :rS f l (i+1) = (l.take i).map f++f x::l.drop (i+1) :=by
 unfold rS;rw [aEg h];simp
theorem aMj {x:α}(h:l[i]?=some x) : (rS f l i).set i (f x) =rS f l (i+1) :=by
 obtain⟨e,hl⟩ :=aAY (f:=f) h;rw [e,aHC h,List.set_append_right _ _ (by omega),hl];simp
theorem rT {x:α}(h:l[i]?=some x)(e:f x=x) :rS f l i=rS f l (i+1) :=by
 rw [(aAY (f:=f) h).1,aHC h,e]
end
def eQ (a b:Nat)(x:Node) :Node:=if x.op=4∧ -(a:Int) -b≤x.n∧x.n≤ -(a:Int) -1 then⟨x.op,-1,x.kids,x.pats⟩else x
def cG (u:LUnit) :List Int:=u.funs.map LFun.body
def fC (u:LUnit) :Prog:= ⟨u.nodes.map (eQ u.funs.length u.needs.length),cG u,0,u.cons⟩
def aAr (u:LUnit) :Prog:= ⟨[⟨3,0,[],[]⟩],[0],0,u.cons⟩
def iT (u:LUnit) :Bool:=lF u.name&&decide (u.needs.length≤20) &&eG (aH u) &&eG u.needs&&u.needs.all (fun s=> !aV (aH u) s) &&
 (if u.funs.length=0 then decide (u.nodes.length=0) &&aR (aAr u)else aR (fC u))
theorem kN {u:LUnit}(h:FewU u) :aJ (fC u) =true:=by
 have h0:=h.p;have hf:=h.f;simp only [aJ,and_eq_true,decide_eq_true_eq]at h0 ⊢;obtain⟨⟨⟨⟨h1,h2⟩,h3⟩,h4⟩,h5⟩ :=h0;refine⟨⟨⟨⟨by simp [fC];exact h1,by simp [fC,cG];omega⟩,h3⟩,h4⟩,List.all_eq_true.2 (fun x hx=>?_)⟩;simp only [fC,List.mem_map]at hx;obtain⟨y,hy,rfl⟩ :=hx;have:=List.all_eq_true.1 h5 y hy;unfold eQ;split<;>exact this
theorem aAZ {u:LUnit}(h:FewU u) :aJ (aAr u) =true:=by
 have h0:=h.p;simp only [aJ,and_eq_true,decide_eq_true_eq]at h0 ⊢;obtain⟨⟨⟨⟨h1,h2⟩,h3⟩,h4⟩,h5⟩ :=h0;exact⟨⟨⟨⟨by simp [aAr],by simp [aAr]⟩,h3⟩,h4⟩,by rfl⟩
section
variable (u :LUnit) (hu:FewU u)
include hu
theorem bCd :∀ (t:List Node) (i:Nat),u.nodes.drop i=t→i≤u.nodes.length→Ends PP 0 (aCQ u (aH u) (cG u) (i:Int) (rS (eQ u.funs.length u.needs.length) u.nodes i)).as (.ret (.bool (aR (fC u)))) (aD [] 0)
 | [],i,h,hi=>by
  have hd:=bA h;have hn:i=u.nodes.length:=by omega
  have hl: (rS (eQ u.funs.length u.needs.length) u.nodes i).length=u.nodes.length:=aFI;rw [aMh (by omega)]at hl ⊢;exact aYR u (aH u) (cG u) i _ _ (by rw [hl];exact sd) (tY (fC u) (kN hu))
 | x ::t,i,h,hi=>by
  obtain⟨q1,q2,q3⟩ :=aY h;have hi:= (List.getElem?_eq_some_iff.1 q1).1;have hn:u.nodes.length≤320:=by have:=hu.p;simp only [aJ,and_eq_true,decide_eq_true_eq]at this;exact this.1.1.1.1
  have hf:=hu.f;have hd:=hu.n;have hl: (rS (eQ u.funs.length u.needs.length) u.nodes i).length=u.nodes.length:=aFI;have ho: (aH u).length=u.funs.length:=by simp [aH]
  have hg:=aMi (f:=eQ u.funs.length u.needs.length) q1;have w1:IntKind.i64.wrap (0- ((length (aH u) :Nat) :Int)) =0- ((length (aH u) :Nat) :Int) :=by apply wrap64<;>omega
  have w2:IntKind.i64.wrap (0- ((length (aH u) :Nat) :Int) - ((length u.needs:Nat) :Int)) =0- ((length (aH u) :Nat) :Int) - ((length u.needs:Nat) :Int) :=by apply wrap64<;>omega
  have w3:IntKind.i64.wrap (0- ((length (aH u) :Nat) :Int) - (1:Int)) =0- ((length (aH u) :Nat) :Int) - (1:Int) :=by apply wrap64<;>omega
  have ih:=bCd t (i+1) q2 (by omega);by_cases h4:x.op=4
  · have hp:=aOU x.n (0- ((length (aH u) :Nat) :Int) - ((length u.needs:Nat) :Int)) (0- ((length (aH u) :Nat) :Int) - (1:Int));by_cases hb: -(u.funs.length:Int) -u.needs.length≤x.n∧x.n≤ -(u.funs.length:Int) -1
    · have eb:cT x.n (0- ((length (aH u) :Nat) :Int) - ((length u.needs:Nat) :Int)) (0- ((length (aH u) :Nat) :Int) - (1:Int)) =true:=by rw [inB_iff,ho];omega
      rw [eb]at hp;have ef:eQ u.funs.length u.needs.length x= ⟨x.op,-1,x.kids,x.pats⟩ :=by unfold eQ;rw [if_pos ⟨h4,hb⟩]
      have h1:=aYO u (aH u) (cG u) i _ x true (by rw [hl];exact sd) sd (by rw [hl];omega) (by rw [toNat_natCast];exact hg) (by simp [h4]) w1 w2 w3 hp rfl sd;rw [toNat_natCast,←ef,aMj q1]at h1;exact h1.ends ih
    · have eb:cT x.n (0- ((length (aH u) :Nat) :Int) - ((length u.needs:Nat) :Int)) (0- ((length (aH u) :Nat) :Int) - (1:Int)) =false:=by rw [Bool.eq_false_iff,Ne,inB_iff,ho];omega
      rw [eb]at hp;have ef:eQ u.funs.length u.needs.length x=x:=by unfold eQ;rw [if_neg (fun g=>hb g.2)]
      have h1:=aYP u (aH u) (cG u) i _ x false (by rw [hl];exact sd) sd (by rw [hl];omega) (by rw [toNat_natCast];exact hg) (by simp [h4]) w1 w2 w3 hp rfl sd;rw [rT q1 ef]at h1 hl ⊢;exact h1.ends ih
  · have ef:eQ u.funs.length u.needs.length x=x:=by unfold eQ;rw [if_neg (fun g=>h4 g.1)]
    have h1:=aYQ u (aH u) (cG u) i _ x (by rw [hl];exact sd) sd (by rw [hl];omega) (by rw [toNat_natCast];exact hg) (by simp [h4]) sd;rw [rT q1 ef]at h1 hl ⊢;exact h1.ends ih
theorem bCe :∀ (t:List LFun) (i:Nat) (acc:List Int),u.funs.drop i=t→acc.length=i→Ends PP 0 (aJI u (aH u) (i:Int) acc).as (.ret (.bool (aR (fC u)))) (aD [] 0) ∨acc++t.map LFun.body≠cG u
 | [],i,acc,h,ha=>by
  have:=bA h;by_cases e:acc=cG u
  · subst e;have:=bCd u hu u.nodes 0 rfl (Nat.zero_le _);rw [aHB]at this;exact .inl ((aYN u (aH u) i _ sd).ends this)
  ·exact .inr (by simpa using e)
 | f::t,i,acc,h,ha=>by
  obtain⟨q1,q2,q3⟩ :=aY h;have hi:= (List.getElem?_eq_some_iff.1 q1).1;have hf:=hu.f;rcases bCe t (i+1) (acc++ [f.body]) q2 (by simp [ha])with g|g
  ·exact .inl ((aYM u (aH u) i acc f sd sd sd (by simp;omega) sd).ends g)
  ·exact .inr (by simpa using g)
theorem bCf :∀ (t:List aB) (i:Nat),u.needs.drop i=t→Ends PP 0 (aJH u (aH u) (i:Int)).as (.ret (.bool (t.all (fun s=> !aV (aH u) s) && (if u.funs.length=0 then decide (u.nodes.length=0) &&aR (aAr u)else aR (fC u))))) (aD [] 0)
 | [], i,h=>by
  have:=bA h;have ho: (aH u).length=u.funs.length:=by simp [aH]
  have hn:u.nodes.length≤320:=by have:=hu.p;simp only [aJ,and_eq_true,decide_eq_true_eq]at this;exact this.1.1.1.1
  rw [all_nil,Bool.true_and];by_cases h0:u.funs.length=0
  · rw [if_pos h0];by_cases h1:u.nodes.length=0
    · rw [decide_eq_true h1,Bool.true_and];exact aYJ u (aH u) i _ sd (by rw [ho,h0];rfl) (by rw [h1];rfl) (tY (aAr u) (aAZ hu))
    · rw [decide_eq_false h1,Bool.false_and];exact aYK u (aH u) i sd (by rw [ho,h0];rfl) (beq_eq_false_iff_ne.2 (by omega))
  · rw [if_neg h0];refine(aYL u (aH u) i sd (beq_eq_false_iff_ne.2 (by rw [ho];omega)) (by omega)).ends ?_;rcases bCe u hu u.funs 0 [] rfl rfl with g|g
    ·exact g
    ·exact absurd rfl g
 | s::t,i,h=>by
  obtain⟨q1,q2,q3⟩ :=aY h;have hf:=hu.f;have hd:=hu.n;have hh:=aCJ (aH u) s (by simp [aH];omega);rw [all_cons];cases e:aV (aH u) s with
  | true=>
   rw [e]at hh;rw [Bool.not_true,Bool.false_and,Bool.false_and];exact aYH u (aH u) i s true sd sd sd hh rfl
  | false=>
   rw [e]at hh;rw [Bool.not_false,Bool.true_and];exact(aYI u (aH u) i s false sd sd sd hh rfl sd).ends (bCf t (i+1) q2)
theorem aVd :Pure PP 37 [LUnit.av u] (.bool (iT u)) :=by
 have hf:=hu.f;have hd:=hu.n;refine dT (s:=bCc u) (by kernel_rfl) (by kernel_rfl) (by simp [keylessL,xR]) (by simp [keyless]) ?_;have a0:=aVa u (by omega);have a1:=aBS u.name;have a2:=aDF (aH u) (by simp [aH];omega);have a3:=aDF u.needs (by omega);unfold iT;cases e1:lF u.name with
 |false=>rw [e1]at a1;simp only [Bool.false_and];exact aYC u (aH u) false a0 a1 rfl
 | true=>
  rw [e1]at a1;by_cases e2:u.needs.length≤20
  · rw [decide_eq_true e2];cases e3:eG (aH u)with
    |false=>rw [e3]at a2;simp only [Bool.true_and,Bool.false_and,Bool.and_false];exact aYE u (aH u) true false a0 a1 rfl (by simp;omega) a2 rfl
    | true=>
     rw [e3]at a2;cases e4:eG u.needs with
     |false=>rw [e4]at a3;simp only [Bool.true_and,Bool.false_and,Bool.and_false];exact aYF u (aH u) true true false a0 a1 rfl (by simp;omega) a2 rfl a3 rfl
     | true=>
      rw [e4]at a3;simp only [Bool.true_and];exact(aYG u (aH u) true true true a0 a1 rfl (by simp;omega) a2 rfl a3 rfl).ends (bCf u hu u.needs 0 rfl)
  · rw [decide_eq_false e2];simp only [Bool.and_false,Bool.false_and];exact aYD u (aH u) true a0 a1 rfl (by simp;omega)
end
def gB (l:List LUnit) :Bool:=decide (l.length≤10) &&l.all iT
theorem aMk (l:List LUnit)(hl:l.length≤10)(hu:∀u∈l,FewU u) :∀ (t:List LUnit) (i:Nat),l.drop i=t→Ends PP 0 (aJE l (i:Int)).as (.ret (.bool (t.all iT))) (aD [] 0)
 | [],i,h=>by
  have:=bA h;exact aYB l i sd
 | u::t,i,h=>by
  obtain⟨q1,q2,q3⟩ :=aY h;have hp:=aVd u (hu u (mem_of_getElem? q1));rw [all_cons];cases e:iT u with
  |false=>rw [e]at hp;exact aYz l i u false sd sd sd hp rfl
  |true=>rw [e]at hp;rw [Bool.true_and];exact(aYA l i u true sd sd sd hp rfl sd).ends (aMk l hl hu t (i+1) q2)
theorem aVe (l:List LUnit)(hu:∀u∈l,FewU u) :Pure PP 18 [.ilst 5 (map LUnit.av l) false] (.bool (gB l)) :=by
 refine aU (by kernel_rfl) (by simp [keylessL,keyless]) rfl ?_;unfold gB;by_cases h:l.length≤10
 · rw [decide_eq_true h,Bool.true_and];exact(aYy l (by simp;omega)).ends (aMk l h hu l 0 rfl)
 · rw [decide_eq_false h,Bool.false_and];exact aYx l (by simp;omega)
def pK (own:List aB) :List aB→List aB→List aB
 |out,[] =>out
 |out,s::t=>pK own (if aV own s=true∨aV out s=true then out else out++ [s]) t
def lI (own:List aB) :List aB→List LUnit→List aB
 |out,[] =>out
 |out,u::l=>lI own (pK own out u.needs) l
def fG (l:List LUnit) :List aB:=lI (bS l) [] l
theorem aCR (own:List aB) :∀ (t out:List aB),(pK own out t).length≤out.length+t.length
 | [],out=>by simp [pK]
 | s::t,out=>by
  rw [pK];have:=aCR own t (if aV own s=true∨aV out s=true then out else out++ [s]);split at this<;>simp at this ⊢ <;>split<;>simp_all<;>omega
end
end Go.Hb
