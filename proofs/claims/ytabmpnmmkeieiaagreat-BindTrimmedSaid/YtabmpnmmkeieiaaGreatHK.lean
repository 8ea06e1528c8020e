/-
  OWN WORK (V40, V41, V23, H5, H6, V24, V25, V26, V42, V43, V44, H16, V47, H17, V48, H22, V70, V71, V75, H27, V85, V79, V80, V81, V76, V77, V78, V86, V84, H14, V45, V87, V89): a machine on abstract values, its soundness, ways through the text (the ways WRITTEN BY A PROGRAM), plain laws.
-/
import Derived.Test.YtabmpnmmkeieiaaGreatHE
import Derived.Test.YtabmpnmmkeieiaaGreatHF
import Derived.Test.YtabmpnmmkeieiaaGreatHH
import Derived.Test.YtabmpnmmkeieiaaGreatHI
import Derived.Test.YtabmpnmmkeieiaaGreatHJ
import Derived.Shelf.SlGeneric
import Derived.Shelf.SlIterI.Nil
import Derived.Shelf.SortM.Plain
import Derived.Shelf.SortM.SortNone
set_option linter.unusedVariables false
set_option linter.unusedSimpArgs false
set_option linter.unusedSectionVars false
set_option maxRecDepth 100000
namespace Go.Hb
open Go.Proofs
def pre (p:Prog) :Nat→Int→List Int
 |0,_=>[]
 | f+1,a=>match p.nodes[a.toNat]? with
  |some x=>a:: (x.kids.map (pre p f)).flatten
  |none=>[]
def cZ :List Int→Int→List Int→List Int
 |l,_,[] =>l
 |l,n,b::bs=>cZ (l.set b.toNat n) (n+1) bs
theorem yJ :∀ (xs ys l:List Int) (n:Int),cZ l n (xs++ys) =cZ (cZ l n xs) (n+xs.length) ys
 | [],ys,l,n=>by simp [cZ]
 | x::xs,ys,l,n=>by
  rw [List.cons_append,cZ,yJ xs ys,cZ,List.length_cons]
  congr 1;omega
theorem aEt :∀ (xs l:List Int) (n:Int) (m:Nat),(∀x∈xs,x.toNat≠m) → (cZ l n xs)[m]?=l[m]?
 | [],l,n,m,h=>rfl
 | x::xs,l,n,m,h=>by
  rw [cZ,aEt xs _ _ m (fun y hy=>h y (List.mem_cons_of_mem _ hy))]
  exact List.getElem?_set_ne (h x (List.mem_cons_self ..))
theorem oU :∀ (xs l:List Int) (n:Int),xs.Nodup→ (∀x∈xs,0≤x∧x<l.length) →∀ (i:Nat) (b:Int),xs[i]?=some b→cB (cZ l n xs) b=n+i
 | [],l,n,_,_,i,b,h=>by simp at h
 | x ::xs,l,n,hd,hr,i,b,h=>by
  have hd:=List.nodup_cons.1 hd
  have hx:=hr x (List.mem_cons_self ..)
  cases i with
  | zero=>
   simp only [List.getElem?_cons_zero,Option.some.injEq]at h
   subst h
   unfold cB
   rw [cZ,List.getD_eq_getElem?_getD,aEt xs _ _ x.toNat (fun y hy e=>hd.1 (by
    have:=hr y (List.mem_cons_of_mem _ hy)
    have:y=x:=by omega
    exact this ▸ hy)),List.getElem?_set_self (by omega)]
   simp
  | succ i=>
   simp only [List.getElem?_cons_succ]at h
   rw [cZ,oU xs (l.set x.toNat n) (n+1) hd.2 (fun y hy=>by rw [List.length_set];exact hr y (List.mem_cons_of_mem _ hy)) i b h]
   omega
section
variable {p :Prog}
theorem pN (hp:FineP p){f:Nat}{a:Int}(ha:0≤a)(hn:a<p.nodes.length)(hf:p.nodes.length-a.toNat≤f) :∃x g,f=g+1∧p.nodes[a.toNat]?=some x∧pre p f a=a:: (x.kids.map (pre p g)).flatten:=by
 cases f with
 |zero=>omega
 | succ g=>
  obtain⟨x,hx⟩ :∃x,p.nodes[a.toNat]?=some x:= ⟨_,List.getElem?_eq_getElem (by omega)⟩
  exact⟨x,g,rfl,hx,by rw [pre,hx]⟩
theorem aIg {g:Int→List Int×Int→Option (List Int×Int)}{q:Int→List Int}:∀ (ks:List Int) (l:List Int) (n:Int),(∀k∈ks,∀ (l:List Int) (n:Int),n+ (q k).length≤1000000000→0≤n→g k (l,n) =some (cZ l n (q k),n+ (q k).length)) →0≤n→n+ ((ks.map q).flatten).length≤1000000000 →
  wAs g ks (l,n) =some (cZ l n (ks.map q).flatten,n+ ((ks.map q).flatten).length)
 | [],l,n,h,_,_=>by simp [wAs,cZ]
 | k::ks,l,n,h,h0,hb=>by
  simp only [List.map_cons,List.flatten_cons,List.length_append]at hb ⊢
  rw [wAs,h k (List.mem_cons_self ..) l n (by omega) h0]
  simp only
  rw [aIg ks _ _ (fun k hk=>h k (List.mem_cons_of_mem _ hk)) (by omega) (by omega),yJ]
  congr 2;omega
theorem aSP (hp:FineP p) :∀ (f:Nat) (a:Int),0≤a→a<p.nodes.length→p.nodes.length-a.toNat≤f→∀ (l:List Int) (n:Int),n+ (pre p f a).length≤1000000000→0≤n→wA p f a (l,n) =some (cZ l n (pre p f a),n+ (pre p f a).length)
 |0,a,ha,hn,hf,_,_,_,_=>by omega
 | f+1,a,ha,hn,hf,l,n,hb,h0=>by
  obtain⟨x,hx⟩ :∃x,p.nodes[a.toNat]?=some x:= ⟨_,List.getElem?_eq_getElem (by omega)⟩
  obtain⟨_,_,hks⟩ :=hp.node _ _ hx
  have e:pre p (f+1) a=a:: (x.kids.map (pre p f)).flatten:=by rw [pre,hx]
  rw [e]at hb ⊢
  simp only [List.length_cons]at hb ⊢
  rw [wA,if_pos (by omega),hx]
  simp only
  rw [aIg (q:=pre p f) x.kids _ _ (fun k hk l n h1 h2=>by
   have:=hks k hk
   exact aSP hp f k (by omega) (by omega) (by omega) l n h1 h2) (by omega) (by omega),cZ]
  congr 2;omega
theorem aIh (mf mc:List (Int×Int))(to:List Int) :∀ (f:Nat) (a:Int),(wB p mf mc to f a).length= (pre p f a).length
 |0,a=>rfl
 | f+1,a=>by
  rw [wB,pre]
  cases hx:p.nodes[a.toNat]? with
  | some x=>
   simp only [List.length_cons,List.length_flatten,List.map_map]
   congr 2
   exact List.map_congr_left (fun k _=>aIh mf mc to f k)
  |none=>rfl
end
end Go.Hb
namespace Go.Hb
open Go.Proofs
section
variable {p :Prog} {mf mc:List (Int×Int)} {F C:List Int} {to:List Int}
def MOk (p:Prog)(mf mc:List (Int×Int))(F C:List Int) :Prop:=∀ (i:Nat) (x:Node),p.nodes[i]?=some x→bP x.pats<1000000∧mN F C x.op x.n=some (bN mf mc x.op x.n) ∧tY C x.pats=some (bS mc x.pats)
theorem aEu {g:Nat→Int→Option (List Node)}{h:Int→List Node}{q:Int→List Int}:∀ (ks:List Int) (len:Nat),
  (∀k∈ks,∀len:Nat,len+ (q k).length≤1000000→ (∀ (i:Nat) (b:Int),(q k)[i]?=some b→cB to b= ((len+i:Nat) :Int)) →g len k=some (h k)) → (∀k∈ks,(h k).length= (q k).length∧ (q k)[0]?=some k) →
  len+ ((ks.map q).flatten).length≤1000000→ (∀ (i:Nat) (b:Int),((ks.map q).flatten)[i]?=some b→cB to b= ((len+i:Nat) :Int)) →
  tZ g len ks=some (ks.map (cB to),(ks.map h).flatten)
 | [],len,_,_,_,_=>rfl
 | k::ks,len,hg,hh,hb,ht=>by
  simp only [List.map_cons,List.flatten_cons,List.length_append]at hb ht ⊢
  obtain⟨h1,h2⟩ :=hh k (List.mem_cons_self ..)
  have hlt:∀ {i:Nat} {b:Int},(q k)[i]?=some b→i< (q k).length:=fun e=> (List.getElem?_eq_some_iff.1 e).1
  rw [tZ,hg k (List.mem_cons_self ..) len (by omega) (fun i b e=>ht i b (by rw [List.getElem?_append_left (hlt e)];exact e))]
  simp only
  rw [aEu ks (len+ (h k).length) (fun k hk=>hg k (List.mem_cons_of_mem _ hk)) (fun k hk=>hh k (List.mem_cons_of_mem _ hk)) (by omega) (fun i b e=>by
   rw [ht ((q k).length+i) b (by rw [List.getElem?_append_right (by omega),show(q k).length+i- (q k).length=i by omega];exact e),h1]
   congr 1;omega)]
  simp only
  rw [ht 0 k (by rw [List.getElem?_append_left (hlt h2)];exact h2)]
  rfl
theorem aGr (hp:FineP p)(hm:MOk p mf mc F C) :∀ (k:Nat) (a:Int) (len:Nat),0≤a→a<p.nodes.length→p.nodes.length-a.toNat≤k→len+ (pre p k a).length≤1000000→ (∀ (i:Nat) (b:Int),(pre p k a)[i]?=some b→cB to b= ((len+i:Nat) :Int)) →
  kZ p F C k len a=some (wB p mf mc to k a)
 |0,a,len,ha,hn,hf,_,_=>by omega
 | k +1,a,len,ha,hn,hf,hb,ht=>by
  obtain⟨x,hx⟩ :∃x,p.nodes[a.toNat]?=some x:= ⟨_,List.getElem?_eq_getElem (by omega)⟩
  obtain⟨_,hk10,hks⟩ :=hp.node _ _ hx
  obtain⟨m1,m2,m3⟩ :=hm _ _ hx
  have e:pre p (k+1) a=a:: (x.kids.map (pre p k)).flatten:=by rw [pre,hx]
  rw [e]at hb ht
  simp only [List.length_cons]at hb
  have hkk:=aEu (to:=to) (g:=kZ p F C k) (h:=wB p mf mc to k) (q:=pre p k) x.kids (len+1) (fun c hc len h1 h2=>by
    have:=hks c hc
    exact aGr hp hm k c len (by omega) (by omega) (by omega) h1 h2) (fun c hc=>by
    have:=hks c hc
    obtain⟨y,g,_,_,h3⟩ :=pN hp (f:=k) (a:=c) (by omega) (by omega) (by omega)
    exact⟨aIh mf mc to k c,by rw [h3];rfl⟩) (by omega) (fun i b h=>by
    rw [ht (i+1) b (by simpa using h)]
    congr 1;omega)
  rw [kZ,if_pos ⟨ha,by omega⟩,hx]
  simp only
  rw [if_pos ⟨by omega,m1⟩,m2]
  simp only
  rw [m3]
  simp only
  rw [hkk]
  simp only
  rw [wB,hx]
  rfl
end
end Go.Hb
namespace Go.Hb
open Go.Proofs
set_option maxHeartbeats 1000000
end Go.Hb
namespace Go.Hb
open Go.Proofs
end Go.Hb
namespace Go.Hb
open Go.Proofs
end Go.Hb
namespace Go.Hb
open Go.Proofs
set_option maxHeartbeats 1000000
def rC (x:Node)(i:Nat) :Nat→List Int→List Int→List Int
 |_,[],l=>l
 |j,k::ks,l=>rC x i (j+1) ks (l.set k.toNat (l.getD i 0+dF x j))
def nK :Nat→List Node→List Int→List Int
 |_,[],l=>l
 |i,x::t,l=>nK (i+1) t (rC x i 0 x.kids l)
def tK :List Int→List Int→List Int
 | [],l=>l
 |f::fs,l=>tK fs (l.set f.toNat 1)
def aEv (p:Prog) :List Int:=nK 0 p.nodes (tK p.funs (List.replicate p.nodes.length 0))
theorem zO (x:Node)(i:Nat) :∀ (t:List Int) (j:Nat) (l:List Int),(rC x i j t l).length=l.length
 | [],_,_=>rfl
 |k::t,j,l=>by rw [rC,zO x i t];simp
theorem aCn :∀ (t:List Node) (i:Nat) (l:List Int),(nK i t l).length=l.length
 | [],_,_=>rfl
 |x::t,i,l=>by rw [nK,aCn t,zO]
theorem zP :∀ (t:List Int) (l:List Int),(tK t l).length=l.length
 | [],_=>rfl
 |f::t,l=>by rw [tK,zP t];simp
theorem aNr (p:Prog) : (aEv p).length=p.nodes.length:=by rw [aEv,aCn,zP];simp
end Go.Hb
namespace Go.Hb
open Go.Proofs
theorem pO {lo n:Int}:∀ {ks:List Int} {u v:List Bool},marks lo n ks u=some v→∀k∈ks,lo≤k∧k≤n-1
 | [],_,_,_,k,hk=>by cases hk
 | a ::ks,u,v,h,k,hk=>by
  simp only [marks]at h
  split at h
  · rename_i g
    rcases List.mem_cons.1 hk with rfl|hk
    ·exact inB_iff.1 g.1
    ·exact pO h k hk
  ·cases h
theorem xH {lo n:Int}:∀ {ks:List Int} {u v:List Bool},marks lo n ks u=some v→∀m:Nat,v[m]?=some true→u[m]?=some true∨∃k∈ks,k.toNat=m
 | [],u,v,h,m,hm=>by simp only [marks,Option.some.injEq]at h;rw [h];exact .inl hm
 | a ::ks,u,v,h,m,hm=>by
  simp only [marks]at h
  split at h
  · rcases xH h m hm with g| ⟨k,hk,e⟩
    · by_cases e:a.toNat=m
      ·exact .inr ⟨a,List.mem_cons_self ..,e⟩
      ·rw [List.getElem?_set_ne e]at g;exact .inl g
    ·exact .inr ⟨k,List.mem_cons_of_mem _ hk,e⟩
  ·cases h
theorem jO {lo n:Int}:∀ {ks:List Int} {u v:List Bool},marks lo n ks u=some v→∀m:Nat,u[m]?=some true→v[m]?=some true
 | [],u,v,h,m,hm=>by simp only [marks,Option.some.injEq]at h;rw [←h];exact hm
 | a ::ks,u,v,h,m,hm=>by
  simp only [marks]at h
  split at h
  · rename_i g
    refine jO h m ?_
    by_cases e:a.toNat=m
    ·subst e;rw [hm]at g;exact absurd g.2 (by simp)
    ·rw [List.getElem?_set_ne e];exact hm
  ·cases h
theorem eV {lo n k:Int}{ks:List Int}{u v:List Bool}(h:marks lo n (k::ks) u=some v) :u[k.toNat]?=some false∧marks lo n ks (u.set k.toNat true) =some v:=by
 simp only [marks]at h
 split at h
 ·rename_i g;exact⟨g.2,h⟩
 ·cases h
theorem eE {p:Prog}{i:Nat}{x:Node}{t:List Node}{u v:List Bool}(h:bU p i (x::t) u=some v) :bH p x=true∧∃w,marks ((i:Int) +1) p.nodes.length x.kids u=some w∧bU p (i+1) t w=some v:=by
 simp only [bU]at h
 split at h
 · rename_i g
   split at h
   ·rename_i w hw;exact⟨g,w,hw,h⟩
   ·cases h
 ·cases h
theorem tL {p:Prog}:∀ {t:List Node} {i:Nat} {u v:List Bool},bU p i t u=some v→∀m:Nat,m≤i→v[m]?=some true→u[m]?=some true
 | [],i,u,v,h,m,_,hm=>by simp only [bU,Option.some.injEq]at h;rw [h];exact hm
 | x::t,i,u,v,h,m,hi,hm=>by
  obtain⟨_,w,hw,h2⟩ :=eE h
  rcases xH hw m (tL h2 m (by omega) hm)with g| ⟨k,hk,e⟩
  ·exact g
  ·have:=pO hw k hk;omega
theorem iL {p:Prog}:∀ {t:List Node} {i:Nat} {u v:List Bool},bU p i t u=some v→v.length=u.length
 | [],i,u,v,h=>by simp only [bU,Option.some.injEq]at h;rw [h]
 | x::t,i,u,v,h=>by
  obtain⟨_,w,hw,h2⟩ :=eE h
  rw [iL h2,gY hw]
theorem oO {p:Prog}:∀ {t:List Node} {i:Nat} {u v:List Bool},bU p i t u=some v→∀ (j:Nat) (x:Node),t[j]?=some x→bH p x=true∧∀k∈x.kids,((i+j:Nat) :Int) <k∧k<p.nodes.length
 | [],i,u,v,h,j,x,hx=>by simp at hx
 | y::t,i,u,v,h,j,x,hx=>by
  obtain⟨g,w,hw,h2⟩ :=eE h
  cases j with
  | zero=>
   simp at hx;subst hx
   exact⟨g,fun k hk=>by have:=pO hw k hk;omega⟩
  | succ j=>
   have:=oO h2 j x (by simpa using hx)
   exact⟨this.1,fun k hk=>by have:=this.2 k hk;omega⟩
theorem aA2 {p:Prog}:∀ {t:List Node} {i:Nat} {u v:List Bool},bU p i t u=some v→∀m:Nat,v[m]?=some true→u[m]?=some true∨∃ (j:Nat) (x:Node) (k:Int),t[j]?=some x∧k∈x.kids∧k.toNat=m
 | [],i,u,v,h,m,hm=>by simp only [bU,Option.some.injEq]at h;rw [h];exact .inl hm
 | y ::t,i,u,v,h,m,hm=>by
  obtain⟨g,w,hw,h2⟩ :=eE h
  rcases aA2 h2 m hm with a| ⟨j,x,k,a1,a2,a3⟩
  · rcases xH hw m a with b| ⟨k,b1,b2⟩
    ·exact .inl b
    ·exact .inr ⟨0,y,k,rfl,b1,b2⟩
  ·exact .inr ⟨j+1,x,k,by simpa using a1,a2,a3⟩
theorem qJ {x:Node}{i:Nat}{lo n:Int}:∀ {t:List Int} {j:Nat} {u v:List Bool} {l:List Int},marks lo n t u=some v→∀m:Nat,u[m]?=some true→ (rC x i j t l)[m]?=l[m]?
 | [],_,_,_,_,_,_,_=>rfl
 | k::t,j,u,v,l,h,m,hm=>by
  obtain⟨h1,h2⟩ :=eV h
  have hne:k.toNat≠m:=fun e=>by rw [e,hm]at h1;cases h1
  rw [rC,qJ h2 m (by rw [List.getElem?_set_ne hne];exact hm),List.getElem?_set_ne hne]
theorem oP {p:Prog}:∀ {t:List Node} {i:Nat} {u v:List Bool} {l:List Int},bU p i t u=some v→∀m:Nat,u[m]?=some true→ (nK i t l)[m]?=l[m]?
 | [],_,_,_,_,_,_,_=>rfl
 | x::t,i,u,v,l,h,m,hm=>by
  obtain⟨_,w,hw,h2⟩ :=eE h
  rw [nK,oP h2 m (jO hw m hm),qJ hw m hm]
theorem aCo {lo n:Int}:∀ {t:List Int} {u v:List Bool} {l:List Int},marks lo n t u=some v→∀m:Nat,u[m]?=some true→ (tK t l)[m]?=l[m]?
 | [],_,_,_,_,_,_=>rfl
 | k::t,u,v,l,h,m,hm=>by
  obtain⟨h1,h2⟩ :=eV h
  have hne:k.toNat≠m:=fun e=>by rw [e,hm]at h1;cases h1
  rw [tK,aCo h2 m (by rw [List.getElem?_set_ne hne];exact hm),List.getElem?_set_ne hne]
theorem aEw {x:Node}{i:Nat}{lo n:Int}:∀ {t:List Int} {j:Nat} {u v:List Bool} {l:List Int},marks lo n t u=some v→u.length=l.length→u[i]?=some true→∀ (d:Nat) (k:Int),t[d]?=some k→ (rC x i j t l)[k.toNat]?=some (l.getD i 0+dF x ((j+d:Nat) :Int))
 | [],_,_,_,_,_,_,_,d,k,hk=>by simp at hk
 | a::t,j,u,v,l,h,hul,hi,d,k,hk=>by
  obtain⟨h1,h2⟩ :=eV h
  have hai:a.toNat≠i:=fun e=>by rw [e,hi]at h1;cases h1
  have hal:a.toNat<u.length:= (List.getElem?_eq_some_iff.1 h1).1
  rw [rC]
  cases d with
  | zero=>
   simp at hk;subst hk
   rw [qJ h2 _ (by rw [List.getElem?_set_self hal]),List.getElem?_set_self (by omega)]
   simp
  | succ d=>
   have:=aEw (x:=x) (i:=i) (j:=j+1) (l:=l.set a.toNat (l.getD i 0+dF x j)) h2 (by simpa using hul) (by rw [List.getElem?_set_ne hai];exact hi) d k (by simpa using hk)
   rw [this,List.getD_eq_getElem?_getD,List.getElem?_set_ne hai,←List.getD_eq_getElem?_getD]
   congr 3;omega
theorem aCp {p:Prog}:∀ {t:List Node} {i:Nat} {u v:List Bool} {l:List Int},bU p i t u=some v→ (∀m,m<v.length→v[m]?=some true) →u.length=l.length→i+t.length≤u.length→∀ (j:Nat) (x:Node) (d:Nat) (k:Int),t[j]?=some x→x.kids[d]?=some k →
  ∃s,(nK i t l)[i+j]?=some s∧ (nK i t l)[k.toNat]?=some (s+dF x d)
 | [],_,_,_,_,_,_,_,_,j,x,d,k,hx,_=>by simp at hx
 | y ::t,i,u,v,l,h,hv,hul,hil,j,x,d,k,hx,hk=>by
  obtain⟨_,w,hw,h2⟩ :=eE h
  have hwl:=gY hw
  simp only [List.length_cons]at hil
  rw [nK]
  cases j with
  | zero=>
   simp at hx;subst hx
   have hvl:=iL h
   have hi:u[i]?=some true:=tL h i (Nat.le_refl _) (hv i (by omega))
   have hk2:=aEw (x:=y) (i:=i) (j:=0) (l:=l) hw hul hi d k hk
   have hwk:w[k.toNat]?=some true:=by
    have hkin:=pO hw k (List.mem_of_getElem? hk)
    have all:∀ {lo n:Int} {ks:List Int} {u v:List Bool},marks lo n ks u=some v→∀k∈ks,v[k.toNat]?=some true:=by
     intro lo n ks
     induction ks with
     |nil=>intro u v _ k hk;cases hk
     | cons a ks ih=>
      intro u v h k hk
      obtain⟨h1,h2⟩ :=eV h
      rcases List.mem_cons.1 hk with rfl|hk
      ·exact jO h2 _ (List.getElem?_set_self (List.getElem?_eq_some_iff.1 h1).1)
      ·exact ih h2 k hk
    exact all hw k (List.mem_of_getElem? hk)
   refine⟨l.getD i 0,?_,?_⟩
   · show(nK (i+1) t (rC y i 0 y.kids l))[i]?=some (l.getD i 0)
     rw [oP h2 i (jO hw i hi),qJ hw i hi,List.getD_eq_getElem?_getD,List.getElem?_eq_getElem (by omega)];rfl
   ·rw [oP h2 _ hwk,hk2];simp
  | succ j=>
   obtain⟨s,a1,a2⟩ :=aCp (l:=rC y i 0 y.kids l) h2 hv (by rw [zO,hwl,hul]) (by omega) j x d k (by simpa using hx) hk
   exact⟨s,by rw [←a1];congr 1;omega,a2⟩
structure Sprop (p:Prog) (S:List Int) :Prop where
 len:S.length=p.nodes.length
 root:∀f∈p.funs,S[f.toNat]?=some 1
 kid:∀ (i:Nat) (x:Node) (d:Nat) (k:Int),p.nodes[i]?=some x→x.kids[d]?=some k→∃s,S[i]?=some s∧S[k.toNat]?=some (s+dF x d)
def aOf (p:Prog) :Prop:=∀m,m<p.nodes.length→ (∃f∈p.funs,f.toNat=m) ∨∃ (i:Nat) (x:Node) (k:Int),p.nodes[i]?=some x∧k∈x.kids∧k.toNat=m∧i<m
theorem aCq {lo n:Int}:∀ {t:List Int} {u v:List Bool} {l:List Int},marks lo n t u=some v→u.length=l.length→∀f∈t,(tK t l)[f.toNat]?=some 1
 | [],_,_,_,_,_,f,hf=>by cases hf
 | a::t,u,v,l,h,hul,f,hf=>by
  obtain⟨h1,h2⟩ :=eV h
  have hal:a.toNat<u.length:= (List.getElem?_eq_some_iff.1 h1).1
  rw [tK]
  rcases List.mem_cons.1 hf with rfl|hf
  ·rw [aCo h2 _ (List.getElem?_set_self hal),List.getElem?_set_self (by omega)]
  ·exact aCq h2 (by simpa using hul) f hf
theorem aIi {p:Prog}(hp:aP p=true)(hf:bJ p=true) :FineP p∧Sprop p (aEv p) ∧aOf p:=by
 have hs:=hp
 simp only [aP,Bool.and_eq_true,decide_eq_true_eq]at hs
 obtain⟨⟨⟨⟨s1,s2⟩,s3⟩,_⟩,s5⟩ :=hs
 simp only [bJ,Bool.and_eq_true]at hf
 obtain⟨_,hf⟩ :=hf
 split at hf
 · rename_i u hu
   unfold allT at hf
   split at hf
   · rename_i v hv
     have hul:u.length=p.nodes.length:=by rw [gY hu];simp
     have hvl:v.length=p.nodes.length:=by rw [iL hv,hul]
     have hall:∀m,m<v.length→v[m]?=some true:=fun m hm=>by
      rw [List.getElem?_eq_getElem hm]
      have:=List.all_eq_true.1 hf _ (List.getElem_mem hm)
      simpa using this
     have hnodes:=oO hv
     refine⟨⟨s1,s2,fun i x hx=>?_,fun f hf=>?_⟩,⟨aNr p,fun f hf=>?_,fun i x d k hx hk=>?_⟩,fun m hm=>?_⟩
     · have:=hnodes i x hx
       have h10:=List.all_eq_true.1 s5 x (List.mem_of_getElem? hx)
       simp only [bA,Bool.and_eq_true,decide_eq_true_eq]at h10
       exact⟨aAT this.1,h10.1.1,fun k hk=>by have:=this.2 k hk;omega⟩
     ·have:=pO hu f hf;omega
     · rw [aEv]
       have hfm:u[f.toNat]?=some true:=by
        have all:∀ {lo n:Int} {ks:List Int} {u v:List Bool},marks lo n ks u=some v→∀k∈ks,v[k.toNat]?=some true:=by
         intro lo n ks
         induction ks with
         |nil=>intro u v _ k hk;cases hk
         | cons a ks ih=>
          intro u v h k hk
          obtain⟨h1,h2⟩ :=eV h
          rcases List.mem_cons.1 hk with rfl|hk
          ·exact jO h2 _ (List.getElem?_set_self (List.getElem?_eq_some_iff.1 h1).1)
          ·exact ih h2 k hk
        exact all hu f hf
       rw [oP hv _ hfm]
       exact aCq hu (by simp) f hf
     · obtain⟨s,a1,a2⟩ :=aCp (l:=tK p.funs (List.replicate p.nodes.length 0)) hv hall (by rw [zP,hul];simp) (by omega) i x d k hx hk
       exact⟨s,by rw [aEv,←a1];congr 1;omega,a2⟩
     · rcases aA2 hv m (hall m (by omega))with g| ⟨j,x,k,g1,g2,g3⟩
       · rcases xH hu m g with a| ⟨f,a1,a2⟩
         ·rw [List.getElem?_replicate]at a;split at a<;>simp at a
         ·exact .inl ⟨f,a1,a2⟩
       · have:= (hnodes j x g1).2 k g2
         exact .inr ⟨j,x,k,g1,g2,g3,by omega⟩
   ·cases hf
 ·cases hf
end Go.Hb
namespace Go.Hb
open Go.Proofs
inductive Reach (p:Prog) :Nat→Nat→Prop where
 |refl (a:Nat) :Reach p a a
 |step {a i:Nat} {x:Node} {k:Int}:Reach p a i→p.nodes[i]?=some x→k∈x.kids→Reach p a k.toNat
theorem Reach.first {p:Prog}{a m:Nat}(h:Reach p a m) :m=a∨∃ (x:Node) (k:Int),p.nodes[a]?=some x∧k∈x.kids∧Reach p k.toNat m:=by
 induction h with
 |refl=>exact .inl rfl
 | step h hx hk ih=>
  rename_i i x k
  rcases ih with rfl| ⟨y,q,h1,h2,h3⟩
  ·exact .inr ⟨x,k,hx,hk,Reach.refl _⟩
  ·exact .inr ⟨y,q,h1,h2,h3.step hx hk⟩
theorem aSQ {p:Prog}(hs:aP p=true) :aE PP 32 [Prog.av p] (.int .i64 (checkN (bJ p))) :=by
 have h2:=aKu p hs
 rw [aPZ]at h2
 exact h2
end Go.Hb
namespace Go.Hb
open Go.Proofs
theorem wH {p:Prog}(hp:aP p=true)(hf:bJ p=true) :FineP p:=by
 have hs:=hp
 simp only [aP,Bool.and_eq_true,decide_eq_true_eq]at hs
 obtain⟨⟨⟨⟨s1,s2⟩,s3⟩,_⟩,s5⟩ :=hs
 simp only [bJ,Bool.and_eq_true]at hf
 obtain⟨_,hf⟩ :=hf
 split at hf
 · rename_i u hu
   unfold allT at hf
   split at hf
   · rename_i v hv
     refine⟨s1,s2,fun i x hx=>?_,fun f hf=>?_⟩
     · have:=oO hv i x hx
       have h10:=List.all_eq_true.1 s5 x (List.mem_of_getElem? hx)
       simp only [bA,Bool.and_eq_true,decide_eq_true_eq]at h10
       exact⟨aAT this.1,h10.1.1,fun k hk=>by have:=this.2 k hk;omega⟩
     ·have:=pO hu f hf;omega
   ·cases hf
 ·cases hf
theorem aSR {n:Nat}{i:Int}(h0:0≤i)(h1:i<n) : (numsL 0 n)[i.toNat]?=some i:=by
 rw [aGk 0 (by omega)]
 congr 1;omega
def aKM (n:Nat)(m:List (Int×Int))(l:List Int) :Prop:=∀i:Int,0≤i→i<n→l[i.toNat]?=some (eX m i)
theorem aIj (n:Nat) :aKM n (sM n) (numsL 0 n) :=fun i h0 h1=>by rw [aSR h0 h1,aEp h0 h1]
mutual
theorem aWO (cons:List Con){mc:List (Int×Int)}{C:List Int}(hC:aKM cons.length mc C) :∀ (q:Pat),dM cons q=true→aNi C q=some (kG mc q)
 | .mk f n s ps,h=>by
  rw [dM,Bool.and_eq_true]at h
  have hps:=aIk cons hC ps h.2
  have hN:aN9 C f n=some (if f=6 then eX mc n else n) :=by
   unfold aN9
   by_cases hf:f=6
   · subst hf
     have hh:=h.1
     simp only [dT]at hh
     simp [dU]at hh
     obtain⟨⟨⟨h0,h1⟩,_⟩,_⟩ :=hh
     rw [if_pos rfl,if_pos rfl,if_pos h0,hC n h0 (by omega)]
   ·rw [if_neg hf,if_neg hf]
  rw [aNi,hN]
  simp only
  rw [hps,kG]
theorem aIk (cons:List Con){mc:List (Int×Int)}{C:List Int}(hC:aKM cons.length mc C) :∀ (ps:List Pat),cH cons ps=true→tY C ps=some (bS mc ps)
 | [],_=>rfl
 | q::ps,h=>by
  rw [cH,Bool.and_eq_true]at h
  rw [tY,aWO cons hC q h.1]
  simp only
  rw [aIk cons hC ps h.2,bS]
end
theorem zQ {cons:List Con}:∀ {ps:List Pat},(∀q∈ps,dM cons q=true) →cH cons ps=true
 | [],_=>rfl
 | q::ps,h=>by
  rw [cH,h q (List.mem_cons_self ..),zQ (fun x hx=>h x (List.mem_cons_of_mem _ hx))];rfl
theorem aGs {c:Nat}:∀ {ps:List Pat},(∀q∈ps,dL q≤c) →bP ps≤c*ps.length
 | [],_=>by simp [bP]
 | q::ps,h=>by
  have h1:=h q (List.mem_cons_self ..)
  have h2:=aGs (c:=c) (ps:=ps) (fun x hx=>h x (List.mem_cons_of_mem _ hx))
  simp only [bP,List.length_cons]
  rw [Nat.mul_add,Nat.mul_one];omega
theorem aKN {p:Prog}{mf mc:List (Int×Int)}{F C:List Int}(hF:aKM p.funs.length mf F)(hC:aKM p.cons.length mc C)(hB:∀i:Int,0≤i→i<p.funs.length→0≤eX mf i∧eX mf i≤1000000)(hs:p.funs.length≤320){x:Node}(h:bH p x=true)(h10:x.pats.length≤10) :
  (bP x.pats<1000000∧mN F C x.op x.n=some (bN mf mc x.op x.n) ∧tY C x.pats=some (bS mc x.pats)) ∧nOk mf x:=by
 simp only [bH,Bool.and_eq_true,fV]at h
 obtain⟨⟨⟨h1,_⟩,h2⟩,_⟩ :=h
 have hq:∀q∈x.pats,dL q≤12∧dM p.cons q=true:=fun q hq=>by
  have:=List.all_eq_true.1 h2 q hq
  simpa [iK]using this
 have hps:bP x.pats≤12*x.pats.length:=aGs (fun q h=> (hq q h).1)
 have hr4:x.op=4→ -(p.funs.length:Int) ≤x.n∧x.n≤29:=fun e=>by
  rw [e]at h1
  simp [cI,dU]at h1
  omega
 have hr14:x.op=14→0≤x.n∧x.n<p.cons.length:=fun e=>by
  rw [e]at h1
  simp [cI,dU]at h1
  omega
 refine⟨⟨by omega,?_,aIk p.cons hC x.pats (zQ fun q h=> (hq q h).2)⟩,by omega,fun e hn=>?_⟩
 · unfold mN bN
   by_cases h4:x.op=4
   · have hr:=hr4 h4
     by_cases hn:x.n<0
     · have hb:=hB (-1-x.n) (by omega) (by omega)
       rw [if_pos ⟨h4,hn⟩,if_pos h4,if_neg (by omega),hF _ (by omega) (by omega)]
       simp only
       rw [if_pos (by omega)]
     ·rw [if_neg (fun h=>hn h.2),if_neg (show ¬x.op=14 by omega),if_pos h4,if_pos (show 0≤x.n by omega)]
   · rw [if_neg (fun h=>h4 h.1),if_neg h4]
     by_cases h14:x.op=14
     · have hr:=hr14 h14
       rw [if_pos h14,if_pos h14,if_pos hr.1,hC _ hr.1 hr.2]
     ·rw [if_neg h14,if_neg h14]
 · have hr:=hr4 e
   have hb:=hB (-1-x.n) (by omega) (by omega)
   omega
theorem aBH {p:Prog}(hF:p.funs.length≤320){x:Node}(h:bH p x=true)(h10:x.pats.length≤10) :
  (bP x.pats<1000000∧mN (numsL 0 p.funs.length) (numsL 0 p.cons.length) x.op x.n=some (bN (sM p.funs.length) (sM p.cons.length) x.op x.n) ∧tY (numsL 0 p.cons.length) x.pats=some (bS (sM p.cons.length) x.pats)) ∧nOk (sM p.funs.length) x:=
 aKN (aIj _) (aIj _) (fun i h0 h1=>by rw [aEp h0 h1];omega) hF h h10
end Go.Hb
namespace Go.Hb
open Go.Proofs
def dG (p:Prog)(i:Int) :List Int:=match p.nodes[i.toNat]? with
 |some x=>x.kids
 |none=>[]
section
variable {p :Prog}
theorem tM {q:Int→List Int}(m:Int) :∀ (ks:List Int),(∀k∈ks,(q k).count m= [k].count m+ (((q k).map (dG p)).flatten).count m) →
  ((ks.map q).flatten).count m=ks.count m+ ((((ks.map q).flatten).map (dG p)).flatten).count m
 | [],_=>rfl
 | k::ks,h=>by
  have h1:=h k (List.mem_cons_self ..)
  have h2:=tM m ks (fun x hx=>h x (List.mem_cons_of_mem _ hx))
  rw [List.map_cons,List.flatten_cons,List.count_append,List.map_append,List.flatten_append,List.count_append,h1,h2,show k::ks= [k] ++ks from rfl,List.count_append]
  omega
theorem aBI (hp:FineP p)(m:Int) :∀ (f:Nat) (a:Int),0≤a→a<p.nodes.length→p.nodes.length-a.toNat≤f→ (pre p f a).count m= [a].count m+ (((pre p f a).map (dG p)).flatten).count m
 |0,a,ha,hn,hf=>by omega
 | f+1,a,ha,hn,hf=>by
  obtain⟨x,hx⟩ :∃x,p.nodes[a.toNat]?=some x:= ⟨_,List.getElem?_eq_getElem (by omega)⟩
  obtain⟨_,_,hks⟩ :=hp.node _ _ hx
  have e:pre p (f+1) a=a:: (x.kids.map (pre p f)).flatten:=by rw [pre,hx]
  have ek:dG p a=x.kids:=by unfold dG;rw [hx]
  have h2:=tM (p:=p) m x.kids (fun k hk=>by
   have:=hks k hk
   exact aBI hp m f k (by omega) (by omega) (by omega))
  rw [e,List.map_cons,List.flatten_cons,List.count_append,ek,show a:: (x.kids.map (pre p f)).flatten= [a] ++ (x.kids.map (pre p f)).flatten from rfl,List.count_append,h2]
theorem aSS (hp:FineP p) :∀ (f:Nat) (a:Int),0≤a→a<p.nodes.length→∀y∈pre p f a,0≤y∧y<p.nodes.length
 |0,a,_,_,y,hy=>by cases hy
 | f +1,a,ha,hn,y,hy=>by
  obtain⟨x,hx⟩ :∃x,p.nodes[a.toNat]?=some x:= ⟨_,List.getElem?_eq_getElem (by omega)⟩
  obtain⟨_,_,hks⟩ :=hp.node _ _ hx
  have e:pre p (f+1) a=a:: (x.kids.map (pre p f)).flatten:=by rw [pre,hx]
  rw [e]at hy
  rcases List.mem_cons.1 hy with rfl|hy
  ·exact⟨ha,hn⟩
  · obtain⟨l,hl,hy⟩ :=List.mem_flatten.1 hy
    obtain⟨k,hk,rfl⟩ :=List.mem_map.1 hl
    have:=hks k hk
    exact aSS hp f k (by omega) (by omega) y hy
def lR (u:List Bool)(m:Int) :Nat:=if u[m.toNat]?=some true then 1 else 0
theorem jP {lo n:Int}(hlo:0≤lo){m:Int}(hm:0≤m) :∀ {ks:List Int} {u v:List Bool},marks lo n ks u=some v→ks.count m+lR u m=lR v m
 | [],u,v,h=>by cases h;simp
 | k ::ks,u,v,h=>by
  have hk:=pO h k (List.mem_cons_self ..)
  obtain⟨h1,h2⟩ :=eV h
  have h3:=jP hlo hm h2
  rw [←h3,show k::ks= [k] ++ks from rfl,List.count_append]
  have hlt:= (List.getElem?_eq_some_iff.1 h1).1
  by_cases e:k=m
  · subst e
    have a1:lR u k=0:=by unfold lR;rw [h1];rfl
    have a2:lR (u.set k.toNat true) k=1:=by unfold lR;rw [List.getElem?_set_self hlt];rfl
    rw [a1,a2];simp;omega
  · have a1:lR (u.set k.toNat true) m=lR u m:=by unfold lR;rw [List.getElem?_set_ne (by omega)]
    rw [a1,List.count_singleton,if_neg (by simpa using e)];omega
theorem mE {m:Int}(hm:0≤m) :∀ {t:List Node} {i:Nat} {u v:List Bool},bU p i t u=some v→ ((t.map Node.kids).flatten).count m+lR u m=lR v m
 | [],i,u,v,h=>by simp only [bU,Option.some.injEq]at h;subst h;simp
 | x::t,i,u,v,h=>by
  obtain⟨_,w,h1,h2⟩ :=eE h
  have h3:=jP (by omega) hm h1
  have h4:=mE hm h2
  rw [List.map_cons,List.flatten_cons,List.count_append]
  omega
theorem aGt {m:Int}:∀ {t:List Node},((t.map Node.kids).flatten).count m≤1→∀ (i j:Nat) (x y:Node),t[i]?=some x→t[j]?=some y→m∈x.kids→m∈y.kids→i=j
 | [],_,i,j,x,y,hx,_,_,_=>by simp at hx
 | z ::t,h,i,j,x,y,hx,hy,mx,my=>by
  rw [List.map_cons,List.flatten_cons,List.count_append]at h
  have inT:∀ {i:Nat} {x:Node},t[i]?=some x→m∈x.kids→0< ((t.map Node.kids).flatten).count m:=fun {i x} hx mx=>
   List.count_pos_iff.2 (List.mem_flatten.2 ⟨x.kids,List.mem_map.2 ⟨x,List.mem_of_getElem? hx,rfl⟩,mx⟩)
  cases i with
  | zero=>
   simp only [List.getElem?_cons_zero,Option.some.injEq]at hx
   subst hx
   cases j with
   |zero=>rfl
   | succ j=>
    simp only [List.getElem?_cons_succ]at hy
    have:=inT hy my
    have:=List.count_pos_iff.2 mx
    omega
  | succ i=>
   simp only [List.getElem?_cons_succ]at hx
   cases j with
   | zero=>
    simp only [List.getElem?_cons_zero,Option.some.injEq]at hy
    subst hy
    have:=inT hx mx
    have:=List.count_pos_iff.2 my
    omega
   | succ j=>
    simp only [List.getElem?_cons_succ]at hy
    rw [aGt (by omega) i j x y hx hy mx my]
theorem aOg {m:Int}:∀ {t:List Node} {i:Nat} {x:Node},t[i]?=some x→x.kids.count m≤ ((t.map Node.kids).flatten).count m
 | [],i,x,hx=>by simp at hx
 | z::t,0,x,hx=>by
  simp only [List.getElem?_cons_zero,Option.some.injEq]at hx
  subst hx
  rw [List.map_cons,List.flatten_cons,List.count_append];omega
 | z::t,i+1,x,hx=>by
  simp only [List.getElem?_cons_succ]at hx
  have:=aOg (m:=m) hx
  rw [List.map_cons,List.flatten_cons,List.count_append];omega
theorem aOh {m i:Int}:∀ (L:List Int),(∀j∈L,m∈dG p j→j=i) → ((L.map (dG p)).flatten).count m≤L.count i* (dG p i).count m
 | [],_=>by simp
 | j ::L,h=>by
  have h1:=aOh L (fun x hx=>h x (List.mem_cons_of_mem _ hx))
  rw [List.map_cons,List.flatten_cons,List.count_append,show j::L= [j] ++L from rfl,List.count_append,Nat.add_mul]
  by_cases hm:m∈dG p j
  · have:=h j (List.mem_cons_self ..) hm
    subst this
    simp
    exact h1
  · rw [List.count_eq_zero.2 hm]
    exact Nat.le_trans (by simpa using h1) (Nat.le_add_left ..)
theorem aXW (hp:FineP p)(hK:∀m:Int,0≤m→p.funs.count m+ ((p.nodes.map Node.kids).flatten).count m≤1){L:List Int}(hin:∀x∈L,0≤x∧x<p.nodes.length)(hL:∀m:Int,L.count m=p.funs.count m+ ((L.map (dG p)).flatten).count m) :∀ (b m:Nat),m≤b→L.count (m:Int) ≤1:=by
 intro b
 induction b with
 | zero=>
  intro m hmb
  have hm:m=0:=by omega
  subst hm
  have e:=hL ((0:Nat) :Int)
  have z: ((L.map (dG p)).flatten).count ((0:Nat) :Int) =0:=by
   refine List.count_eq_zero.2 (fun h=>?_)
   obtain⟨l,hl,hy⟩ :=List.mem_flatten.1 h
   obtain⟨j,hj,rfl⟩ :=List.mem_map.1 hl
   unfold dG at hy
   split at hy
   · rename_i x hx
     have:= (hp.node _ _ hx).2.2 _ hy
     omega
   ·cases hy
  have:=hK ((0:Nat) :Int) (by omega)
  omega
 | succ b ih=>
  intro m hmb
  have e:=hL (m:Int)
  have hk:=hK (m:Int) (by omega)
  by_cases hz: ((L.map (dG p)).flatten).count (m:Int) =0
  ·omega
  · have hpos:=List.count_pos_iff.1 (Nat.pos_of_ne_zero hz)
    obtain⟨l,hl,hy⟩ :=List.mem_flatten.1 hpos
    obtain⟨i,hi,rfl⟩ :=List.mem_map.1 hl
    have hir:=hin i hi
    obtain⟨x,hx⟩ :∃x,p.nodes[i.toNat]?=some x:= ⟨_,List.getElem?_eq_getElem (by omega)⟩
    have ei:dG p i=x.kids:=by unfold dG;rw [hx]
    rw [ei]at hy
    have him:= (hp.node _ _ hx).2.2 _ hy
    have hci:L.count i≤1:=by
     have:=ih i.toNat (by omega)
     rwa [show((i.toNat:Nat) :Int) =i by omega]at this
    have hle:=aOh (p:=p) (m:= (m:Int)) (i:=i) L (fun j hj hmj=>by
     have hjr:=hin j hj
     obtain⟨y,hy'⟩ :∃y,p.nodes[j.toNat]?=some y:= ⟨_,List.getElem?_eq_getElem (by omega)⟩
     have ej:dG p j=y.kids:=by unfold dG;rw [hy']
     rw [ej]at hmj
     have:=aGt (by omega) _ _ y x hy' hx hmj hy
     omega)
    rw [ei]at hle
    have hkl:=aOg (m:= (m:Int)) hx
    have:L.count i*x.kids.count (m:Int) ≤1*x.kids.count (m:Int) :=Nat.mul_le_mul_right _ hci
    omega
theorem nA :∀ (n:Nat) (l:List Nat),l.Nodup→ (∀x∈l,x<n) →l.length≤n
 |0,[],_,_=>by simp
 |0,x::l,_,h=>by have:=h x (List.mem_cons_self ..);omega
 | n+1,l,hd,h=>by
  by_cases hm:n∈l
  · have h1:=nA n (l.erase n) (hd.erase n) (fun x hx=>by
     have:=h x (List.mem_of_mem_erase hx)
     have hne:x≠n:=fun e=>by
      subst e
      exact hd.not_mem_erase hx
     omega)
    rw [List.length_erase_of_mem hm]at h1
    omega
  · have:=nA n l hd (fun x hx=>by
     have:=h x hx
     have hne:x≠n:=fun e=>hm (e ▸ hx)
     omega)
    omega
end
end Go.Hb
namespace Go.Hb
open Go.Proofs
theorem aEx {L:List Int}(h:∀a,L.count a≤1) :L.Nodup:=List.nodup_iff_count.2 h
theorem aOi :∀ (n:Nat) (l:List Int),(∀i:Nat,i<n→ (i:Int) ∈l) →n≤l.length
 |0,l,_=>Nat.zero_le _
 | n+1,l,h=>by
  have h0:=h n (Nat.lt_succ_self n)
  have h1:=aOi n (l.erase (n:Int)) (fun i hi=> (List.mem_erase_of_ne (by omega)).2 (h i (by omega)))
  rw [List.length_erase_of_mem h0]at h1
  have:=List.length_pos_of_mem h0
  omega
theorem all_in {p:Prog}(hp:FineP p)(hK:∀m:Nat,m<p.nodes.length→p.funs.count (m:Int) + ((p.nodes.map Node.kids).flatten).count (m:Int) =1){L:List Int}(hL:∀m:Int,L.count m=p.funs.count m+ ((L.map (dG p)).flatten).count m) :∀ (b m:Nat),m≤b→m<p.nodes.length→ (m:Int) ∈L:=by
 intro b
 induction b with
 | zero=>
  intro m hmb hm
  have e:=hL (m:Int)
  have hk:=hK m hm
  by_cases hz: ((p.nodes.map Node.kids).flatten).count (m:Int) =0
  ·exact List.count_pos_iff.1 (by omega)
  · obtain⟨l,hl,hy⟩ :=List.mem_flatten.1 (List.count_pos_iff.1 (Nat.pos_of_ne_zero hz))
    obtain⟨x,hx,rfl⟩ :=List.mem_map.1 hl
    obtain⟨i,hi⟩ :=List.mem_iff_getElem?.1 hx
    have:= (hp.node _ _ hi).2.2 _ hy
    omega
 | succ b ih=>
  intro m hmb hm
  have e:=hL (m:Int)
  have hk:=hK m hm
  by_cases hz: ((p.nodes.map Node.kids).flatten).count (m:Int) =0
  ·exact List.count_pos_iff.1 (by omega)
  · obtain⟨l,hl,hy⟩ :=List.mem_flatten.1 (List.count_pos_iff.1 (Nat.pos_of_ne_zero hz))
    obtain⟨x,hx,rfl⟩ :=List.mem_map.1 hl
    obtain⟨i,hi⟩ :=List.mem_iff_getElem?.1 hx
    have him:= (hp.node _ _ hi).2.2 _ hy
    have hiL:=ih i (by omega) (by omega)
    have: (m:Int) ∈ (L.map (dG p)).flatten:=List.mem_flatten.2 ⟨x.kids,List.mem_map.2 ⟨(i:Int),hiL,by unfold dG;rw [Int.toNat_natCast,hi]⟩,hy⟩
    have:=List.count_pos_iff.2 this
    exact List.count_pos_iff.1 (by omega)
theorem tN {p:Prog}(hs:aP p=true)(hf:bJ p=true) : ((p.funs.map (pre p p.nodes.length)).flatten).Nodup∧ ((p.funs.map (pre p p.nodes.length)).flatten).length=p.nodes.length∧ (∀x∈ (p.funs.map (pre p p.nodes.length)).flatten,0≤x∧x<p.nodes.length) ∧
  (∀ (i:Nat) (x:Node),p.nodes[i]?=some x→bH p x=true) :=by
 have hp:=wH hs hf
 simp only [bJ,Bool.and_eq_true]at hf
 obtain⟨_,hf⟩ :=hf
 split at hf
 · rename_i u hu
   unfold allT at hf
   split at hf
   · rename_i v hv
     have hK:∀m:Int,0≤m→p.funs.count m+ ((p.nodes.map Node.kids).flatten).count m≤1:=fun m hm=>by
      have h1:=jP (by omega) hm hu
      have h2:=mE hm hv
      have h3:lR v m≤1:=by unfold lR;split<;>omega
      omega
     have hin:∀x∈ (p.funs.map (pre p p.nodes.length)).flatten,0≤x∧x<p.nodes.length:=fun x hx=>by
      obtain⟨l,hl,hy⟩ :=List.mem_flatten.1 hx
      obtain⟨k,hk,rfl⟩ :=List.mem_map.1 hl
      have:=hp.funs k hk
      exact aSS hp _ k this.1 this.2 x hy
     have hL:∀m:Int,((p.funs.map (pre p p.nodes.length)).flatten).count m=p.funs.count m+ ((((p.funs.map (pre p p.nodes.length)).flatten).map (dG p)).flatten).count m:=fun m=>tM m p.funs (fun k hk=>by
      have:=hp.funs k hk
      exact aBI hp m _ k this.1 this.2 (by omega))
     have hd: ((p.funs.map (pre p p.nodes.length)).flatten).Nodup:=aEx (fun a=>by
      by_cases ha:a∈ (p.funs.map (pre p p.nodes.length)).flatten
      · have hr:=hin a ha
        have:=aXW hp hK hin hL a.toNat a.toNat (Nat.le_refl _)
        rwa [show((a.toNat:Nat) :Int) =a by omega]at this
      ·rw [List.count_eq_zero.2 ha];omega)
     refine⟨hd,?_,hin,fun i x hx=> (oO hv i x hx).1⟩
     have hd2: (((p.funs.map (pre p p.nodes.length)).flatten).map Int.toNat).Nodup:=by
      rw [List.nodup_iff_pairwise_ne]at hd ⊢
      refine List.pairwise_map.2 (hd.imp_of_mem (fun {a b} ha hb hne e=>?_))
      have:=hin a ha
      have:=hin b hb
      exact hne (by omega)
     have:=nA p.nodes.length _ hd2 (fun x hx=>by
      obtain⟨y,hy,rfl⟩ :=List.mem_map.1 hx
      have:=hin y hy
      omega)
     rw [List.length_map]at this
     refine Nat.le_antisymm this (aOi _ _ (fun i hi=>all_in hp (fun m hm=>?_) hL i i (Nat.le_refl _) hi))
     have h1:=jP (m:= (m:Int)) (by omega) (by omega) hu
     have h2:=mE (m:= (m:Int)) (by omega) hv
     have hl1:=gY hu
     have hl2:=iL hv
     rw [List.length_replicate]at hl1
     have h3:lR (List.replicate p.nodes.length false) (m:Int) =0:=by
      unfold lR
      rw [Int.toNat_natCast,List.getElem?_replicate,if_pos hm];rfl
     have h4:lR v (m:Int) =1:=by
      unfold lR
      have hlt:m<v.length:=by omega
      have:=List.all_eq_true.1 hf _ (List.getElem_mem hlt)
      rw [Int.toNat_natCast,List.getElem?_eq_getElem hlt,this];rfl
     omega
   ·cases hf
 ·cases hf
abbrev aOj :AV:=.agg [.ilst 4 (List.map Node.av ([] :List Node)) true,.ilst 1 (List.map aB ([] :List Int)) true,.int .i64 0,.ilst 2 (List.map Con.av ([] :List Con)) true]
end Go.Hb
namespace Go.Hb
open Go.Proofs
end Go.Hb
namespace Go.Hb
open Go.Proofs
set_option maxHeartbeats 2000000
noncomputable section
end
end Go.Hb
namespace Go.Hb
open Go.Proofs
end Go.Hb
namespace Go.Hb
open Go.Proofs
set_option maxHeartbeats 2000000
noncomputable section
end
end Go.Hb
namespace Go.Hb
open Go.Proofs
end Go.Hb
namespace Go.Hb
open Go.Proofs
set_option maxHeartbeats 2000000
noncomputable section
def aFs (i:Nat) :List Int→List Int→List Int
 | [],l=>l
 |k::t,l=>aFs i t (l.set k.toNat (l.getD i 0))
def aFt :List Node→Nat→List Int→List Int
 | [],_,l=>l
 |x::t,i,l=>aFt t (i+1) (aFs i x.kids l)
def aIl :List Int→Nat→List Int→List Int
 | [],_,l=>l
 |f::t,i,l=>aIl t (i+1) (l.set f.toNat (i:Int))
def fM (p:Prog) :List Int:=aFt p.nodes 0 (aIl p.funs 0 (List.replicate p.nodes.length 0))
theorem aEy (i:Nat) :∀ (t l:List Int),(aFs i t l).length=l.length
 | [],_=>rfl
 |k::t,l=>by rw [aFs,aEy i t];simp
theorem aKO :∀ (t:List Node) (i:Nat) (l:List Int),(aFt t i l).length=l.length
 | [],_,_=>rfl
 |x::t,i,l=>by rw [aFt,aKO t,aEy]
theorem aEz :∀ (t:List Int) (i:Nat) (l:List Int),(aIl t i l).length=l.length
 | [],_,_=>rfl
 |f::t,i,l=>by rw [aIl,aEz t];simp
theorem aST (p:Prog) : (fM p).length=p.nodes.length:=by rw [fM,aKO,aEz];simp
def mF (own:List Int) :List Node→Nat→List Bool→List Bool
 | [],_,l=>l
 |x::t,i,l=>mF own t (i+1) (if x.op=4∧x.n<0∧l.getD (own.getD i 0).toNat false=true then l.set (-1-x.n).toNat true else l)
def rW (p:Prog)(own:List Int) :Nat→List Bool→List Bool
 |0,l=>l
 |k+1,l=>rW p own k (mF own p.nodes 0 l)
def bT (p:Prog) :List Bool:=rW p (fM p) p.funs.length ((List.replicate p.funs.length false).set p.main.toNat true)
theorem aBJ (own:List Int) :∀ (t:List Node) (i:Nat) (l:List Bool),(mF own t i l).length=l.length
 | [],_,_=>rfl
 |x::t,i,l=>by rw [mF,aBJ own t];split<;>simp
theorem aGu (p:Prog)(own:List Int) :∀ (k:Nat) (l:List Bool),(rW p own k l).length=l.length
 |0,_=>rfl
 |k+1,l=>by rw [rW,aGu p own k,aBJ]
theorem pP (p:Prog) : (bT p).length=p.funs.length:=by rw [bT,aGu];simp
structure OwnsP (p:Prog) (own:List Int) :Prop where
 len:own.length=p.nodes.length
 own:∀i:Nat,i<p.nodes.length→0≤own.getD i 0∧own.getD i 0<p.funs.length
 name:∀ (i:Nat) (x:Node),p.nodes[i]?=some x→x.op=4→x.n<0→ -1-x.n<p.funs.length
 small:p.nodes.length≤320
 fsmall:p.funs.length≤320
 main:0≤p.main∧p.main<p.funs.length
end
end Go.Hb
namespace Go.Hb
open Go.Proofs
set_option maxHeartbeats 2000000
noncomputable section
def eC :List Bool→Int→List Int
 | [],_=>[]
 |b::t,n=>n::eC t (if b=true then n+1 else n)
theorem aBK :∀ (is:List Bool) (n:Int),(eC is n).length=is.length
 | [],_=>rfl
 |b::t,n=>by rw [eC,List.length_cons,aBK t,List.length_cons]
def dN {α:Type}:List Bool→List α→List α
 |true::bs,x::t=>x::dN bs t
 |false::bs,_::t=>dN bs t
 |_,_=>[]
end
end Go.Hb
namespace Go.Hb
open Go.Proofs
def bB :List Bool→Int→List Int
 | [],_=>[]
 |b::t,i=>if b=true then i::bB t (i+1)else bB t (i+1)
def kB :List Int→Int→List (Int×Int) →List (Int×Int)
 | [],_,m=>m
 |f::t,i,m=>kB t (i+1) (cM f i m)
theorem aEA :∀ (ks:List Int) (i:Int) (m:List (Int×Int)) (f:Int),f∉ks→bF f (kB ks i m) =bF f m
 | [],_,_,_,_=>rfl
 | k::t,i,m,f,h=>by
  simp only [List.mem_cons,not_or]at h
  rw [kB,aEA t (i+1) _ f h.2,jM,if_neg h.1]
theorem fC :∀ (is:List Bool) (b:Int),∀x∈bB is b,b≤x
 | [],_,x,h=>by cases h
 | c ::t,b,x,h=>by
  simp only [bB]at h
  split at h
  · rcases List.mem_cons.1 h with rfl|h
    ·omega
    ·have:=fC t (b+1) x h;omega
  ·have:=fC t (b+1) x h;omega
theorem lP :∀ (is:List Bool) (b:Int) (j:Nat),is[j]?=some true↔b+ (j:Int) ∈bB is b
 | [],b,j=>by simp [bB]
 | c::t,b,0=>by
  simp only [bB]
  have h:b∉bB t (b+1) :=fun h=>by have:=fC t (b+1) b h;omega
  cases c with
  |true=>simp
  |false=>simpa using h
 | c::t,b,j+1=>by
  have ih:=lP t (b+1) j
  have e:b+1+ (j:Int) =b+ ((j+1:Nat) :Int) :=by omega
  rw [e]at ih
  simp only [bB,List.getElem?_cons_succ]
  rw [ih]
  cases c with
  | true=>
   rw [if_pos rfl,List.mem_cons]
   exact⟨.inr,fun h=>h.resolve_left (by omega)⟩
  |false=>rw [if_neg (by simp)]
theorem xI :∀ (is:List Bool) (b n:Int) (m:List (Int×Int)) (j:Nat),is[j]?=some true→bF (b+ (j:Int)) (kB (bB is b) n m) = (eC is n)[j]?
 | [],b,n,m,j,h=>by simp at h
 | c::t,b,n,m,0,h=>by
  simp only [List.getElem?_cons_zero,Option.some.injEq]at h
  subst h
  simp only [bB,if_true,kB,eC,List.getElem?_cons_zero]
  rw [aEA _ _ _ _ (fun h=>by have:=fC t (b+1) _ h;omega),jM,if_pos (by omega)]
 | c::t,b,n,m,j+1,h=>by
  simp only [List.getElem?_cons_succ]at h
  have e:b+ ((j+1:Nat) :Int) =b+1+ (j:Int) :=by omega
  rw [e]
  simp only [bB,eC,List.getElem?_cons_succ]
  cases c with
  | true=>
   simp only [if_true,kB]
   exact xI t (b+1) (n+1) _ j h
  | false=>
   simp only [Bool.false_eq_true,if_false]
   exact xI t (b+1) n m j h
theorem aGv {α:Type}(ml:List (Int×Bool)) :∀ (l:List α) (is:List Bool) (i:Nat),is.length=l.length→ (∀j:Nat,j<l.length→ (is[j]?=some true↔ (bF ((i+j:Nat) :Int) ml).isSome=true)) →iE ml i l=dN is l
 | [],is,i,h,_=>by
  obtain rfl:is= [] :=List.length_eq_zero_iff.1 h
  rfl
 |x::l,[],i,h,_=>by simp at h
 | x::l,b::is,i,h,hj=>by
  have h0:=hj 0 (by simp)
  have ih:=aGv ml l is (i+1) (by simpa using h) (fun j hl=>by
   have:=hj (j+1) (by simpa using hl)
   rw [List.getElem?_cons_succ]at this
   rw [this,show i+ (j+1) =i+1+j by omega])
  simp only [List.getElem?_cons_zero,Option.some.injEq,Nat.add_zero]at h0
  rw [iE,ih]
  cases b with
  |true=>rw [if_pos (h0.1 rfl),dN]
  |false=>rw [if_neg (fun e=>by have:=h0.2 e;cases this),dN]
end Go.Hb
namespace Go.Hb
open Go.Proofs
noncomputable abbrev hU (p:Prog) :Nat×AObj×Bool:= (0,(.cells (putCells .leaf 0 [(iN p.nodes),(iI p.funs),(nI p.main),(iC p.cons)]) 4 [] false),false)
noncomputable abbrev kH (p:Prog) :Nat×AObj×Bool:= (2,(.cells (putCells .leaf 0 [(iN p.nodes),(iI p.funs),(nI p.main),(iC p.cons)]) 4 [] false),false)
noncomputable abbrev hX  :Nat×AObj×Bool:= (1,(.cells (putCells .leaf 0 [.nils,.nils,(nI 0),.nils]) 4 [] false),false)
noncomputable abbrev aEB  :Nat×AObj×Bool:= (4,(.cells (putCells .leaf 0 [(.map 6),(.map 7)]) 2 [] false),false)
noncomputable abbrev aIm  :Nat×AObj×Bool:= (2,(.cells (putCells .leaf 0 [(.map 3),(.map 4)]) 2 [] false),false)
noncomputable abbrev aNs  :Nat×AObj×Bool:= (7,(.cells (putCells .leaf 0 [(.map 5),(.map 6)]) 2 [] false),false)
noncomputable abbrev zR  :Nat×AObj×Bool:= (3,(.cells (putCells .leaf 0 [(.map 4)]) 1 [] false),false)
noncomputable abbrev aEC  :Nat×AObj×Bool:= (3,(.cells (putCells .leaf 0 [(.map 5)]) 1 [] false),false)
noncomputable abbrev zS (zl0: (List (Int×Bool))) :Nat×AObj×Bool:= (4,(.map (aG aB eH 0 zl0) zl0.length),true)
noncomputable abbrev aED (zl0: (List (Int×Bool))) :Nat×AObj×Bool:= (5,(.map (aG aB eH 0 zl0) zl0.length),true)
noncomputable abbrev aA3 (zf0:List (Int×Int)) :Nat×AObj×Bool:= (6,(.map (aG aB aB 0 zf0) zf0.length),true)
noncomputable abbrev aA4 (zc1:List (Int×Int)) :Nat×AObj×Bool:= (7,(.map (aG aB aB 0 zc1) zc1.length),true)
noncomputable abbrev aCZ (zf0:List (Int×Int)) :Nat×AObj×Bool:= (3,(.map (aG aB aB 0 zf0) zf0.length),true)
noncomputable abbrev aC0 (zc1:List (Int×Int)) :Nat×AObj×Bool:= (4,(.map (aG aB aB 0 zc1) zc1.length),true)
noncomputable abbrev aOk (zl0: (List (Int×Bool))) :Nat×AObj×Bool:= (3,(.map (aG aB eH 0 zl0) zl0.length),true)
noncomputable abbrev aA5 (zf0:List (Int×Int)) :Nat×AObj×Bool:= (5,(.map (aG aB aB 0 zf0) zf0.length),true)
noncomputable abbrev aA6 (zc1:List (Int×Int)) :Nat×AObj×Bool:= (6,(.map (aG aB aB 0 zc1) zc1.length),true)
noncomputable abbrev aIn (mf:List (Int×Int)) :Nat×AObj×Bool:= (0,(.map (aG aB aB 0 mf) mf.length),true)
noncomputable abbrev aIo (mc:List (Int×Int)) :Nat×AObj×Bool:= (1,(.map (aG aB aB 0 mc) mc.length),true)
noncomputable def aOl (mf mc:List (Int×Int))(n0:Int) :TS:=eU PP 74 [(.agg [(.map 0),(.map 1)]),(nI n0)] [aIn mf,aIo mc] 2
theorem aUZ (mf mc:List (Int×Int))(n0 y0:Int)(h0:bF n0 mf=some y0) :
  Ends PP 2 (aOl mf mc n0).as (.ret (nI y0)) (aA [aIn mf,aIo mc] 2) :=
 wE 3 [] [qp (p:=cR (aB n0) (aG aB aB 0 mf) 0=some (some (jJ n0 mf,(aB y0)))) (eJ cE h0)] [rn 10,.ans (.look (some (jJ n0 mf,(aB y0)))),rn 3] ⟨aC (fun _=>rfl) (fun _=>rfl) _ _ _,⟨aC (fun _=>rfl) (fun _=>rfl) _ _ _,trivial⟩⟩
theorem aU0 (mf mc:List (Int×Int))(n0:Int)(h0:bF n0 mf=none) :
  Ends PP 2 (aOl mf mc n0).as (.ret (nI 0)) (aA [aIn mf,aIo mc] 2) :=
 wE 3 [] [qp (p:=cR (aB n0) (aG aB aB 0 mf) 0=some none) (gR cE h0)] [rn 10,.ans (.look none),rn 3] ⟨aC (fun _=>rfl) (fun _=>rfl) _ _ _,⟨aC (fun _=>rfl) (fun _=>rfl) _ _ _,trivial⟩⟩
noncomputable def aWb (p:Prog) :TS:=eU PP 19 [(Prog.av p)] [] 0
noncomputable def aSU (p:Prog)  :TS:=
 {fr:={fn:=19,nt:=57,sl:=[(1,(.ptr 0 0)),(2,(.ptr 1 0)),(3,(nI 0)),(5,(.ptr 2 0))],todo:=[.code (cd Tryz.f19 [1,1,1,0]),.code (cd Tryz.f19 [1,1,1,1])]},cs:=[],hp:=[hU p,hX,kH p],nb:=3}
noncomputable def aSV (p:Prog)(zl0: (List (Int×Bool))) :TS:=
 {fr:={fn:=19,nt:=57,sl:=[(1,(.ptr 0 0)),(2,(.ptr 1 0)),(3,(nI 0)),(5,(.ptr 2 0)),(6,(.ptr 3 0))],todo:=[.code (cd Tryz.f19 [1,1,1,1,0]),.code (cd Tryz.f19 [1,1,1,1,1])]},cs:=[],hp:=[hU p,hX,kH p,zR,zS zl0],nb:=5}
noncomputable def aBL (p:Prog)(ks2:List Int)(t29:Int)(zl0: (List (Int×Bool)))(zf0 zc1:List (Int×Int))(t30:Int) :TS:=
 {fr:={fn:=19,nt:=57,sl:=[(1,(.ptr 0 0)),(2,(.ptr 1 0)),(3,(nI 0)),(5,(.ptr 2 0)),(6,(.ptr 3 0)),(7,(.ptr 4 0)),(28,(iI ks2)),(29,(nI t29)),(30,(nI t30))],todo:=[.code (cd Tryz.f19 [1,1,1,1,1,0,1,0,0]),.inLoop (cd Tryz.f19 [1,1,1,1,1,0,1,0,0]),.inBlock 0,.code (cd Tryz.f19 [1,1,1,1,1,1])]},cs:=[],hp:=[hU p,hX,kH p,aEC,aEB,aED zl0,aA3 zf0,aA4 zc1],nb:=8}
noncomputable def aSW (p:Prog)(zl0: (List (Int×Bool)))(zf0 zc1:List (Int×Int)) :TS:=
 {fr:={fn:=19,nt:=57,sl:=[(1,(.ptr 0 0)),(2,(.ptr 1 0)),(3,(nI 0)),(5,(.ptr 2 0)),(6,(.ptr 3 0)),(7,(.ptr 4 0))],todo:=[.code (cd Tryz.f19 [1,1,1,1,1,1,0]),.code (cd Tryz.f19 [1,1,1,1,1,1,1])]},cs:=[],hp:=[hU p,hX,kH p,aEC,aEB,aED zl0,aA3 zf0,aA4 zc1],nb:=8}
noncomputable def aSX (p:Prog)(zn0:List Node)(zu1:List Int)(zf0 zc1:List (Int×Int)) :TS:=
 {fr:={fn:=19,nt:=57,sl:=[(1,(.ptr 0 0)),(2,(.ptr 1 0)),(3,(nI 0)),(7,(.ptr 2 0)),(10,(iN zn0)),(11,(iI zu1))],todo:=[.code (cd Tryz.f19 [1,1,1,1,1,1,1,0]),.code (cd Tryz.f19 [1,1,1,1,1,1,1,1])]},cs:=[],hp:=[hU p,hX,aIm,aCZ zf0,aC0 zc1],nb:=5}
theorem aU1 (p:Prog)(y0:Int)(h0:aE PP 32 [(Prog.av p)] (nI y0))(h1: (y0 != (0:Int)) =false) :
  LeadsM PP 0 (aWb p).as (aSU p).as:=
 wW 3 [0,1,2] [qp h0,qp h1] [rn 10,.pure (nI y0),rn 7,bf 15,rn 10] trivial
theorem aU2 (p:Prog)(zl0: (List (Int×Bool)))(h0:Spec PP (.enter 68 [(Prog.av p)]) (aA [hU p,hX,kH p] 3) (.ret (.map 3)) (aA [hU p,hX,kH p,aOk zl0] 4)) :
  LeadsM PP 0 (aSU p).as (aSV p zl0).as:=
 wW 5 [0,1,2,4,3] [qp h0] [rn 2,.call (.map 3) (aA [hU p,hX,kH p,aOk zl0] 4),rn 4] ⟨aC (fun _=>rfl) (fun _=>rfl) _ _ _,trivial⟩
theorem aU3 (p:Prog)(zl0: (List (Int×Bool)))(zf0 zc1:List (Int×Int))(ks2:List Int)(h0:Spec PP (.enter 69 [(nI 0),(nI (p.cons.length:Int))]) (aA [hU p,hX,kH p,zR,zS zl0] 5) (.ret (.agg [(.map 5),(.map 6)])) (aA [hU p,hX,kH p,zR,zS zl0,aA5 zf0,aA6 zc1] 7))(h1:aBu PP 71 [(.map 4)] 70 (aA [hU p,hX,kH p,zR,zS zl0,aA5 zf0,aA6 zc1,aNs] 8) (iI ks2) (aA [hU p,hX,kH p,zR,zS zl0,aA5 zf0,aA6 zc1,aNs] 8)) :
  LeadsM PP 0 (aSV p zl0).as (aBL p ks2 (ks2.length:Int) zl0 zf0 zc1 0).as:=
 wW 8 [0,1,2,3,7,4,5,6] [ql Con.av p.cons,qp h0,qp h1,ql aB ks2] [rn 3,aL p.cons,.call (.agg [(.map 5),(.map 6)]) (aA [hU p,hX,kH p,zR,zS zl0,aA5 zf0,aA6 zc1] 7),rn 7,.call2 (iI ks2) (aA [hU p,hX,kH p,zR,zS zl0,aA5 zf0,aA6 zc1,aNs] 8),aL ks2,rn 4] ⟨aC (fun _=>rfl) (fun _=>rfl) _ _ _,⟨aC (fun _=>rfl) (fun _=>rfl) _ _ _,⟨aC (fun _=>rfl) (fun _=>rfl) _ _ _,trivial⟩⟩⟩
theorem aU4 (p:Prog)(ks2:List Int)(t29:Int)(zl0: (List (Int×Bool)))(zf0 zc1:List (Int×Int))(t30 y0:Int)(h0:decide (t30<t29) =true)(h1:0≤t30)(h2: ((ks2)[t30.toNat]?) =some y0)(h3: (IntKind.i64.wrap (t30+ (1:Int))) = (t30+ (1:Int))) :
  LeadsM PP 0 (aBL p ks2 t29 zl0 zf0 zc1 t30).as (aBL p ks2 t29 zl0 (cM y0 t30 zf0) zc1 (t30+ (1:Int))).as:=
 wW 8 [0,1,2,3,4,5,6,7] [qp h0,qp h1,qg aB h2,qp (p:=jD (aG aB aB 0 zf0) zf0.length (aB y0) (aB t30) =some ((aG aB aB 0 (cM y0 t30 zf0)),List.length (cM y0 t30 zf0))) (wY cE _ _ _),qp (congrArg (AV.int .i64) h3)] [rn 5,bt 31,rn 7,aI (aB y0),rn 9,.mput (aG aB aB 0 (cM y0 t30 zf0)) (cM y0 t30 zf0).length,rn 4,sI 39 (t30+ (1:Int)),rn 3] ⟨aC (fun _=>rfl) (fun _=>rfl) _ _ _,⟨aC (fun _=>rfl) (fun _=>rfl) _ _ _,⟨aC (fun _=>rfl) (fun _=>rfl) _ _ _,trivial⟩⟩⟩
theorem aU5 (p:Prog)(ks2:List Int)(t29:Int)(zl0: (List (Int×Bool)))(zf0 zc1:List (Int×Int))(t30:Int)(h0:decide (t30<t29) =false) :
  LeadsM PP 0 (aBL p ks2 t29 zl0 zf0 zc1 t30).as (aSW p zl0 zf0 zc1).as:=
 wW 8 [0,1,2,3,4,5,6,7] [qp h0] [rn 5,bf 31,rn 3] ⟨aC (fun _=>rfl) (fun _=>rfl) _ _ _,⟨aC (fun _=>rfl) (fun _=>rfl) _ _ _,⟨aC (fun _=>rfl) (fun _=>rfl) _ _ _,trivial⟩⟩⟩
theorem aU6 (p:Prog)(zl0: (List (Int×Bool)))(zf0 zc1:List (Int×Int))(zn0:List Node)(zu1:List Int)(h0:Spec PP (.enter 72 [(Prog.av p),(nI 0),(.func 73 [] [(.ptr 3 0)]),(.agg [(.map 6),(.map 7)])]) (aA [hU p,hX,kH p,aEC,aEB,aED zl0,aA3 zf0,aA4 zc1] 8) (.ret (.tup [(iN zn0),(iI zu1)])) (aA [hU p,hX,kH p,aEC,aEB,aED zl0,aA3 zf0,aA4 zc1] 8)) :
  LeadsM PP 0 (aSW p zl0 zf0 zc1).as (aSX p zn0 zu1 zf0 zc1).as:=
 wW 8 [0,1,4,6,7] [qp h0] [rn 4,.call (.tup [(iN zn0),(iI zu1)]) (aA [hU p,hX,kH p,aEC,aEB,aED zl0,aA3 zf0,aA4 zc1] 8),rn 7] ⟨aC (fun _=>rfl) (fun _=>rfl) _ _ _,⟨aC (fun _=>rfl) (fun _=>rfl) _ _ _,trivial⟩⟩
theorem aU7 (p:Prog)(zn0:List Node)(zu1:List Int)(zf0 zc1:List (Int×Int))(zy0:Int)(y1:List Con)(h0:Spec PP (.enter 74 [(.agg [(.map 3),(.map 4)]),(nI p.main)]) (aA [hU p,hX,aIm,aCZ zf0,aC0 zc1] 5) (.ret (nI zy0)) (aA [hU p,hX,aIm,aCZ zf0,aC0 zc1] 5))(h1:aE PP 75 [(iC p.cons)] (iC y1)) :
  Ends PP 0 (aSX p zn0 zu1 zf0 zc1).as (.ret (.tup [(.agg [(iN zn0),(iI zu1),(nI zy0),(iC y1)]),(nI 0)])) (aA [] 0) :=
 wE 5 [] [qp h0,qp h1,qr (AV.ilst 2 (jC p.cons) false),qr (AV.ilst 2 (jC p.cons) false)] [.reg [.d,.d,.d,.d,.d,.call (nI zy0) (aA [hU p,hX,aIm,aCZ zf0,aC0 zc1] 5),.d,.d,.pure (iC y1),.d,.d,.d],rn 1] trivial
end Go.Hb
namespace Go.Hb
open Go.Proofs
set_option maxHeartbeats 2000000
noncomputable section
theorem aSY (mf mc:List (Int×Int))(n:Int) :Spec PP (.enter 74 [.agg [.map 0,.map 1],.int .i64 n]) (aA [(0,MO mf,true),(1,MO mc,true)] 2) (.ret (.int .i64 (eX mf n))) (aA [(0,MO mf,true),(1,MO mc,true)] 2) :=by
 cases hm:bF n mf with
 | some y=>
  have e:eX mf n=y:=by unfold eX;rw [hm];rfl
  rw [e]
  exact⟨(aOl mf mc n).as.fr,by kernel_rfl,Eq.mp (by kernel_rfl) (aUZ mf mc n y hm)⟩
 | none=>
  have e:eX mf n=0:=by unfold eX;rw [hm];rfl
  rw [e]
  exact⟨(aOl mf mc n).as.fr,by kernel_rfl,Eq.mp (by kernel_rfl) (aU0 mf mc n hm)⟩
section
variable {p :Prog}
theorem aWc (ks:List Int)(zl:List (Int×Bool))(zc:List (Int×Int))(hk:ks.length≤1000000) :∀ (t:List Int) (i:Nat) (zf:List (Int×Int)),ks.drop i=t→i≤ks.length →
  LeadsM PP 0 (aBL p ks ((List.length ks:Nat) :Int) zl zf zc (i:Int)).as (aBL p ks ((List.length ks:Nat) :Int) zl (kB t i zf) zc ((List.length ks:Nat) :Int)).as
 | [],i,zf,h,hi=>by
  have:=cD h
  obtain rfl:i=ks.length:=by omega
  exact LeadsM.refl _
 | k::t,i,zf,h,hi=>by
  obtain⟨g1,g2,g3⟩ :=cA h
  have h0:=aU4 p ks ((List.length ks:Nat) :Int) zl zf zc i k sd sd sd sd
  rw [kB]
  exact h0.trans (aWc ks zl zc hk t (i+1) (cM k i zf) g2 (by omega))
abbrev aU8 (p:Prog) :AObj:=.cells (putCells .leaf 0 [.nils,.nils,.int .i64 0,.nils]) 4 [] false
theorem aSZ (hp:FineP p)(hnm:∀ (i:Nat) (x:Node),p.nodes[i]?=some x→x.op=4→x.n<0→ -1000000000≤x.n)(f:Nat)(hf:p.nodes.length≤f)(hr:∀k∈p.funs,(kC p f k).length≤1000000)(k:Nat)(zl:List (Int×Bool))(hz:hQ (uA p f 0 p.funs []) k p.main [] =some zl)
  (ks:List Int) (hkl:ks.length≤1000000) (hK:∀ (h:Hp) (r:Nat),h.look r=some (MB zl) →aBu PP 71 [.map r] 70 h (.ilst 1 (List.map aB ks) false) h)
  (hok:∀ (i:Nat) (x:Node),p.nodes[i]?=some x→nOk (kB ks 0 []) x) (to:List Int) (n:Int) (hc:p.cons.length<1000000)
  (hb: (oC p zl (kB ks 0 []) (sM p.cons.length) to f).length≤1000000) (hw:aSf p zl 0 f=some (to,n)) (h10:aE PP 32 [PA p] (.int .i64 0)) :
  aE PP 19 [PA p] (.tup [PA ⟨oC p zl (kB ks 0 []) (sM p.cons.length) to f,(iE zl 0 p.funs).map (cB to),eX (kB ks 0 []) p.main,p.cons⟩,.int .i64 0]) :=by
 have hml:xR zl:=wC _ k p.main [] zl (fun j v e=>by simp [bF]at e) hz
 have h49:=aIf hp hnm f hf hr k zl hz
 have h40:=aQd 0 p.cons.length (by omega) hc
 have h38:=aFr (mf:=kB ks 0 []) (mc:=sM p.cons.length) hp hml hok 0 f hf to n hb hw
 have h53:=aSY (kB ks 0 []) (sM p.cons.length) p.main
 refine rV (s:=aWb p) (by kernel_rfl) (by kernel_rfl) (by simp [AV.keylessL,AV.keyless]) (by simp [AV.keylessL,AV.keyless]) (((aU1 p 0 h10 rfl).trans ?_).ends (aU7 p (oC p zl (kB ks 0 []) (sM p.cons.length) to f) ((iE zl 0 p.funs).map (cB to)) (kB ks 0 []) (sM p.cons.length) (eX (kB ks 0 []) p.main) p.cons (fS (ks:=[3,4]) h53 (by kernel_rfl) rfl (by kernel_rfl) (by kernel_rfl) ⟨cT _,cT _,trivial⟩ (by kernel_rfl) ⟨cT _,cT _,trivial⟩ (by kernel_rfl) (by kernel_rfl) (by kernel_rfl) (by kernel_rfl) (by kernel_rfl) (by kernel_rfl) (by kernel_rfl) (by kernel_rfl)) (aNk p.cons (by omega))))
 refine(aU2 p zl (Eq.mp (by kernel_rfl) (aAK (ks:=[]) (n2:=3) (lc:=[(0,lO p,false),(1,aU8 p,false),(2,lO p,false)]) (x:=[(0,lO p,false),(1,aU8 p,false),(2,lO p,false)])
   (args':=[PA p]) h49 (by kernel_rfl) (by kernel_rfl) (by kernel_rfl) trivial (by kernel_rfl) (by kernel_rfl) (by kernel_rfl) (by kernel_rfl) ⟨aAY _,trivial⟩ (by kernel_rfl)))).trans ?_
 have h2:=aWc (p:=p) ks zl (sM p.cons.length) hkl ks 0 (sM 0) rfl (Nat.zero_le _)
 have h1:=aU3 p zl (sM 0) (sM p.cons.length) ks (Eq.mp (by kernel_rfl) (aAK (ks:=[]) (n2:=5) (lc:=[(0,lO p,false),(1,aU8 p,false),(2,lO p,false),(3,.cells (putCells .leaf 0 [.map 4]) 1 [] false,false),(4,MB zl,true)]) (x:=[(0,lO p,false),(1,aU8 p,false),(2,lO p,false),(3,.cells (putCells .leaf 0 [.map 4]) 1 [] false,false),(4,MB zl,true)])
   (args':=[.int .i64 0,.int .i64 (p.cons.length:Int)]) h40 (by kernel_rfl) (by kernel_rfl) (by kernel_rfl) trivial (by kernel_rfl) (by kernel_rfl) (by kernel_rfl) (by kernel_rfl) ⟨cT _,cT _,trivial⟩ (by kernel_rfl))) (hK _ 4 (by kernel_rfl))
 refine(h1.trans (h2.trans (aU5 p ks ((List.length ks:Nat) :Int) zl (kB ks 0 []) (sM p.cons.length) ((List.length ks:Nat) :Int) (by simp)))).trans ?_
 exact aU6 p zl (kB ks 0 []) (sM p.cons.length) (oC p zl (kB ks 0 []) (sM p.cons.length) to f) ((iE zl 0 p.funs).map (cB to)) (fS (ks:=[6,7,3,5]) h38 (by kernel_rfl) rfl (by kernel_rfl) (by kernel_rfl) ⟨cT _,cT _,aAY _,trivial⟩ (by kernel_rfl) ⟨cT _,cT _,aAY _,trivial⟩ (by kernel_rfl) (by kernel_rfl) (by kernel_rfl) (by kernel_rfl) (by kernel_rfl) (by kernel_rfl) (by kernel_rfl) (by kernel_rfl))
end
end
end Go.Hb
namespace Go.Hb
open Go.Proofs
theorem aBM {lo n:Int}:∀ {ks:List Int} {u v:List Bool},marks lo n ks u=some v→∀k∈ks,v[k.toNat]?=some true
 | [],_,_,_,k,hk=>by cases hk
 | a::ks,u,v,h,k,hk=>by
  obtain⟨h1,h2⟩ :=eV h
  rcases List.mem_cons.1 hk with rfl|hk
  ·exact jO h2 _ (List.getElem?_set_self (List.getElem?_eq_some_iff.1 h1).1)
  ·exact aBM h2 k hk
theorem xJ {i:Nat}{lo n:Int}:∀ {t:List Int} {u v:List Bool} {l:List Int},marks lo n t u=some v→∀m:Nat,u[m]?=some true→ (aFs i t l)[m]?=l[m]?
 | [],_,_,_,_,_,_=>rfl
 | k::t,u,v,l,h,m,hm=>by
  obtain⟨h1,h2⟩ :=eV h
  have hne:k.toNat≠m:=fun e=>by rw [e,hm]at h1;cases h1
  rw [aFs,xJ h2 m (by rw [List.getElem?_set_ne hne];exact hm),List.getElem?_set_ne hne]
theorem xK {p:Prog}:∀ {t:List Node} {i:Nat} {u v:List Bool} {l:List Int},bU p i t u=some v→∀m:Nat,u[m]?=some true→ (aFt t i l)[m]?=l[m]?
 | [],_,_,_,_,_,_,_=>rfl
 | x::t,i,u,v,l,h,m,hm=>by
  obtain⟨_,w,hw,h2⟩ :=eE h
  rw [aFt,xK h2 m (jO hw m hm),xJ hw m hm]
theorem aGw {lo n:Int}:∀ {t:List Int} {i:Nat} {u v:List Bool} {l:List Int},marks lo n t u=some v→∀m:Nat,u[m]?=some true→ (aIl t i l)[m]?=l[m]?
 | [],_,_,_,_,_,_,_=>rfl
 | k::t,i,u,v,l,h,m,hm=>by
  obtain⟨h1,h2⟩ :=eV h
  have hne:k.toNat≠m:=fun e=>by rw [e,hm]at h1;cases h1
  rw [aIl,aGw h2 m (by rw [List.getElem?_set_ne hne];exact hm),List.getElem?_set_ne hne]
theorem aKP {i:Nat}{lo n:Int}:∀ {t:List Int} {u v:List Bool} {l:List Int},marks lo n t u=some v→u.length=l.length→u[i]?=some true→∀ (d:Nat) (k:Int),t[d]?=some k→ (aFs i t l)[k.toNat]?=some (l.getD i 0)
 | [],_,_,_,_,_,_,d,k,hk=>by simp at hk
 | a::t,u,v,l,h,hul,hi,d,k,hk=>by
  obtain⟨h1,h2⟩ :=eV h
  have hai:a.toNat≠i:=fun e=>by rw [e,hi]at h1;cases h1
  have hal:a.toNat<u.length:= (List.getElem?_eq_some_iff.1 h1).1
  rw [aFs]
  cases d with
  | zero=>
   simp at hk;subst hk
   rw [xJ h2 _ (by rw [List.getElem?_set_self hal]),List.getElem?_set_self (by omega)]
  | succ d=>
   have:=aKP (i:=i) (l:=l.set a.toNat (l.getD i 0)) h2 (by simpa using hul) (by rw [List.getElem?_set_ne hai];exact hi) d k (by simpa using hk)
   rw [this,List.getD_eq_getElem?_getD,List.getElem?_set_ne hai,←List.getD_eq_getElem?_getD]
theorem aKQ {p:Prog}:∀ {t:List Node} {i:Nat} {u v:List Bool} {l:List Int},bU p i t u=some v→ (∀m,m<v.length→v[m]?=some true) →u.length=l.length→i+t.length≤u.length→∀ (j:Nat) (x:Node) (d:Nat) (k:Int),t[j]?=some x→x.kids[d]?=some k →
  ∃s,(aFt t i l)[i+j]?=some s∧ (aFt t i l)[k.toNat]?=some s
 | [],_,_,_,_,_,_,_,_,j,x,d,k,hx,_=>by simp at hx
 | y ::t,i,u,v,l,h,hv,hul,hil,j,x,d,k,hx,hk=>by
  obtain⟨_,w,hw,h2⟩ :=eE h
  have hwl:=gY hw
  simp only [List.length_cons]at hil
  rw [aFt]
  cases j with
  | zero=>
   simp at hx;subst hx
   have hvl:=iL h
   have hi:u[i]?=some true:=tL h i (Nat.le_refl _) (hv i (by omega))
   have hk2:=aKP (i:=i) (l:=l) hw hul hi d k hk
   have hwk:w[k.toNat]?=some true:=aBM hw k (List.mem_of_getElem? hk)
   refine⟨l.getD i 0,?_,?_⟩
   · show(aFt t (i+1) (aFs i y.kids l))[i]?=some (l.getD i 0)
     rw [xK h2 i (jO hw i hi),xJ hw i hi,List.getD_eq_getElem?_getD,List.getElem?_eq_getElem (by omega)];rfl
   ·rw [xK h2 _ hwk,hk2]
  | succ j=>
   obtain⟨s,a1,a2⟩ :=aKQ (l:=aFs i y.kids l) h2 hv (by rw [aEy,hwl,hul]) (by omega) j x d k (by simpa using hx) hk
   exact⟨s,by rw [←a1];congr 1;omega,a2⟩
theorem aGx {lo n:Int}:∀ {t:List Int} {i:Nat} {u v:List Bool} {l:List Int},marks lo n t u=some v→u.length=l.length→∀ (d:Nat) (f:Int),t[d]?=some f→ (aIl t i l)[f.toNat]?=some ((i+d:Nat) :Int)
 | [],_,_,_,_,_,_,d,f,hf=>by simp at hf
 | a::t,i,u,v,l,h,hul,d,f,hf=>by
  obtain⟨h1,h2⟩ :=eV h
  have hal:a.toNat<u.length:= (List.getElem?_eq_some_iff.1 h1).1
  rw [aIl]
  cases d with
  | zero=>
   simp at hf;subst hf
   rw [aGw h2 _ (List.getElem?_set_self hal),List.getElem?_set_self (by omega)];rfl
  | succ d=>
   have:=aGx (i:=i+1) (l:=l.set a.toNat (i:Int)) h2 (by simpa using hul) d f (by simpa using hf)
   rw [this];congr 2;omega
structure Oprop (p:Prog) (S:List Int) :Prop where
 len:S.length=p.nodes.length
 root:∀ (d:Nat) (f:Int),p.funs[d]?=some f→S[f.toNat]?=some (d:Int)
 kid:∀ (i:Nat) (x:Node) (k:Int),p.nodes[i]?=some x→k∈x.kids→S[k.toNat]?=S[i]?
theorem jQ {p:Prog}(hf:bJ p=true) :Oprop p (fM p) :=by
 simp only [bJ,Bool.and_eq_true]at hf
 obtain⟨_,hf⟩ :=hf
 split at hf
 · rename_i u hu
   unfold allT at hf
   split at hf
   · rename_i v hv
     have hul:u.length=p.nodes.length:=by rw [gY hu];simp
     have hvl:v.length=p.nodes.length:=by rw [iL hv,hul]
     have hall:∀m,m<v.length→v[m]?=some true:=fun m hm=>by
      rw [List.getElem?_eq_getElem hm]
      have:=List.all_eq_true.1 hf _ (List.getElem_mem hm)
      simpa using this
     refine⟨aST p,fun d f hd=>?_,fun i x k hx hk=>?_⟩
     · rw [fM,xK hv _ (aBM hu f (List.mem_of_getElem? hd)),aGx hu (by simp) d f hd]
       congr 2;omega
     · obtain⟨d,hd⟩ :=List.getElem?_of_mem hk
       obtain⟨s,a1,a2⟩ :=aKQ (l:=aIl p.funs 0 (List.replicate p.nodes.length 0)) hv hall (by rw [aEz];simp [hul]) (by omega) i x d k hx hd
       rw [Nat.zero_add]at a1
       rw [fM,a1,a2]
   ·cases hf
 ·cases hf
end Go.Hb
namespace Go.Hb
open Go.Proofs
theorem qK {p:Prog}(hp:FineP p){S:List Int}(hS:Oprop p S) :∀ (f:Nat) (a:Int),0≤a→a<p.nodes.length→p.nodes.length-a.toNat≤f→∀x∈pre p f a,S[x.toNat]?=S[a.toNat]?
 |0,a,h0,h1,hf,_,_=>by omega
 | f +1,a,h0,h1,hf,x,hx=>by
  obtain⟨y,g,e,hy,hpre⟩ :=pN hp h0 h1 hf
  rw [hpre]at hx
  obtain rfl:f=g:=by omega
  rcases List.mem_cons.1 hx with rfl|hx
  ·rfl
  · rw [List.mem_flatten]at hx
    obtain⟨l,hl,hx⟩ :=hx
    rw [List.mem_map]at hl
    obtain⟨k,hk,rfl⟩ :=hl
    obtain⟨_,_,hks⟩ :=hp.node _ _ hy
    have:=hks k hk
    rw [qK hp hS f k (by omega) (by omega) (by omega) x hx,hS.kid a.toNat y k hy hk]
theorem aS0 {p:Prog}{S:List Int}(hS:Oprop p S)(hc:aOf p) :∀ (b m:Nat),m≤b→m<p.nodes.length→∃d:Nat,d<p.funs.length∧S[m]?=some (d:Int)
 | b,m,hb,hm=>by
  rcases hc m hm with⟨f,hf,e⟩ | ⟨i,x,k,hx,hk,e,hi⟩
  · obtain⟨d,hd⟩ :=List.getElem?_of_mem hf
    exact⟨d,(List.getElem?_eq_some_iff.1 hd).1,by rw [←e];exact hS.root d f hd⟩
  · rw [←e,hS.kid i x k hx hk]
    cases b with
    |zero=>omega
    |succ b=>exact aS0 hS hc b i (by omega) (by omega)
theorem mG {p:Prog}(hs:aP p=true)(hf:bJ p=true)(hn:∀ (i:Nat) (x:Node),p.nodes[i]?=some x→bH p x=true)(hm:0≤p.main∧p.main<p.funs.length) :OwnsP p (fM p) :=by
 obtain⟨hp,_,hc⟩ :=aIi hs hf
 have hS:=jQ hf
 refine⟨hS.len,fun i hi=>?_,fun i x hx h4 h0=>?_,hp.small,hp.fsmall,hm⟩
 · obtain⟨d,hd,e⟩ :=aS0 hS hc i i (Nat.le_refl _) hi
   rw [List.getD_eq_getElem?_getD,e]
   show 0≤ (d:Int) ∧ (d:Int) <p.funs.length
   omega
 · have:=hn i x hx
   simp only [bH,Bool.and_eq_true,fV,cI,h4]at this
   have h1:=this.1.1.1
   simp [inB_iff]at h1
   omega
end Go.Hb
namespace Go.Hb
open Go.Proofs
section
variable {p :Prog} {mf mf' mc:List (Int×Int)} {F C:List Int} {to:List Int}
theorem aOm (hp:FineP p) :∀ (k:Nat) (a:Int),0≤a→a<p.nodes.length→p.nodes.length-a.toNat≤k→ (∀x∈pre p k a,∀y,p.nodes[x.toNat]?=some y→bN mf mc y.op y.n=bN mf' mc y.op y.n) →wB p mf mc to k a=wB p mf' mc to k a
 |0,a,_,_,_,_=>rfl
 | k+1,a,h0,h1,hk,h=>by
  obtain⟨x,hx⟩ :∃x,p.nodes[a.toNat]?=some x:= ⟨_,List.getElem?_eq_getElem (by omega)⟩
  obtain⟨_,_,hks⟩ :=hp.node _ _ hx
  have e:pre p (k+1) a=a:: (x.kids.map (pre p k)).flatten:=by rw [pre,hx]
  rw [e]at h
  have h2:=h a (List.mem_cons_self ..) x hx
  rw [wB,wB,hx]
  simp only [cU,h2]
  congr 2
  refine List.map_congr_left (fun c hc=>?_)
  have:=hks c hc
  exact aOm hp k c (by omega) (by omega) (by omega) (fun z hz=>h z (List.mem_cons_of_mem _ (List.mem_flatten.2 ⟨_,List.mem_map.2 ⟨c,hc,rfl⟩,hz⟩)))
theorem aCr (hp:FineP p)(hm:MOk p mf mc F C)(fs:List Int)(hfs:∀k∈fs,k∈p.funs)(frm:Nat){f:Nat}(hf:p.nodes.length≤f)
  (hd: ((fs.map (pre p f)).flatten).Nodup) (hlen:frm+ ((fs.map (pre p f)).flatten).length≤1000000) (hin:∀x∈ (fs.map (pre p f)).flatten,0≤x∧x<p.nodes.length) :
  ∃n,wAs (wA p f) fs (List.replicate p.nodes.length (0:Int),(frm:Int)) =some (cZ (List.replicate p.nodes.length 0) frm (fs.map (pre p f)).flatten,n) ∧tZ (kZ p F C f) frm fs=some (fs.map (cB (cZ (List.replicate p.nodes.length 0) frm (fs.map (pre p f)).flatten)),(fs.map (wB p mf mc (cZ (List.replicate p.nodes.length 0) frm (fs.map (pre p f)).flatten) f)).flatten) ∧ ((fs.map (wB p mf mc (cZ (List.replicate p.nodes.length 0) frm (fs.map (pre p f)).flatten) f)).flatten).length= ((fs.map (pre p f)).flatten).length:=by
 have hA:wAs (wA p f) fs (List.replicate p.nodes.length (0:Int),(frm:Int)) =some (cZ (List.replicate p.nodes.length 0) frm (fs.map (pre p f)).flatten,(frm:Int) + (((fs.map (pre p f)).flatten).length:Int)) :=by
  exact aIg (q:=pre p f) fs _ _ (fun k hk l n h1 h2=>by
   have:=hp.funs k (hfs k hk)
   exact aSP hp f k (by omega) (by omega) (by omega) l n h1 h2) (by omega) (by omega)
 have ht:=oU (fs.map (pre p f)).flatten (List.replicate p.nodes.length 0) frm hd (fun x hx=>by rw [List.length_replicate];exact hin x hx)
 refine⟨_,hA,?_,?_⟩
 · exact aEu (to:=cZ (List.replicate p.nodes.length 0) frm (fs.map (pre p f)).flatten) (h:=wB p mf mc (cZ (List.replicate p.nodes.length 0) frm (fs.map (pre p f)).flatten) f) (q:=pre p f) fs frm (fun k hk len h1 h2=>by
    have:=hp.funs k (hfs k hk)
    exact aGr hp hm f k len (by omega) (by omega) (by omega) h1 h2) (fun k hk=>by
    have:=hp.funs k (hfs k hk)
    obtain⟨y,g,_,_,h3⟩ :=pN hp (f:=f) (a:=k) (by omega) (by omega) (by omega)
    exact⟨aIh _ _ _ f k,by rw [h3];rfl⟩) (by omega) (fun i b h=>by rw [ht i b h];simp)
 · rw [List.length_flatten,List.map_map]
   have:List.map (List.length ∘ wB p mf mc (cZ (List.replicate p.nodes.length 0) frm (fs.map (pre p f)).flatten) f) fs=List.map (List.length ∘ pre p f) fs:=List.map_congr_left (fun k _=>aIh _ _ _ f k)
   rw [this,←List.map_map,←List.length_flatten]
end
end Go.Hb
namespace Go.Hb
open Go.Proofs
def rowOf (mn:List (Int×List Int))(f:Int) :List Int:= (bF f mn).getD []
inductive Rea (mn:List (Int×List Int)) :Int→Int→Prop
 |refl (f:Int) :Rea mn f f
 |step {f g x:Int}:g∈rowOf mn f→Rea mn g x→Rea mn f x
abbrev inM (m:List (Int×Bool))(x:Int) :Prop:= (bF x m).isSome=true
theorem xM (m:List (Int×Bool))(f x:Int) :inM (cM f true m) x↔x=f∨inM m x:=by
 unfold inM
 rw [jM]
 split
 ·rename_i e;simp [e]
 ·rename_i e;simp [e]
structure Step (mn:List (Int×List Int)) (m m':List (Int×Bool)) :Prop where
 more:∀x,inM m x→inM m' x
 full:∀x,inM m' x→inM m x∨∀g∈rowOf mn x,inM m' g
theorem Step.refl (mn:List (Int×List Int))(m:List (Int×Bool)) :Step mn m m:= ⟨fun _ h=>h,fun _ h=>.inl h⟩
theorem Step.trans {mn:List (Int×List Int)}{a b c:List (Int×Bool)}(h:Step mn a b)(g:Step mn b c) :Step mn a c:=
 ⟨fun x hx=>g.more x (h.more x hx),fun x hx=>by
  rcases g.full x hx with q|q
  · rcases h.full x q with r|r
    ·exact .inl r
    ·exact .inr fun y hy=>g.more y (r y hy)
  ·exact .inr q⟩
theorem aEE {mn:List (Int×List Int)}{G:Int→List (Int×Bool) →Option (List (Int×Bool))}(hG:∀k m m',G k m=some m'→Step mn m m'∧inM m' k) :∀ (t:List Int) (m m':List (Int×Bool)),qH G t m=some m'→Step mn m m'∧∀k∈t,inM m' k
 | [],m,m',e=>by cases e;exact⟨Step.refl mn m,fun k hk=>by cases hk⟩
 | k ::t,m,m',e=>by
  simp only [qH]at e
  split at e
  · rename_i m1 h1
    obtain⟨a1,a2⟩ :=hG k m m1 h1
    obtain⟨b1,b2⟩ :=aEE hG t m1 m' e
    refine⟨a1.trans b1,fun x hx=>?_⟩
    rcases List.mem_cons.1 hx with rfl|hx
    ·exact b1.more _ a2
    ·exact b2 x hx
  ·cases e
theorem wI (mn:List (Int×List Int)) :∀ (k:Nat) (f:Int) (m m':List (Int×Bool)),hQ mn k f m=some m'→Step mn m m'∧inM m' f
 |0,_,_,_,e=>by cases e
 | k + 1,f,m,m',e=>by
  simp only [hQ]at e
  split at e
  · rename_i v hv
    cases e
    exact⟨Step.refl mn m,by unfold inM;rw [hv];rfl⟩
  · obtain⟨a,b⟩ :=aEE (wI mn k) _ _ _ e
    have hf:inM m' f:=a.more f ((xM m f f).2 (.inl rfl))
    refine⟨⟨fun x hx=>a.more x ((xM m f x).2 (.inr hx)),fun x hx=>?_⟩,hf⟩
    rcases a.full x hx with q|q
    · rcases(xM m f x).1 q with rfl|q
      ·exact .inr b
      ·exact .inl q
    ·exact .inr q
theorem aCs (mn:List (Int×List Int)) :∀ (k:Nat) (f:Int) (m m':List (Int×Bool)),hQ mn k f m=some m'→∀x,inM m' x→inM m x∨Rea mn f x
 |0,_,_,_,e=>by cases e
 | k + 1, f,m,m',e=>by
  simp only [hQ]at e
  split at e
  ·cases e;exact fun x hx=>.inl hx
  · intro x hx
    have fold:∀ (t:List Int) (a b:List (Int×Bool)),qH (hQ mn k) t a=some b→ (∀g∈t,g∈rowOf mn f) →inM b x→inM a x∨Rea mn f x:=by
     intro t
     induction t with
     |nil=>intro a b e _ hb;cases e;exact .inl hb
     | cons g t ih=>
      intro a b e hg hb
      simp only [qH]at e
      split at e
      · rename_i m1 h1
        rcases ih m1 b e (fun y hy=>hg y (List.mem_cons_of_mem _ hy)) hb with q|q
        · rcases aCs mn k g a m1 h1 x q with r|r
          ·exact .inl r
          ·exact .inr (.step (hg g (List.mem_cons_self ..)) r)
        ·exact .inr q
      ·cases e
    rcases fold _ _ _ e (fun g hg=>hg) hx with q|q
    · rcases(xM m f x).1 q with rfl|q
      ·exact .inr (.refl _)
      ·exact .inl q
    ·exact .inr q
theorem tO {mn:List (Int×List Int)}{k:Nat}{f:Int}{m:List (Int×Bool)}(h:hQ mn k f [] =some m)(x:Int) :inM m x↔Rea mn f x:=by
 obtain⟨a,b⟩ :=wI mn k f [] m h
 constructor
 · intro hx
   rcases aCs mn k f [] m h x hx with q|q
   ·cases q
   ·exact q
 · intro hx
   have go:∀ {y x:Int},Rea mn y x→inM m y→inM m x:=fun {y x} r=>by
    induction r with
    |refl=>exact fun h=>h
    | @step y g x hg _ ih=>
     intro hy
     rcases a.full y hy with q|q
     ·cases q
     ·exact ih (q g hg)
   exact go hx b
def wJ (m:List (Int×Bool)) :Nat→Nat
 |0=>0
 |n+1=>wJ m n+ (if(bF (n:Int) m).isSome=true then 0 else 1)
theorem aEF {a b:List (Int×Bool)}(h:∀x,inM a x→inM b x) :∀n,wJ b n≤wJ a n
 |0=>Nat.le_refl _
 | n+1=>by
  have:=aEF h n
  have h1:=h (n:Int)
  unfold inM at h1
  simp only [wJ]
  by_cases q: (bF (n:Int) a).isSome=true
  ·rw [if_pos q,if_pos (h1 q)];omega
  ·rw [if_neg q];split<;>omega
theorem aKR {m:List (Int×Bool)}{f:Int}(h0:0≤f)(hf:¬inM m f) :∀n:Nat,f<n→wJ (cM f true m) n<wJ m n
 |0,h=>by omega
 | n +1,h=>by
  simp only [wJ]
  have e1:=xM m f (n:Int)
  unfold inM at e1
  by_cases q:f=n
  · have h1: (bF (n:Int) (cM f true m)).isSome=true:=e1.2 (.inl q.symm)
    have h2:¬ (bF (n:Int) m).isSome=true:=by rw [←q];exact hf
    rw [if_pos h1,if_neg h2]
    have:=aEF (a:=m) (b:=cM f true m) (fun x hx=> (xM m f x).2 (.inr hx)) n
    omega
  · have:=aKR h0 hf n (by omega)
    by_cases r: (bF (n:Int) m).isSome=true
    ·rw [if_pos r,if_pos (e1.2 (.inr r))];omega
    ·rw [if_neg r];split<;>omega
theorem aCt {mn:List (Int×List Int)}{n:Nat}(hr:∀f,∀g∈rowOf mn f,0≤g∧g<n) :∀ (k:Nat) (f:Int) (m:List (Int×Bool)),0≤f→f<n→wJ m n<k→∃m',hQ mn k f m=some m'
 |0,_,_,_,_,h=>by omega
 | k + 1,f,m,h0,h1,h=>by
  simp only [hQ]
  split
  ·exact⟨_,rfl⟩
  · rename_i hv
    have hf:¬inM m f:=by unfold inM;rw [hv];simp
    have hlt:=aKR h0 hf n h1
    have fold:∀ (t:List Int) (a:List (Int×Bool)),wJ a n<k→ (∀g∈t,0≤g∧g<n) →∃b,qH (hQ mn k) t a=some b:=by
     intro t
     induction t with
     |nil=>exact fun a _ _=> ⟨a,rfl⟩
     | cons g t ih=>
      intro a ha hg
      obtain⟨g0,g1⟩ :=hg g (List.mem_cons_self ..)
      obtain⟨m1,e1⟩ :=aCt hr k g a g0 g1 ha
      have:=aEF (wI mn k g a m1 e1).1.more n
      obtain⟨b,e2⟩ :=ih m1 (by omega) (fun y hy=>hg y (List.mem_cons_of_mem _ hy))
      exact⟨b,by rw [qH,e1];exact e2⟩
    exact fold _ _ (by omega) (hr f)
theorem aGy (m:List (Int×Bool)) :∀n,wJ m n≤n
 |0=>Nat.le_refl _
 | n+1=>by
  have:=aGy m n
  simp only [wJ]
  split<;>omega
end Go.Hb
namespace Go.Hb
open Go.Proofs
abbrev inK (l:List Bool)(x:Nat) :Prop:=l.getD x false=true
theorem aOn (l:List Bool)(y x:Nat) :inK (l.set y true) x→inK l x∨x=y:=fun h=>by
 unfold inK at h ⊢
 rw [List.getD_eq_getElem?_getD,List.getElem?_set]at h
 split at h
 ·rename_i e;exact .inr e.symm
 ·rw [←List.getD_eq_getElem?_getD]at h;exact .inl h
theorem aKS (l:List Bool)(y x:Nat)(h:inK l x) :inK (l.set y true) x:=by
 unfold inK at h ⊢
 rw [List.getD_eq_getElem?_getD,List.getElem?_set]
 rw [List.getD_eq_getElem?_getD]at h
 split
 · rename_i e
   subst e
   have:y<l.length:=by
    rcases Nat.lt_or_ge y l.length with q|q
    ·exact q
    ·rw [List.getElem?_eq_none q]at h;cases h
   rw [if_pos this];rfl
 ·exact h
theorem aOo (l:List Bool)(y:Nat)(h:y<l.length) :inK (l.set y true) y:=by
 unfold inK
 rw [List.getD_eq_getElem?_getD,List.getElem?_set,if_pos rfl,if_pos h];rfl
abbrev aXX (own:List Int)(l:List Bool)(i:Nat)(x:Node) :Prop:=x.op=4∧x.n<0∧l.getD (own.getD i 0).toNat false=true
theorem tP (own:List Int) :∀ (t:List Node) (i:Nat) (l:List Bool) (x:Nat),inK l x→inK (mF own t i l) x
 | [],_,_,_,h=>h
 | y::t,i,l,x,h=>by
  rw [mF]
  apply tP own t (i+1)
  split
  ·exact aKS _ _ _ h
  ·exact h
theorem aCu (own:List Int)(R:Nat→Prop) :∀ (t:List Node) (i:Nat) (l:List Bool),(∀ (j:Nat) (x:Node),t[j]?=some x→x.op=4→x.n<0→R (own.getD (i+j) 0).toNat→R (-1-x.n).toNat) → (∀x,inK l x→R x) →∀x,inK (mF own t i l) x→R x
 | [],_,_,_,hl,x,h=>hl x h
 | y :: t,i,l,hR,hl,x,h=>by
  rw [mF]at h
  refine aCu own R t (i+1) _ (fun j z hz=>?_) (fun z hz=>?_) x h
  · have:=hR (j+1) z (by simpa using hz)
    rw [show i+1+j=i+ (j+1)by omega];exact this
  · split at hz
    · rename_i hh
      rcases aOn _ _ _ hz with q|q
      ·exact hl z q
      · rw [q]
        exact hR 0 y rfl hh.1 hh.2.1 (hl _ hh.2.2)
    ·exact hl z hz
theorem aEG (own:List Int) :∀ (t:List Node) (i:Nat) (l:List Bool),(∀x,inK (mF own t i l) x→inK l x) → (∀ (j:Nat) (x:Node),t[j]?=some x→x.op=4→x.n<0→ (-1-x.n).toNat<l.length) →
  ∀ (j:Nat) (x:Node),t[j]?=some x→aXX own l (i+j) x→inK l (-1-x.n).toNat
 | [],_,_,_,_,j,x,h,_=>by simp at h
 | y::t,i,l,hc,hn,0,x,h,hh=>by
  simp only [List.getElem?_cons_zero,Option.some.injEq]at h
  subst h
  apply hc
  rw [Nat.add_zero]at hh
  rw [mF,if_pos hh]
  exact tP own t (i+1) _ _ (aOo _ _ (hn 0 y rfl hh.1 hh.2.1))
 | y ::t,i,l,hc,hn,j+1,x,h,hh=>by
  simp only [List.getElem?_cons_succ]at h
  rw [mF]at hc
  have same:∀z,inK (if y.op=4∧y.n<0∧l.getD (own.getD i 0).toNat false=true then l.set (-1-y.n).toNat true else l) z→inK l z:=fun z hz=>hc z (tP own t (i+1) _ z hz)
  have more:∀z,inK l z→inK (if y.op=4∧y.n<0∧l.getD (own.getD i 0).toNat false=true then l.set (-1-y.n).toNat true else l) z:=fun z hz=>by
   split
   ·exact aKS _ _ _ hz
   ·exact hz
  apply same
  refine aEG own t (i+1) _ (fun z hz=>more z (hc z hz)) (fun j z hz q1 q2=>?_) j x h ⟨hh.1,hh.2.1,?_⟩
  · have:=hn (j+1) z (by simpa using hz) q1 q2
    split
    ·rw [List.length_set];exact this
    ·exact this
  · rw [show i+1+j=i+ (j+1)by omega]
    exact more _ hh.2.2
theorem aBN :∀ (l:List Bool) (y:Nat),l.count true≤ (l.set y true).count true
 | [],_=>by simp
 |b::l,0=>by cases b<;>simp
 | b::l,y+1=>by
  have:=aBN l y
  simp only [List.set_cons_succ,List.count_cons];omega
theorem aEH :∀ (l:List Bool) (y:Nat),(l.set y true).count true=l.count true→l.set y true=l
 | [],_,_=>by simp
 |b::l,0,h=>by cases b<;>simp_all
 | b::l,y+1,h=>by
  simp only [List.set_cons_succ,List.count_cons]at h ⊢
  rw [aEH l y (by omega)]
theorem wK (own:List Int) :∀ (t:List Node) (i:Nat) (l:List Bool),l.count true≤ (mF own t i l).count true
 | [],_,_=>Nat.le_refl _
 | y::t,i,l=>by
  rw [mF]
  refine Nat.le_trans ?_ (wK own t (i+1) _)
  split
  ·exact aBN _ _
  ·exact Nat.le_refl _
theorem zT (own:List Int) :∀ (t:List Node) (i:Nat) (l:List Bool),(mF own t i l).count true=l.count true→mF own t i l=l
 | [],_,_,_=>rfl
 | y ::t,i,l,h=>by
  rw [mF]at h ⊢
  have h1:=wK own t (i+1) (if y.op=4∧y.n<0∧l.getD (own.getD i 0).toNat false=true then l.set (-1-y.n).toNat true else l)
  split at h
  · rename_i hh
    rw [if_pos hh]at h1 ⊢
    have h2:=aBN l (-1-y.n).toNat
    have h3: (l.set (-1-y.n).toNat true).count true=l.count true:=by omega
    rw [zT own t (i+1) _ (by omega),aEH l _ h3]
  · rename_i hh
    rw [if_neg hh]
    exact zT own t (i+1) l h
theorem aGz (p:Prog)(own:List Int) :∀ (k:Nat) (l:List Bool),l.length<k+l.count true→mF own p.nodes 0 (rW p own k l) =rW p own k l
 | 0,l,h=>by
  have:=List.count_le_length (a:=true) (l:=l)
  omega
 | k +1,l,h=>by
  rw [rW]
  have h1:=wK own p.nodes 0 l
  by_cases e: (mF own p.nodes 0 l).count true=l.count true
  · have e2:=zT own p.nodes 0 l e
    rw [e2]
    have:∀k,rW p own k l=l:=fun k=>by
     induction k with
     |zero=>rfl
     |succ k ih=>rw [rW,e2];exact ih
    rw [this k,e2]
  ·exact aGz p own k _ (by rw [aBJ];omega)
theorem aEI (p:Prog)(own:List Int) :∀ (k:Nat) (l:List Bool) (x:Nat),inK l x→inK (rW p own k l) x
 |0,_,_,h=>h
 |k+1,l,x,h=>by rw [rW];exact aEI p own k _ x (tP own _ _ _ x h)
theorem aCv (p:Prog)(own:List Int)(R:Nat→Prop)(hR:∀ (j:Nat) (x:Node),p.nodes[j]?=some x→x.op=4→x.n<0→R (own.getD j 0).toNat→R (-1-x.n).toNat) :∀ (k:Nat) (l:List Bool),(∀x,inK l x→R x) →∀x,inK (rW p own k l) x→R x
 |0,_,hl,x,h=>hl x h
 | k+1,l,hl,x,h=>by
  rw [rW]at h
  exact aCv p own R hR k _ (fun z hz=>aCu own R p.nodes 0 l (fun j y hy=>by rw [Nat.zero_add];exact hR j y hy) hl z hz) x h
end Go.Hb
namespace Go.Hb
open Go.Proofs
inductive ReaN (p:Prog) (own:List Int) :Nat→Prop
 |main:ReaN p own p.main.toNat
 |step {j:Nat} {x:Node}:p.nodes[j]?=some x→x.op=4→x.n<0→ReaN p own (own.getD j 0).toNat→ReaN p own (-1-x.n).toNat
theorem lB {p:Prog}(ho:OwnsP p (fM p))(x:Nat) :inK (bT p) x↔ReaN p (fM p) x:=by
 obtain⟨m0,m1⟩ :=ho.main
 have hmain:p.main.toNat< (List.replicate p.funs.length false).length:=by rw [List.length_replicate];omega
 constructor
 · intro h
   refine aCv p (fM p) (ReaN p (fM p)) (fun j y hy q1 q2 q3=>.step hy q1 q2 q3) p.funs.length _ (fun z hz=>?_) x h
   rcases aOn _ _ _ hz with q|q
   · unfold inK at q
     rw [List.getD_eq_getElem?_getD,List.getElem?_replicate]at q
     split at q<;>cases q
   ·rw [q];exact .main
 · intro h
   have hfix:mF (fM p) p.nodes 0 (bT p) =bT p:=by
    refine aGz p (fM p) p.funs.length _ ?_
    have:0< ((List.replicate p.funs.length false).set p.main.toNat true).count true:=by
     rw [List.count_pos_iff]
     exact List.mem_of_getElem? (i:=p.main.toNat) (by rw [List.getElem?_set,if_pos rfl,if_pos hmain])
    rw [List.length_set,List.length_replicate]
    omega
   induction h with
   |main=>exact aEI p (fM p) _ _ _ (aOo _ _ hmain)
   | @step j y hy q1 q2 _ ih=>
    refine aEG (fM p) p.nodes 0 (bT p) (fun z hz=>by rw [hfix]at hz;exact hz) (fun j z hz w1 w2=>?_) j y hy ⟨q1,q2,by rw [Nat.zero_add];exact ih⟩
    have:=ho.name j z hz w1 w2
    rw [pP]
    omega
end Go.Hb
namespace Go.Hb
open Go.Proofs
def aKT (p:Prog)(i:Int) :List Int:=match p.nodes[i.toNat]? with
 |some x=>oI x
 |none=>[]
theorem aKU {α β:Type}(f:α→List Int)(g:Int→List β) :∀l:List α,((((l.map f).flatten).map g).flatten) = ((l.map fun a=> ((f a).map g).flatten).flatten)
 | [] =>rfl
 |a::l=>by simp only [List.map_cons,List.flatten_cons,List.map_append,List.flatten_append,aKU f g l]
theorem aC1 (p:Prog) :∀ (f:Nat) (a:Int),kC p f a= ((pre p f a).map (aKT p)).flatten
 |0,_=>rfl
 | f+1,a=>by
  rw [kC,pre]
  cases hx:p.nodes[a.toNat]? with
  |none=>rfl
  | some x=>
   simp only [List.map_cons,List.flatten_cons]
   rw [aKU]
   have:aKT p a=oI x:=by unfold aKT;rw [hx]
   rw [this]
   congr 3
   funext k
   exact aC1 p f k
theorem aS1 (p:Prog)(i:Int) : (aKT p i).length≤1:=by
 unfold aKT oI
 split
 ·split<;>simp
 ·simp
theorem aKV {α β:Type}(g:α→List β)(hg:∀a,(g a).length≤1) :∀l:List α,((l.map g).flatten).length≤l.length
 | [] =>Nat.le_refl _
 | a::l=>by
  have:=hg a
  have:=aKV g hg l
  simp only [List.map_cons,List.flatten_cons,List.length_append,List.length_cons]
  omega
theorem aOp (p:Prog)(f:Nat)(a:Int) : (kC p f a).length≤ (pre p f a).length:=by rw [aC1];exact aKV _ (aS1 p) _
theorem aKW {p:Prog}{f:Nat}(j:Int) :∀ (t:List Int) (i:Nat) (mn:List (Int×List Int)),rowOf (uA p f i t mn) j=if h: (i:Int) ≤j∧j< ((i+t.length:Nat) :Int) ∧kC p f (t.getD (j-i).toNat 0) ≠ []then kC p f (t.getD (j-i).toNat 0)else rowOf mn j
 | [],i,mn=>by rw [uA,dif_neg];simp;omega
 | k :: t,i,mn=>by
  rw [uA,aKW j t (i+1)]
  by_cases h: ((i+1:Nat) :Int) ≤j
  · have e: (j- (i:Int)).toNat= (j- ((i+1:Nat) :Int)).toNat+1:=by omega
    have e2: (k::t).getD (j- (i:Int)).toNat 0=t.getD (j- ((i+1:Nat) :Int)).toNat 0:=by rw [e,List.getD_cons_succ]
    have e3:rowOf (if kC p f k= []then mn else cM (i:Int) (kC p f k) mn) j=rowOf mn j:=by
     split
     ·rfl
     ·unfold rowOf;rw [jM,if_neg (by omega)]
    rw [e2,e3]
    by_cases c:j< ((i+1+t.length:Nat) :Int) ∧kC p f (t.getD (j- ((i+1:Nat) :Int)).toNat 0) ≠ []
    ·rw [dif_pos ⟨h,c⟩,dif_pos ⟨by omega,by have:=c.1;simp only [List.length_cons];omega,c.2⟩]
    ·rw [dif_neg (fun q=>c q.2),dif_neg (fun q=>c ⟨by have:=q.2.1;simp only [List.length_cons]at this;omega,q.2.2⟩)]
  · rw [dif_neg (fun q=>h q.1)]
    by_cases c:j= (i:Int)
    · subst c
      have e2: (k::t).getD ((i:Int) - (i:Int)).toNat 0=k:=by simp
      rw [e2]
      by_cases hn:kC p f k= []
      ·rw [if_pos hn,dif_neg (fun q=>q.2.2 hn)]
      · rw [if_neg hn,dif_pos ⟨Int.le_refl _,by simp only [List.length_cons];omega,hn⟩]
        unfold rowOf;rw [jM,if_pos rfl];rfl
    · rw [dif_neg (fun q=>by have:=q.1;omega)]
      split
      ·rfl
      ·unfold rowOf;rw [jM,if_neg c]
theorem row_mem {p:Prog}{f:Nat}{j g:Int}:g∈rowOf (uA p f 0 p.funs []) j↔∃r:Int,0≤j∧p.funs[j.toNat]?=some r∧g∈kC p f r:=by
 rw [aKW]
 constructor
 · intro h
   split at h
   · rename_i c
     obtain⟨c1,c2,c3⟩ :=c
     have hj:j.toNat<p.funs.length:=by omega
     refine⟨p.funs[j.toNat],by omega,List.getElem?_eq_getElem hj,?_⟩
     simpa [List.getD_eq_getElem?_getD,List.getElem?_eq_getElem hj]using h
   ·simp [rowOf,bF]at h
 · rintro⟨r,h0,h1,h2⟩
   have e:p.funs.getD (j- ((0:Nat) :Int)).toNat 0=r:=by
    have: (j- ((0:Nat) :Int)).toNat=j.toNat:=by omega
    rw [this,List.getD_eq_getElem?_getD,h1];rfl
   have hlt:= (List.getElem?_eq_some_iff.1 h1).1
   rw [e,dif_pos ⟨by omega,by omega,fun hn=>by rw [hn]at h2;cases h2⟩]
   exact h2
theorem nmsOf_mem {x:Node}{g:Int}:g∈oI x↔x.op=4∧x.n<0∧g= -1-x.n:=by
 unfold oI
 split
 ·rename_i h;simp [h.1,h.2]
 · rename_i h
   constructor
   ·intro hh;cases hh
   ·rintro⟨a,b,_⟩;exact absurd ⟨a,b⟩ h
theorem aIp {p:Prog}(hp:FineP p)(hS:Oprop p (fM p))(hall:∀m:Nat,m<p.nodes.length→ (m:Int) ∈ ((p.funs.map (pre p p.nodes.length)).flatten))(hin:∀x∈ (p.funs.map (pre p p.nodes.length)).flatten,0≤x∧x<p.nodes.length){j g:Int} :
  g∈rowOf (uA p p.nodes.length 0 p.funs []) j↔∃ (i:Nat) (x:Node),p.nodes[i]?=some x∧x.op=4∧x.n<0∧g= -1-x.n∧ (fM p)[i]?=some j:=by
 rw [row_mem]
 constructor
 · rintro⟨r,h0,h1,h2⟩
   have hr:=List.mem_of_getElem? h1
   obtain⟨r0,r1⟩ :=hp.funs r hr
   rw [aC1]at h2
   obtain⟨l,hl,hg⟩ :=List.mem_flatten.1 h2
   obtain⟨y,hy,rfl⟩ :=List.mem_map.1 hl
   have hown:=qK hp hS p.nodes.length r r0 r1 (by omega) y hy
   unfold aKT at hg
   split at hg
   · rename_i x hx
     obtain⟨a,b,c⟩ :=nmsOf_mem.1 hg
     refine⟨y.toNat,x,hx,a,b,c,?_⟩
     rw [hown,hS.root _ _ h1]
     congr 1;omega
   ·cases hg
 · rintro⟨i,x,hx,h4,h5,rfl,ho⟩
   have hi:= (List.getElem?_eq_some_iff.1 hx).1
   obtain⟨l,hl,hm⟩ :=List.mem_flatten.1 (hall i hi)
   obtain⟨r,hr,rfl⟩ :=List.mem_map.1 hl
   obtain⟨r0,r1⟩ :=hp.funs r hr
   obtain⟨d,hd⟩ :=List.getElem?_of_mem hr
   have hown:=qK hp hS p.nodes.length r r0 r1 (by omega) _ hm
   rw [show((i:Nat) :Int).toNat=i from rfl,ho,hS.root _ _ hd]at hown
   cases hown
   refine⟨r,by omega,hd,?_⟩
   rw [aC1]
   refine List.mem_flatten.2 ⟨aKT p i,List.mem_map.2 ⟨_,hm,rfl⟩,?_⟩
   unfold aKT
   rw [show((i:Nat) :Int).toNat=i from rfl,hx]
   exact nmsOf_mem.2 ⟨h4,h5,rfl⟩
theorem Rea.snoc {mn:List (Int×List Int)}{f g x:Int}(h:Rea mn f g)(hx:x∈rowOf mn g) :Rea mn f x:=by
 induction h with
 |refl f=>exact .step hx (.refl _)
 |step h1 _ ih=>exact .step h1 (ih hx)
theorem aS2 {p:Prog}(hp:FineP p)(hS:Oprop p (fM p))(ho:OwnsP p (fM p))(hall:∀m:Nat,m<p.nodes.length→ (m:Int) ∈ ((p.funs.map (pre p p.nodes.length)).flatten))(hin:∀x∈ (p.funs.map (pre p p.nodes.length)).flatten,0≤x∧x<p.nodes.length)(x:Int) :
  Rea (uA p p.nodes.length 0 p.funs []) p.main x↔0≤x∧ReaN p (fM p) x.toNat:=by
 have row:=fun(j g:Int) =>aIp hp hS hall hin (j:=j) (g:=g)
 constructor
 · intro h
   have:∀f x,Rea (uA p p.nodes.length 0 p.funs []) f x→0≤f→ReaN p (fM p) f.toNat→0≤x∧ReaN p (fM p) x.toNat:=by
    intro f x h
    induction h with
    |refl f=>exact fun a b=> ⟨a,b⟩
    | step h1 _ ih=>
     intro h0 hr
     obtain⟨i,y,hy,h4,h5,rfl,ho⟩ := (row _ _).1 h1
     refine ih (by omega) (.step hy h4 h5 ?_)
     rw [List.getD_eq_getElem?_getD,ho]
     exact hr
   exact this _ _ h ho.main.1 .main
 · rintro⟨h0,hr⟩
   have:∀m,ReaN p (fM p) m→Rea (uA p p.nodes.length 0 p.funs []) p.main (m:Int) :=by
    intro m hm
    induction hm with
    |main=>rw [show((p.main.toNat:Nat) :Int) =p.main by have:=ho.main.1;omega];exact .refl _
    | @step j y hy h4 h5 _ ih=>
     have hj:= (List.getElem?_eq_some_iff.1 hy).1
     obtain⟨o1,o2⟩ :=ho.own j hj
     refine ih.snoc ?_
     refine(row _ _).2 ⟨j,y,hy,h4,h5,by omega,?_⟩
     rw [show(((((fM p).getD j 0)).toNat:Nat) :Int) = (fM p).getD j 0 by omega,List.getD_eq_getElem?_getD,List.getElem?_eq_getElem (by rw [hS.len];exact hj)]
     rfl
   have:=this _ hr
   rwa [show((x.toNat:Nat) :Int) =x by omega]at this
end Go.Hb
namespace Go.Proofs
open Go.Shelf
def Tryz.keysA_ren :Go.Shelf.Ren:= ⟨fun|7=>71|10=>131|n=>n,fun|23=>123|26=>3|3=>4|28=>131|0=>0|27=>130|33=>135|4=>4|n=>n,fun|n=>n⟩
theorem Tryz.keysA :Go.Proofs.SlLaysZI.n7 Tryz.prog Tryz.keysA_ren:={
 mixed:=by kernel_rfl
 f7:= ⟨Tryz.f71.name,by decide,Tryz.func71.trans (congrArg some (by kernel_rfl))⟩
 f10:= ⟨Tryz.f131.name,by decide,Tryz.func131.trans (congrArg some (by kernel_rfl))⟩
 t0:=Tryz.underlying0
 a0:=Tryz.isAgg0
 z0:=Tryz.sizeOf0
 v0:=Tryz.zeroValue0
 t4:=Tryz.underlying4
 a4:=Tryz.isAgg4
 z4:=Tryz.sizeOf4
 v4:=Tryz.zeroValue4
 t23:=Tryz.underlying123
 a23:=Tryz.isAgg123
 z23:=Tryz.sizeOf123
 v23:=Tryz.zeroValue123
 t26:=Tryz.underlying3
 a26:=Tryz.isAgg3
 z26:=Tryz.sizeOf3
 v26:=Tryz.zeroValue3
 t27:=Tryz.underlying130
 a27:=Tryz.isAgg130
 z27:=Tryz.sizeOf130
 v27:=Tryz.zeroValue130
 t28:=Tryz.underlying131
 a28:=Tryz.isAgg131
 z28:=Tryz.sizeOf131
 v28:=Tryz.zeroValue131
 t33:=Tryz.underlying135
 a33:=Tryz.isAgg135
 z33:=Tryz.sizeOf135
 v33:=Tryz.zeroValue135}
def Tryz.sortedA_ren :Go.Shelf.Ren:= ⟨fun|6=>70|8=>129|9=>130|11=>190|13=>192|12=>191|23=>245|24=>246|14=>236|15=>237|16=>238|17=>239|18=>240|19=>241|20=>242|21=>243|22=>244|25=>273|26=>274|27=>275|28=>276|29=>277|30=>278|31=>286|n=>n,fun|26=>3|28=>131|24=>29|0=>0|3=>3|37=>245|48=>296|50=>298|4=>4|40=>289|39=>288|45=>184|5=>5|9=>9|51=>323|55=>327|57=>333|58=>334|33=>135|n=>n,fun|n=>n⟩
theorem Tryz.sortedA :Go.Proofs.SlLaysZI.n6 Tryz.prog Tryz.sortedA_ren:={
 mixed:=by kernel_rfl
 f6:= ⟨Tryz.f70.name,by decide,Tryz.func70.trans (congrArg some (by kernel_rfl))⟩
 f8:= ⟨Tryz.f129.name,by decide,Tryz.func129.trans (congrArg some (by kernel_rfl))⟩
 f11:= ⟨Tryz.f190.name,by decide,Tryz.func190.trans (congrArg some (by kernel_rfl))⟩
 t0:=Tryz.underlying0
 a0:=Tryz.isAgg0
 z0:=Tryz.sizeOf0
 v0:=Tryz.zeroValue0
 t24:=Tryz.underlying29
 a24:=Tryz.isAgg29
 z24:=Tryz.sizeOf29
 v24:=Tryz.zeroValue29
 t26:=Tryz.underlying3
 a26:=Tryz.isAgg3
 z26:=Tryz.sizeOf3
 v26:=Tryz.zeroValue3
 t28:=Tryz.underlying131
 a28:=Tryz.isAgg131
 z28:=Tryz.sizeOf131
 v28:=Tryz.zeroValue131
 i26:=by kernel_rfl}
def Tryz.sortA_ren :Go.Shelf.Ren:= ⟨fun|5=>130|8=>192|7=>191|19=>245|20=>246|10=>236|11=>237|12=>238|13=>239|14=>240|15=>241|16=>242|17=>243|18=>244|30=>273|31=>274|32=>275|33=>276|34=>277|35=>278|40=>286|n=>n,fun|23=>29|25=>3|3=>3|32=>245|22=>29|0=>0|44=>296|46=>298|4=>4|36=>289|35=>288|41=>184|5=>5|9=>9|53=>323|57=>327|63=>333|64=>334|n=>n,fun|n=>n⟩
theorem Tryz.sortA :Go.Proofs.SlLaysM.n5 Tryz.prog Tryz.sortA_ren:={
 mixed:=by kernel_rfl
 f5:= ⟨Tryz.f130.name,by decide,Tryz.func130.trans (congrArg some (by kernel_rfl))⟩
 f7:= ⟨Tryz.f191.name,by decide,Tryz.func191.trans (congrArg some (by kernel_rfl))⟩
 f8:=Tryz.func192.trans (congrArg some (by kernel_rfl))
 f10:= ⟨Tryz.f236.name,by decide,Tryz.func236.trans (congrArg some (by kernel_rfl))⟩
 f11:= ⟨Tryz.f237.name,by decide,Tryz.func237.trans (congrArg some (by kernel_rfl))⟩
 f12:= ⟨Tryz.f238.name,by decide,Tryz.func238.trans (congrArg some (by kernel_rfl))⟩
 f13:= ⟨Tryz.f239.name,by decide,Tryz.func239.trans (congrArg some (by kernel_rfl))⟩
 f14:= ⟨Tryz.f240.name,by decide,Tryz.func240.trans (congrArg some (by kernel_rfl))⟩
 f15:= ⟨Tryz.f241.name,by decide,Tryz.func241.trans (congrArg some (by kernel_rfl))⟩
 f16:= ⟨Tryz.f242.name,by decide,Tryz.func242.trans (congrArg some (by kernel_rfl))⟩
 f17:= ⟨Tryz.f243.name,by decide,Tryz.func243.trans (congrArg some (by kernel_rfl))⟩
 f18:= ⟨Tryz.f244.name,by decide,Tryz.func244.trans (congrArg some (by kernel_rfl))⟩
 f19:=Tryz.func245.trans (congrArg some (by kernel_rfl))
 f20:=Tryz.func246.trans (congrArg some (by kernel_rfl))
 f30:= ⟨Tryz.f273.name,by decide,Tryz.func273.trans (congrArg some (by kernel_rfl))⟩
 f31:=Tryz.func274.trans (congrArg some (by kernel_rfl))
 f32:=Tryz.func275.trans (congrArg some (by kernel_rfl))
 f33:= ⟨Tryz.f276.name,by decide,Tryz.func276.trans (congrArg some (by kernel_rfl))⟩
 f34:= ⟨Tryz.f277.name,by decide,Tryz.func277.trans (congrArg some (by kernel_rfl))⟩
 f35:= ⟨Tryz.f278.name,by decide,Tryz.func278.trans (congrArg some (by kernel_rfl))⟩
 f40:= ⟨Tryz.f286.name,by decide,Tryz.func286.trans (congrArg some (by kernel_rfl))⟩
 t0:=Tryz.underlying0
 a0:=Tryz.isAgg0
 z0:=Tryz.sizeOf0
 v0:=Tryz.zeroValue0
 t3:=Tryz.underlying3
 a3:=Tryz.isAgg3
 z3:=Tryz.sizeOf3
 v3:=Tryz.zeroValue3
 t4:=Tryz.underlying4
 a4:=Tryz.isAgg4
 z4:=Tryz.sizeOf4
 v4:=Tryz.zeroValue4
 t5:=Tryz.underlying5
 a5:=Tryz.isAgg5
 z5:=Tryz.sizeOf5
 v5:=Tryz.zeroValue5
 t9:=Tryz.underlying9
 a9:=Tryz.isAgg9
 z9:=Tryz.sizeOf9
 v9:=Tryz.zeroValue9
 t22:=Tryz.underlying29
 a22:=Tryz.isAgg29
 z22:=Tryz.sizeOf29
 v22:=Tryz.zeroValue29
 t23:=Tryz.underlying29
 a23:=Tryz.isAgg29
 z23:=Tryz.sizeOf29
 v23:=Tryz.zeroValue29
 t25:=Tryz.underlying3
 a25:=Tryz.isAgg3
 z25:=Tryz.sizeOf3
 v25:=Tryz.zeroValue3
 t32:=Tryz.underlying245
 a32:=Tryz.isAgg245
 z32:=Tryz.sizeOf245
 v32:=Tryz.zeroValue245
 t35:=Tryz.underlying288
 a35:=Tryz.isAgg288
 z35:=Tryz.sizeOf288
 v35:=Tryz.zeroValue288
 t36:=Tryz.underlying289
 a36:=Tryz.isAgg289
 z36:=Tryz.sizeOf289
 v36:=Tryz.zeroValue289
 t41:=Tryz.underlying184
 a41:=Tryz.isAgg184
 z41:=Tryz.sizeOf184
 v41:=Tryz.zeroValue184
 t44:=Tryz.underlying296
 a44:=Tryz.isAgg296
 z44:=Tryz.sizeOf296
 v44:=Tryz.zeroValue296
 t46:=Tryz.underlying298
 a46:=Tryz.isAgg298
 z46:=Tryz.sizeOf298
 v46:=Tryz.zeroValue298
 t53:=Tryz.underlying323
 a53:=Tryz.isAgg323
 z53:=Tryz.sizeOf323
 v53:=Tryz.zeroValue323
 t57:=Tryz.underlying327
 a57:=Tryz.isAgg327
 z57:=Tryz.sizeOf327
 v57:=Tryz.zeroValue327
 t63:=Tryz.underlying333
 a63:=Tryz.isAgg333
 z63:=Tryz.sizeOf333
 v63:=Tryz.zeroValue333
 t64:=Tryz.underlying334
 a64:=Tryz.isAgg334
 z64:=Tryz.sizeOf334
 v64:=Tryz.zeroValue334}
end Go.Proofs
namespace Go.Hb
open Go.Proofs Go.RowKit Go.Maps Go.Sort Go.Shelf Go.WideElems
set_option maxHeartbeats 2000000
theorem sortsA (m:Nat) :AnyZI.SortsIn Tryz.prog Tryz.sortedA_ren Fence.wide m:=
 ⟨fun blk off cap ss W hH hblk hsz=>callsIn_wide.2 (AnyM.slices_Sort_int Tryz.sortA blk off cap ss W hH hblk hsz),
  fun p cap W=>callsIn_wide.2 (AnyM.slices_Sort_int_none Tryz.sortA p cap W)⟩
def aCw :Value→Option (DataW Unit×List MemPlace) :=fun _=>some (.nil,[])
theorem aKX {E:Emb}:∀ {ml:List (Int×Bool)} {n:Nat} {us:List MapEntry},ERs E (aG aB eH n ml) us→us.map (·.key) =ml.map (fun e=>encZ e.1) ∧us.map (·.born) =List.range' n ml.length
 | [],n,us,h=>by
  simp only [aG,ERs]at h
  subst h
  exact⟨rfl,rfl⟩
 | e::ml,n,us,h=>by
  simp only [aG,ERs]at h
  obtain⟨u,us',rfl,h1,h2,h3,h4⟩ :=h
  obtain⟨a,b⟩ :=aKX h4
  simp only [aB,VR]at h1
  refine⟨by rw [List.map_cons,List.map_cons,a,h1],?_⟩
  rw [List.map_cons,b,h3,List.length_cons,List.range'_succ]
theorem aKY {k:Int}(h0:0≤k)(h1:k≤1000000) :keyOf Tryz.prog 3 (encZ k) =some (.int .i64 k) :=by
 have hw: (Lit.int .i64 k).wf=true:=by
  simp only [Lit.wf,Bool.and_eq_true,decide_eq_true_eq]
  constructor
  ·show(-9223372036854775808:Int) ≤k;omega
  ·show k≤9223372036854775807;omega
 simp [keyOf,Tryz.underlying3,mapKey,encZ,hw]
theorem aS3 {ml:List (Int×Bool)}(hnd: (ml.map Prod.fst).Nodup)(hr:∀k∈ml.map Prod.fst,0≤k∧k≤1000000)(hlen:ml.length≤1000000){ES:Array MapEntry}(hk:ES.toList.map (·.key) =ml.map (fun e=>encZ e.1))(hb:ES.toList.map (·.born) =List.range' 0 ml.length) :
  WideElems.Fit Tryz.prog 3 aCw ES ml.length:=by
 have hl:ES.toList.length=ml.length:=by have:=congrArg List.length hk;simpa using this
 refine⟨?_,⟨fun x hx=>?_,?_,?_⟩,fun x hx=>?_⟩
 ·rw [←Array.length_toList,hl];unfold maxLen;omega
 · have:x.born∈ES.toList.map (·.born) :=List.mem_map.2 ⟨x,hx,rfl⟩
   rw [hb,List.mem_range']at this
   obtain⟨i,h1,h2⟩ :=this
   omega
 ·rw [hb];exact List.nodup_range' ..
 · rw [hk]
   have: (ml.map fun e=>encZ e.1) = (ml.map Prod.fst).map encZ:=by rw [List.map_map];rfl
   rw [this]
   exact List.Pairwise.map _ (fun a b h e=>h (encZ_inj e)) hnd
 · have:x.key∈ES.toList.map (·.key) :=List.mem_map.2 ⟨x,hx,rfl⟩
   rw [hk]at this
   obtain⟨e,he,hke⟩ :=List.mem_map.1 this
   have hb:=hr e.1 (List.mem_map.2 ⟨e,he,rfl⟩)
   refine⟨(.int .i64 e.1,.nil),?_⟩
   unfold WideElems.rd
   rw [←hke,aKY hb.1 hb.2]
   rfl
theorem aQj {ml:List (Int×Bool)}(hr:∀k∈ml.map Prod.fst,0≤k∧k≤1000000){ES:Array MapEntry}(hk:ES.toList.map (·.key) =ml.map (fun e=>encZ e.1)) :
  (intKeys (.map ((ES.toList.map (WideElems.rg Tryz.prog 3 aCw)).foldr DataW.insert []) :DataW Unit)).Perm (ml.map Prod.fst) :=by
 have h1: (ES.toList.map (WideElems.rg Tryz.prog 3 aCw)).map (fun p=>intOf p.1) =ml.map Prod.fst:=by
  have:∀ (us:List MapEntry) (ml:List (Int×Bool)),(∀k∈ml.map Prod.fst,0≤k∧k≤1000000) →us.map (·.key) =ml.map (fun e=>encZ e.1) → (us.map (WideElems.rg Tryz.prog 3 aCw)).map (fun p=>intOf p.1) =ml.map Prod.fst:=by
   intro us
   induction us with
   | nil=>intro ml _ h;cases ml with
    |nil=>rfl
    |cons _ _=>simp at h
   | cons u us ih=>
    intro ml hr h
    cases ml with
    |nil=>simp at h
    | cons e ml=>
     simp only [List.map_cons,List.cons.injEq]at h
     have hb:=hr e.1 (by simp)
     rw [List.map_cons,List.map_cons,List.map_cons,ih ml (fun k hk=>hr k (by simp only [List.map_cons,List.mem_cons];exact .inr hk)) h.2]
     refine congrArg (· ::ml.map Prod.fst) ?_
     unfold WideElems.rg WideElems.rd
     rw [h.1,aKY hb.1 hb.2]
     simp only [aCw,Option.map_some,Option.bind_some,Option.getD_some,intOf]
  exact this _ ml hr hk
 rw [←h1]
 exact(WideShapes.sorted_perm _).map _
theorem aGA :∀l:List Int,flat (l.map encZ) =l.map encZ
 | [] =>rfl
 | a::l=>by
  have:=aGA l
  simp only [flat,List.map_cons,List.flatMap_cons]at this ⊢
  rw [this]
  rfl
theorem aKZ (E:Emb) :∀l:List Int,VRs E (List.map aB l) (l.map encZ)
 | [] =>VRs.nil _
 |a::l=>VRs.cons (by simp only [aB,VR]) (aKZ E l)
theorem aQk {ml:List (Int×Bool)}(hnd: (ml.map Prod.fst).Nodup)(hr:∀k∈ml.map Prod.fst,0≤k∧k≤1000000)(hlen:ml.length≤1000000){ks:List Int}(hks:ks= (ml.map Prod.fst).mergeSort (fun x y=>decide (x≤y)))(h:Hp)(r:Nat)(hb:h.look r=some (.map (aG aB eH 0 ml) (List.length ml))) :
  aBu Tryz.prog 71 [.map r] 70 h (.ilst 1 (List.map aB ks) false) h:=by
 intro E w cargs R V
 obtain⟨c,rest,rfl,vc,vn⟩ :=V.cons_inv
 have:=vn.nil_inv
 subst this
 simp only [VR]at vc
 obtain⟨L,hE,rfl⟩ :=vc
 obtain⟨L',hE',ES,o1,o2⟩ :=R.obj r _ hb
 rw [hE]at hE'
 cases hE'
 obtain⟨k1,k2⟩ :=aKX o2
 have hfit:=aS3 hnd hr hlen k1 k2
 have hown:w.ownsMap Tryz.prog 3 aCw L.blk ES.size (.map ((ES.toList.map (WideElems.rg Tryz.prog 3 aCw)).foldr DataW.insert [])) := ⟨ES,_,o1,hfit,Nat.le_refl _,rfl⟩
 have hperm:=aQj hr k1
 generalize (DataW.map ((ES.toList.map (WideElems.rg Tryz.prog 3 aCw)).foldr DataW.insert []) :DataW Unit) =D0 at hown hperm
 have hsz:Maps.size D0≤1000000:=by
  cases D0 with
  | map es=>
   have:=hperm.length_eq
   simp only [intKeys,List.length_map]at this
   rw [Maps.size_eq];omega
  |_=>simp [Maps.size]
 have hbl:=hown.lt
 have hseq:SeqGives Fence.wide 2 Tryz.prog 131 #[.pointer (some ⟨w.heap.size,0,none⟩)] encZ (fun ss=>ss.Perm (intKeys D0)) (Maps.size D0) (w.alloc (.cells #[.map (some L.blk)] 123)) :=
  AnyZI.keys_gives (ρ:=Tryz.keysA_ren) {Tryz.keysA with} Fence.wide _ trivial rfl (by omega) w.heap.size L.blk ES.size D0 _ (by simp) (by simp) (by
   obtain⟨es,clock,hb,Ft,hs,hD⟩ :=hown
   exact⟨es,clock,(Below.heap_alloc _ _ _ hbl).trans hb,Ft,hs,hD⟩)
 have cK:CallsIn Fence.wide 5 Tryz.prog 71 #[.map (some L.blk)] w fun e w'=>e= .returned (.func (.func 131) #[] #[.pointer (some ⟨w.heap.size,0,none⟩)]) ∧w'=w.alloc (.cells #[.map (some L.blk)] 123) :=AnyZI.keys_in Tryz.keysA Fence.wide 5 trivial rfl _ w
 have cS:=AnyZI.sorted_in Tryz.sortedA Fence.wide 5 trivial trivial trivial trivial rfl (by omega) (sortsA _) (enters_of Tryz.func130 (by kernel_rfl) rfl) 131 #[.pointer (some ⟨w.heap.size,0,none⟩)] trivial (enters_of Tryz.func131 (by kernel_rfl) rfl) _ _ (show Maps.size D0≤maxLen by unfold maxLen;omega) (by omega) _ hseq
 change CallsIn _ _ Tryz.prog 70 _ _ _ at cS
 refine(callsIn_wide.1 cK).mono ?_
 rintro e w1 ⟨rfl,rfl⟩
 have hheap:∀i,i<w.heap.size→ (w.alloc (.cells #[.map (some L.blk)] 123)).heap[i]?=w.heap[i]?:=fun i hi=>Below.heap_alloc _ _ i hi
 have hsize: (w.alloc (.cells #[.map (some L.blk)] 123)).heap.size=w.heap.size+1:=by
  show(w.heap.push _).size=_
  simp
 have relOf:∀ (E':Emb) (w':World),(∀b,E' b=E b) → (∀k C,E.imm k=some C→E'.imm k=some C) → (∀i,i<w.heap.size→w'.heap[i]?=w.heap[i]?) → (∀k C,E'.imm k=some C→ (E.imm k=some C) ∨ (w.heap.size≤k∧∃e f,w'.heap[k]?=some (.cells C e f))) →Rel E' h w'.heap:=by
  intro E' w' hl hi hh hm
  have hle:E.le E':= ⟨fun b L e=>by rw [hl];exact e,hi⟩
  refine⟨fun b o e=>?_,fun b b' o o' L L' e e' k k'=>?_,fun b hb'=>by rw [hl];exact R.fresh b hb',fun k C hk=>?_,fun b o L e k=>?_,R.keys⟩
  · rcases R.obj0 b o e with⟨q1,q2⟩ | ⟨L,q1,q2⟩
    ·exact .inl ⟨q1,by rw [hl];exact q2⟩
    ·exact .inr ⟨L,by rw [hl];exact q1,(q2.mono hle).heap (hh _ q2.lt)⟩
  · rw [hl]at k k'
    exact R.kin b b' o o' L L' e e' k k'
  · rcases hm k C hk with q| ⟨_,q⟩
    · obtain⟨e,f,q1⟩ :=R.imm k C q
      exact⟨e,f,by rw [hh _ (Array.getElem?_eq_some_iff.1 q1).1];exact q1⟩
    ·exact q
  · rw [hl]at k
    have h1:=R.apart b o L e k
    cases hq:E'.imm L.blk with
    |none=>rfl
    | some C=>
     rcases hm _ _ hq with q| ⟨q,_⟩
     ·rw [h1]at q;cases q
     ·have:=R.lt e k;omega
 refine⟨_,rfl,relOf E _ (fun _=>rfl) (fun _ _ e=>e) hheap (fun k C hk=>.inl hk),?_⟩
 refine(callsIn_wide.1 cS).mono ?_
 rintro e w' ⟨v,ss,rfl,hS,hrow,hnil,hbel⟩
 have hss:ss.mergeSort (fun x y=>decide (x≤y)) =ks:=by
  rw [hks]
  exact mergeSort_of_perm_i (hS.trans hperm)
 have hss':ss.length=ks.length:=by rw [←hss,List.length_mergeSort]
 have hold:∀i,i<w.heap.size→w'.heap[i]?=w.heap[i]?:=fun i hi=> (hbel.block i (by rw [hsize];omega)).trans (hheap i hi)
 have extOf:∀E':Emb,(∀b,E' b=E b) → (∀k C,E.imm k=some C→E'.imm k=some C) → (∀k C,E'.imm k=some C→k<w.heap.size→E.imm k=some C) →Ext E h w E' h w':=fun E' hl hi hm=>
  ⟨⟨fun b L e=>by rw [hl];exact e,hi⟩,by have:=hbel.size;rw [hsize]at this;omega,fun i hi _=>hold i hi,fun b o L e k _=> ⟨b,o,L,e,by rw [hl]at k;exact k,rfl⟩,Nat.le_refl _,hbel.os,hbel.tape,hbel.output,fun b _=>hl b,
   fun a ha=>World.frozen?_of_block (w:=w) (hold _ ha),fun k C e hk=>.inl (hm k C e hk),fun b o e _=> ⟨o,e⟩⟩
 rw [hss]at hrow
 rcases hrow.2 with⟨rfl,hz⟩ | ⟨g,cap,cur,rfl,hg,hgc,r1,r2,r3,r4⟩
 · have hk0:ks= [] :=List.eq_nil_of_length_eq_zero (by omega)
   subst hk0
   refine⟨_,E,rfl,?_,relOf E w' (fun _=>rfl) (fun _ _ e=>e) hold (fun k C hk=>.inl hk),extOf E (fun _=>rfl) (fun _ _ e=>e) (fun _ _ e _=>e)⟩
   simp only [VR,List.map_nil,VRs]
   exact⟨[],rfl,fun u hu=> (by cases hu),.inl ⟨rfl,none,0,rfl,fun _=>rfl,fun _=>rfl⟩⟩
 · have hgw:w.heap.size≤g:=by rw [hsize]at hg;omega
   have hgn:E.imm g=none:=by
    cases hq:E.imm g with
    |none=>rfl
    | some C=>
     obtain⟨e,f,q1⟩ :=R.imm g C hq
     have:= (Array.getElem?_eq_some_iff.1 q1).1
     omega
   have up:∀k C,E.imm k=some C→ (if k=g then some cur else E.imm k) =some C:=fun k C e=>by
    rw [if_neg (fun q=>by rw [q,hgn]at e;cases e)];exact e
   refine⟨_,⟨E.loc,fun k=>if k=g then some cur else E.imm k⟩,rfl,?_,relOf _ w' (fun _=>rfl) up hold (fun k C hk=>?_),extOf _ (fun _=>rfl) up (fun k C e hk=>?_)⟩
   · simp only [VR]
     refine⟨ks.map encZ,aKZ _ ks,fun u hu=>?_,.inr ⟨g,0,cap,cur,?_,if_pos rfl,?_,(fun q=>by cases q),fun j hj=>?_⟩⟩
     · obtain⟨a,_,rfl⟩ :=List.mem_map.1 hu
       exact⟨rfl,fun c hc=>by rw [List.mem_singleton.1 hc];rfl⟩
     ·rw [List.length_map,hss']
     ·rw [List.length_map];omega
     · rw [aGA]
       rw [List.length_map]at hj
       have h4: (cur.toList.take (ss.length*1))[j]?= (ks.map encZ)[j]?:=by rw [r4]
       rw [List.getElem?_take,if_pos (by omega)]at h4
       rw [Nat.zero_add,←h4,Array.getElem?_toList]
   · simp only at hk
     split at hk
     · rename_i q;cases hk;subst q
       exact .inr ⟨hgw,_,_,hgc⟩
     ·exact .inl hk
   · simp only at e
     rw [if_neg (by omega)]at e
     exact e
end Go.Hb
namespace Go.Hb
open Go.Proofs
noncomputable def aEJ (a:List Int)(i5:Int) :TS:=
 {fr:={fn:=55,nt:=26,sl:=[(0,(iI a)),(1,(iI a)),(4,(bV false)),(5,(nI i5))],todo:=[.code (cd Tryz.f55 [1,1,0,1,0,0]),.inLoop (cd Tryz.f55 [1,1,0,1,0,0]),.inBlock 0,.code (cd Tryz.f55 [1,1,1])]},cs:=[],hp:=[],nb:=0}
theorem aU9 (a:List Int)(h0: ((a.length:Int) != (a.length:Int)) =false) :
  LeadsM PP 0 (start PP 55 [(iI a),(iI a)]).as (aEJ a 0).as:=
 wW 0 [] [ql aB a,ql aB a,qp h0] [rn 8,aL a,rn 1,aL a,rn 2,bf 10,rn 9] trivial
theorem aVa (a:List Int)(i5 y0:Int)(h0:decide (i5< (a.length:Int)) =true)(h1:0≤i5)(h2: ((a)[i5.toNat]?) =some y0)(h3: (y0 != y0) =false)(h4: (IntKind.i64.wrap (i5+ (1:Int))) = (i5+ (1:Int))) :
  LeadsM PP 0 (aEJ a i5).as (aEJ a (i5+ (1:Int))).as:=
 wW 0 [] [ql aB a,qp h0,qp h1,qg aB h2,qp h1,qg aB h2,qp h3,qp (congrArg (AV.int .i64) h4)] [rn 5,aL a,rn 2,bt 14,rn 5,.reg [.d,.d,.ans (.idx (aB y0)),.d,.d,.d,.ans (.idx (aB y0)),.d,.d],bf 25,rn 6,sI 16 (i5+ (1:Int)),rn 3] trivial
theorem aVb (a:List Int)(i5:Int)(h0:decide (i5< (a.length:Int)) =false) :
  Ends PP 0 (aEJ a i5).as (.ret (bV true)) (aA [] 0) :=
 wE 0 [] [ql aB a,qp h0] [rn 5,aL a,rn 2,bf 14,rn 7] trivial
noncomputable def aEK (q_form q_n:Int)(q_text:aX)(q_parts:List Pat)(i5:Int) :TS:=
 {fr:={fn:=88,nt:=53,sl:=[(2,(.ptr 0 0)),(3,(.ptr 1 0)),(4,(bV false)),(5,(nI i5))],todo:=[.code (cd Tryz.f88 [1,1,0,1,0,0]),.inLoop (cd Tryz.f88 [1,1,0,1,0,0]),.inBlock 0,.code (cd Tryz.f88 [1,1,1])]},cs:=[],hp:=[(0,(.cells (putCells .leaf 0 [(nI q_form),(nI q_n),(bO q_text),(iP q_parts)]) 4 [] false),false),(1,(.cells (putCells .leaf 0 [(nI q_form),(nI q_n),(bO q_text),(iP q_parts)]) 4 [] false),false)],nb:=2}
theorem aVc (q_form q_n:Int)(q_text:aX)(q_parts:List Pat)(h0: (q_form != q_form) =false)(h1: (q_n != q_n) =false)(h2: (!(dR q_text.length (aF q_text) q_text.length (aF q_text))) =false)(h3: ((q_parts.length:Int) != (q_parts.length:Int)) =false) :
  LeadsM PP 0 (start PP 88 [(.agg [(nI q_form),(nI q_n),(bO q_text),(iP q_parts)]),(.agg [(nI q_form),(nI q_n),(bO q_text),(iP q_parts)])]).as (aEK q_form q_n q_text q_parts 0).as:=
 wW 2 [0,1] [qp h0,qp h1,qp h2,fU q_parts,fU q_parts,qp h3] [rn 15,bf 11,rn 7,bf 18,rn 7,bf 25,rn 2,aL q_parts,rn 2,aL q_parts,rn 3,bf 33,rn 9] trivial
theorem aVd (q_form q_n:Int)(q_text:aX)(q_parts:List Pat)(i5 y_form0 y_n1:Int)(y_text2:aX)(y_parts3:List Pat)(y4:Bool)(h0:decide (i5< (q_parts.length:Int)) =true)(h1:0≤i5)(h2: ((q_parts)[i5.toNat]?) =some (Pat.mk y_form0 y_n1 y_text2 y_parts3))(h3:aE PP 88 [(.agg [(nI y_form0),(nI y_n1),(bO y_text2),(iP y_parts3)]),(.agg [(nI y_form0),(nI y_n1),(bO y_text2),(iP y_parts3)])] (bV y4))(h4: (!y4) =false)(h5: (IntKind.i64.wrap (i5+ (1:Int))) = (i5+ (1:Int))) :
  LeadsM PP 0 (aEK q_form q_n q_text q_parts i5).as (aEK q_form q_n q_text q_parts (i5+ (1:Int))).as:=
 wW 2 [0,1] [fU q_parts,qp h0,qp h1,qgP h2,qp h1,qgP h2,qp h3,qp h4,qp (congrArg (AV.int .i64) h5)] [rn 6,aL q_parts,rn 2,bt 38,rn 5,.reg [.d,.d,.d,.ans (.idx (Pat.av (Pat.mk y_form0 y_n1 y_text2 y_parts3))),.d,.d,.d,.d,.ans (.idx (Pat.av (Pat.mk y_form0 y_n1 y_text2 y_parts3))),.d,.pure (bV y4),.d],bf 52,rn 6,sI 40 (i5+ (1:Int)),rn 3] trivial
theorem aVe (q_form q_n:Int)(q_text:aX)(q_parts:List Pat)(i5:Int)(h0:decide (i5< (q_parts.length:Int)) =false) :
  Ends PP 0 (aEK q_form q_n q_text q_parts i5).as (.ret (bV true)) (aA [] 0) :=
 wE 2 [] [fU q_parts,qp h0] [rn 6,aL q_parts,rn 2,bf 38,rn 7] trivial
noncomputable def aEL (x:Node)(i5:Int) :TS:=
 {fr:={fn:=56,nt:=54,sl:=[(2,(.ptr 0 0)),(3,(.ptr 1 0)),(4,(bV false)),(5,(nI i5))],todo:=[.code (cd Tryz.f56 [1,1,0,1,0,0]),.inLoop (cd Tryz.f56 [1,1,0,1,0,0]),.inBlock 0,.code (cd Tryz.f56 [1,1,1])]},cs:=[],hp:=[(0,(.cells (putCells .leaf 0 [(nI x.op),(nI x.n),(iI x.kids),(iP x.pats)]) 4 [] false),false),(1,(.cells (putCells .leaf 0 [(nI x.op),(nI x.n),(iI x.kids),(iP x.pats)]) 4 [] false),false)],nb:=2}
theorem aVf (x:Node)(y0:Bool)(h0: (x.op != x.op) =false)(h1: (x.n != x.n) =false)(h2:aE PP 55 [(iI x.kids),(iI x.kids)] (bV y0))(h3: (!y0) =false)(h4: ((x.pats.length:Int) != (x.pats.length:Int)) =false) :
  LeadsM PP 0 (start PP 56 [(Node.av x),(Node.av x)]).as (aEL x 0).as:=
 wW 2 [0,1] [qp h0,qp h1,qp h2,qp h3,fU x.pats,fU x.pats,qp h4] [rn 15,bf 11,rn 7,bf 18,rn 4,pB y0,rn 3,bf 26,rn 2,aL x.pats,rn 2,aL x.pats,rn 3,bf 34,rn 9] trivial
theorem aVg (x:Node)(i5 y_form0 y_n1:Int)(y_text2:aX)(y_parts3:List Pat)(y4:Bool)(h0:decide (i5< (x.pats.length:Int)) =true)(h1:0≤i5)(h2: ((x.pats)[i5.toNat]?) =some (Pat.mk y_form0 y_n1 y_text2 y_parts3))(h3:aE PP 88 [(.agg [(nI y_form0),(nI y_n1),(bO y_text2),(iP y_parts3)]),(.agg [(nI y_form0),(nI y_n1),(bO y_text2),(iP y_parts3)])] (bV y4))(h4: (!y4) =false)(h5: (IntKind.i64.wrap (i5+ (1:Int))) = (i5+ (1:Int))) :
  LeadsM PP 0 (aEL x i5).as (aEL x (i5+ (1:Int))).as:=
 wW 2 [0,1] [fU x.pats,qp h0,qp h1,qgP h2,qp h1,qgP h2,qp h3,qp h4,qp (congrArg (AV.int .i64) h5)] [rn 6,aL x.pats,rn 2,bt 39,rn 5,.reg [.d,.d,.d,.ans (.idx (Pat.av (Pat.mk y_form0 y_n1 y_text2 y_parts3))),.d,.d,.d,.d,.ans (.idx (Pat.av (Pat.mk y_form0 y_n1 y_text2 y_parts3))),.d,.pure (bV y4),.d],bf 53,rn 6,sI 41 (i5+ (1:Int)),rn 3] trivial
theorem aVh (x:Node)(i5:Int)(h0:decide (i5< (x.pats.length:Int)) =false) :
  Ends PP 0 (aEL x i5).as (.ret (bV true)) (aA [] 0) :=
 wE 2 [] [fU x.pats,qp h0] [rn 6,aL x.pats,rn 2,bf 39,rn 7] trivial
noncomputable def aEM (p:Prog)(i5:Int) :TS:=
 {fr:={fn:=12,nt:=75,sl:=[(2,(.ptr 0 0)),(3,(.ptr 1 0)),(4,(bV false)),(5,(nI i5))],todo:=[.code (cd Tryz.f12 [1,1,0,1,0,0]),.inLoop (cd Tryz.f12 [1,1,0,1,0,0]),.inBlock 0,.code (cd Tryz.f12 [1,1,1])]},cs:=[],hp:=[(0,(.cells (putCells .leaf 0 [(iN p.nodes),(iI p.funs),(nI p.main),(iC p.cons)]) 4 [] false),false),(1,(.cells (putCells .leaf 0 [(iN p.nodes),(iI p.funs),(nI p.main),(iC p.cons)]) 4 [] false),false)],nb:=2}
noncomputable def aEN (p:Prog)(i6:Int) :TS:=
 {fr:={fn:=12,nt:=75,sl:=[(2,(.ptr 0 0)),(3,(.ptr 1 0)),(4,(bV false)),(6,(nI i6))],todo:=[.code (cd Tryz.f12 [1,1,1,0,1,0,0]),.inLoop (cd Tryz.f12 [1,1,1,0,1,0,0]),.inBlock 2,.code (cd Tryz.f12 [1,1,1,1])]},cs:=[],hp:=[(0,(.cells (putCells .leaf 0 [(iN p.nodes),(iI p.funs),(nI p.main),(iC p.cons)]) 4 [] false),false),(1,(.cells (putCells .leaf 0 [(iN p.nodes),(iI p.funs),(nI p.main),(iC p.cons)]) 4 [] false),false)],nb:=2}
theorem aVi (p:Prog)(y0:Bool)(h0: ((p.nodes.length:Int) != (p.nodes.length:Int)) =false)(h1:aE PP 55 [(iI p.funs),(iI p.funs)] (bV y0))(h2: (!y0) =false)(h3: (p.main != p.main) =false)(h4: ((p.cons.length:Int) != (p.cons.length:Int)) =false) :
  LeadsM PP 0 (start PP 12 [(Prog.av p),(Prog.av p)]).as (aEM p 0).as:=
 wW 2 [0,1] [ql Node.av p.nodes,ql Node.av p.nodes,qp h0,qp h1,qp h2,qp h3,ql Con.av p.cons,ql Con.av p.cons,qp h4] [rn 11,aL p.nodes,rn 2,aL p.nodes,rn 2,bf 14,rn 4,pB y0,rn 3,bf 22,rn 7,bf 29,rn 2,aL p.cons,rn 2,aL p.cons,rn 3,bf 37,rn 9] trivial
theorem aVj (p:Prog)(i5:Int)(y0:Con)(h0:decide (i5< (p.cons.length:Int)) =true)(h1:0≤i5)(h2: ((p.cons)[i5.toNat]?) =some y0)(h3: (!((dR y0.name.length (aF y0.name) y0.name.length (aF y0.name)) && ((y0.args==y0.args) &&true))) =false)(h4: (IntKind.i64.wrap (i5+ (1:Int))) = (i5+ (1:Int))) :
  LeadsM PP 0 (aEM p i5).as (aEM p (i5+ (1:Int))).as:=
 wW 2 [0,1] [ql Con.av p.cons,qp h0,qp h1,qg Con.av h2,qp h1,qg Con.av h2,qp h3,qp (congrArg (AV.int .i64) h4)] [rn 6,aL p.cons,rn 2,bt 42,rn 5,.reg [.d,.d,.d,.ans (.idx (Con.av y0)),.d,.d,.d,.d,.ans (.idx (Con.av y0)),.d,.d],bf 55,rn 6,sI 44 (i5+ (1:Int)),rn 3] trivial
theorem aVk (p:Prog)(i5:Int)(h0:decide (i5< (p.cons.length:Int)) =false) :
  LeadsM PP 0 (aEM p i5).as (aEN p 0).as:=
 wW 2 [0,1] [ql Con.av p.cons,qp h0] [rn 6,aL p.cons,rn 2,bf 42,rn 9] trivial
theorem aVl (p:Prog)(i6:Int)(y0:Node)(y1:Bool)(h0:decide (i6< (p.nodes.length:Int)) =true)(h1:0≤i6)(h2: ((p.nodes)[i6.toNat]?) =some y0)(h3:aE PP 56 [(Node.av y0),(Node.av y0)] (bV y1))(h4: (!y1) =false)(h5: (IntKind.i64.wrap (i6+ (1:Int))) = (i6+ (1:Int))) :
  LeadsM PP 0 (aEN p i6).as (aEN p (i6+ (1:Int))).as:=
 wW 2 [0,1] [ql Node.av p.nodes,qp h0,qp h1,qg Node.av h2,qp h1,qg Node.av h2,qp h3,qp h4,qp (congrArg (AV.int .i64) h5)] [rn 6,aL p.nodes,rn 2,bt 60,rn 5,.reg [.d,.d,.d,.ans (.idx (Node.av y0)),.d,.d,.d,.d,.ans (.idx (Node.av y0)),.d,.pure (bV y1),.d],bf 74,rn 6,sI 62 (i6+ (1:Int)),rn 3] trivial
theorem aVm (p:Prog)(i6:Int)(h0:decide (i6< (p.nodes.length:Int)) =false) :
  Ends PP 0 (aEN p i6).as (.ret (bV true)) (aA [] 0) :=
 wE 2 [] [ql Node.av p.nodes,qp h0] [rn 6,aL p.nodes,rn 2,bf 60,rn 7] trivial
end Go.Hb
namespace Go.Hb
open Go.Proofs
theorem aEO (s:aX) :dR (List.length s) (aF s) (List.length s) (aF s) =true:=by rw [vN];simp
theorem aK0 (a:List Int)(ha:a.length<1000000) :∀ (t:List Int) (i:Nat),a.drop i=t→Ends PP 0 (aEJ a (i:Int)).as (.ret (.bool true)) (aA [] 0)
 | [],i,h=>by
  have:=cD h
  exact aVb a i sd
 | y::t,i,h=>by
  obtain⟨g1,g2,g3⟩ :=cA h
  have h1:=aVa a i y sd sd sd (by simp) sd
  exact h1.ends (aK0 a ha t (i+1) g2)
theorem aK1 (a:List Int)(ha:a.length<1000000) :aE PP 55 [.ilst 1 (List.map aB a) false,.ilst 1 (List.map aB a) false] (.bool true) :=
 bK (by kernel_rfl) rfl rfl ((aU9 a (by simp)).ends (aK0 a ha a 0 rfl))
theorem aK2 (f n:Int)(s:aX)(ps:List Pat)(hl:ps.length<1000000)(ih:∀p∈ps,aE PP 88 [Pat.av p,Pat.av p] (.bool true)) :∀ (t:List Pat) (i:Nat),ps.drop i=t→Ends PP 0 (aEK f n s ps (i:Int)).as (.ret (.bool true)) (aA [] 0)
 | [],i,h=>by
  have:=cD h
  exact aVe f n s ps i sd
 | .mk f1 n1 s1 ps1::t,i,h=>by
  obtain⟨g1,g2,g3⟩ :=cA h
  have h1:=aVd f n s ps i f1 n1 s1 ps1 true sd sd sd (ih (.mk f1 n1 s1 ps1) (List.mem_of_getElem? g1)) rfl sd
  exact h1.ends (aK2 f n s ps hl ih t (i+1) g2)
mutual
theorem aS4 :∀ (q:Pat),dL q<1000000→aE PP 88 [Pat.av q,Pat.av q] (.bool true)
 | .mk f n s ps,h=>by
  simp only [dL]at h
  have:=fA ps
  exact bK (by kernel_rfl) (by simp [AV.keylessL,kT]) rfl ((aVc f n s ps (by simp) (by simp) (by rw [aEO];rfl) (by simp)).ends (aK2 f n s ps (by omega) (aIq ps (by omega)) ps 0 rfl))
theorem aIq :∀ (ps:List Pat),bP ps<1000000→∀p∈ps,aE PP 88 [Pat.av p,Pat.av p] (.bool true)
 | [],_,p,hp=>by cases hp
 | q::ps,h,p,hp=>by
  simp only [bP]at h
  rcases List.mem_cons.1 hp with e|hp
  ·rw [e];exact aS4 q (by omega)
  ·exact aIq ps (by omega) p hp
end
theorem aK3 (x:Node)(hl:x.pats.length<1000000)(ih:∀p∈x.pats,aE PP 88 [Pat.av p,Pat.av p] (.bool true)) :∀ (t:List Pat) (i:Nat),x.pats.drop i=t→Ends PP 0 (aEL x (i:Int)).as (.ret (.bool true)) (aA [] 0)
 | [],i,h=>by
  have:=cD h
  exact aVh x i sd
 | .mk f1 n1 s1 ps1::t,i,h=>by
  obtain⟨g1,g2,g3⟩ :=cA h
  have h1:=aVg x i f1 n1 s1 ps1 true sd sd sd (ih (.mk f1 n1 s1 ps1) (List.mem_of_getElem? g1)) rfl sd
  exact h1.ends (aK3 x hl ih t (i+1) g2)
def aVn (x:Node) :Prop:=x.kids.length<1000000∧bP x.pats<1000000
structure FitP (q:Prog) :Prop where
 nodes:q.nodes.length≤1000000
 funs:q.funs.length<1000000
 cons:q.cons.length<1000000
 node:∀x∈q.nodes,aVn x
theorem aS5 (x:Node)(h:aVn x) :aE PP 56 [Node.av x,Node.av x] (.bool true) :=by
 have:=fA x.pats
 have h1:=h.1
 have h2:=h.2
 exact bK (by kernel_rfl) (by simp [AV.keylessL,Node.av,AV.keyless]) rfl ((aVf x true (by simp) (by simp) (aK1 x.kids h.1) rfl (by simp)).ends (aK3 x (by omega) (aIq x.pats h.2) x.pats 0 rfl))
theorem aWd (p:Prog)(hp:FitP p) :∀ (t:List Node) (i:Nat),p.nodes.drop i=t→Ends PP 0 (aEN p (i:Int)).as (.ret (.bool true)) (aA [] 0)
 | [],i,h=>by
  have:=cD h
  exact aVm p i sd
 | x::t,i,h=>by
  obtain⟨g1,g2,g3⟩ :=cA h
  have hn:=hp.nodes
  have h1:=aVl p i x true sd sd sd (aS5 x (hp.node x (List.mem_of_getElem? g1))) rfl sd
  exact h1.ends (aWd p hp t (i+1) g2)
theorem aWe (p:Prog)(hp:FitP p) :∀ (t:List Con) (i:Nat),p.cons.drop i=t→Ends PP 0 (aEM p (i:Int)).as (.ret (.bool true)) (aA [] 0)
 | [],i,h=>by
  have:=cD h
  exact(aVk p i sd).ends (aWd p hp p.nodes 0 rfl)
 | c::t,i,h=>by
  obtain⟨g1,g2,g3⟩ :=cA h
  have hn:=hp.cons
  have h1:=aVj p i c sd sd sd (by rw [aEO];simp) sd
  exact h1.ends (aWe p hp t (i+1) g2)
theorem aEP (p:Prog)(hp:FitP p) :aE PP 12 [Prog.av p,Prog.av p] (.bool true) :=
 bK (by kernel_rfl) (by simp [AV.keylessL,Prog.av,AV.keyless]) rfl ((aVi p true (by simp) (aK1 p.funs hp.funs) rfl (by simp) (by simp)).ends (aWe p hp p.cons 0 rfl))
mutual
theorem aBO (mc:List (Int×Int)) :∀q:Pat,dL (kG mc q) =dL q
 | .mk f n t ps=>by rw [kG,dL,dL,zU mc ps]
theorem zU (mc:List (Int×Int)) :∀ps:List Pat,bP (bS mc ps) =bP ps
 | [] =>rfl
 |q::ps=>by rw [bS,bP,bP,aBO mc q,zU mc ps]
end
end Go.Hb
namespace Go.Hb
open Go.Proofs
set_option maxHeartbeats 1000000
theorem fX {p:Prog}(hf:bJ p=true) :0≤p.main∧p.main<p.funs.length:=by
 simp only [bJ,Bool.and_eq_true,dY,inB_iff]at hf
 omega
theorem aEQ {p:Prog}(hs:aP p=true)(hf:bJ p=true) :∀m:Nat,m<p.nodes.length→ (m:Int) ∈ ((p.funs.map (pre p p.nodes.length)).flatten) :=fun m hm=>by
 obtain⟨h1,h2,h3,_⟩ :=tN hs hf
 refine Classical.byContradiction fun hn=>?_
 have hnd: ((m:Int) :: (p.funs.map (pre p p.nodes.length)).flatten).Nodup:=List.nodup_cons.2 ⟨hn,h1⟩
 have hr:∀x∈ (m:Int) :: (p.funs.map (pre p p.nodes.length)).flatten,0≤x∧x<p.nodes.length:=fun x hx=>by
  rcases List.mem_cons.1 hx with rfl|hx
  ·omega
  ·exact h3 x hx
 have hnat: (((m:Int) :: (p.funs.map (pre p p.nodes.length)).flatten).map Int.toNat).Nodup:=by
  refine List.pairwise_map.2 (hnd.imp_of_mem fun {a b} ha hb hne e=>hne ?_)
  have:=hr a ha
  have:=hr b hb
  omega
 have:=nA p.nodes.length _ hnat (fun x hx=>by
  obtain⟨y,hy,rfl⟩ :=List.mem_map.1 hx
  have:=hr y hy
  omega)
 simp only [List.length_map,List.length_cons,h2]at this
 omega
def pQ (m:List (Int×Bool)) :Prop:= (m.map Prod.fst).Nodup
theorem aGB (k:Int)(v:Bool) :∀m:List (Int×Bool),(cM k v m).map Prod.fst=if k∈m.map Prod.fst then m.map Prod.fst else m.map Prod.fst++ [k]
 | [] =>by simp [cM]
 | e ::m=>by
  simp only [cM]
  by_cases h:k=e.1
  · rw [if_pos h,if_pos (by rw [List.map_cons,h];exact List.mem_cons_self ..)]
    simp [h]
  · rw [if_neg h,List.map_cons,List.map_cons,aGB k v m]
    by_cases h2:k∈m.map Prod.fst
    ·rw [if_pos h2,if_pos (List.mem_cons_of_mem _ h2)]
    ·rw [if_neg h2,if_neg (by simp only [List.mem_cons,not_or];exact⟨h,h2⟩),List.cons_append]
theorem aNt {m:List (Int×Bool)}(h:pQ m)(k:Int)(v:Bool) :pQ (cM k v m) :=by
 unfold pQ at *
 rw [aGB]
 split
 ·exact h
 · rename_i hn
   exact List.nodup_append.2 ⟨h,by simp,fun a ha b hb e=>hn (by rw [List.mem_singleton.1 hb]at e;rw [←e];exact ha)⟩
theorem aER {g:Int→List (Int×Bool) →Option (List (Int×Bool))}(hg:∀k m m',pQ m→g k m=some m'→pQ m') :∀ (t:List Int) (m m':List (Int×Bool)),pQ m→qH g t m=some m'→pQ m'
 | [],m,m',h,e=>by cases e;exact h
 | k ::t,m,m',h,e=>by
  simp only [qH]at e
  split at e
  · rename_i m1 h1
    exact aER hg t m1 m' (hg k m m1 h h1) e
  ·cases e
theorem aCx (mn:List (Int×List Int)) :∀ (k:Nat) (f:Int) (m m':List (Int×Bool)),pQ m→hQ mn k f m=some m'→pQ m'
 |0,_,_,_,_,e=>by cases e
 | k+1,f,m,m',h,e=>by
  simp only [hQ]at e
  split at e
  ·cases e;exact h
  ·exact aER (aCx mn k) _ _ _ (aNt h f true) e
theorem aK4 (k:Int) :∀m:List (Int×Bool),(bF k m).isSome=true↔k∈m.map Prod.fst
 | [] =>by simp [bF]
 | e::m=>by
  simp only [bF,List.map_cons,List.mem_cons]
  by_cases h:k=e.1
  ·simp [h]
  ·rw [if_neg h,aK4 k m];simp [h]
theorem jR :∀ (is:List Bool) (b:Int),(bB is b).Pairwise (fun x y=>x<y)
 | [],_=>List.Pairwise.nil
 | c::t,b=>by
  simp only [bB]
  split
  ·exact List.Pairwise.cons (fun x hx=>by have:=fC t (b+1) x hx;omega) (jR t (b+1))
  ·exact jR t (b+1)
theorem tQ :∀ (is:List Bool) (b:Int),∀x∈bB is b,x<b+is.length
 | [],b,x,h=>by simp [bB]at h
 | c ::t,b,x,h=>by
  simp only [bB]at h
  split at h
  · rcases List.mem_cons.1 h with rfl|h
    ·simp only [List.length_cons];omega
    ·have:=tQ t (b+1) x h;simp only [List.length_cons];omega
  ·have:=tQ t (b+1) x h;simp only [List.length_cons];omega
theorem aK5 {m:List (Int×Bool)}(hm:pQ m){is:List Bool}(h:∀x:Int,x∈m.map Prod.fst↔x∈bB is 0) : (m.map Prod.fst).mergeSort (fun x y=>decide (x≤y)) =bB is 0:=by
 have tr:∀a b c:Int,decide (a≤b) =true→decide (b≤c) =true→decide (a≤c) =true:=fun a b c h1 h2=>by simp only [decide_eq_true_eq]at *;omega
 have to:∀a b:Int,(decide (a≤b) ||decide (b≤a)) =true:=fun a b=>by simp only [Bool.or_eq_true,decide_eq_true_eq];omega
 have hs:=jR is 0
 have hnd: (bB is 0).Nodup:=hs.imp (fun h e=>by omega)
 have hperm: (m.map Prod.fst).Perm (bB is 0) := (List.perm_ext_iff_of_nodup hm hnd).2 h
 refine List.Perm.eq_of_pairwise (le:=fun a b=>decide (a≤b) =true) (fun a b _ _ h1 h2=>?_) (List.pairwise_mergeSort tr to _) (hs.imp fun h=>?_) ((List.mergeSort_perm _ _).trans hperm)
 ·simp only [decide_eq_true_eq]at *;omega
 ·simp only [decide_eq_true_eq];omega
def aCG :List Int→Int→List (Int×Int)
 | [],_=>[]
 |a::t,i=> (i,a) ::aCG t (i+1)
theorem aES :∀ (F:List Int) (b:Int) (j:Nat),bF (b+ (j:Int)) (aCG F b) =F[j]?
 | [],_,_=>by simp [aCG,bF]
 |a::t,b,0=>by simp [aCG,bF]
 | a::t,b,j+1=>by
  simp only [aCG,bF]
  rw [if_neg (by omega),show b+ ((j+1:Nat) :Int) = (b+1) + (j:Int)by omega,aES t (b+1) j]
  simp
theorem aK6 :∀ (is:List Bool) (n:Int) (j:Nat) (r:Int),(eC is n)[j]?=some r→n≤r∧r≤n+is.length
 | [],n,j,r,h=>by simp [eC]at h
 | b::t,n,0,r,h=>by
  simp only [eC,List.getElem?_cons_zero,Option.some.injEq]at h
  subst h
  simp only [List.length_cons];omega
 | b::t,n,j+1,r,h=>by
  simp only [eC,List.getElem?_cons_succ]at h
  have:=aK6 t _ j r h
  simp only [List.length_cons]
  split at this<;>omega
theorem nB {α:Type}:∀ (is:List Bool) (l:List α),(dN is l).Sublist l
 | [],l=>by simp [dN]
 |true::bs,[] =>by simp [dN]
 |false::bs,[] =>by simp [dN]
 |true::bs,x::t=>by rw [dN];exact(nB bs t).cons_cons x
 |false::bs,x::t=>by rw [dN];exact(nB bs t).cons x
theorem rX {α β:Type}(f:α→List β) :∀ {l l':List α},l.Sublist l'→ ((l.map f).flatten).Sublist ((l'.map f).flatten) :=fun h=>by
 induction h with
 |slnil=>exact List.Sublist.refl _
 |cons a _ ih=>rw [List.map_cons,List.flatten_cons];exact ih.trans (List.sublist_append_right _ _)
 |cons_cons a _ ih=>rw [List.map_cons,List.flatten_cons,List.map_cons,List.flatten_cons];exact(List.Sublist.refl _).append ih
theorem aBP {α:Type}:∀ (is:List Bool) (l:List α) (x:α),x∈dN is l→∃d:Nat,is[d]?=some true∧l[d]?=some x
 | [],l,x,h=>by simp [dN]at h
 |true::bs,[],x,h=>by simp [dN]at h
 |false::bs,[],x,h=>by simp [dN]at h
 | true::bs,y::t,x,h=>by
  rw [dN]at h
  rcases List.mem_cons.1 h with rfl|h
  ·exact⟨0,rfl,rfl⟩
  · obtain⟨d,h1,h2⟩ :=aBP bs t x h
    exact⟨d+1,h1,h2⟩
 | false::bs,y::t,x,h=>by
  rw [dN]at h
  obtain⟨d,h1,h2⟩ :=aBP bs t x h
  exact⟨d+1,h1,h2⟩
theorem aNu {p:Prog}(hs:aP p=true)(hf:bJ p=true) :∀ (i:Nat) (x:Node),p.nodes[i]?=some x→aVn x:=fun i x hx=>by
 simp only [aP,Bool.and_eq_true,decide_eq_true_eq]at hs
 obtain⟨⟨⟨⟨s1,s2⟩,s3⟩,s4⟩,s5⟩ :=hs
 have hs':aP p=true:=by simp only [aP,Bool.and_eq_true,decide_eq_true_eq];exact⟨⟨⟨⟨s1,s2⟩,s3⟩,s4⟩,s5⟩
 obtain⟨_,_,_,hnode⟩ :=tN hs' hf
 have h10:=List.all_eq_true.1 s5 x (List.mem_of_getElem? hx)
 simp only [bA,Bool.and_eq_true,decide_eq_true_eq]at h10
 have:= (aBH s2 (hnode i x hx) (by omega)).1.1
 exact⟨by omega,this⟩
theorem iT {p:Prog}(h320:p.funs.length≤320){x:Node}(h:bH p x=true)(h4:x.op=4)(h0:x.n<0) :0≤ -1-x.n∧ -1-x.n<p.funs.length:=by
 simp only [bH,Bool.and_eq_true,fV,cI,h4]at h
 have h1:=h.1.1.1
 simp [inB_iff]at h1
 omega
end Go.Hb
namespace Go.Hb
open Go.Proofs
set_option maxHeartbeats 1000000
def fsT (p:Prog) :List Int:=dN (bT p) p.funs
def LT (p:Prog) :List Int:= ((fsT p).map (pre p p.nodes.length)).flatten
def nR (p:Prog) :List Int:=cZ (List.replicate p.nodes.length 0) ((0:Nat) :Int) (LT p)
theorem aQl {p:Prog}(hs:aP p=true)(hf:bJ p=true) :aE PP 19 [Prog.av p] (.tup [Prog.av ⟨((fsT p).map (wB p (kB (bB (bT p) 0) 0 []) (sM p.cons.length) (nR p) p.nodes.length)).flatten,(fsT p).map (cB (nR p)),eX (kB (bB (bT p) 0) 0 []) p.main,p.cons⟩,.int .i64 0]) :=by
 have hss:=hs
 simp only [aP,Bool.and_eq_true,decide_eq_true_eq]at hss
 obtain⟨⟨⟨⟨s1,s2⟩,s3⟩,_⟩,s5⟩ :=hss
 have h10:=aSQ hs
 unfold nR LT fsT
 rw [hf]at h10
 have hp:=wH hs hf
 obtain⟨hd,hlen,hin,hnode⟩ :=tN hs hf
 have hall:=aEQ hs hf
 have hmain:=fX hf
 have hS:=jQ hf
 have ho:=mG hs hf hnode hmain
 have hfit:=aNu hs hf
 have hnm:∀ (i:Nat) (x:Node),p.nodes[i]?=some x→x.op=4→x.n<0→ -1000000000≤x.n:=fun i x hx h4 h0=>by
  have:=iT s2 (hnode i x hx) h4 h0
  omega
 have hrow:=fun(j g:Int) =>aIp hp hS hall hin (j:=j) (g:=g)
 have hpl:∀k∈p.funs,(pre p p.nodes.length k).length≤p.nodes.length:=fun k hk=>by
  have h1:= (rX (pre p p.nodes.length) (List.singleton_sublist.2 hk)).length_le
  simp only [List.map_cons,List.map_nil,List.flatten_cons,List.flatten_nil,List.append_nil]at h1
  omega
 have hr:∀k∈p.funs,(kC p p.nodes.length k).length≤1000000:=fun k hk=>by
  have:=aOp p p.nodes.length k
  have:=hpl k hk
  omega
 obtain⟨zl,hz⟩ :=aCt (mn:=uA p p.nodes.length 0 p.funs []) (n:=p.funs.length) (fun f g hg=>by
  obtain⟨i,x,hx,h4,h0,rfl,_⟩ := (hrow f g).1 hg
  exact iT s2 (hnode i x hx) h4 h0) (p.funs.length+1) p.main [] hmain.1 hmain.2 (by have:=aGy [] p.funs.length;omega)
 have hinz:∀x:Int,(bF x zl).isSome=true↔0≤x∧ (bT p)[x.toNat]?=some true:=fun x=>by
  have h1:=tO hz x
  have h2:=aS2 hp hS ho hall hin x
  have h3:=lB ho x.toNat
  rw [show((bF x zl).isSome=true) =inM zl x from rfl,h1,h2]
  refine and_congr_right fun _=>?_
  rw [←h3]
  unfold inK
  rw [List.getD_eq_getElem?_getD]
  cases (bT p)[x.toNat]? with
  |none=>simp
  |some b=>simp
 have his:=pP p
 generalize bT p=is at hinz his ⊢
 have hkeep:∀ {α:Type} (l:List α),l.length=p.funs.length→iE zl 0 l=dN is l:=fun l hl=>aGv zl l is 0 (by omega) (fun j _=>by
  rw [hinz,Nat.zero_add]
  simp)
 have hkz:∀x:Int,x∈zl.map Prod.fst↔x∈bB is 0:=fun x=>by
  rw [←aK4,hinz]
  constructor
  · rintro⟨h0,h1⟩
    have:= (lP is 0 x.toNat).1 h1
    rwa [show(0:Int) + (x.toNat:Int) =x by omega]at this
  · intro h
    have h0:=fC is 0 x h
    refine⟨h0,(lP is 0 x.toNat).2 ?_⟩
    rwa [show(0:Int) + (x.toNat:Int) =x by omega]
 have hzn:pQ zl:=aCx _ _ _ [] _ List.nodup_nil hz
 have hsort:=aK5 hzn hkz
 have hti: (bB is 0).length≤1000000:=by
  have h1:=nA p.funs.length ((bB is 0).map Int.toNat) (List.pairwise_map.2 ((jR is 0).imp_of_mem fun {a b} ha hb h e=>by
   have:=fC is 0 a ha;have:=fC is 0 b hb;omega)) (fun x hx=>by
    obtain⟨y,hy,rfl⟩ :=List.mem_map.1 hx
    have:=fC is 0 y hy;have:=tQ is 0 y hy;omega)
  rw [List.length_map]at h1
  omega
 have hzl:zl.length≤1000000:=by
  have h1:=congrArg List.length hsort
  rw [List.length_mergeSort,List.length_map]at h1
  omega
 have hK:∀ (h:Hp) (r:Nat),h.look r=some (MB zl) →aBu PP 71 [.map r] 70 h (.ilst 1 (List.map aB (bB is 0)) false) h:=fun h r hb=>aQk hzn (fun k hk=>by
  have hk:= (hkz k).1 hk
  have:=fC is 0 k hk;have:=tQ is 0 k hk;omega) hzl hsort.symm h r hb
 have hrl:=aBK is 0
 have hz2:∀i:Int,0≤i→i<p.funs.length→ (eC is 0)[i.toNat]?=some (eX (aCG (eC is 0) 0) i) :=fun i h0 h1=>by
  have h2:=aES (eC is 0) 0 i.toNat
  rw [show(0:Int) + (i.toNat:Int) =i by omega]at h2
  unfold eX
  rw [h2,List.getElem?_eq_getElem (by omega)];rfl
 have hbd:∀i:Int,0≤i→i<p.funs.length→0≤eX (aCG (eC is 0) 0) i∧eX (aCG (eC is 0) 0) i≤1000000:=fun i h0 h1=>by
  have:=aK6 is 0 _ _ (hz2 i h0 h1)
  omega
 have hmf:∀i:Int,0≤i→i<p.funs.length→is[i.toNat]?=some true→eX (kB (bB is 0) 0 []) i=eX (aCG (eC is 0) 0) i:=fun i h0 h1 h2=>by
  have h3:=xI is 0 0 [] i.toNat h2
  rw [show(0:Int) + (i.toNat:Int) =i by omega,hz2 i h0 h1]at h3
  show(bF i _).getD 0=_
  rw [h3];rfl
 have hmf0:∀i:Int,0≤i→i<p.funs.length→0≤eX (kB (bB is 0) 0 []) i∧eX (kB (bB is 0) 0 []) i≤1000000:=fun i h0 h1=>by
  by_cases h2:is[i.toNat]?=some true
  ·rw [hmf i h0 h1 h2];exact hbd i h0 h1
  · have hn:i∉bB is 0:=fun h=>h2 ((lP is 0 i.toNat).2 (by rwa [show(0:Int) + (i.toNat:Int) =i by omega]))
    unfold eX
    rw [aEA _ _ _ _ hn]
    simp [bF]
 have hany:∀ (i:Nat) (x:Node),p.nodes[i]?=some x→_:=fun i x hx=>aKN (C:=numsL 0 p.cons.length) (mc:=sM p.cons.length) hz2 (aIj _) hbd s2 (hnode i x hx) (by
  have h10:=List.all_eq_true.1 s5 x (List.mem_of_getElem? hx)
  simp only [bA,Bool.and_eq_true,decide_eq_true_eq]at h10
  omega)
 have hsub:=nB is p.funs
 have hsf:=rX (pre p p.nodes.length) hsub
 obtain⟨n,hA,hM,hB⟩ :=aCr hp (mf:=aCG (eC is 0) 0) (mc:=sM p.cons.length) (F:=eC is 0) (C:=numsL 0 p.cons.length) (fun i x hx=> (hany i x hx).1) (dN is p.funs) (fun k hk=>hsub.subset hk) 0 (f:=p.nodes.length) (Nat.le_refl _) (hd.sublist hsf) (by have:=hsf.length_le;omega) (fun x hx=>hin x (hsf.subset hx))
 generalize cZ (List.replicate p.nodes.length 0) ((0:Nat) :Int) ((dN is p.funs).map (pre p p.nodes.length)).flatten=to at hA hM hB ⊢
 have hko:iE zl 0 p.funs=dN is p.funs:=hkeep p.funs rfl
 have hsame: (dN is p.funs).map (wB p (aCG (eC is 0) 0) (sM p.cons.length) to p.nodes.length) = (dN is p.funs).map (wB p (kB (bB is 0) 0 []) (sM p.cons.length) to p.nodes.length) :=by
  refine List.map_congr_left fun k hk=>?_
  obtain⟨d,hd1,hd2⟩ :=aBP is p.funs k hk
  obtain⟨k0,k1⟩ :=hp.funs k (List.mem_of_getElem? hd2)
  refine aOm hp p.nodes.length k k0 k1 (by omega) (fun x hx y hy=>?_)
  unfold bN
  split
  · rename_i h4
    split
    ·rfl
    · rename_i hneg
      have hnn:=iT s2 (hnode _ y hy) h4 (by omega)
      rw [hmf _ hnn.1 hnn.2]
      have h1: (bF (d:Int) zl).isSome=true:= (hinz d).2 ⟨by omega,hd1⟩
      have h2:Rea (uA p p.nodes.length 0 p.funs []) p.main (d:Int) := (tO hz d).1 h1
      have h3:=h2.snoc (x:= -1-y.n) ((hrow _ _).2 ⟨x.toNat,y,hy,h4,by omega,rfl,by
       rw [qK hp hS p.nodes.length k k0 k1 (by omega) x hx,hS.root d k hd2]⟩)
      exact((hinz _).1 ((tO hz _).2 h3)).2
  ·rfl
 rw [hsame]at hM hB
 have hnT:oC p zl (kB (bB is 0) 0 []) (sM p.cons.length) to p.nodes.length= ((dN is p.funs).map (wB p (kB (bB is 0) 0 []) (sM p.cons.length) to p.nodes.length)).flatten:=by
  unfold oC;rw [hko]
 have hb: (oC p zl (kB (bB is 0) 0 []) (sM p.cons.length) to p.nodes.length).length≤1000000:=by
  rw [hnT,hB]
  have:=hsf.length_le
  omega
 have hmm:is[p.main.toNat]?=some true:= ((hinz p.main).1 ((tO hz p.main).2 (.refl _))).2
 have hB1:=aSZ hp hnm p.nodes.length (Nat.le_refl _) hr _ zl hz (bB is 0) hti hK (fun i x hx=>by
  have h1:= (hany i x hx).1.1
  refine⟨h1,fun h4 h0=>?_⟩
  have hnn:=iT s2 (hnode i x hx) h4 h0
  have:=hmf0 _ hnn.1 hnn.2
  omega) to n (by omega) hb (by unfold aSf;rw [hko];exact hA) h10
 rw [hnT,hko]at hB1
 exact hB1
end Go.Hb
