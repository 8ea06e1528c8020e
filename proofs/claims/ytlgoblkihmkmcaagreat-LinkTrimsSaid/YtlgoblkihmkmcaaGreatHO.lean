/- A machine on abstract values, its soundness, ways, plain laws. -/
import Derived.Test.YtlgoblkihmkmcaaGreatHF
import Derived.Test.YtlgoblkihmkmcaaGreatHG
import Derived.Test.YtlgoblkihmkmcaaGreatHH
import Derived.Test.YtlgoblkihmkmcaaGreatHJ
import Derived.Test.YtlgoblkihmkmcaaGreatHK
import Derived.Test.YtlgoblkihmkmcaaGreatHM
import Derived.Test.YtlgoblkihmkmcaaGreatHN
set_option linter.defProp false
set_option linter.unusedVariables false
set_option linter.unusedSimpArgs false
set_option linter.unusedSectionVars false
set_option maxRecDepth 100000
set_option maxHeartbeats 4000000
namespace Go.Hb
open AV (ilst keyless keylessL)
open Bool (and_eq_true false_eq_true)
open Int (toNat_natCast)
open List (append_assoc append_nil cons_append countP flatten_cons getD_eq_getElem?_getD getElem?_cons_succ getElem?_cons_zero getElem?_eq_getElem getElem?_map getElem?_of_mem length length_append length_cons length_map length_set map map_congr_left map_cons map_flatten map_map mem_cons_of_mem mem_cons_self mem_of_getElem? nil_append pairwise_cons range replicate set)
open Go.Proofs Tryz
noncomputable section
def rowOf (mn:List (Int×List Int))(f:Int) :List Int:= (dE f mn).getD []
inductive Rea (mn:List (Int×List Int)) :Int→Int→Prop
 |refl (f:Int) :Rea mn f f
 |step {f g x:Int}:g∈rowOf mn f→Rea mn g x→Rea mn f x
abbrev inM (m:List (Int×Bool))(x:Int) :Prop:= (dE x m).isSome=true
structure Step (mn:List (Int×List Int)) (m m':List (Int×Bool)) :Prop where
 more:∀x,inM m x→inM m' x
 full:∀x,inM m' x→inM m x∨∀g∈rowOf mn x,inM m' g
theorem Step.refl (mn:List (Int×List Int))(m:List (Int×Bool)) :Step mn m m:= ⟨fun _ h=>h,fun _ h=>.inl h⟩
theorem Step.trans {mn:List (Int×List Int)}{a b c:List (Int×Bool)}(h:Step mn a b)(g:Step mn b c) :Step mn a c:=
 ⟨fun x hx=>g.more x (h.more x hx),fun x hx=>by
  rcases g.full x hx with q|q
  · rcases h.full x q with r|r
    ·exact .inl r
    ·exact .inr fun y hy=>g.more y (r y hy)
  ·exact .inr q⟩
theorem Rea.snoc {mn:List (Int×List Int)}{f g x:Int}(h:Rea mn f g)(hx:x∈rowOf mn g) :Rea mn f x:=by
 induction h with
 |refl f=>exact .step hx (.refl _)
 |step h1 _ ih=>exact .step h1 (ih hx)
theorem iO {p:Prog}(hf:aP p=true) :0≤p.main∧p.main<p.funs.length:=by
 simp only [aP,and_eq_true,eF,inB_iff]at hf;omega
theorem mF :∀ (is:List Bool) (b:Int),(fA is b).Pairwise (fun x y=>x<y)
 | [],_=>List.Pairwise.nil
 | c::t,b=>by
  simp only [fA];split
  ·exact List.Pairwise.cons (fun x hx=>by have:=kY t (b+1) x hx;omega) (mF t (b+1))
  ·exact mF t (b+1)
def zU :List Int→Int→List (Int×Int)
 | [],_=>[]
 |a::t,i=> (i,a) ::zU t (i+1)
theorem aHr :∀ (F:List Int) (b:Int) (j:Nat),dE (b+ (j:Int)) (zU F b) =F[j]?
 | [],_,_=>by simp [zU,dE]
 |a::t,b,0=>by simp [zU,dE]
 | a::t,b,j+1=>by
  simp only [zU,dE];rw [if_neg (by omega),show b+ ((j+1:Nat) :Int) = (b+1) + (j:Int)by omega,aHr t (b+1) j];simp
theorem aOy :∀ (is:List Bool) (n:Int) (j:Nat) (r:Int),(dQ is n)[j]?=some r→n≤r∧r≤n+is.length
 | [],n,j,r,h=>by simp [dQ]at h
 | b::t,n,0,r,h=>by
  simp only [dQ,getElem?_cons_zero,Option.some.injEq]at h;subst h;simp only [length_cons];omega
 | b::t,n,j+1,r,h=>by
  simp only [dQ,getElem?_cons_succ]at h;have:=aOy t _ j r h;simp only [length_cons];split at this<;>omega
theorem lM {α:Type}:∀ (is:List Bool) (l:List α),(aO is l).Sublist l
 | [],l=>by simp [aO]
 |true::bs,[] =>by simp [aO]
 |false::bs,[] =>by simp [aO]
 |true::bs,x::t=>by rw [aO];exact(lM bs t).cons_cons x
 |false::bs,x::t=>by rw [aO];exact(lM bs t).cons x
theorem aHs {α β:Type}(f:α→List β) :∀ {l l':List α},l.Sublist l'→ ((l.map f).flatten).Sublist ((l'.map f).flatten) :=fun h=>by
 induction h with
 |slnil=>exact List.Sublist.refl _
 |cons a _ ih=>rw [map_cons,flatten_cons];exact ih.trans (List.sublist_append_right _ _)
 |cons_cons a _ ih=>rw [map_cons,flatten_cons,map_cons,flatten_cons];exact(List.Sublist.refl _).append ih
theorem aDX {α:Type}:∀ (is:List Bool) (l:List α) (x:α),x∈aO is l→∃d:Nat,is[d]?=some true∧l[d]?=some x
 | [],l,x,h=>by simp [aO]at h
 |true::bs,[],x,h=>by simp [aO]at h
 |false::bs,[],x,h=>by simp [aO]at h
 | true::bs,y::t,x,h=>by
  rw [aO]at h;rcases List.mem_cons.1 h with rfl|h
  ·exact⟨0,rfl,rfl⟩
  · obtain⟨d,h1,h2⟩ :=aDX bs t x h;exact⟨d+1,h1,h2⟩
 | false::bs,y::t,x,h=>by
  rw [aO]at h;obtain⟨d,h1,h2⟩ :=aDX bs t x h;exact⟨d+1,h1,h2⟩
theorem aCW {p:Prog}(h320:p.funs.length≤320){x:Node}(h:bJ p x=true)(h4:x.op=4)(h0:x.n<0) :0≤ -1-x.n∧ -1-x.n<p.funs.length:=by
 simp only [bJ,and_eq_true,fJ,bP,h4]at h;have h1:=h.1.1.1;simp [inB_iff]at h1;omega
def fsT (p:Prog) :List Int:=aO (aX p) p.funs
def LT (p:Prog) :List Int:= ((fsT p).map (pre p p.nodes.length)).flatten
def toT (p:Prog) :List Int:=eI (replicate p.nodes.length 0) ((0:Nat) :Int) (LT p)
structure RF (p:Prog) (is:List Bool) :Prop where
 len:is.length=p.funs.length
 main:is[p.main.toNat]?=some true
 step:∀ (d i:Nat) (x:Node),is[d]?=some true→p.nodes[i]?=some x→x.op=4→x.n<0→ (lO p)[i]?=some (d:Int) →is[(-1-x.n).toNat]?=some true
 rea:∀d:Nat,is[d]?=some true→ReaN p (lO p) d
theorem inK_iff {l:List Bool}{x:Nat}:inK l x↔l[x]?=some true:=by
 unfold inK;rw [getD_eq_getElem?_getD];cases l[x]? with
 |none=>simp
 |some b=>simp
theorem oI {p:Prog}(h:Fs p) :RF p (aX p) :=by
 have hmain:=iO h.fo;have ho:=aCV h.sm h.fo (fun i x hx=> (h.node i x hx).1) hmain;refine⟨nC p,inK_iff.1 ((qQ ho _).2 .main),fun d i x hd hx h4 h0 e=>?_,fun d hd=> (qQ ho d).1 (inK_iff.2 hd)⟩;refine inK_iff.1 ((qQ ho _).2 (.step hx h4 h0 ?_));rw [getD_eq_getElem?_getD,e];exact(qQ ho d).1 (inK_iff.2 hd)
def aJq :List Bool→List Int→List Int
 |b::t,r::s=> (if b=true then r else 0) ::aJq t s
 |_,_=>[]
theorem aJr :∀ (is:List Bool) (rs:List Int) (j:Nat) (b:Bool) (r:Int),is[j]?=some b→rs[j]?=some r→ (aJq is rs)[j]?=some (if b=true then r else 0)
 | [],_,j,b,r,h,_=>by simp at h
 |b::t,[],j,_,r,_,h=>by simp at h
 | b::t,s::rs,0,_,r,h1,h2=>by
  simp only [getElem?_cons_zero,Option.some.injEq]at h1 h2;subst h1 h2;simp [aJq]
 | b::t,s::rs,j+1,b',r,h1,h2=>by
  simp only [getElem?_cons_succ]at h1 h2;simp only [aJq,getElem?_cons_succ];exact aJr t rs j b' r h1 h2
theorem aJs {α:Type}:∀ (is:List Bool) (l:List α) (n:Int) (d:Nat) (x:α) (r:Int),is[d]?=some true→l[d]?=some x→ (dQ is n)[d]?=some r→n≤r∧ (aO is l)[(r-n).toNat]?=some x
 | [],_,n,d,x,r,h,_,_=>by simp at h
 |b::t,[],n,d,x,r,_,h,_=>by simp at h
 | b::t,y::l,n,0,x,r,h1,h2,h3=>by
  simp only [dQ,getElem?_cons_zero,Option.some.injEq]at h1 h2 h3;subst h1 h2 h3;simp [aO]
 | b::t,y::l,n,d+1,x,r,h1,h2,h3=>by
  simp only [dQ,getElem?_cons_succ]at h1 h2 h3;obtain⟨q1,q2⟩ :=aJs t l _ d x r h1 h2 h3;cases b
  case true=>
   simp only [if_true]at q1 q2;refine⟨by omega,?_⟩;rw [aO,show(r-n).toNat= (r- (n+1)).toNat+1 by omega,getElem?_cons_succ];exact q2
  simp only [false_eq_true,if_false]at q1 q2;exact⟨q1,by rw [aO];exact q2⟩
theorem aHt {α:Type}:∀ (is:List Bool) (l:List α) (n:Int) (e:Nat) (x:α),(aO is l)[e]?=some x→∃d:Nat,is[d]?=some true∧l[d]?=some x∧ (dQ is n)[d]?=some (n+e)
 | [],l,n,e,x,h=>by simp [aO]at h
 |true::bs,[],n,e,x,h=>by simp [aO]at h
 |false::bs,[],n,e,x,h=>by simp [aO]at h
 | true::bs,y::t,n,0,x,h=>by
  simp only [aO,getElem?_cons_zero,Option.some.injEq]at h;subst h;exact⟨0,rfl,rfl,by simp [dQ]⟩
 | true::bs,y::t,n,e+1,x,h=>by
  simp only [aO,getElem?_cons_succ]at h;obtain⟨d,h1,h2,h3⟩ :=aHt bs t (n+1) e x h;exact⟨d+1,h1,h2,by simp only [dQ,getElem?_cons_succ,if_true];rw [h3];congr 1;omega⟩
 | false::bs,y::t,n,e,x,h=>by
  simp only [aO]at h;obtain⟨d,h1,h2,h3⟩ :=aHt bs t n e x h;exact⟨d+1,h1,h2,by simp only [dQ,getElem?_cons_succ,false_eq_true,if_false];exact h3⟩
def mfT (p:Prog) :List (Int×Int) :=zU (aJq (aX p) (dQ (aX p) 0)) 0
def bU (p:Prog) :Prog:= ⟨(LT p).map fun k=>fK (mfT p) (sM p.cons.length) (toT p) (nodeAt p k),(fsT p).map (fC (toT p)),iL (mfT p) p.main,p.cons⟩
section
variable {p :Prog}
theorem aLN (h:Fs p){d:Nat}{b:Bool}(hd: (aX p)[d]?=some b) :∃r,(dQ (aX p) 0)[d]?=some r∧iL (mfT p) (d:Int) =if b=true then r else 0:=by
 have hl:= (List.getElem?_eq_some_iff.1 hd).1;obtain⟨r,hr⟩ :∃r,(dQ (aX p) 0)[d]?=some r:= ⟨_,getElem?_eq_getElem (by rw [aDV];exact hl)⟩;refine⟨_,hr,?_⟩;have h1:=aHr (aJq (aX p) (dQ (aX p) 0)) 0 d;rw [aJr _ _ d b _ hd hr,Int.zero_add]at h1;unfold iL mfT;rw [h1];rfl
theorem tO (h:Fs p){d:Nat}{r:Int}(hd: (aX p)[d]?=some true)(hf:p.funs[d]?=some r) :0≤iL (mfT p) (d:Int) ∧ (fsT p)[(iL (mfT p) (d:Int)).toNat]?=some r:=by
 obtain⟨q,h1,h2⟩ :=aLN h hd;rw [if_pos rfl]at h2;rw [h2];have:=aJs (aX p) p.funs 0 d r q hd hf h1;rw [Int.sub_zero]at this;exact this
theorem aSr (h:Fs p){e:Nat}{r:Int}(he: (fsT p)[e]?=some r) :∃d:Nat,(aX p)[d]?=some true∧p.funs[d]?=some r∧iL (mfT p) (d:Int) =e:=by
 obtain⟨d,h1,h2,h3⟩ :=aHt (aX p) p.funs 0 e r he;obtain⟨q,h4,h5⟩ :=aLN h h1;rw [if_pos rfl]at h5;rw [h3]at h4;cases h4;exact⟨d,h1,h2,by rw [h5];omega⟩
theorem aOz (h:Fs p) :MapsOk p (bU p) (mfT p) (sM p.cons.length) :=by
 have R:=oI h;have hm:=iO h.fo;have hmain:∃r,p.funs[p.main.toNat]?=some r:= ⟨_,getElem?_eq_getElem (by omega)⟩;obtain⟨r0,hr0⟩ :=hmain;have h0:= (tO h R.main hr0).2;have hpos:= (List.getElem?_eq_some_iff.1 h0).1;have hlen: (bU p).funs.length= (fsT p).length:=length_map ..;refine⟨fun i h0 h1=>?_,fun i d hd=>?_⟩
 · have hlr:i.toNat< (aX p).length:=by rw [R.len];omega
   obtain⟨b,hb⟩ :∃b,(aX p)[i.toNat]?=some b:= ⟨_,getElem?_eq_getElem hlr⟩;have hlf:i.toNat<p.funs.length:=by omega
   obtain⟨rf,hfi⟩ :∃b,p.funs[i.toNat]?=some b:= ⟨_,getElem?_eq_getElem hlf⟩;rw [hlen];cases hq:b
   case true=>
    rw [hq]at hb;have:=tO h hb hfi;rw [show((i.toNat:Nat) :Int) =i by omega]at this;have:= (List.getElem?_eq_some_iff.1 this.2).1;omega
   rw [hq]at hb;obtain⟨q,_,h5⟩ :=aLN h hb;rw [show((i.toNat:Nat) :Int) =i by omega]at h5;simp only [false_eq_true,if_false]at h5;omega
 · have:= (List.getElem?_eq_some_iff.1 hd).1;rw [aIZ (by omega) (by omega)];exact⟨by omega,by rw [toNat_natCast];exact hd⟩
theorem aRf (p:Prog) : (LT p).Sublist (dY p) :=aHs _ (lM _ _)
theorem bFJ (h:Fs p) : (LT p).Nodup:=h.dup.sublist (aRf p)
theorem aJt (h:Fs p){k:Int}(hk:k∈LT p) :0≤k∧k<p.nodes.length:=h.into k ((aRf p).subset hk)
theorem aDY (h:Fs p){k:Int}(hk:k∈fsT p) :0≤k∧k<p.nodes.length:=by
 have:=h.fine.funs k ((lM _ _).subset hk);omega
theorem aOA (h:Fs p) :KidsAfter p (LT p) :=KidsAfter.flatten fun l hl=>by
 obtain⟨k,hk,rfl⟩ :=List.mem_map.1 hl;have:=aDY h hk;exact aDF h.fine _ k this.1 this.2 (by omega)
theorem aDZ (h:Fs p){i:Nat}{k:Int}(hk: (LT p)[i]?=some k) :fC (toT p) k= (i:Int) :=by
 have:=aAl (LT p) (replicate p.nodes.length 0) ((0:Nat) :Int) (bFJ h) (fun x hx=>by rw [List.length_replicate];exact aJt h hx) i k hk;unfold toT;rw [this];simp
theorem aLO (h:Fs p){i:Nat}{k:Int}(hk: (LT p)[i]?=some k) : (bU p).nodes[i]?=some (fK (mfT p) (sM p.cons.length) (toT p) (nodeAt p k)) :=by
 show((LT p).map _)[i]?=_;rw [getElem?_map,hk];rfl
theorem aYn (h:Fs p){k c:Int}(hk:k∈LT p)(hc:c∈cT p k) :c∈LT p:=by
 obtain⟨i,hi⟩ :=getElem?_of_mem hk;obtain⟨j,_,hj⟩ :=aOA h i k c hi hc;exact mem_of_getElem? hj
theorem aYo (h:Fs p) :∀ (f:Nat) (k:Int),k∈LT p→p.nodes.length-k.toNat≤f→pre (bU p) f (fC (toT p) k) = (pre p f k).map (fC (toT p))
 |0,k,hk,h2=>by have:=aJt h hk;omega
 | f+1,k,hk,h2=>by
  obtain⟨k0,k1⟩ :=aJt h hk;obtain⟨x,hx⟩ :∃x,p.nodes[k.toNat]?=some x:= ⟨_,getElem?_eq_getElem (by omega)⟩;obtain⟨i,hi⟩ :=getElem?_of_mem hk;have g1:=aLO h hi;rw [fD hx]at g1;have g0: (bU p).nodes[(fC (toT p) k).toNat]?=some (fK (mfT p) (sM p.cons.length) (toT p) x) :=by rw [aDZ h hi,toNat_natCast];exact g1
  rw [pre,pre,hx,g0];simp only [map_cons,map_flatten,map_map,fK];congr 2;refine map_congr_left (fun c hc=>?_);have h3:= (h.fine.node _ _ hx).2.2 c hc;have hkid:c∈cT p k:=by unfold cT;rw [hx];exact hc
  exact aYo h f c (aYn h hk hkid) (by omega)
theorem aLP (h:Fs p){k:Int}(hk:k∈fsT p) :k∈LT p:=by
 have:=aDY h hk;obtain⟨x,g,_,_,e⟩ :=qN h.fine (f:=p.nodes.length) (a:=k) this.1 this.2 (by omega);exact List.mem_flatten.2 ⟨_,List.mem_map.2 ⟨k,hk,rfl⟩,by rw [e];exact mem_cons_self ..⟩
theorem aSs {α β:Type}(g:α→List β) :∀l:List α,(∀a∈l,1≤ (g a).length) →l.length≤ ((l.map g).flatten).length
 | [],_=>Nat.zero_le _
 | a::l,h=>by
  have h1:=h a (mem_cons_self ..);have:=aSs g l (fun b hb=>h b (mem_cons_of_mem _ hb));simp only [map_cons,flatten_cons,length_append,length_cons];omega
theorem dH (p:Prog) : (bU p).nodes.length= (LT p).length:=length_map ..
theorem trim_node (h:Fs p){i:Nat}{y:Node}(hy: (bU p).nodes[i]?=some y) :∃ (k:Int) (x:Node),(LT p)[i]?=some k∧p.nodes[k.toNat]?=some x∧y=fK (mfT p) (sM p.cons.length) (toT p) x:=by
 have hi:= (List.getElem?_eq_some_iff.1 hy).1;rw [dH]at hi;obtain⟨k,hk⟩ :∃k,(LT p)[i]?=some k:= ⟨_,getElem?_eq_getElem hi⟩;have hin:=aJt h (mem_of_getElem? hk);obtain⟨x,hx⟩ :∃x,p.nodes[k.toNat]?=some x:= ⟨_,getElem?_eq_getElem (by omega)⟩;have g:=aLO h hk;rw [hy,fD hx]at g;cases g;exact⟨_,x,hk,hx,rfl⟩
theorem aJu (h:Fs p){i:Nat}{y:Node}(hy: (bU p).nodes[i]?=some y) :∀k∈y.kids,(i:Int) <k∧k< (LT p).length:=by
 obtain⟨k,x,hk,hx,rfl⟩ :=trim_node h hy;intro c hc;simp only [fK]at hc;obtain⟨c0,hc0,rfl⟩ :=List.mem_map.1 hc;have hkid:c0∈cT p k:=by unfold cT;rw [hx];exact hc0
 obtain⟨j,hj,hj2⟩ :=aOA h i k c0 hk hkid;rw [aDZ h hj2];have:= (List.getElem?_eq_some_iff.1 hj2).1;omega
theorem wH (h:Fs p) :∀f∈ (bU p).funs,0≤f∧f< (LT p).length:=fun f hf=>by
 obtain⟨k,hk,rfl⟩ :=List.mem_map.1 (show f∈ (fsT p).map (fC (toT p))from hf);obtain⟨i,hi⟩ :=getElem?_of_mem (aLP h hk);rw [aDZ h hi];have:= (List.getElem?_eq_some_iff.1 hi).1;omega
theorem aRg (h:Fs p) : (LT p).length≤p.nodes.length:=by
 have:= (aRf p).length_le;have:=h.len;unfold dY at *;omega
theorem aUz (h:Fs p) :FineP (bU p) :=by
 have hl:=aRg h;have hs:=h.fine.small;have hk:= (lM (aX p) p.funs).length_le;have hfs:=h.fine.fsmall;have hM:=aOz h;refine⟨by rw [dH];omega,by show((fsT p).map _).length≤320;rw [length_map];unfold fsT;omega,fun i y hy=>?_,fun f hf=>by rw [dH];exact wH h f hf⟩;have hkids:=aJu h hy;obtain⟨k,x,_,hx,e⟩ :=trim_node h hy;have h1:=aGW hM (toT p) (h.node _ _ hx).1;rw [←e]at h1;refine⟨rN h1,?_,fun c hc=>by rw [dH];exact hkids c hc⟩;have:= (h.fine.node _ _ hx).2.1;rw [e];simpa [fK]using this
theorem aUA (h:Fs p) :dY (bU p) = (range (LT p).length).map fun(i:Nat) => (i:Int) :=by
 have hfine:=aUz h;have hl:=aRg h;have e1: (bU p).funs.map (pre (bU p) (bU p).nodes.length) = ((fsT p).map (pre p p.nodes.length)).map (map (fC (toT p))) :=by
  show((fsT p).map (fC (toT p))).map _=_;rw [map_map,map_map];refine map_congr_left (fun k hk=>?_);have hin:=aDY h hk;have hr:=wH h (fC (toT p) k) (List.mem_map.2 ⟨k,hk,rfl⟩);show pre (bU p) (bU p).nodes.length (fC (toT p) k) = (pre p p.nodes.length k).map (fC (toT p));rw [←aYo h p.nodes.length k (aLP h hk) (by omega)];exact tK hfine _ _ _ hr.1 (by rw [dH];exact hr.2) (by omega) (by rw [dH];omega)
 unfold dY;rw [e1,←map_flatten];refine List.ext_getElem? (fun i=>?_);rw [getElem?_map,getElem?_map];show((LT p)[i]?).map _=_;by_cases hi:i< (LT p).length
 · rw [List.getElem?_range hi,getElem?_eq_getElem hi];simp only [Option.map_some];rw [aDZ h (getElem?_eq_getElem hi)]
 ·rw [List.getElem?_eq_none (by omega),List.getElem?_eq_none (by simp;omega)];rfl
theorem aEV (h:Fs p) :Fs (bU p) :=by
 obtain⟨h1,h2,h3,h4,h5,h6,h7⟩ :=h.head;have hM:=aOz h;have hl:=aRg h;have R:=oI h;have hmain:p.funs[p.main.toNat]?=some p.funs[p.main.toNat] :=getElem?_eq_getElem (by omega);have hm:=tO h R.main hmain;rw [show((p.main.toNat:Nat) :Int) =p.main by omega]at hm;have hml:= (List.getElem?_eq_some_iff.1 hm.2).1;have hflen: (bU p).funs.length= (fsT p).length:=length_map ..;refine aCN (N:= (LT p).length) (dH p) (by omega) (by rw [hflen];omega) ?_ hm.1 (by rw [hflen];show iL (mfT p) p.main<_;omega) h6 (fun c hc=> ⟨h7 c hc,h.scons hc⟩) h.names (fun i y hy=>?_) (wH h) (aUA h)
 · rw [hflen];refine aSs _ _ (fun k hk=>?_);have hin:=aDY h hk;obtain⟨x,g,_,_,e⟩ :=qN h.fine (f:=p.nodes.length) (a:=k) hin.1 hin.2 (by omega);rw [e,length_cons];omega
 · have hk:=aJu h hy;obtain⟨k,x,_,hx,e⟩ :=trim_node h hy;rw [e];rw [e]at hk;exact⟨aGW hM (toT p) (h.node _ _ hx).1,aEO (toT p) (h.snode hx),hk⟩
end
section
variable {p :Prog}
theorem aSt (h:Fs p){k:Int}(hk:k∈LT p){x:Node}(hx:p.nodes[k.toNat]?=some x)(h4:x.op=4)(h0:x.n<0) : (aX p)[(-1-x.n).toNat]?=some true:=by
 obtain⟨l,hl,hm⟩ :=List.mem_flatten.1 hk;obtain⟨r,hr,rfl⟩ :=List.mem_map.1 hl;obtain⟨r0,r1⟩ :=aDY h hr;obtain⟨e,he⟩ :=getElem?_of_mem hr;obtain⟨d',h1,h2,h3⟩ :=aSr h he;have hS:=oH h.fo;have o1:=aFq h.fine hS p.nodes.length r r0 r1 (by omega) k hm;rw [hS.root d' r h2]at o1;exact(oI h).step d' _ x h1 hx h4 h0 o1
end
mutual
inductive PatR (pc qc:List Con) :Pat→Pat→Prop
 |mk {f n n':Int} {s s':aB} {ps ps':List Pat} (h1:f≠6→n=n') (h2:f=6→0≤n∧0≤n'∧∃d,pc[n.toNat]?=some d∧qc[n'.toNat]?=some d) (h3:PatsR pc qc ps ps') :PatR pc qc (.mk f n s ps) (.mk f n' s' ps')
inductive PatsR (pc qc:List Con) :List Pat→List Pat→Prop
 |nil:PatsR pc qc [] []
 |cons {q q':Pat} {ps ps':List Pat} (h1:PatR pc qc q q') (h2:PatsR pc qc ps ps') :PatsR pc qc (q::ps) (q'::ps')
end
structure ConR (pc qc:List Con) (y x:Node) :Prop where
 con:x.op=14→0≤x.n∧0≤y.n∧∃d,pc[y.n.toNat]?=some d∧qc[x.n.toNat]?=some d
 eq:x.op≠4→x.op≠14→y.n=x.n
 pats:PatsR pc qc y.pats x.pats
structure EmbP (p q:Prog) (h g:Int→Int) :Prop where
 kid:∀ (k:Int) (x:Node),0≤k→q.nodes[k.toNat]?=some x→0≤h k∧∃y,p.nodes[(h k).toNat]?=some y∧y.op=x.op∧y.kids=x.kids.map h∧ (x.op=4→ (x.n<0→y.n= -1-g (-1-x.n)) ∧ (0≤x.n→y.n=x.n)) ∧ConR p.cons q.cons y x
 funs:∀ (j:Nat) (r:Int),q.funs[j]?=some r→p.funs[(g j).toNat]?=some (h r)
 gpos:∀j:Nat,j<q.funs.length→0≤g j
 mono:∀i j:Nat,i<j→j<q.funs.length→g i<g j
 main:p.main=g q.main
theorem aHu :∀ {l m:List Int},l.Pairwise (fun x y=>x<y) →m.Pairwise (fun x y=>x<y) → (∀x,x∈l↔x∈m) →l=m
 | [],[],_,_,_=>rfl
 | [],b::m,_,_,h=>by have:= (h b).2 (by simp);cases this
 |a::l,[],_,_,h=>by have:= (h a).1 (by simp);cases this
 | a ::l,b::m,h1,h2,h=>by
  rw [pairwise_cons]at h1 h2;have e:a=b:=by
   have ha:= (h a).1 (by simp);have hb:= (h b).2 (by simp);rcases List.mem_cons.1 ha with ha|ha
   ·exact ha
   · rcases List.mem_cons.1 hb with hb|hb
     ·exact hb.symm
     ·have:=h2.1 a ha;have:=h1.1 b hb;omega
  subst e;congr 1;refine aHu h1.2 h2.2 fun x=> ⟨fun hx=>?_,fun hx=>?_⟩
  · rcases List.mem_cons.1 ((h x).1 (mem_cons_of_mem _ hx))with e|e
    ·have:=h1.1 x hx;omega
    ·exact e
  · rcases List.mem_cons.1 ((h x).2 (mem_cons_of_mem _ hx))with e|e
    ·have:=h2.1 x hx;omega
    ·exact e
theorem aYp {g:Int→Int}:∀ {l:List Int},l.Pairwise (fun x y=>x<y) → (∀a∈l,∀b∈l,a<b→g a<g b) → (l.map g).Pairwise (fun x y=>x<y)
 | [],_,_=>List.Pairwise.nil
 | a::l,h,hm=>by
  rw [pairwise_cons]at h;rw [map_cons,pairwise_cons];refine⟨fun b hb=>?_,aYp h.2 fun x hx y hy=>hm x (mem_cons_of_mem _ hx) y (mem_cons_of_mem _ hy)⟩;obtain⟨c,hc,rfl⟩ :=List.mem_map.1 hb;exact hm a (mem_cons_self ..) c (mem_cons_of_mem _ hc) (h.1 c hc)
theorem aD0 {α:Type}(d:α) :∀ (is:List Bool) (l:List α) (b:Int),is.length=l.length→aO is l= (fA is b).map fun i=>l.getD (i-b).toNat d
 | [],[],b,_=>rfl
 | [],_::_,b,h=>by simp at h
 |_::_,[],b,h=>by simp at h
 | c::is,x::l,b,h=>by
  have ih:=aD0 d is l (b+1) (by simpa using h)
  have e: (fA is (b+1)).map (fun i=> (x::l).getD (i-b).toNat d) = (fA is (b+1)).map fun i=>l.getD (i- (b+1)).toNat d:=map_congr_left fun i hi=>by
   have:=kY is (b+1) i hi;rw [show(i-b).toNat= (i- (b+1)).toNat+1 by omega,List.getD_cons_succ]
  cases c
  case true=>
   rw [aO,fA,if_pos rfl,map_cons,e,ih];simp
  rw [aO,fA,if_neg (by simp),e,ih]
theorem hJ {α:Type}{l:List α}{i:Nat}{x d:α}(h:l[i]?=some x) :l.getD i d=x:=by
 rw [getD_eq_getElem?_getD,h];rfl
theorem aRh {p:Prog}(hp:Fs p){i:Nat}(hi:i<p.nodes.length) :∃ (d:Nat) (r:Int),p.funs[d]?=some r∧ (i:Int) ∈pre p p.nodes.length r∧ (lO p)[i]?=some (d:Int) :=by
 obtain⟨j,hj⟩ :=aGU hp.toFm (k:= (i:Int)) (by omega) (by omega);obtain⟨l,hl,hm⟩ :=List.mem_flatten.1 (mem_of_getElem? hj);obtain⟨r,hr,rfl⟩ :=List.mem_map.1 hl;have hS:=oH hp.fo;obtain⟨r0,r1⟩ :=hp.fine.funs r hr;obtain⟨d,hd⟩ :=getElem?_of_mem hr;have o1:=aFq hp.fine hS p.nodes.length r r0 r1 (by omega) _ hm;rw [toNat_natCast,hS.root d r hd]at o1;exact⟨d,r,hd,hm,o1⟩
theorem aYq {p:Prog}(hp:Fs p){d:Nat}{r k:Int}(hd:p.funs[d]?=some r)(hk:k∈pre p p.nodes.length r) : (lO p)[k.toNat]?=some (d:Int) :=by
 have hS:=oH hp.fo;obtain⟨r0,r1⟩ :=hp.fine.funs r (mem_of_getElem? hd);have o1:=aFq hp.fine hS p.nodes.length r r0 r1 (by omega) _ hk;rw [hS.root d r hd]at o1;exact o1
theorem aYr {p:Prog}(hp:Fs p){d e:Nat}{r:Int}(hd:p.funs[d]?=some r)(he:p.funs[e]?=some r) :d=e:=by
 have hS:=oH hp.fo;have h1:=hS.root d r hd;rw [hS.root e r he]at h1;injection h1 with h1;omega
theorem aHv {p:Prog}(hp:Fs p) :OwnsP p (lO p) :=aCV hp.sm hp.fo (fun i x hx=> (hp.node i x hx).1) (iO hp.fo)
theorem aAw {p:Prog}(hp:Fs p)(m:Nat) : (aX p)[m]?=some true↔ReaN p (lO p) m:=inK_iff.symm.trans (qQ (aHv hp) m)
section
variable {p q:Prog} {h g:Int→Int}
theorem EmbP.pre (hq:FineP q)(E:EmbP p q h g) :∀ (f:Nat) (k:Int),0≤k→k<q.nodes.length→q.nodes.length-k.toNat≤f→pre p f (h k) = (pre q f k).map h
 |0,k,h0,h1,h2=>by omega
 | f+1,k,h0,h1,h2=>by
  obtain⟨x,hx⟩ :∃x,q.nodes[k.toNat]?=some x:= ⟨_,getElem?_eq_getElem (by omega)⟩;obtain⟨_,y,g1,_,g2,_⟩ :=E.kid k x h0 hx;rw [Go.Hb.pre,Go.Hb.pre,hx,g1];simp only [map_cons,map_flatten,map_map,g2];congr 2
  exact map_congr_left (fun c hc=>by
   have:= (hq.node _ _ hx).2.2 c hc;exact EmbP.pre hq E f c (by omega) (by omega) (by omega))
variable (hp :Fs p) (hq:Fs q) (E:EmbP p q h g)
include hp hq E
theorem EmbP.lt {k:Int}(h0:0≤k)(h1:k<q.nodes.length) :0≤h k∧h k<p.nodes.length:=by
 obtain⟨x,hx⟩ :∃x,q.nodes[k.toNat]?=some x:= ⟨_,getElem?_eq_getElem (by omega)⟩;obtain⟨g0,y,g1,_⟩ :=E.kid k x h0 hx;have:= (List.getElem?_eq_some_iff.1 g1).1;omega
theorem EmbP.pre' {k:Int}(h0:0≤k)(h1:k<q.nodes.length) :Go.Hb.pre p p.nodes.length (h k) = (Go.Hb.pre q q.nodes.length k).map h:=by
 have h2:=E.lt hp hq h0 h1
 rw [tK hp.fine p.nodes.length (p.nodes.length+q.nodes.length) (h k) h2.1 h2.2 (by omega) (by omega),
  E.pre hq.fine (p.nodes.length+q.nodes.length) k h0 h1 (by omega),
  tK hq.fine (p.nodes.length+q.nodes.length) q.nodes.length k h0 h1 (by omega) (by omega)]
theorem EmbP.glt {j:Nat}(hj:j<q.funs.length) :0≤g j∧g j<p.funs.length:=by
 have h0:=E.gpos j hj;have:= (List.getElem?_eq_some_iff.1 (E.funs j _ (getElem?_eq_getElem hj))).1;omega
theorem EmbP.own {k:Nat}(hk:k<q.nodes.length){j:Nat}(hj: (lO q)[k]?=some (j:Int)) :j<q.funs.length∧ (lO p)[(h k).toNat]?=some (g j) :=by
 obtain⟨d,r,hd,hm,ho⟩ :=aRh hq hk;rw [hj]at ho;have e:j=d:=by injection ho with ho;omega
 subst e;have hjl:= (List.getElem?_eq_some_iff.1 hd).1;obtain⟨r0,r1⟩ :=hq.fine.funs r (mem_of_getElem? hd);have o:=aYq hp (E.funs j r hd) (k:=h k) (by rw [E.pre' hp hq r0 r1];exact List.mem_map.2 ⟨_,hm,rfl⟩);have:=E.gpos j hjl;exact⟨hjl,by rw [o];congr 1;omega⟩
theorem EmbP.rea1 {j:Nat}(hj:ReaN q (lO q) j) :j<q.funs.length∧ReaN p (lO p) (g j).toNat:=by
 induction hj with
 | main=>
  have hm:=iO hq.fo;have e: ((q.main.toNat:Nat) :Int) =q.main:=by omega
  refine⟨by omega,?_⟩;rw [e,←E.main];exact .main
 | step hx h4 h0 _ ih=>
  rename_i i x _;have hn:=aCW (by have:=hq.fine.fsmall;omega) (hq.node _ _ hx).1 h4 h0;have hi:= (List.getElem?_eq_some_iff.1 hx).1;refine⟨by omega,?_⟩;obtain⟨b0,y,b1,b2,_,b3,_⟩ :=E.kid (i:Int) x (by omega) hx;have b4:= (b3 h4).1 h0;have e: (((-1-x.n).toNat:Nat) :Int) = -1-x.n:=by omega
  have hg:=E.gpos (-1-x.n).toNat (by omega);rw [e]at hg ⊢;have e2: (-1-y.n).toNat= (g (-1-x.n)).toNat:=by rw [b4];congr 1;omega
  rw [←e2];refine .step b1 (by rw [b2,h4]) (by omega) ?_;obtain⟨d,r,hd,hm,ho⟩ :=aRh hq hi;have o:= (E.own hp hq hi ho).2;rw [hJ o];rw [hJ ho]at ih;exact ih.2
theorem EmbP.rea2 {m:Nat}(hm:ReaN p (lO p) m) :∃j:Nat,j<q.funs.length∧ (m:Int) =g j∧ReaN q (lO q) j:=by
 induction hm with
 | main=>
  have hm:=iO hq.fo;have hm':=iO hp.fo;have e: ((q.main.toNat:Nat) :Int) =q.main:=by omega
  refine⟨q.main.toNat,by omega,?_,.main⟩;rw [e,←E.main];omega
 | step hx h4 h0 _ ih=>
  rename_i i x _;have hi:= (List.getElem?_eq_some_iff.1 hx).1;obtain⟨d,r,hd,hmem,ho⟩ :=aRh hp hi;rw [hJ ho]at ih;obtain⟨j,j0,j1,j2⟩ :=ih;rw [toNat_natCast]at j1;obtain⟨rj,hrj⟩ :∃r,q.funs[j]?=some r:= ⟨_,getElem?_eq_getElem j0⟩;have hf:=E.funs j rj hrj;rw [←j1,toNat_natCast,hd]at hf;injection hf with hf;obtain⟨r0,r1⟩ :=hq.fine.funs rj (mem_of_getElem? hrj);rw [hf,E.pre' hp hq r0 r1]at hmem;obtain⟨k,hk,hki⟩ :=List.mem_map.1 hmem;obtain⟨k0,k1⟩ :=aQE hq.fine q.nodes.length rj r0 r1 k hk;obtain⟨z,hz⟩ :∃z,q.nodes[k.toNat]?=some z:= ⟨_,getElem?_eq_getElem (by omega)⟩;obtain⟨b0,y,b1,b2,_,b3,_⟩ :=E.kid k z k0 hz;rw [hki,toNat_natCast,hx]at b1;injection b1 with b1;subst b1;have z4:z.op=4:=by rw [←b2,h4]
  have zn:z.n<0:=by
   by_cases zn:z.n<0
   ·exact zn
   ·have:= (b3 z4).2 (by omega);omega
  have b4:= (b3 z4).1 zn;have hn:=aCW (by have:=hq.fine.fsmall;omega) (hq.node _ _ hz).1 z4 zn;have hg:=E.gpos (-1-z.n).toNat (by omega);have e: (((-1-z.n).toNat:Nat) :Int) = -1-z.n:=by omega
  refine⟨(-1-z.n).toNat,by omega,?_,.step hz z4 zn ?_⟩
  · rw [e]at hg ⊢;omega
  · rw [hJ (aYq hq hrj hk)];exact j2
theorem EmbP.reach1 {j:Nat}(hj: (aX q)[j]?=some true) :j<q.funs.length∧ (aX p)[(g j).toNat]?=some true:=by
 obtain⟨h1,h2⟩ :=E.rea1 hp hq ((aAw hq j).1 hj);exact⟨h1,(aAw hp _).2 h2⟩
theorem EmbP.reach2 {m:Nat}(hm: (aX p)[m]?=some true) :∃j:Nat,j<q.funs.length∧ (m:Int) =g j∧ (aX q)[j]?=some true:=by
 obtain⟨j,h1,h2,h3⟩ :=E.rea2 hp hq ((aAw hp m).1 hm);exact⟨j,h1,h2,(aAw hq j).2 h3⟩
theorem EmbP.idx :fA (aX p) 0= (fA (aX q) 0).map g:=by
 have nat:∀ (is:List Bool) (x:Int),x∈fA is 0→∃j:Nat,x=j∧is[j]?=some true:=fun is x hx=>by
  have:=kY is 0 x hx;refine⟨x.toNat,by omega,(oG is 0 x.toNat).2 ?_⟩;rw [show(0:Int) + (x.toNat:Nat) =x by omega];exact hx
 refine aHu (mF _ _) (aYp (mF _ _) fun a ha b hb hab=>?_) fun x=> ⟨fun hx=>?_,fun hx=>?_⟩
 · obtain⟨i,rfl,_⟩ :=nat _ _ ha;obtain⟨j,rfl,hj⟩ :=nat _ _ hb;exact E.mono i j (by omega) (E.reach1 hp hq hj).1
 · obtain⟨m,rfl,hm⟩ :=nat _ _ hx;obtain⟨j,h1,h2,h3⟩ :=E.reach2 hp hq hm;have:= (oG (aX q) 0 j).1 h3;rw [Int.zero_add]at this;exact List.mem_map.2 ⟨_,this,h2.symm⟩
 · obtain⟨y,hy,rfl⟩ :=List.mem_map.1 hx;obtain⟨j,rfl,hj⟩ :=nat _ _ hy;obtain⟨h1,h2⟩ :=E.reach1 hp hq hj;have h3:=E.gpos j h1;have:= (oG (aX p) 0 (g j).toNat).1 h2;rwa [show(0:Int) + ((g j).toNat:Nat) =g j by omega]at this
theorem EmbP.fsT :fsT p= (fsT q).map h:=by
 unfold Go.Hb.fsT;rw [aD0 0 (aX p) p.funs 0 (nC p),aD0 0 (aX q) q.funs 0 (nC q),E.idx hp hq,map_map,map_map];refine map_congr_left fun x hx=>?_;have h0:=kY (aX q) 0 x hx;have h1:= (oG (aX q) 0 x.toNat).2 (by rw [show(0:Int) + (x.toNat:Nat) =x by omega];exact hx);have hl:= (E.reach1 hp hq h1).1;have e: ((x.toNat:Nat) :Int) =x:=by omega
 obtain⟨r,hr⟩ :∃r,q.funs[x.toNat]?=some r:= ⟨_,getElem?_eq_getElem hl⟩;have hf:=E.funs x.toNat r hr;rw [e]at hf;simp only [Function.comp_apply,Int.sub_zero];rw [hJ hf,hJ hr]
theorem EmbP.LT :LT p= (LT q).map h:=by
 unfold Go.Hb.LT;rw [E.fsT hp hq,map_map,map_flatten,map_map];congr 1;refine map_congr_left fun r hr=>?_;obtain⟨r0,r1⟩ :=aDY hq hr;exact E.pre' hp hq r0 r1
theorem EmbP.toT {k:Int}(hk:k∈Go.Hb.LT q) :fC (toT p) (h k) =fC (toT q) k:=by
 obtain⟨i,hi⟩ :=getElem?_of_mem hk;rw [aDZ hq hi,aDZ hp (i:=i) (k:=h k)];rw [E.LT hp hq,getElem?_map,hi];rfl
theorem EmbP.mfT {j:Nat}(hj: (aX q)[j]?=some true) :iL (mfT p) (g j) =iL (mfT q) j:=by
 have hl:= (E.reach1 hp hq hj).1;obtain⟨r,hr⟩ :∃r,q.funs[j]?=some r:= ⟨_,getElem?_eq_getElem hl⟩;obtain⟨h0,h1⟩ :=tO hq hj hr;have h2: (Go.Hb.fsT p)[(iL (Go.Hb.mfT q) j).toNat]?=some (h r) :=by rw [E.fsT hp hq,getElem?_map,h1];rfl
 obtain⟨d,d1,d2,d3⟩ :=aSr hp h2;have:=aYr hp d2 (E.funs j r hr);have hg:=E.gpos j hl;rw [show((d:Nat) :Int) =g j by omega]at d3;rw [d3];omega
theorem EmbP.trim_len : (bU p).nodes.length= (bU q).nodes.length:=by
 rw [dH,dH,E.LT hp hq,length_map]
theorem EmbP.trim_funs : (bU p).funs= (bU q).funs:=by
 show(Go.Hb.fsT p).map (fC (Go.Hb.toT p)) = (Go.Hb.fsT q).map (fC (Go.Hb.toT q));rw [E.fsT hp hq,map_map];exact map_congr_left fun r hr=>E.toT hp hq (aLP hq hr)
theorem EmbP.trim_main : (bU p).main= (bU q).main:=by
 have hm:=iO hq.fo;have e: ((q.main.toNat:Nat) :Int) =q.main:=by omega
 have:=E.mfT hp hq (j:=q.main.toNat) (oI hq).main;rw [e,←E.main]at this;exact this
theorem EmbP.trim_node {i:Nat}{b:Node}(hb: (bU q).nodes[i]?=some b) :∃a,(bU p).nodes[i]?=some a∧a.op=b.op∧a.kids=b.kids∧ (b.op=4→a.n=b.n∧ (b.n<0→ -1-b.n< (bU q).funs.length)) ∧ConR p.cons q.cons a b:=by
 obtain⟨k,x,hk,hx,rfl⟩ :=Go.Hb.trim_node hq hb;have hkm:=mem_of_getElem? hk;obtain⟨k0,k1⟩ :=aJt hq hkm;obtain⟨b0,y,b1,b2,b3,b4,b5⟩ :=E.kid k x k0 hx;have hkp: (Go.Hb.LT p)[i]?=some (h k) :=by rw [E.LT hp hq,getElem?_map,hk];rfl
 have ha:=aLO hp hkp;rw [fD b1]at ha;have hy:= (hp.node _ _ b1).1;have hx1:= (hq.node _ _ hx).1;have py:eJ (sM p.cons.length) y.pats=y.pats:=wF y.pats (kW fun q hq=> ((rN hy).pats q hq).2);have px:eJ (sM q.cons.length) x.pats=x.pats:=wF x.pats (kW fun q hq=> ((rN hx1).pats q hq).2);refine⟨_,ha,b2,?_,fun h4=>?_,?_⟩
 · show y.kids.map _=x.kids.map _;rw [b3,map_map];exact map_congr_left fun c hc=>E.toT hp hq (aYn hq hkm (by unfold cT;rw [hx];exact hc))
 · have h4:x.op=4:=h4;show bN _ _ y.op y.n=bN _ _ x.op x.n∧ (bN _ _ x.op x.n<0→ -1-bN _ _ x.op x.n<_);rw [b2,h4];unfold bN;rw [if_pos rfl,if_pos rfl];by_cases hn:0≤x.n
   · rw [if_pos hn,(b4 h4).2 hn,if_pos hn];exact⟨rfl,fun h=>by omega⟩
   · have hn:x.n<0:=by omega
     have hlow:=aCW (by have:=hq.fine.fsmall;omega) hx1 h4 hn;have hg:=E.gpos (-1-x.n).toNat (by omega);have e: (((-1-x.n).toNat:Nat) :Int) = -1-x.n:=by omega
     have hr:=aSt hq hkm hx h4 hn;have hm:=E.mfT hp hq hr;rw [e]at hg hm;have hyn:= (b4 h4).1 hn;rw [if_neg (by omega),if_neg (by omega),hyn,show -1- (-1-g (-1-x.n)) =g (-1-x.n)by omega,hm];refine⟨rfl,fun _=>?_⟩;obtain⟨r,hr'⟩ :∃r,q.funs[(-1-x.n).toNat]?=some r:= ⟨_,getElem?_eq_getElem (by omega)⟩;have:=tO hq hr hr';rw [e]at this;have h2:= (List.getElem?_eq_some_iff.1 this.2).1;show _< (((Go.Hb.fsT q).map _).length:Int);rw [length_map];omega
 · refine⟨fun h14=>?_,fun h4 h14=>?_,?_⟩
   · have h14:x.op=14:=h14;obtain⟨c0,c1,d,c2,c3⟩ :=b5.con h14;have l2:= (List.getElem?_eq_some_iff.1 c2).1;have l3:= (List.getElem?_eq_some_iff.1 c3).1;have ex:bN (Go.Hb.mfT q) (sM q.cons.length) x.op x.n=x.n:=by
      unfold bN;rw [if_neg (by omega),if_pos h14,aIZ c0 (by omega)]
     have ey:bN (Go.Hb.mfT p) (sM p.cons.length) y.op y.n=y.n:=by
      unfold bN;rw [if_neg (by omega),if_pos (by omega),aIZ c1 (by omega)]
     show 0≤bN _ _ x.op x.n∧0≤bN _ _ y.op y.n∧∃d,p.cons[(bN _ _ y.op y.n).toNat]?=some d∧q.cons[(bN _ _ x.op x.n).toNat]?=some d;rw [ex,ey];exact⟨c0,c1,d,c2,c3⟩
   · have h4:x.op≠4:=h4;have h14:x.op≠14:=h14;show bN _ _ y.op y.n=bN _ _ x.op x.n;unfold bN;rw [b2,if_neg h4,if_neg h14,if_neg h4,if_neg h14];exact b5.eq h4 h14
   · show PatsR _ _ (eJ _ y.pats) (eJ _ x.pats);rw [py,px];exact b5.pats
end
def tot (sz:LUnit→Nat) :List LUnit→Nat
 | [] =>0
 |u::l=>sz u+tot sz l
def mG (sz:LUnit→Nat) :List Bool→List LUnit→Nat→List Int
 |true::is,u::t,o=> (range (sz u)).map (fun j=> ((o+j:Nat) :Int)) ++mG sz is t (o+sz u)
 |false::is,u::t,o=>mG sz is t (o+sz u)
 |_,_,_=>[]
theorem aD1 :∀l:List LUnit,tot (fun u=>u.nodes.length) l=aR l
 | [] =>rfl
 |u::l=>by rw [tot,aR,aD1 l]
theorem aAx :∀l:List LUnit,tot (fun u=> (aC u).length) l= (aN l).length
 | [] =>rfl
 |u::l=>by rw [tot,aAx l,jG,length_append]
theorem aCX (sz:LUnit→Nat) :∀ (is:List Bool) (l:List LUnit) (o:Nat),is.length=l.length→ (mG sz is l o).length=tot sz (aO is l)
 | [],[],_,_=>rfl
 | [],_::_,_,h=>by simp at h
 |_::_,[],_,h=>by simp at h
 |true::is,u::t,o,h=>by rw [mG,aO,tot,length_append,aCX sz is t _ (by simpa using h)];simp
 |false::is,u::t,o,h=>by rw [mG,aO,aCX sz is t _ (by simpa using h)]
theorem aHw (sz:LUnit→Nat) :∀ (i1:List Bool) (b1:List LUnit) (i2:List Bool) (b2:List LUnit) (o:Nat),i1.length=b1.length→mG sz (i1++i2) (b1++b2) o=mG sz i1 b1 o++mG sz i2 b2 (o+tot sz b1)
 | [],[],_,_,o,_=>by simp [mG,tot]
 | [],_::_,_,_,_,h=>by simp at h
 |_::_,[],_,_,_,h=>by simp at h
 | true::i1,u::b1,i2,b2,o,h=>by
  rw [cons_append,cons_append,mG,mG,aHw sz i1 b1 i2 b2 _ (by simpa using h),tot,append_assoc,Nat.add_assoc]
 | false::i1,u::b1,i2,b2,o,h=>by
  rw [cons_append,cons_append,mG,mG,aHw sz i1 b1 i2 b2 _ (by simpa using h),tot,Nat.add_assoc]
theorem aLQ (sz:LUnit→Nat) :∀ (is:List Bool) (l:List LUnit) (o:Nat),∀x∈mG sz is l o,(o:Int) ≤x∧x< ((o+tot sz l:Nat) :Int)
 | [],_,_,x,hx=>by simp [mG]at hx
 |_::_,[],_,x,hx=>by cases ‹Bool› <;>simp [mG]at hx
 | true::is,u::t,o,x,hx=>by
  rw [mG]at hx;rw [tot];rcases List.mem_append.1 hx with h|h
  · obtain⟨j,hj,rfl⟩ :=List.mem_map.1 h;have:=List.mem_range.1 hj;omega
  · have:=aLQ sz is t _ x h;omega
 | false::is,u::t,o,x,hx=>by
  rw [mG]at hx;rw [tot];have:=aLQ sz is t _ x hx;omega
theorem aLR (o n:Nat) : ((range n).map (fun j=> ((o+j:Nat) :Int))).Pairwise (fun x y=>x<y) :=by
 rw [List.pairwise_map];exact List.pairwise_lt_range.imp (fun h=>by omega)
theorem zV (sz:LUnit→Nat) :∀ (is:List Bool) (l:List LUnit) (o:Nat),(mG sz is l o).Pairwise (fun x y=>x<y)
 | [],_,_=>by simp [mG]
 |_::_,[],_=>by cases ‹Bool› <;>simp [mG]
 | true::is,u::t,o=>by
  rw [mG,List.pairwise_append];refine⟨aLR _ _,zV sz is t _,fun a ha b hb=>?_⟩;obtain⟨j,hj,rfl⟩ :=List.mem_map.1 ha;have:=List.mem_range.1 hj;have:=aLQ sz is t _ b hb;omega
 | false::is,u::t,o=>by
  rw [mG];exact zV sz is t _
theorem nD {α:Type}:∀ (is:List Bool) (l a1:List α) (u:α) (a2:List α),is.length=l.length→aO is l=a1++u::a2 →
  ∃i1 i2 b1 b2,is=i1++true::i2∧l=b1++u::b2∧i1.length=b1.length∧aO i1 b1=a1∧aO i2 b2=a2
 | [],[],a1,u,a2,_,h=>by simp [aO]at h
 | [],_::_,_,_,_,h,_=>by simp at h
 |_::_,[],_,_,_,h,_=>by simp at h
 | true::is,x::l,[],u,a2,hl,h=>by
  rw [aO,nil_append,List.cons.injEq]at h;exact⟨[],is,[],l,rfl,by rw [h.1];rfl,rfl,rfl,h.2⟩
 | true::is,x::l,y::a1,u,a2,hl,h=>by
  rw [aO,cons_append,List.cons.injEq]at h;obtain⟨i1,i2,b1,b2,h1,h2,h3,h4,h5⟩ :=nD is l a1 u a2 (by simpa using hl) h.2;exact⟨true::i1,i2,x::b1,b2,by rw [h1];rfl,by rw [h2];rfl,by simp [h3],by rw [aO,h4,h.1],h5⟩
 | false::is,x::l,a1,u,a2,hl,h=>by
  rw [aO]at h;obtain⟨i1,i2,b1,b2,h1,h2,h3,h4,h5⟩ :=nD is l a1 u a2 (by simpa using hl) h;exact⟨false::i1,i2,x::b1,b2,by rw [h1];rfl,by rw [h2];rfl,by simp [h3],by rw [aO,h4],h5⟩
theorem aSu (sz:LUnit→Nat){i1 i2:List Bool}{b1 b2:List LUnit}{u:LUnit}(hl:i1.length=b1.length){j:Nat}(hj:j<sz u) :
  (mG sz (i1++true::i2) (b1++u::b2) 0)[tot sz (aO i1 b1) +j]?=some ((tot sz b1+j:Nat) :Int) :=by
 rw [aHw sz i1 b1 _ _ 0 hl,←aCX sz i1 b1 0 hl,List.getElem?_append_right (by omega),mG,List.getElem?_append_left (by simp;omega),Nat.add_sub_cancel_left,
  getElem?_map,List.getElem?_range (by omega)]
 simp
def atL (l:List Int)(k:Int) :Int:=l.getD k.toNat 0
theorem aFr :∀ (l:List LUnit) (i:Nat),i< (aN l).length→∃l1 u l2 j,l=l1++u::l2∧j< (aC u).length∧i= (aN l1).length+j
 | [],i,h=>by simp [aN]at h
 | u ::l,i,h=>by
  rw [jG,length_append]at h;by_cases hi:i< (aC u).length
  ·exact⟨[],u,l,i,rfl,hi,by simp [aN]⟩
  · obtain⟨l1,v,l2,j,h1,h2,h3⟩ :=aFr l (i- (aC u).length) (by omega);exact⟨u::l1,v,l2,j,by rw [h1];rfl,h2,by rw [jG,length_append];omega⟩
theorem aSv (l1 l2:List LUnit)(u:LUnit){j:Nat}(hj:j< (aC u).length) : (aN (l1++u::l2))[(aN l1).length+j]?= (aC u)[j]?:=by
 have e:aN (l1++u::l2) =aN l1++ (aC u++aN l2) :=by simp [aN]
 rw [e,List.getElem?_append_right (by omega),Nat.add_sub_cancel_left,List.getElem?_append_left hj]
theorem aOB (l1 l2:List LUnit)(u:LUnit){j:Nat}(hj:j< (aC u).length) : (kL 0 (l1++u::l2))[(aN l1).length+j]?= (aIa (aR l1) u)[j]?:=by
 rw [aJi,kL,←lL l1 0,List.getElem?_append_right (by omega),Nat.add_sub_cancel_left,List.getElem?_append_left (by rw [←aG5];exact hj),Nat.zero_add]
mutual
theorem bFK {uc pc qc:List Con}{mp mq:List (Int×Int)}(hp:∀ (i:Nat) (d:Con),uc[i]?=some d→0≤iL mp i∧pc[(iL mp i).toNat]?=some d)(hq:∀ (i:Nat) (d:Con),uc[i]?=some d→0≤iL mq i∧qc[(iL mq i).toNat]?=some d) :
  ∀q:Pat,cM uc q=true→PatR pc qc (qS mp q) (qS mq q)
 | .mk f n s ps,h=>by
  rw [cM,and_eq_true]at h;rw [qS,qS];refine .mk (fun e=>by rw [if_neg e,if_neg e]) (fun e=>?_) (aLS hp hq ps h.2);have h1:=h.1;simp [cX,e,dG]at h1;obtain⟨d,hd⟩ :∃d,uc[n.toNat]?=some d:= ⟨_,getElem?_eq_getElem (by omega)⟩;have a:=hp _ d hd;have b:=hq _ d hd;rw [show((n.toNat:Nat) :Int) =n by omega]at a b;rw [if_pos e,if_pos e];exact⟨a.1,b.1,d,a.2,b.2⟩
theorem aLS {uc pc qc:List Con}{mp mq:List (Int×Int)}(hp:∀ (i:Nat) (d:Con),uc[i]?=some d→0≤iL mp i∧pc[(iL mp i).toNat]?=some d)(hq:∀ (i:Nat) (d:Con),uc[i]?=some d→0≤iL mq i∧qc[(iL mq i).toNat]?=some d) :
  ∀ps:List Pat,bX uc ps=true→PatsR pc qc (eJ mp ps) (eJ mq ps)
 | [],_=>.nil
 | q::ps,h=>by
  rw [bX,and_eq_true]at h;rw [eJ,eJ];exact .cons (bFK hp hq q h.1) (aLS hp hq ps h.2)
end
section
variable {l :List LUnit} {cs cs':List Con} {is:List Bool}
def gU (is:List Bool)(l:List LUnit) :Int→Int:=atL (mG (fun u=> (aC u).length) is l 0)
def hU (is:List Bool)(l:List LUnit) :Int→Int:=atL (mG (fun u=>u.nodes.length) is l 0)
theorem aYs {i1 i2:List Bool}{b1 b2:List LUnit}{u:LUnit}(hl:i1.length=b1.length){j:Nat}(hj:j< (aC u).length) :gU (i1++true::i2) (b1++u::b2) (((aN (aO i1 b1)).length+j:Nat) :Int) = (((aN b1).length+j:Nat) :Int) :=by
 have:=aSu (fun u=> (aC u).length) (i2:=i2) (b2:=b2) (u:=u) hl hj;rw [aAx,aAx]at this;unfold gU atL;rw [toNat_natCast,hJ this]
theorem bEL {i1 i2:List Bool}{b1 b2:List LUnit}{u:LUnit}(hl:i1.length=b1.length){j:Nat}(hj:j<u.nodes.length) :hU (i1++true::i2) (b1++u::b2) ((aR (aO i1 b1) +j:Nat) :Int) = ((aR b1+j:Nat) :Int) :=by
 have:=aSu (fun u=>u.nodes.length) (i2:=i2) (b2:=b2) (u:=u) hl hj;rw [aD1,aD1]at this;unfold hU atL;rw [toNat_natCast,hJ this]
theorem aSw (hl:is.length=l.length){j:Nat}(hj:j< (aN (aO is l)).length) :0≤gU is l j∧ (aN l)[(gU is l j).toNat]?= (aN (aO is l))[j]?:=by
 obtain⟨a1,u,a2,k,h1,h2,h3⟩ :=aFr _ _ hj;obtain⟨i1,i2,b1,b2,e1,e2,e3,e4,e5⟩ :=nD is l a1 u a2 hl h1;rw [h1,h3,e1,e2,←e4,aYs e3 h2,toNat_natCast,aSv b1 b2 u h2,aSv (aO i1 b1) a2 u h2];exact⟨by omega,rfl⟩
theorem aOC (hl:is.length=l.length)(hd: (aN l).Nodup){s:aB}(h:aQ (aN l) s=true)(h':aQ (aN (aO is l)) s=true) :gU is l (mE (aN (aO is l)) [] s) =mE (aN l) [] s:=by
 obtain⟨a0,a1,a2⟩ :=aCT (ls:=[]) h;obtain⟨b0,b1,b2⟩ :=aCT (ls:=[]) h';obtain⟨c0,c1⟩ :=aSw hl (j:= (mE (aN (aO is l)) [] s).toNat) (by omega);rw [b2,show(((mE (aN (aO is l)) [] s).toNat:Nat) :Int) =mE (aN (aO is l)) [] s by omega]at c1;rw [show(((mE (aN (aO is l)) [] s).toNat:Nat) :Int) =mE (aN (aO is l)) [] s by omega]at c0;obtain⟨d1,d2⟩ :=List.getElem?_eq_some_iff.1 c1;obtain⟨e1,e2⟩ :=List.getElem?_eq_some_iff.1 a2;have:= (List.getElem_inj hd).1 (d2.trans e2.symm);omega
theorem aOD (hl:is.length=l.length)(hp:LinkOk l cs)(hq:LinkOk (aO is l) cs') :EmbP (bL l cs) (bL (aO is l) cs') (hU is l) (gU is l) :=by
 have hd:= (jX _).1 hp.differ;have glen: (bL (aO is l) cs').funs.length= (aN (aO is l)).length:=lL _ 0;have ol: (mG (fun u=> (aC u).length) is l 0).length= (aN (aO is l)).length:=by rw [aCX _ is l 0 hl,aAx]
 refine⟨fun k x k0 hx=>?_,fun j r hj=>?_,fun j hj=>?_,fun i j hij hj=>?_,?_⟩
 · have hk:= (List.getElem?_eq_some_iff.1 hx).1;rw [hq.len]at hk;obtain⟨a1,u,a2,j,h1,h2,h3⟩ :=aLL _ _ hk;obtain⟨i1,i2,b1,b2,e1,e2,e3,e4,e5⟩ :=nD is l a1 u a2 hl h1;have huq:u∈aO is l:=by rw [h1];simp
   have hup:u∈l:=by rw [e2];simp
   have hg:=hp.good u hup;have hw:=rS hg;have Lp:=hp.laid e2;have Lq:=hq.laid h1
   have hat:∀ {j:Nat},j<u.nodes.length→hU is l ((aR a1+j:Nat) :Int) = ((aR b1+j:Nat) :Int) :=fun hj=>by
    rw [e1,e2,←e4];exact bEL e3 hj
   have hwl:=hw.len;obtain⟨c,hc⟩ :∃c,(dY (dI u))[j]?=some c:= ⟨_,getElem?_eq_getElem (by rw [hwl];exact h2)⟩;obtain⟨c0,c1⟩ :=hw.into c (mem_of_getElem? hc);obtain⟨p0,p1⟩ :=Lp.atW hw c0 c1;obtain⟨q0,q1⟩ :=Lq.atW hw c0 c1;rw [hw.toL _ j c hc,toNat_natCast]at p1 q1;rw [h3,q1]at hx;injection hx with hx;subst hx;have ek:k= ((aR a1+j:Nat) :Int) :=by omega
   rw [ek,hat h2,toNat_natCast];refine⟨by omega,_,p1,rfl,?_,?_,?_⟩
   · obtain⟨z,hz⟩ :∃z,u.nodes[c.toNat]?=some z:= ⟨_,getElem?_eq_getElem (by have:c<u.nodes.length:=c1;omega)⟩;show(nodeAt (dI u) c).kids.map _= ((nodeAt (dI u) c).kids.map _).map _;rw [fD (p:=dI u) hz,map_map];refine map_congr_left fun d hdk=>?_;have hdr:= (hw.fine.node _ z hz).2.2 d hdk;obtain⟨i,hi⟩ :=hw.mem (k:=d) (by omega) (by omega);have hil:= (List.getElem?_eq_some_iff.1 hi).1;rw [hwl]at hil;simp only [Function.comp_apply];rw [hw.toL _ i d hi,hw.toL _ i d hi,hat hil]
   · intro e4';obtain⟨z,hz⟩ :∃z,u.nodes[c.toNat]?=some z:= ⟨_,getElem?_eq_getElem (by have:c<u.nodes.length:=c1;omega)⟩;rw [fD (p:=dI u) hz]at e4' ⊢;have e4':z.op=4:=e4';have n1:= (tN hg hz).1;simp only [bJ,fJ,and_eq_true]at n1;have n2:=n1.1.1.1;have hwf: (rR u).funs.length=u.funs.length+u.needs.length:=by simp [rR]
     rw [e4']at n2;simp [bP,dG,hwf]at n2;show(bN _ _ z.op z.n<0→bN _ _ z.op z.n= -1-_) ∧ (0≤bN _ _ z.op z.n→bN _ _ z.op z.n=bN _ _ z.op z.n);rw [e4'];unfold bN;rw [if_pos rfl,if_pos rfl];by_cases hn:0≤z.n
     · rw [if_pos hn,if_pos hn];exact⟨fun h=>by omega,fun _=>rfl⟩
     · rw [if_neg hn,if_neg hn];obtain⟨s,s1,s2⟩ :=aLv (T:=aN l) (ls:=[]) (u:=u) (i:= -1-z.n) (by omega) (by omega);obtain⟨s',t1,t2⟩ :=aLv (T:=aN (aO is l)) (ls:=[]) (u:=u) (i:= -1-z.n) (by omega) (by omega);rw [s1]at t1;injection t1 with t1;subst t1;have hsm:=mem_of_getElem? s1;have o1:=hp.own hup hsm;have o2:=hq.own huq hsm;have:=aCT (ls:=[]) o2;have en:=aOC hl hd o1 o2;rw [s2,t2];refine⟨fun _=>?_,fun h=>by omega⟩;have ex: (fK (mfU (aN (aO is l)) [] u) (mcU cs' u) (toL (dI u) (aR a1)) z).n= -1-mE (aN (aO is l)) [] s:=by
        show bN _ _ z.op z.n=_;rw [e4'];unfold bN;rw [if_pos rfl,if_neg hn,t2]
       rw [ex,show -1- (-1-mE (aN (aO is l)) [] s) =mE (aN (aO is l)) [] s by omega,en]
   · obtain⟨z,hz⟩ :∃z,u.nodes[c.toNat]?=some z:= ⟨_,getElem?_eq_getElem (by have:c<u.nodes.length:=c1;omega)⟩;rw [fD (p:=dI u) hz];have n1:= (tN hg hz).1;have hcp:∀ (i:Nat) (d:Con),u.cons[i]?=some d→0≤iL (mcU cs u) (i:Int) ∧cs[(iL (mcU cs u) (i:Int)).toNat]?=some d:=fun i d hd=>aLM hp.cons hup hd;have hcq:∀ (i:Nat) (d:Con),u.cons[i]?=some d→0≤iL (mcU cs' u) (i:Int) ∧cs'[(iL (mcU cs' u) (i:Int)).toNat]?=some d:=fun i d hd=>aLM hq.cons huq hd;refine⟨fun e14=>?_,fun e4' e14=>?_,aLS hcp hcq z.pats (kW fun q hq=> ((rN n1).pats q hq).2)⟩
     · have e14:z.op=14:=e14;simp only [bJ,fJ,and_eq_true]at n1;have n2:=n1.1.1.1;rw [e14]at n2;simp [bP,dG]at n2;have hwc: (rR u).cons.length=u.cons.length:=rfl;obtain⟨d,hd⟩ :∃d,u.cons[z.n.toNat]?=some d:= ⟨_,getElem?_eq_getElem (by omega)⟩;have a:=hcp _ d hd;have b:=hcq _ d hd;rw [show((z.n.toNat:Nat) :Int) =z.n by omega]at a b;show 0≤bN _ _ z.op z.n∧0≤bN _ _ z.op z.n∧∃d,cs[(bN _ _ z.op z.n).toNat]?=some d∧cs'[(bN _ _ z.op z.n).toNat]?=some d;rw [e14];unfold bN;rw [if_neg (by omega),if_pos rfl,if_neg (by omega),if_pos rfl];exact⟨b.1,a.1,d,a.2,b.2⟩
     · have e4':z.op≠4:=e4';have e14:z.op≠14:=e14;show bN _ _ z.op z.n=bN _ _ z.op z.n;unfold bN;rw [if_neg e4',if_neg e14,if_neg e4',if_neg e14]
 · have hj: (kL 0 (aO is l))[j]?=some r:=hj;have hjl:= (List.getElem?_eq_some_iff.1 hj).1;rw [lL]at hjl;obtain⟨a1,u,a2,k,h1,h2,h3⟩ :=aFr _ _ hjl;obtain⟨i1,i2,b1,b2,e1,e2,e3,e4,e5⟩ :=nD is l a1 u a2 hl h1;have hup:u∈l:=by rw [e2];simp
   have hw:=rS (hp.good u hup);rw [h1,h3,aOB a1 a2 u h2]at hj;unfold aIa at hj;rw [getElem?_map]at hj;obtain⟨f,hf,hr⟩ :=Option.map_eq_some_iff.1 hj;have hfr:=hw.fine.funs f (mem_of_getElem? hf);obtain⟨i,hi⟩ :=hw.mem (k:=f) (by omega) (by omega);have hil:= (List.getElem?_eq_some_iff.1 hi).1;rw [hw.len]at hil;have eg:gU is l (j:Int) = (((aN b1).length+k:Nat) :Int) :=by rw [h3,e1,e2,←e4];exact aYs e3 h2
   have eh:hU is l r= ((aR b1+i:Nat) :Int) :=by rw [←hr,hw.toL _ i f hi,e1,e2,←e4];exact bEL e3 hil
   show(kL 0 l)[_]?=_;rw [eg,toNat_natCast,eh]
   conv=>lhs;rw [e2]
   rw [aOB b1 b2 u h2];unfold aIa;rw [getElem?_map,hf,Option.map_some,hw.toL _ i f hi]
 · rw [glen]at hj;exact(aSw hl hj).1
 · rw [glen,←ol]at hj;have:= (List.pairwise_iff_getElem.1 (zV (fun u=> (aC u).length) is l 0)) i j (by omega) hj hij;unfold gU atL;rw [toNat_natCast,toNat_natCast,hJ (getElem?_eq_getElem (by omega)),hJ (getElem?_eq_getElem hj)];exact this
 · have has:∀m:List LUnit,¬cA cV m 0<0→aQ (aN m) cV=true:=fun m h=>by
    cases e:aQ (aN m) cV
    case true=>rfl
    exact absurd ((iK cV m 0).2 e) h
   have num:∀m:List LUnit,aQ (aN m) cV=true→mE (aN m) [] cV=dX cV (aN m) 0:=fun m h=>by
    unfold mE;rw [if_neg];intro g;rw [(nB cV (aN m) 0).1 g]at h;cases h
   have h1:=has _ hp.main;have h2:=has _ hq.main;show dX cV (aN l) 0=gU is l (dX cV (aN (aO is l)) 0);rw [←num _ h1,←num _ h2,aOC hl hd h1 h2]
end
abbrev aRi (a:List LUnit):AV:=.ilst 5 (map LUnit.av a) false
def bGP(a:List LUnit):TS:=cQ PP 20 [(aRi a)] [] 0
def aYt(a:List LUnit):=tT 0 (bGP a)<|gV 7 89 [(aRi a)]<|fun b=>.b 1 5 b (gV 1 90 [(aRi a)]<|fun c=>gE 4 0 (bV c))<|gE 6 0 (bV false)
def bCB:=fun a b c d e f=>aYt a b d|>.t e c f tv
def bCC:=fun a b c d=>aYt a b c|>.f d tv
structure Mover where
 unit:LUnit
 prog:Prog
 names:List aB
def Mover.av (m:Mover) :AV:=.agg [aH m.unit.name,.ilst 2 (map Con.av m.unit.cons) false,.ilst 2 (map LFun.av m.unit.funs) false,.ilst 1 (map aH m.unit.needs) false,.ilst 4 (map Node.av m.unit.nodes) false,.ilst 4 (map Node.av m.prog.nodes) false,.ilst 1 (map aY m.prog.funs) false,.int .i64 m.prog.main,.ilst 2 (map Con.av m.prog.cons) false,.ilst 1 (map aH m.names) false]
abbrev aLT (a:Nat)(b:Node):=oC a [(nI b.op),(nI b.n),(iI b.kids),(iP b.pats)]
abbrev aLU (a:Mover):AV:=.ilst 2 (map LFun.av a.unit.funs) false
abbrev aYu (a:Mover)(b c:Node)(d:List aB):=aD [oC 0 [(aH a.unit.name),(iC a.unit.cons),(aLU a),(iS a.unit.needs),(iN a.unit.nodes),(iN a.prog.nodes),(iI a.prog.funs),(nI a.prog.main),(iC a.prog.cons),(iS a.names)],aLT 1 b,aLT 2 c,oL 3 1 (map aH d)] 4
abbrev aHx (a:Mover):AV:=.agg [(aH a.unit.name),(iC a.unit.cons),(aLU a),(iS a.unit.needs),(iN a.unit.nodes),(iN a.prog.nodes),(iI a.prog.funs),(nI a.prog.main),(iC a.prog.cons),(iS a.names)]
abbrev aLV (a:Nat)(b:Mover):=oC a [(aH b.unit.name),(iC b.unit.cons),(aLU b),(iS b.unit.needs),(iN b.unit.nodes),(iN b.prog.nodes),(iI b.prog.funs),(nI b.prog.main),(iC b.prog.cons),(iS b.names)]
abbrev aD2 (a b:Int)(c:aB)(d:List Pat):AV:=.agg [(nI a),(nI b),(aH c),(iP d)]
def bEM(a:Mover)(b c:Int)(d:aB)(e:List Pat)(f g:Int)(i:aB)(j:List Pat):TS:=cQ PP 103 [(aHx a),(aD2 b c d e),(aD2 f g i j)] [] 0
def aBL(a:Mover)(c d:Int)(e:aB)(b:List Pat)(f g:Int)(i:aB)(j:List Pat)(k:Int):TS:=⟨(tf 103 76 [kp 3 0,kp 4 1,kp 5 2,(6,(bV false)),(58,(nI (b.length:Int))),(59,(nI k))] [kc f103 116,kl f103 116,.inBlock 0,kc f103 15]),[],[aLV 0 a,oC 1 [(nI c),(nI d),(aH e),(iP b)],oC 2 [(nI f),(nI g),(aH i),(iP j)]],3⟩
def bEN(a:Mover)(b c:Int):TS:=cQ PP 28 [(aHx a),(nI b),(nI c)] [] 0
def zW(a:Mover)(m n b c d:Int)(e:List Int)(f:List Pat)(g i:Int)(j:List Int)(k:List Pat)(l:Int):TS:=⟨(tf 28 146 [kp 3 0,(6,(bV false)),kp 7 1,kp 8 2,(108,(nI b)),(109,(nI l))] [kc f28 500,kl f28 500,.inBlock 1,kc f28 63]),[],[aLV 0 a,oC 1 [(nI c),(nI d),(iI e),(iP f)],oC 2 [(nI g),(nI i),(iI j),(iP k)]],3⟩
def aLW(a:Mover)(m n b c d:Int)(e:List Int)(f:List Pat)(g i:Int)(j:List Int)(k:List Pat)(l:Int):TS:=⟨(tf 28 146 [kp 3 0,(6,(bV false)),kp 7 1,kp 8 2,(128,(nI b)),(129,(nI l))] [kc f28 1012,kl f28 1012,.inBlock 3,kc f28 127]),[],[aLV 0 a,oC 1 [(nI c),(nI d),(iI e),(iP f)],oC 2 [(nI g),(nI i),(iI j),(iP k)]],3⟩
def aYv(i:Mover)(b d:Int)(k:aB)(a:List Pat)(j e:Int)(l:aB)(c:List Pat):=tT 0 (bEM i b d k a j e l c)<|.o (.y fun f:Con=>.y fun g:Con=>.i [rn 9,.reg (rd 6 (.b 13 false::.d::.d::.ans (.len (a.length:Int))::.d::.d::.ans (.len (c.length:Int))::rd 3 (.b 22 false::rd 4 (.b 26 true::rd 8 (.b 34 false::rd 4 (.b 38 true::rd 5 (.ans (.idx (Con.av f))::rd 6 (.ans (.idx (Con.av g))::rd 4 []))))))))] [hA ((b != j) =false),hm aE a,hm aE c,hA (((a.length:Int) != (c.length:Int)) =false),hA ((b != 6) =true),hA ((d != e) =false),hA ((b==6) =true),hA (0≤d),.a (((i.unit.cons)[d.toNat]?) =some f) (bS (f:=Con.av)),hA (0≤e),.a (((i.prog.cons)[e.toNat]?) =some g) (bS (f:=Con.av))]<|.b 0 55 (!((bM f.name.length (aA f.name) g.name.length (aA g.name)) && ((f.args==g.args) &&true))) .x<|gm 7 aE a<|.W 4 3 [0,1,2] (aBL i b d k a j e l c 0))<|.o (.i [rn 9,.reg (rd 6 (.b 13 false::.d::.d::.ans (.len (a.length:Int))::.d::.d::.ans (.len (c.length:Int))::rd 3 (.b 22 false::rd 4 (.b 26 true::rd 8 (.b 34 false::rd 4 (.b 38 false::rd 17 []))))))] [hA ((b != j) =false),hm aE a,hm aE c,hA (((a.length:Int) != (c.length:Int)) =false),hA ((b != 6) =true),hA ((d != e) =false),hA ((b==6) =false)]<|gm 7 aE a<|.W 4 3 [0,1,2] (aBL i b d k a j e l c 0))<|.o (.y fun f:Con=>.y fun g:Con=>.i [rn 9,.reg (rd 6 (.b 13 false::.d::.d::.ans (.len (a.length:Int))::.d::.d::.ans (.len (c.length:Int))::rd 3 (.b 22 false::rd 4 (.b 26 false::rd 12 (.b 38 true::rd 5 (.ans (.idx (Con.av f))::rd 6 (.ans (.idx (Con.av g))::rd 4 [])))))))] [hA ((b != j) =false),hm aE a,hm aE c,hA (((a.length:Int) != (c.length:Int)) =false),hA ((b != 6) =false),hA ((b==6) =true),hA (0≤d),.a (((i.unit.cons)[d.toNat]?) =some f) (bS (f:=Con.av)),hA (0≤e),.a (((i.prog.cons)[e.toNat]?) =some g) (bS (f:=Con.av))]<|.b 0 55 (!((bM f.name.length (aA f.name) g.name.length (aA g.name)) && ((f.args==g.args) &&true))) .x<|gm 7 aE a<|.W 4 3 [0,1,2] (aBL i b d k a j e l c 0))<|.i [rn 9,.reg (rd 6 (.b 13 false::.d::.d::.ans (.len (a.length:Int))::.d::.d::.ans (.len (c.length:Int))::rd 3 (.b 22 false::rd 4 (.b 26 false::rd 12 (.b 38 false::rd 17 [])))))] [hA ((b != j) =false),hm aE a,hm aE c,hA (((a.length:Int) != (c.length:Int)) =false),hA ((b != 6) =false),hA ((b==6) =false)]<|gm 7 aE a<|.W 4 3 [0,1,2] (aBL i b d k a j e l c 0)
def bCD:=fun a b c d e f g i j k l m n o=>aYv a b c d e f g i j|>.2|>.1 k l m n o tv
def bCE:=fun a b c d e f g i j k l m n o p q r s t u=>aYv a b c d e f g i j|>.2|>.2|>.1 k l m n o p q r s t|>.f u tv
def aYw(a:Mover)(o p:Int)(q:aB)(c:List Pat)(r s:Int)(t:aB)(d:List Pat)(b:Int):=tT 0 (aBL a o p q c r s t d b)<|gd 5 60 (b< (c.length:Int)) (.y fun e:Int=>.y fun f:Int=>.y fun g:aB=>.y fun i:List Pat=>.y fun j:Int=>.y fun k:Int=>.y fun l:aB=>.y fun m:List Pat=>.y fun n:Bool=>.i [rn 10,.reg (rd 4 (.ans (.idx (Pat.av (Pat.mk e f g i)))::rd 4 [.ans (.idx (Pat.av (Pat.mk j k l m))),.d,.pure (bV n),.d]))] [hA (0≤b),.a (((c)[b.toNat]?) =some (Pat.mk e f g i)) (nW aE),hA (0≤b),.a (((d)[b.toNat]?) =some (Pat.mk j k l m)) (nW aE),hA (Pure PP 103 [(aHx a),(aD2 e f g i),(aD2 j k l m)] (bV n))]<|.b 0 74 (!n) .x<|gw 5 75 (b+1)<|.W 3 3 [0,1,2] (aBL a o p q c r s t d (b+1)))<|gE 7 3 (bV true)
def bCF:=fun b c d e f g i j k l m n o p q r s t u v a w x y z A=>aYw b c d e f g i j k l|>.t v m n o p q r s t u a w a x y|>.f z A tv
def bCG:=fun a b c d e f g i j k l=>aYw a b c d e f g i j k|>.f l tv
def aLX(b:Mover)(g i:Int):=tT 0 (bEN b g i)<|.y fun a:Node=>.y fun c:Node=>.i [rn 6,.reg (rd 4 (.ans (.idx (Node.av a))::rd 5 (.ans (.idx (Node.av c))::rd 5 [])))] [hA (0≤g),.a (((b.unit.nodes)[g.toNat]?) =some a) (bS (f:=Node.av)),hA (0≤i),.a (((b.prog.nodes)[i.toNat]?) =some c) (bS (f:=Node.av)),hr (Node.av c),hr (Node.av c),hr (ilst 4 (jN b.prog.nodes) false),hr (ilst 4 (jN b.prog.nodes) false)]<|.b 9 29 (a.op != c.op) .x<|gl 2 aY a.kids<|gl 2 aY c.kids<|.b 3 38 ((a.kids.length:Int) != (c.kids.length:Int)) .x<|gm 2 aE a.pats<|gm 2 aE c.pats<|.b 3 46 ((a.pats.length:Int) != (c.pats.length:Int)) .x<|.b 10 56 (a.op==4) (gd 6 52 (a.n<0) (.y fun e:List aB=>.y fun d:aB=>.y fun j:aB=>.i [rn 2,.reg (.d::.d::.call (.gl 3 1 0 e.length false) (aYu b a c e)::rd 3 [.app (map aH (e++b.unit.needs)) (e++b.unit.needs).length,.d]),rn 1,.reg (rd 4 (.b 71 false::rd 5 (.ans (.idx (aH d))::rd 5 [.ans (.ix),.ans (.idx (aH j)),.d,.d])))] [hA (Spec PP (.enter 78 [(.agg [(aH b.unit.name),(iC b.unit.cons),(aLU b),(iS b.unit.needs),(iN b.unit.nodes)])]) (aD [aLV 0 b,aLT 1 a,aLT 2 c] 3) (.ret (.gl 3 1 0 e.length false)) (aYu b a c e)),hb aH e,hA (length (e++b.unit.needs) ≤1000000),hc aH e b.unit.needs,he aH e b.unit.needs,hr (ilst 1 (map aH b.unit.needs) false),hr (ilst 1 (map aH b.unit.needs) false),hA (decide (c.n≥0) =false),hA (0≤ (IntKind.i64.wrap ((-1:Int) -c.n))),.a (((b.names)[(IntKind.i64.wrap ((-1:Int) -c.n)).toNat]?) =some d) (bS (f:=aH)),hA (0≤ (IntKind.i64.wrap ((-1:Int) -a.n))),hA ((IntKind.i64.wrap ((-1:Int) -a.n)) < (((e++b.unit.needs).length:Nat) :Int)),.a ((((e++b.unit.needs))[(IntKind.i64.wrap ((-1:Int) -a.n)).toNat]?) =some j) (dN (f:=aH))]<|.b 0 86 (!(bM d.length (aA d) j.length (aA j))) .x<|gm 8 aE a.pats<|.W 4 5 [0,1,2] (zW b g i (a.pats.length:Int) a.op a.n a.kids a.pats c.op c.n c.kids c.pats 0))<|.b 8 87 (a.op==14) (.y fun f:Con=>.y fun d:Con=>.i [rn 2,.reg (rd 5 (.ans (.idx (Con.av f))::rd 6 [.ans (.idx (Con.av d)),.d,.d]))] [hA (0≤a.n),.a (((b.unit.cons)[a.n.toNat]?) =some f) (bS (f:=Con.av)),hA (0≤c.n),.a (((b.prog.cons)[c.n.toNat]?) =some d) (bS (f:=Con.av))]<|.b 0 105 (!((bM f.name.length (aA f.name) d.name.length (aA d.name)) && ((f.args==d.args) &&true))) .x<|gm 8 aE a.pats<|.W 4 3 [0,1,2] (zW b g i (a.pats.length:Int) a.op a.n a.kids a.pats c.op c.n c.kids c.pats 0))<|.b 9 51 (a.n != c.n) .x<|gm 8 aE a.pats<|.W 4 3 [0,1,2] (zW b g i (a.pats.length:Int) a.op a.n a.kids a.pats c.op c.n c.kids c.pats 0))<|.b 14 87 (a.op==14) (.y fun f:Con=>.y fun d:Con=>.i [rn 2,.reg (rd 5 (.ans (.idx (Con.av f))::rd 6 [.ans (.idx (Con.av d)),.d,.d]))] [hA (0≤a.n),.a (((b.unit.cons)[a.n.toNat]?) =some f) (bS (f:=Con.av)),hA (0≤c.n),.a (((b.prog.cons)[c.n.toNat]?) =some d) (bS (f:=Con.av))]<|.b 0 105 (!((bM f.name.length (aA f.name) d.name.length (aA d.name)) && ((f.args==d.args) &&true))) .x<|gm 8 aE a.pats<|.W 4 3 [0,1,2] (zW b g i (a.pats.length:Int) a.op a.n a.kids a.pats c.op c.n c.kids c.pats 0))<|.b 9 51 (a.n != c.n) .x<|gm 8 aE a.pats<|.W 4 3 [0,1,2] (zW b g i (a.pats.length:Int) a.op a.n a.kids a.pats c.op c.n c.kids c.pats 0)
def bCH:=fun a b c d e f g i j k l m n o p q r s t u v w x y z A=>aLX a b c d e j k l m|>.f n|>.f o|>.f p|>.t q|>.t r f g i s t u v w x y z|>.f A tv
def bCI:=fun a b c d e f g i j k l m n o p q=>aLX a b c d e f g i j|>.f k|>.f l|>.f m|>.t n|>.f o|>.f p|>.f q tv
def aYx:=fun a b c d e f g i j k l m n o p q r s t u v=>aLX a b c d e i j k l|>.f m|>.f n|>.f o|>.f p|>.t q f g r s t u|>.f v tv
def aYy:=fun a b c d e f g i j k l m n o p=>aLX a b c d e f g i j|>.f k|>.f l|>.f m|>.f n|>.f o|>.f p tv
def aYz(a:Mover)(f g i j k:Int)(c:List Int)(d:List Pat)(l m:Int)(n:List Int)(e:List Pat)(b:Int):=tT 0 (zW a f g i j k c d l m n e b)<|gd 5 110 (b<i) (.y fun o:Int=>.y fun p:Int=>.y fun q:aB=>.y fun r:List Pat=>.y fun s:Int=>.y fun t:Int=>.y fun u:aB=>.y fun v:List Pat=>.y fun w:Bool=>.i [rn 10,.reg (rd 4 (.ans (.idx (Pat.av (Pat.mk o p q r)))::rd 4 [.ans (.idx (Pat.av (Pat.mk s t u v))),.d,.pure (bV w),.d]))] [hA (0≤b),.a (((d)[b.toNat]?) =some (Pat.mk o p q r)) (nW aE),hA (0≤b),.a (((e)[b.toNat]?) =some (Pat.mk s t u v)) (nW aE),hA (Pure PP 103 [(aHx a),(aD2 o p q r),(aD2 s t u v)] (bV w))]<|.b 0 124 (!w) .x<|gw 5 125 (b+1)<|.W 3 3 [0,1,2] (zW a f g i j k c d l m n e (b+1)))<|gl 7 aY c<|.W 4 3 [0,1,2] (aLW a f g (c.length:Int) j k c d l m n e 0)
def bCJ:=fun b c d e f g i j k l m n o p q r s t u v w x y a z A B C D=>aYz b c d e f g i j k l m n o|>.t y p q r s t u v w x a z a A B|>.f C D tv
def bCK:=fun a b c d e f g i j k l m n o=>aYz a b c d e f g i j k l m n|>.f o tv
def aYA(a:Mover)(j k c l m:Int)(d:List Int)(n:List Pat)(o p:Int)(e:List Int)(q:List Pat)(b:Int):=tT 0 (aLW a j k c l m d n o p e q b)<|gd 5 130 (b<c) (.y fun f:Int=>.y fun g:Int=>.y fun i:Bool=>.i [rn 10,.reg (rd 4 (.ans (.idx (aY f))::rd 4 [.ans (.idx (aY g)),.d,.pure (bV i),.d]))] [hA (0≤b),.a (((d)[b.toNat]?) =some f) (bS (f:=aY)),hA (0≤b),.a (((e)[b.toNat]?) =some g) (bS (f:=aY)),hA (Pure PP 28 [(aHx a),(nI f),(nI g)] (bV i))]<|.b 0 144 (!i) .x<|gw 5 145 (b+1)<|.W 3 3 [0,1,2] (aLW a j k c l m d n o p e q (b+1)))<|gE 7 3 (bV true)
def bCL:=fun b c d e f g i j k l m n o p q r s a t u v w x=>aYA b c d e f g i j k l m n o|>.t s p q r a t a u v|>.f w x tv
def bCM:=fun a b c d e f g i j k l m n o=>aYA a b c d e f g i j k l m n|>.f o tv
theorem aRj (l:List LUnit) :Pure PP 20 [.ilst 5 (map LUnit.av l) false] (.bool (kD l&&gR l)) :=by
 have h0:=aUn l;refine aV (by kernel_rfl) rfl rfl ?_;cases e:kD l
 case false=>rw [e]at h0;exact bCC l false h0 rfl
 rw [e]at h0;have h1:=aXn l (fun u h=>aGL ((aEL e).2 u h));exact bCB l true _ h0 rfl h1
section
variable (l :List LUnit)
end
def ConsTo (uc pc:List Con)(mc:List (Int×Int)) :Prop:=∀ (i:Nat) (d:Con),uc[i]?=some d→0≤iL mc (i:Int) ∧pc[(iL mc (i:Int)).toNat]?=some d
theorem aOE (c:Con) : (!((bM (length c.name) (aA c.name) (length c.name) (aA c.name)) && ((c.args==c.args) &&true))) =false:=by
 rw [eE];simp
theorem ConsTo.at {uc pc:List Con}{mc:List (Int×Int)}(h:ConsTo uc pc mc){n:Int}(h0:0≤n)(h1:n<uc.length) :∃d,uc[n.toNat]?=some d∧0≤iL mc n∧pc[(iL mc n).toNat]?=some d:=by
 have e:uc[n.toNat]?=some (uc[n.toNat]'(by omega)) :=getElem?_eq_getElem (by omega);have:=h n.toNat _ e;rw [show((n.toNat:Nat) :Int) =n by omega]at this;exact⟨_,e,this.1,this.2⟩
section
variable (m :Mover) (mc:List (Int×Int))
end
structure MvOk (m:Mover) (off:Nat) (mf mc:List (Int×Int)) (to:List Int) :Prop where
 good:GoodU m.unit
 laid:Laid m.prog off (dI m.unit) mf mc to
 cons:ConsTo m.unit.cons m.prog.cons mc
 funs:∀i:Int,0≤i→i<m.unit.funs.length+m.unit.needs.length→∃s,(aC m.unit++m.unit.needs)[i.toNat]?=some s∧0≤iL mf i∧iL mf i<1000000∧m.names[(iL mf i).toNat]?=some s
section
variable {m :Mover} {off:Nat} {mf mc:List (Int×Int)} {to:List Int}
abbrev aSx (m:Mover) :AObj:=.cells (putCells .leaf 0 [aH m.unit.name,.ilst 2 (map Con.av m.unit.cons) false,.ilst 2 (map LFun.av m.unit.funs) false,.ilst 1 (map aH m.unit.needs) false,.ilst 4 (map Node.av m.unit.nodes) false,.ilst 4 (map Node.av m.prog.nodes) false,.ilst 1 (map aY m.prog.funs) false,.int .i64 m.prog.main,.ilst 2 (map Con.av m.prog.cons) false,.ilst 1 (map aH m.names) false]) 10 [] false
theorem aYB (x y:Node)(hf:m.unit.funs.length≤1000) :Spec PP (.enter 78 [UAV m.unit]) (aD [(0,aSx m,false),(1,aBa x,false),(2,aBa y,false)] 3) (.ret (.gl 3 1 0 (length (aC m.unit)) false)) (aD [(0,aSx m,false),(1,aBa x,false),(2,aBa y,false),(3,.lst 1 (map aH (aC m.unit)),true)] 4) :=by
 have hs':=aCq (ks:=[]) (n2:=3) (args':=[UAV m.unit]) (lc:=[(0,aSx m,false),(1,aBa x,false),(2,aBa y,false)]) (x:=[(0,aSx m,false),(1,aBa x,false),(2,aBa y,false)])
  (aXi m.unit hf) (by kernel_rfl) (by kernel_rfl) (by kernel_rfl) trivial (by kernel_rfl) (by kernel_rfl) (by kernel_rfl) (by kernel_rfl) ⟨aG _ (fun _=>rfl) _,trivial⟩ (by kernel_rfl)
 exact Eq.mp (by kernel_rfl) hs'
end
theorem aD3 {pc qc:List Con}:∀ps ps':List Pat,PatsR pc qc ps ps'→ps.length=ps'.length
 | [],_,h=>by cases h;rfl
 | q::ps,_,h=>by
  cases h with
  |cons h1 h2=>rw [length_cons,length_cons,aD3 ps _ h2]
structure MvR (m:Mover) :Prop where
 rel:∀ (i:Nat) (x:Node),m.unit.nodes[i]?=some x→∃y,m.prog.nodes[i]?=some y∧y.op=x.op∧y.kids=x.kids∧ (x.op=4→y.n=x.n∧ (x.n<0→ -1-x.n<m.unit.funs.length)) ∧ConR m.unit.cons m.prog.cons x y
 fit:∀ (i:Nat) (x:Node),m.unit.nodes[i]?=some x→x.kids.length≤10∧x.pats.length≤10∧bH x.pats<1000000∧∀c∈x.kids,(i:Int) <c∧c<m.unit.nodes.length
 names:m.names=aC m.unit
 needs:m.unit.needs= []
 fl:m.unit.funs.length≤1000
section
variable {m :Mover}
theorem aOF (f n:Int)(s:aB)(ps:List Pat)(n':Int)(s':aB)(ps':List Pat)(hl:ps.length<1000000)(hall:∀ (i:Nat) (q:Pat),ps[i]?=some q→∃q',ps'[i]?=some q'∧Pure PP 103 [Mover.av m,Pat.av q,Pat.av q'] (.bool true)) :∀ (t:List Pat) (i:Nat),ps.drop i=t →
  Ends PP 0 (aBL m f n s ps f n' s' ps' (i:Int)).as (.ret (.bool true)) (aD [] 0)
 | [],i,h=>by
  have:=bA h;exact bCG m f n s ps f n' s' _ i sd
 | .mk a b c d::t,i,h=>by
  obtain⟨q1,q2,q3⟩ :=aZ h;have hi:= (List.getElem?_eq_some_iff.1 q1).1;obtain⟨⟨a',b',c',d'⟩,h2,hp⟩ :=hall i _ q1;exact(bCF m f n s ps f n' s' _ i a b c d a' b' c' d' true sd sd sd (by simpa using h2) hp rfl sd).ends (aOF f n s ps n' s' ps' hl hall t (i+1) q2)
mutual
theorem bCN :∀q q':Pat,PatR m.unit.cons m.prog.cons q q'→cU q<1000000→Pure PP 103 [Mover.av m,Pat.av q,Pat.av q'] (.bool true)
 | .mk f n s ps,.mk f' n' s' ps',h,hsz=>by
  cases h with
  |mk h1 h2 h3=>
  simp only [cU]at hsz;have:=iW ps;have hlen:=aD3 _ _ h3;refine dP (s:=bEM m f n s ps f n' s' ps') (by kernel_rfl) (by kernel_rfl) (by simp [keylessL,qI,keyless,Mover.av,aH]) (by simp [keyless]) ?_;have hloop:=aOF f n s ps n' s' ps' (by omega) (aHy ps ps' h3 (by omega)) ps 0 rfl;by_cases e:f=6
  · obtain⟨a0,a1,d,d1,d2⟩ :=h2 e;exact(bCE m f n s ps f n' s' ps' d d (by simp) (by rw [hlen];simp) (by simp [e]) (by simp [e]) a0 d1 a1 d2 (aOE d)).ends hloop
  ·exact(bCD m f n s ps f n' s' ps' (by simp) (by rw [hlen];simp) (by simp [e]) (by rw [h1 e];simp) (by simp [e])).ends hloop
theorem aHy :∀ps ps':List Pat,PatsR m.unit.cons m.prog.cons ps ps'→bH ps<1000000→∀ (i:Nat) (q:Pat),ps[i]?=some q→∃q',ps'[i]?=some q'∧Pure PP 103 [Mover.av m,Pat.av q,Pat.av q'] (.bool true)
 | [],_,_,_,i,q,hq=>by simp at hq
 |x::ps,[],h,_,_,_,_=>by cases h
 | x::ps,y::ps',h,hsz,i,q,hq=>by
  cases h with
  |cons h1 h2=>
  rw [bH]at hsz
  match i,hq with
  | 0,hq=>
   simp at hq;subst hq;exact⟨y,rfl,bCN x y h1 (by omega)⟩
  | i+1,hq=>
   simp at hq;obtain⟨q',g1,g2⟩ :=aHy ps ps' h2 (by omega) i q hq;exact⟨q',by simpa using g1,g2⟩
end
theorem bEO (a b:Int)(o n n':Int)(ks:List Int)(ps ps':List Pat)(hk:ks.length≤10)(ih:∀c∈ks,Pure PP 28 [Mover.av m,.int .i64 c,.int .i64 c] (.bool true)) :∀ (t:List Int) (i:Nat),ks.drop i=t →
  Ends PP 0 (aLW m a b ((ks.length:Nat) :Int) o n ks ps o n' ks ps' (i:Int)).as (.ret (.bool true)) (aD [] 0)
 | [],i,h=>by
  have:=bA h;exact bCM m a b _ o n ks ps o n' _ ps' i sd
 | c::t,i,h=>by
  obtain⟨q1,q2,q3⟩ :=aZ h;have hi:= (List.getElem?_eq_some_iff.1 q1).1;exact(bCL m a b _ o n ks ps o n' _ ps' i c c true sd sd sd (by rw [toNat_natCast,q1]) (ih c (mem_of_getElem? q1)) rfl sd).ends (bEO a b o n n' ks ps ps' hk ih t (i+1) q2)
theorem bEP (a b:Int)(o n n':Int)(ks:List Int)(ps ps':List Pat)(hk:ks.length≤10)(hp:ps.length≤10)(hall:∀ (i:Nat) (q:Pat),ps[i]?=some q→∃q',ps'[i]?=some q'∧Pure PP 103 [Mover.av m,Pat.av q,Pat.av q'] (.bool true))(ih:∀c∈ks,Pure PP 28 [Mover.av m,.int .i64 c,.int .i64 c] (.bool true)) :∀ (t:List Pat) (i:Nat),ps.drop i=t →
  Ends PP 0 (zW m a b ((ps.length:Nat) :Int) o n ks ps o n' ks ps' (i:Int)).as (.ret (.bool true)) (aD [] 0)
 | [],i,h=>by
  have:=bA h;exact(bCK m a b _ o n ks ps o n' _ _ i sd).ends (bEO a b o n n' ks ps _ hk ih ks 0 rfl)
 | .mk c d e f::t,i,h=>by
  obtain⟨q1,q2,q3⟩ :=aZ h;have hi:= (List.getElem?_eq_some_iff.1 q1).1;obtain⟨⟨c',d',e',f'⟩,h2,hpp⟩ :=hall i _ q1;exact(bCJ m a b _ o n ks ps o n' _ _ i c d e f c' d' e' f' true sd sd sd (by simpa using h2) hpp rfl sd).ends (bEP a b o n n' ks ps ps' hk hp hall ih t (i+1) q2)
theorem aOG (h:MvR m)(hbig:m.unit.nodes.length<1000000) :∀ (k:Nat) (a:Int),0≤a→a<m.unit.nodes.length→m.unit.nodes.length-a.toNat≤k→Pure PP 28 [Mover.av m,.int .i64 a,.int .i64 a] (.bool true)
 |0,a,h0,h1,h2=>by omega
 | k + 1,a,h0,h1,h2=>by
  obtain⟨x,hx⟩ :∃x,m.unit.nodes[a.toNat]?=some x:= ⟨_,getElem?_eq_getElem (by omega)⟩;obtain⟨y,hy,eo,ek,e4n,hc⟩ :=h.rel _ x hx;obtain⟨k10,p10,psz,hk⟩ :=h.fit _ x hx
  have ih:∀c∈x.kids,Pure PP 28 [Mover.av m,.int .i64 c,.int .i64 c] (.bool true) :=fun c hc=>by
   have:=hk c hc;exact aOG h hbig k c (by omega) this.2 (by omega)
  refine dP (s:=bEN m a a) (by kernel_rfl) (by kernel_rfl) (by simp [keylessL,keyless,Mover.av,aH]) (by simp [keyless]) ?_;have hlen:=aD3 _ _ hc.pats;obtain⟨o',n',ks',ps'⟩ :=y;simp only at eo ek e4n hlen;subst eo;subst ek;have hloop:=bEP a a x.op x.n n' x.kids x.pats ps' k10 p10 (aHy x.pats ps' hc.pats psz) ih x.pats 0 rfl;have el1: (((x.kids.length:Nat) :Int) != ((x.kids.length:Nat) :Int)) =false:=by simp
  have el2: (((x.pats.length:Nat) :Int) != ((ps'.length:Nat) :Int)) =false:=by rw [hlen];simp
  have eo: (x.op != x.op) =false:=by simp
  have hfl:=h.fl;by_cases e4:x.op=4
  · obtain⟨en,hr⟩ :=e4n e4;subst en;by_cases hn:x.n<0
    · have hr:=hr hn;have hun: (aC m.unit).length=m.unit.funs.length:=by simp [aC]
      obtain⟨s,s1⟩ :∃s,(aC m.unit)[(-1-x.n).toNat]?=some s:= ⟨_,getElem?_eq_getElem (by omega)⟩;have w1:IntKind.i64.wrap ((-1:Int) -x.n) = -1-x.n:=by apply wrap64<;>omega
      exact(bCH m a a x ⟨x.op,x.n,x.kids,ps'⟩ (aC m.unit) s s h0 hx h0 hy eo el1 el2 (by simp [e4]) (by simp [hn]) (aYB x _ (by omega)) (by rw [h.needs];simp;omega) (by simp;omega) (by rw [w1];omega) (by rw [w1,h.names];exact s1) (by rw [w1];omega) (by rw [w1,length_append];omega) (by rw [w1,h.needs,append_nil];exact s1) (by rw [eE];simp)).ends hloop
    ·exact(bCI m a a x ⟨x.op,x.n,x.kids,ps'⟩ h0 hx h0 hy eo el1 el2 (by simp [e4]) (by simp;omega) (by simp [e4]) (by simp)).ends hloop
  · by_cases e14:x.op=14
    · obtain⟨a0,a1,d,d1,d2⟩ :=hc.con e14;exact(aYx m a a x ⟨x.op,n',x.kids,ps'⟩ d d h0 hx h0 hy eo el1 el2 (by simp [e4]) (by simp [e14]) a1 d1 a0 d2 (aOE d)).ends hloop
    · have en:=hc.eq e4 e14;simp only at en;exact(aYy m a a x ⟨x.op,n',x.kids,ps'⟩ h0 hx h0 hy eo el1 el2 (by simp [e4]) (by simp [e14]) (by rw [en];simp)).ends hloop
end
abbrev aD4 (a:Prog):AV:=.gl 1 1 0 (set (replicate a.funs.length false) a.main.toNat true).length true
abbrev aYC (a:Prog):AV:=.gl 1 1 0 (replicate a.nodes.length (0:Int)).length true
abbrev aYD (a:Prog):AV:=.gl 1 1 0 (replicate a.funs.length false).length true
abbrev aD5 (a:List Int)(b c:Int):AV:=.gl 1 1 0 (set a b.toNat c).length true
abbrev aLY (a:List Bool):AV:=.ilst 1 (map eP a) false
abbrev kZ(a:Prog):Nat ×AObj×Bool:=oC 0 [(iN a.nodes),(iI a.funs),(nI a.main),(iC a.cons)]
abbrev wI(a:List Node)(b:List Int)(c:Int)(d:List Con):Nat×AObj×Bool:=oC 2 [(.gl 3 4 0 a.length false),(.gl 4 1 0 b.length false),(nI c),(iC d)]
abbrev sN:Nat ×AObj×Bool:=oC 1 [.nils,.nils,(nI 0),.nils]
def aLZ(b:Prog)(c:Int)(a:List Int):TS:=⟨(tf 98 60 [kp 1 0,(2,.nils),(3,(.gl 1 1 0 a.length true)),(4,(nI c))] [kc f98 116,kl f98 116,.inBlock 0,kc f98 15]),[],[kZ b,oL 1 1 (jI a)],2⟩
def aHz(b:Prog)(a:List Int)(c:Int):TS:=⟨(tf 98 60 [kp 1 0,(2,.nils),(3,(.gl 1 1 0 a.length true)),(5,(nI c))] [kc f98 244,kl f98 244,.inBlock 2,kc f98 31]),[],[kZ b,oL 1 1 (jI a)],2⟩
def aL0(b:Prog)(a:List Int)(c d:Int):TS:=⟨(tf 98 60 [kp 1 0,(2,.nils),(3,(.gl 1 1 0 a.length true)),(5,(nI d)),(6,(nI c))] [kc f98 15652,kl f98 15652,.inBlock 4,.inBlock 3,kc f98 979,kl f98 244,.inBlock 2,kc f98 31]),[],[kZ b,oL 1 1 (jI a)],2⟩
def aHA(b:Prog)(c:List Int)(d:Int)(a:List Bool):TS:=⟨(tf 24 60 [kp 1 0,(2,.nils),(3,(.gl 1 1 0 a.length true)),(4,(iI c)),(5,(nI d))] [kc f24 500,kl f24 500,.inBlock 0,kc f24 63]),[],[kZ b,oL 1 1 (map eP a)],2⟩
def aBM(b:Prog)(c:List Int)(d:Int)(a:List Bool)(e:Int):TS:=⟨(tf 24 60 [kp 1 0,(2,.nils),(3,(.gl 1 1 0 a.length true)),(4,(iI c)),(5,(nI e)),(6,(nI d))] [kc f24 32036,kl f24 32036,.inBlock 2,.inBlock 1,kc f24 2003,kl f24 500,.inBlock 0,kc f24 63]),[],[kZ b,oL 1 1 (map eP a)],2⟩
def aYE(a:Prog):TS:=cQ PP 25 [(Prog.av a)] [] 0
def aD6(b:Prog)(c:List Bool)(d e:Int)(a:List Int):TS:=⟨(tf 25 75 [kp 1 0,kp 2 1,(3,(nI 0)),(4,(aLY c)),(5,(.gl 2 1 0 a.length false)),(6,(nI d)),(7,(nI e))] [kc f25 1012,kl f25 1012,.inBlock 0,kc f25 127]),[],[kZ b,sN,oL 2 1 (jI a)],3⟩
def aD7(c:Prog)(d:List Bool)(e:Int)(f:List Con)(g:List Int)(i:Int)(a:List Node)(b:List Int):TS:=⟨(tf 25 75 [kp 1 0,kp 2 1,(3,(nI 0)),(4,(aLY d)),(5,(iI g)),kp 8 2,(9,(nI i))] [kc f25 8180,kl f25 8180,.inBlock 2,kc f25 1023]),[],[kZ c,sN,wI a b e f,oL 3 4 (jN a),oL 4 1 (jI b)],5⟩
def aYF(c:Prog)(d:List Bool)(e:List Int)(f:Int)(g:List Con)(i:Int)(a:List Node)(b:List Int):TS:=⟨(tf 25 75 [kp 1 0,kp 2 1,(3,(nI 0)),(4,(aLY d)),(5,(iI e)),kp 8 2,(9,(nI i))] [kc f25 523557,.inBlock 3,kc f25 32723,kl f25 8180,.inBlock 2,kc f25 1023]),[],[kZ c,sN,wI a b f g,oL 3 4 (jN a),oL 4 1 (jI b)],5⟩
def bCO (a:Prog):=fun b=>(tT 0 (start PP 98 [(Prog.av a)])<|gl 9 Node.av a.nodes<|.i [.mk a.nodes.length] [hr ((a.nodes.length:Nat) :Int),hr ((a.nodes.length:Nat) :Int),hA (a.nodes.length<100000)]<|.i [.lset 1 (jI (replicate a.nodes.length (0:Int)))] [.q (p:=replicate a.nodes.length (aY (0:Int)) = (jI (replicate a.nodes.length (0:Int)))) (aCv _ _ _)]<|.i [.set 10 (aYC a)] [.q (p:=(AV.gl 1 1 0 a.nodes.length true) = (aYC a)) (bD (List.length_replicate ..).symm)]<|.W 9 2 [0,1] (aLZ a 0 (replicate a.nodes.length (0:Int)))) b ⟨kk,trivial⟩
def aYG(d:Prog)(a:Int)(b:List Int):=tT 0 (aLZ d a b)<|gl 6 aY d.funs<|gd 2 15 (a< (d.funs.length:Int)) (gX aY 9 d.funs a<|fun c=>.i [rn 2,.ans (.ix)] [hA (0≤c),hA (c< (b.length:Int))]<|.y fun e:Int=>.i [.st (aY e) (aY a)] [.a (((b)[c.toNat]?) =some e) (dN (f:=aY)),hr (some (aY a))]<|.i [.lset 1 (jI (set b c.toNat a))] [.q (p:=(jI b).set (0+c.toNat) (aY a) = (jI (set b c.toNat a))) (iF _ _ _ _)]<|.i [.set 3 (.gl 1 1 0 (set b c.toNat a).length true)] [.q (p:=(AV.gl 1 1 0 b.length true) = (.gl 1 1 0 (set b c.toNat a).length true)) (bD (length_set ..).symm)]<|.i [.set 18 (.gl 1 1 0 (set b c.toNat a).length true)] [.q (p:=(AV.gl 1 1 0 b.length true) = (.gl 1 1 0 (set b c.toNat a).length true)) (bD (length_set ..).symm)]<|gw 5 17 (a+1)<|.W 3 2 [0,1] (aLZ d (a+1) (set b c.toNat a)))<|.W 9 2 [0,1] (aHz d b 0)
def bCP:=fun a b c d e f g i j k l m=>aYG a b c|>.t f d g i j k e l m ⟨kk,trivial⟩
def bCQ:=fun a b c d=>aYG a b c|>.f d ⟨kk,trivial⟩
def aYH(a:Prog)(b:List Int)(c:Int):=tT 0 (aHz a b c)<|gl 6 Node.av a.nodes<|gd 2 30 (c< (a.nodes.length:Int)) (.W 10 2 [0,1] (aL0 a b 0 c))<|gz 8 2 1 1 aY b true<|gE 0 2 (.ilst 1 (jI b) true)
def bCR:=fun a b c d=>aYH a b c|>.t d ⟨kk,trivial⟩
def bCS:=fun a b c d=>aYH a b c|>.f d tv
def aYI(f:Prog)(a:List Int)(e d:Int):=tT 0 (aL0 f a e d)<|gX Node.av 7 f.nodes d<|fun g=>gl 2 aY g.kids<|gd 2 41 (e< (g.kids.length:Int)) (.y fun b:Int=>.y fun c:Int=>.y fun i:Int=>.i [rn 4,.reg (rd 4 (.ans (.idx (Node.av g))::rd 3 (.ans (.idx (aY b))::rd 3 [.ans (.ix),.ans (.idx (aY c)),.ans (.ix),.st (aY i) (aY c)])))] [hA (0≤d),.a (((f.nodes)[d.toNat]?) =some g) (bS (f:=Node.av)),hA (0≤e),.a (((g.kids)[e.toNat]?) =some b) (bS (f:=aY)),hA (0≤d),hA (d< (a.length:Int)),.a (((a)[d.toNat]?) =some c) (dN (f:=aY)),hA (0≤b),hA (b< (a.length:Int)),.a (((a)[b.toNat]?) =some i) (dN (f:=aY)),hr (some (aY c))]<|.i [.lset 1 (jI (set a b.toNat c))] [.q (p:=(jI a).set (0+b.toNat) (aY c) = (jI (set a b.toNat c))) (iF _ _ _ _)]<|.i [.set 3 (aD5 a b c)] [.q (p:=(AV.gl 1 1 0 a.length true) = (aD5 a b c)) (bD (length_set ..).symm)]<|.i [.set 44 (aD5 a b c)] [.q (p:=(AV.gl 1 1 0 a.length true) = (aD5 a b c)) (bD (length_set ..).symm)]<|.i [.set 54 (aD5 a b c)] [.q (p:=(AV.gl 1 1 0 a.length true) = (aD5 a b c)) (bD (length_set ..).symm)]<|gw 4 43 (e+1)<|.W 3 2 [0,1] (aL0 f (set a b.toNat c) (e+1) d))<|gw 6 32 (d+1)<|.W 3 2 [0,1] (aHz f a (d+1))
def bCT:=fun c d e f g i j k a b l m n o p q r s t=>aYI c d e f g a b|>.t l i j k a b m n a o p q r s t ⟨kk,trivial⟩
def bCU:=fun a b c d e f g i j=>aYI a b c d e f g|>.f i j ⟨kk,trivial⟩
def bCV (a:Prog):=fun b c d e f g i=>(tT 0 (start PP 24 [(Prog.av a)])<|gl 9 aY a.funs<|.i [.mk a.funs.length] [hr (a.funs.length:Int),hr (a.funs.length:Int),hA (a.funs.length<100000)]<|.i [.lset 1 (map eP (replicate a.funs.length false))] [.q (p:=replicate a.funs.length (eP false) = (map eP (replicate a.funs.length false))) (aCv _ _ _)]<|.i [.set 11 (aYD a)] [.q (p:=(AV.gl 1 1 0 a.funs.length true) = (aYD a)) (bD (List.length_replicate ..).symm)]<|.i [rn 7,.ans (.ix)] [hA (0≤a.main),hA (a.main< (((replicate a.funs.length false).length:Nat) :Int))]<|.y fun b:Bool=>.i [.st (eP b) (eP true)] [.a ((((replicate a.funs.length false))[a.main.toNat]?) =some b) (dN (f:=eP)),hr (some (eP true))]<|.i [.lset 1 (map eP (set (replicate a.funs.length false) a.main.toNat true))] [.q (p:=(map eP (replicate a.funs.length false)).set (0+a.main.toNat) (eP true) = (map eP (set (replicate a.funs.length false) a.main.toNat true))) (iF _ _ _ _)]<|.i [.set 11 (aD4 a)] [.q (p:=(AV.gl 1 1 0 (replicate a.funs.length false).length true) = (aD4 a)) (bD (length_set ..).symm)]<|.i [.set 3 (aD4 a)] [.q (p:=(AV.gl 1 1 0 (replicate a.funs.length false).length true) = (aD4 a)) (bD (length_set ..).symm)]<|.i [.set 12 (aD4 a)] [.q (p:=(AV.gl 1 1 0 (replicate a.funs.length false).length true) = (aD4 a)) (bD (length_set ..).symm)]<|.y fun c:List Int=>gp 4 98 [(Prog.av a)] (iI c)<|.W 9 2 [0,1] (aHA a c 0 (set (replicate a.funs.length false) a.main.toNat true))) d e f b g c i ⟨kk,trivial⟩
def aYJ(a:Prog)(d:List Int)(c:Int)(b:List Bool):=tT 0 (aHA a d c b)<|gl 6 aY a.funs<|gd 2 22 (c< (a.funs.length:Int)) (.W 10 2 [0,1] (aBM a d 0 b c))<|gz 8 2 1 1 eP b true<|gE 0 2 (.ilst 1 (map eP b) true)
def bCW:=fun a b c d e=>aYJ a b c d|>.t e ⟨kk,trivial⟩
def bCX:=fun a b c d e=>aYJ a b c d|>.f e tv
def aHB(d:Prog)(e:List Int)(c:Int)(a:List Bool)(f:Int):=tT 0 (aBM d e c a f)<|gl 6 Node.av d.nodes<|gd 2 29 (c< (d.nodes.length:Int)) (gX Node.av 9 d.nodes c<|fun b=>.b 10 40 (b.op==4) (gd 5 45 (b.n<0) (gX aY 3 e c<|fun g=>.i [rn 1,.ans (.ix)] [hA (0≤g),hA (g< (a.length:Int))]<|.y fun i:Bool=>gj eP 0 a g.toNat i<|.b 2 53 i (gw 6 57 ((-1:Int) -b.n)<|.i [.ans (.ix)] [hA (0≤ ((-1:Int) -b.n)),hA (((-1:Int) -b.n) < (a.length:Int))]<|.y fun j:Bool=>.i [.st (eP j) (eP true)] [.a (((a)[((-1:Int) -b.n).toNat]?) =some j) (dN (f:=eP)),hr (some (eP true))]<|.i [.lset 1 (map eP (set a (((-1:Int) -b.n).toNat) true))] [.q (p:=(map eP a).set (0+ ((-1:Int) -b.n).toNat) (eP true) = (map eP (set a (((-1:Int) -b.n).toNat) true))) (iF _ _ _ _)]<|.i [.set 3 (.gl 1 1 0 (set a (((-1:Int) -b.n).toNat) true).length true)] [.q (p:=(AV.gl 1 1 0 a.length true) = (.gl 1 1 0 (set a (((-1:Int) -b.n).toNat) true).length true)) (bD (length_set ..).symm)]<|.i [.set 46 (.gl 1 1 0 (set a (((-1:Int) -b.n).toNat) true).length true)] [.q (p:=(AV.gl 1 1 0 a.length true) = (.gl 1 1 0 (set a (((-1:Int) -b.n).toNat) true).length true)) (bD (length_set ..).symm)]<|.i [.set 54 (.gl 1 1 0 (set a (((-1:Int) -b.n).toNat) true).length true)] [.q (p:=(AV.gl 1 1 0 a.length true) = (.gl 1 1 0 (set a (((-1:Int) -b.n).toNat) true).length true)) (bD (length_set ..).symm)]<|gw 5 31 (c+1)<|.W 3 3 [0,1] (aBM d e (c+1) (set a (((-1:Int) -b.n).toNat) true) f))<|gw 6 31 (c+1)<|.W 3 3 [0,1] (aBM d e (c+1) a f))<|gw 15 31 (c+1)<|.W 3 3 [0,1] (aBM d e (c+1) a f))<|gw 20 31 (c+1)<|.W 3 3 [0,1] (aBM d e (c+1) a f))<|gw 6 24 (f+1)<|.W 3 2 [0,1] (aHA d e (f+1) a)
def bCY:=fun b c d e f g i j k l a m n o p q r s t u v w x y=>aHB b c d e f|>.t l g a m|>.t n|>.t o i a p q r j s|>.t t u v w k x y ⟨kk,trivial⟩
def bCZ:=fun b c d e f g i j k a l m n o p q r s t=>aHB b c d e f|>.t k g a l|>.t m|>.t n i a o p q j r|>.f s t ⟨kk,trivial⟩
def bC0:=fun a b c d e f g i j k l m=>aHB a b c d e|>.t g f i j|>.t k|>.f l m ⟨kk,trivial⟩
def bC1:=fun a b c d e f g i j k l=>aHB a b c d e|>.t g f i j|>.f k l ⟨kk,trivial⟩
def bC2:=fun a b c d e f g=>aHB a b c d e|>.f f g ⟨kk,trivial⟩
def bFL(a:Prog):=tT 0 (aYE a)<|gV 10 22 [(Prog.av a)]<|fun c=>.b 2 12 (!c) (.i [rn 8,.cnilI 1 0 4] []<|.i [.cnilI 1 1 1] []<|.i [.cnilI 1 3 2] []<|gE 0 2 (.tup [(.agg [(.ilst 4 (jN ([] :List Node)) true),(.ilst 1 (jI ([] :List Int)) true),(nI 0),(.ilst 2 (jC ([] :List Con)) true)]),(nI 2)]))<|.y fun b:List Bool=>gp 5 24 [(Prog.av a)] (aLY b)<|.i [rn 17,.nilL 5 1] []<|gu 0 2 (jI ([] :List Int))<|gs 0 5 (.gl 2 1 0 ([] :List Int).length false)<|.W 0 3 [0,1,2] (aD6 a b 0 0 ([] :List Int))
def bC3:=fun a b c d e f=>bFL a b d|>.f e c f ⟨kk,trivial⟩
def aRk(e:Prog)(a:List Bool)(b c:Int)(d:List Int):=tT 0 (aD6 e a b c d)<|gl 5 eP a<|gd 2 19 (c< (a.length:Int)) (ga 9 aY d [b]<|gX eP 6 a c<|fun g=>.b 2 29 g (gw 4 31 (b+1)<|gw 6 21 (c+1)<|.W 3 5 [0,1,4] (aD6 e a (b+1) (c+1) (d++ [b])))<|gw 6 21 (c+1)<|.W 3 5 [0,1,4] (aD6 e a b (c+1) (d++ [b])))<|gz 3 5 2 1 aY d false<|.y fun i:Int=>.y fun f:List Con=>gp 2 99 [(Prog.av e)] (.agg [.nils,.nils,(nI i),(iC f)])<|gX aY 8 d e.main<|fun j=>.i [rn 11,.cnil 3 0 4] []<|gu 0 4 (jN ([] :List Node))<|gv 0 3 0 (.gl 4 4 0 ([] :List Node).length false)<|.i [.cnil 3 1 1] []<|gu 0 5 (jI ([] :List Int))<|gv 0 3 1 (.gl 5 1 0 ([] :List Int).length false)<|.W 0 6 [0,1,3,4,5] (aD7 e a j f d 0 ([] :List Node) ([] :List Int))
def bC4:=fun a b c d e f g i j k l m n=>aRk a b c d e|>.t g i f j k|>.t l m n ⟨kk,trivial⟩
def bC5:=fun a b c d e f g i j k l m=>aRk a b c d e|>.t g i f j k|>.f l m ⟨kk,trivial⟩
def bC6:=fun a b c d e f g i j k l m=>aRk a b c d e|>.f j f g k i l m ⟨kk,⟨kk,trivial⟩⟩
def aRl(d:Prog)(e:List Bool)(f:Int)(g:List Con)(i:List Int)(b:Int)(a:List Node)(c:List Int):=tT 0 (aD7 d e f g i b a c)<|gl 6 aY d.funs<|gd 2 44 (b< (d.funs.length:Int)) (gX eP 8 e b<|fun j=>.b 2 50 j (ga 9 aY c [(a.length:Int)]<|.W 3 7 [0,1,2,3,6] (aYF d e i f g b a (c++ [(a.length:Int)])))<|gw 6 46 (b+1)<|.W 3 5 [0,1,2,3,4] (aD7 d e f g i (b+1) a c))<|gy 9 1 0 3 4 Node.av a false<|gy 0 1 1 4 1 aY c false<|gE 0 5 (.tup [(.agg [(iN a),(iI c),(nI f),(iC g)]),(nI 0)])
def bC7:=fun a b c d e f g i j k l m n o=>aRl a b c d e f g i|>.t k j l m|>.t n o ⟨kk,⟨kk,trivial⟩⟩
def bC8:=fun a b c d e f g i j k l m n o=>aRl a b c d e f g i|>.t k j l m|>.f n o ⟨kk,⟨kk,trivial⟩⟩
def bC9:=fun a b c d e f g i j=>aRl a b c d e f g i|>.f j tv
def bDa (a:Prog)(l:List Bool)(k:List Int)(f:Int)(g:List Con)(i:Int)(b:List Node)(c:List Int):=fun d j e m n o p q=>(tT 0 (aYF a l k f g i b c)<|.y fun d:Int=>.y fun j:List Int=>.y fun e:List Node=>.i [.reg (rd 6 (.ans (.idx (aY d))::rd 4 [.ans (.len (a.cons.length:Int)),.pure (iI j),.call (.gl 5 4 0 (b++e).length false) (aD [kZ a,sN,wI b c f g,oL 4 1 (jI c),oL 5 4 (jN (b++e))] 6),.d,.d]))] [hA (0≤i),.a (((a.funs)[i.toNat]?) =some d) (bS (f:=aY)),hl Con.av a.cons,hA (Pure PP 101 [(nI 0),(nI (a.cons.length:Int))] (iI j)),hA (Spec PP (.enter 100 [(.gl 3 4 0 b.length false),(Prog.av a),(nI d),(iI k),(iI j)]) (aD [kZ a,sN,wI b c f g,oL 3 4 (jN b),oL 4 1 (jI c)] 5) (.ret (.gl 5 4 0 (b++e).length false)) (aD [kZ a,sN,wI b c f g,oL 4 1 (jI c),oL 5 4 (jN (b++e))] 6)),hr (nI d),hr (nI d),hr (ilst 1 (jI a.funs) false),hr (ilst 1 (jI a.funs) false),hr (Prog.av a),hr (Prog.av a),hr (AV.gl 3 4 0 b.length false),hr (AV.gl 3 4 0 b.length false)]<|gw 4 46 (i+1)<|.W 3 6 [0,1,2,5,4] (aD7 a l f g k (i+1) (b++e) c)) d j e m n o p q ⟨kk,⟨kk,trivial⟩⟩
theorem bGQ {p:Prog}(hp:FineP p){i:Nat}{x:Node}(hx:p.nodes[i]?=some x) :∀ (t:List Int) (j:Nat) (l:List Int),l.length=p.nodes.length→x.kids.drop j=t →
  LeadsM PP 0 (aL0 p l (j:Int) (i:Int)).as (aHz p (aHm i t l) ((i:Int) +1)).as
 | [],j,l,hl,h=>by
  have:=bA h;have hi:= (List.getElem?_eq_some_iff.1 hx).1;have hn:=hp.small;exact bCU p l j i x sd sd sd sd
 | k::t,j,l,hl,h=>by
  obtain⟨g1,g2,g3⟩ :=aZ h;obtain⟨hf,hk10,hks⟩ :=hp.node _ _ hx;have hk':=hks k (mem_of_getElem? g1);have hi:= (List.getElem?_eq_some_iff.1 hx).1;have hn:=hp.small;have hli:l[i]?=some (l.getD i 0) :=by rw [getD_eq_getElem?_getD,getElem?_eq_getElem (by omega)];rfl
  obtain⟨y,hy⟩ :∃y,l[k.toNat]?=some y:= ⟨_,getElem?_eq_getElem (by omega)⟩
  exact(bCT p l j i x k (l.getD i 0) y sd sd sd sd sd (by omega) sd (by omega) (by omega) hy sd).trans
   (bGQ hp hx t (j+1) _ (by simpa using hl) g2)
theorem bGR {p:Prog}(hp:FineP p) :∀ (t:List Node) (i:Nat) (l:List Int),l.length=p.nodes.length→p.nodes.drop i=t →
  Ends PP 0 (aHz p l (i:Int)).as (.ret (.ilst 1 (map aY (aE3 t i l)) true)) (aD [] 0)
 | [],i,l,hl,h=>by
  have:=bA h;exact bCS p l i sd
 | x::t,i,l,hl,h=>by
  obtain⟨g1,g2,g3⟩ :=aZ h;exact(bCR p l i sd).ends ((bGQ hp g1 x.kids 0 l hl rfl).ends (bGR hp t (i+1) _ (by rw [aCU,hl]) g2))
theorem bGS {p:Prog}(hp:FineP p) :∀ (t:List Int) (i:Nat) (l:List Int),l.length=p.nodes.length→p.funs.drop i=t →
  Ends PP 0 (aLZ p (i:Int) l).as (.ret (.ilst 1 (map aY (aE3 p.nodes 0 (aIb t i l))) true)) (aD [] 0)
 | [],i,l,hl,h=>by
  have:=bA h;exact(bCQ p i l sd).ends (bGR hp p.nodes 0 l hl rfl)
 | a::t,i,l,hl,h=>by
  obtain⟨g1,g2,g3⟩ :=aZ h;have ha:=hp.funs a (mem_of_getElem? g1);have hf:=hp.fsmall;obtain⟨y,hy⟩ :∃y,l[a.toNat]?=some y:= ⟨_,getElem?_eq_getElem (by omega)⟩;exact(bCP p i l a y sd sd sd (by omega) (by omega) hy sd).ends (bGS hp t (i+1) _ (by simpa using hl) g2)
theorem aYK {p:Prog}(hp:FineP p) :Pure PP 98 [PA p] (.ilst 1 (map aY (lO p)) false) :=by
 refine aV (by kernel_rfl) rfl rfl ?_;have hn:=hp.small;refine Ends.val ?_ (fun E cv=>aGS);exact(bCO p (by omega)).ends (bGS hp p.funs 0 _ (by simp) rfl)
theorem aYL {p:Prog}{own:List Int}(hp:OwnsP p own)(r:Int)(hr:0≤r∧r<1000) :∀ (t:List Node) (i:Nat) (l:List Bool),l.length=p.funs.length→p.nodes.drop i=t →
  LeadsM PP 0 (aBM p own (i:Int) l r).as (aHA p own (r+1) (kM own t i l)).as
 | [],i,l,hl,h=>by
  have:=bA h;exact bC2 p own i l r sd sd
 | x :: t,i,l,hl,h=>by
  obtain⟨g1,g2,g3⟩ :=aZ h;have hn:=hp.small;have hf:=hp.fsmall;have hlen:=hp.len;obtain⟨o1,o2⟩ :=hp.own i g3;have hoi:own[i]?=some (own.getD i 0) :=by rw [getD_eq_getElem?_getD,getElem?_eq_getElem (by omega)];rfl
  rw [kM];generalize own.getD i 0=o at hoi o1 o2 ⊢;have hli:l[o.toNat]?=some (l.getD o.toNat false) :=by rw [getD_eq_getElem?_getD,getElem?_eq_getElem (by omega)];rfl
  by_cases e4:x.op=4
  · by_cases e0:x.n<0
    · have hnm:=hp.name i x g1 e4 e0;cases hb:l.getD o.toNat false
      case true=>
       rw [if_pos ⟨e4,e0,rfl⟩];obtain⟨y,hy⟩ :∃y,l[(-1-x.n).toNat]?=some y:= ⟨_,getElem?_eq_getElem (by omega)⟩
       exact(bCY p own i l r x o true y sd sd sd (by simp [e4]) (by simpa using e0) sd o1 (by omega) (hb ▸ hli) rfl sd (by omega) (by omega) hy sd).trans
        (aYL hp r hr t (i+1) _ (by simpa using hl) g2)
      rw [if_neg (by simp)]
      exact(bCZ p own i l r x o false sd sd sd (by simp [e4]) (by simpa using e0) sd o1 (by omega) (hb ▸ hli) rfl sd).trans
       (aYL hp r hr t (i+1) _ hl g2)
    · rw [if_neg (by simp [e0])];exact(bC0 p own i l r x sd sd sd (by simp [e4]) (by simpa using e0) sd).trans (aYL hp r hr t (i+1) _ hl g2)
  · rw [if_neg (by simp [e4])];exact(bC1 p own i l r x sd sd sd (by simpa using e4) sd).trans (aYL hp r hr t (i+1) _ hl g2)
theorem bGT {p:Prog}{own:List Int}(hp:OwnsP p own) :∀ (k r:Nat) (l:List Bool),r+k=p.funs.length→l.length=p.funs.length →
  Ends PP 0 (aHA p own (r:Int) l).as (.ret (.ilst 1 (map eP (rU p own k l)) true)) (aD [] 0)
 |0,r,l,h,hl=>bCX p own r l sd
 | k+1,r,l,h,hl=>by
  have hf:=hp.fsmall;exact(bCW p own r l sd).ends ((aYL hp (r:Int) (by omega) p.nodes 0 l hl rfl).ends (bGT hp k (r+1) _ (by omega) (by rw [aAt,hl])))
theorem aHC {p:Prog}(hp:FineP p)(ho:OwnsP p (lO p)) :Pure PP 24 [PA p] (.ilst 1 (map eP (aX p)) false) :=by
 refine aV (by kernel_rfl) rfl rfl ?_;have hf:=hp.fsmall;obtain⟨m0,m1⟩ :=ho.main;refine Ends.val ?_ (fun E cv=>aGS)
 exact(bCV p false (lO p) (by omega) m0 (by simpa using m1) (by rw [List.getElem?_replicate,if_pos (by omega)]) (aYK hp)).ends
  (bGT ho p.funs.length 0 _ (by omega) (by simp))
theorem bFM (p:Prog)(is:List Bool)(h320:is.length≤320) :∀ (t:List Bool) (i:Nat) (n:Int) (l:List Int),is.drop i=t→i≤is.length→l.length=i→0≤n→n≤i →
  LeadsM PP 0 (aD6 p is n (i:Int) l).as (aD6 p is (n+ (t.countP (· =true) :Nat)) ((is.length:Nat) :Int) (l++dQ t n)).as
 | [],i,n,l,h,hi,hl,h0,h1=>by
  have:=bA h;obtain rfl:i=is.length:=by omega
  simp only [dQ,append_nil,List.countP_nil];rw [show n+ ((0:Nat) :Int) =n by omega];exact LeadsM.refl _
 | b::t,i,n,l,h,hi,hl,h0,h1=>by
  obtain⟨g1,g2,g3⟩ :=aZ h;cases b
  case true=>
   have ih:=bFM p is h320 t (i+1) (n+1) (l++ [n]) g2 (by omega) (by simp [hl]) (by omega) (by omega);rw [append_assoc]at ih;simp only [dQ,if_true];rw [show n+ (countP (· =true) (true::t) :Nat) =n+1+ (countP (· =true) t:Nat)by simp;omega];exact(bC4 p is n i l true sd (by simp [hl];omega) (by omega) g1 rfl sd sd).trans ih
  have ih:=bFM p is h320 t (i+1) n (l++ [n]) g2 (by omega) (by simp [hl]) (by omega) (by omega);rw [append_assoc]at ih;simp only [dQ,false_eq_true,if_false];rw [show n+ (countP (· =true) (false::t) :Nat) =n+ (countP (· =true) t:Nat)by simp];exact(bC5 p is n i l false sd (by simp [hl];omega) (by omega) g1 rfl sd).trans ih
theorem bDb {p:Prog}{F C:List Int}{k:Nat}{l ns:List Node}{c:Int}(h:dA p F C k l.length c=some ns)(mn:Int)(cs:List Con)(fs:List Int) :
  Spec PP (.enter 100 [gN 3 l,PA p,.int .i64 c,.ilst 1 (map aY F) false,.ilst 1 (map aY C) false])
   (aD [kZ p,sN,wI l fs mn cs,(3,LN l,true),(4,LI fs,true)] 5)
   (.ret (gN 5 (l++ns))) (aD [kZ p,sN,wI l fs mn cs,(4,LI fs,true),(5,LN (l++ns),true)] 6) :=
 Eq.mp (by kernel_rfl) (aCq (ks:=[3]) (n2:=5) (lc:=[kZ p,sN,wI l fs mn cs,(3,LN l,true),(4,LI fs,true)])
  (x:=[kZ p,sN,wI l fs mn cs,(4,LI fs,true)])
  (args':=[gN 3 l,PA p,.int .i64 c,.ilst 1 (map aY F) false,.ilst 1 (map aY C) false])
  (aT2 h) (by kernel_rfl) (by kernel_rfl) (by kernel_rfl) ⟨bEk _,trivial⟩ (by kernel_rfl) (by kernel_rfl) (by kernel_rfl) (by kernel_rfl) ⟨bEk _,trivial⟩ (by kernel_rfl))
theorem bFN (p:Prog)(is:List Bool)(k:Nat)(to:List Int)(mn:Int)(cs:List Con)(hf:p.funs.length≤320)(hc:p.cons.length≤320)(his:is.length=p.funs.length) :∀ (t:List Int) (b:List Bool) (i:Nat) (l:List Node) (fs ks:List Int) (r:List Node),p.funs.drop i=t→is.drop i=b→i≤p.funs.length→fs.length≤i →
  jD (dA p to (numsL 0 p.cons.length) k) l.length (aO b t) =some (ks,r) →
  LeadsM PP 0 (aD7 p is mn cs to (i:Int) l fs).as (aD7 p is mn cs to ((p.funs.length:Nat) :Int) (l++r) (fs++ks)).as
 | [],b,i,l,fs,ks,r,h,hb,hi,hl,hm=>by
  have:=bA h;obtain rfl:i=p.funs.length:=by omega
  obtain rfl:b= [] :=by rw [←hb];exact List.drop_eq_nil_iff.2 (by omega)
  cases hm;rw [append_nil,append_nil];exact LeadsM.refl _
 | c :: t,b,i,l,fs,ks,r,h,hb,hi,hl,hm=>by
  obtain⟨g1,g2,g3⟩ :=aZ h;cases b with
  |nil=>have:=bA hb;omega
  |cons b bt=>
  obtain⟨e1,e2,e3⟩ :=aZ hb;cases b
  case true=>
   simp only [aO,jD]at hm;split at hm
   · rename_i ns hns;split at hm
     · rename_i ks1 r1 hm1;cases hm;have h1:=bC7 p is mn cs to i l fs true sd (by omega) e1 rfl (by simp;omega);have h2:=bDa p is to mn cs i l (fs++ [((l.length:Nat) :Int)]) c _ ns (by omega) g1 (aT1 0 p.cons.length (by omega) (by omega) (by omega)) (bDb hns mn cs _) sd;have h3:=bFN p is k to mn cs hf hc his t bt (i+1) (l++ns) (fs++ [((l.length:Nat) :Int)]) ks1 r1 g2 e2 (by omega) (by simp;omega) (by rw [length_append];exact hm1);rw [show fs++ ((l.length:Nat) :Int) ::ks1= (fs++ [((l.length:Nat) :Int)]) ++ks1 by simp,←append_assoc l ns r1];exact h1.trans (h2.trans h3)
     ·cases hm
   ·cases hm
  simp only [aO]at hm;have h1:=bC8 p is mn cs to i l fs false sd (by omega) e1 rfl sd;exact h1.trans (bFN p is k to mn cs hf hc his t bt (i+1) l fs ks r g2 e2 (by omega) (by omega) hm)
theorem aYM {p:Prog}{k:Nat}{is:List Bool}{ks:List Int}{r:List Node}{m:Int}(hp:p.cons.length≤320∧p.funs.length≤320)(hm:0≤p.main)(hf:Pure PP 22 [PA p] (.bool true))(hi:Pure PP 24 [PA p] (.ilst 1 (map eP is) false))
  (his:is.length=p.funs.length) (hmm: (dQ is 0)[p.main.toNat]?=some m)
  (hk:jD (dA p (dQ is 0) (numsL 0 p.cons.length) k) 0 (aO is p.funs) =some (ks,r)) :
  Pure PP 25 [PA p] (.tup [PA ⟨r,ks,m,p.cons⟩,.int .i64 0]) :=by
 have hP:∀v,keyless v=true→Ends PP 0 (aYE p).as (.ret v) (aD [] 0) →Pure PP 25 [PA p] v:=fun v hv h=>dP (s:=aYE p) (by kernel_rfl) (by kernel_rfl) (by simp [keylessL,keyless]) hv h;refine hP _ (by simp [keylessL,keyless]) ?_;have h0:=bC3 p true is hf rfl hi;have h1:=bFM p is (by omega) is 0 0 [] rfl (Nat.zero_le _) rfl (by omega) (by omega);rw [nil_append]at h1;have h2:=bC6 p is (0+ ((is.countP (· =true) :Nat) :Int)) ((is.length:Nat) :Int) (dQ is 0) p.main p.cons m (by simp) (aWV (by omega)) hm hmm;have h3:=bFN p is k (dQ is 0) m p.cons hp.2 hp.1 his p.funs is 0 [] [] ks r rfl rfl (Nat.zero_le _) (Nat.zero_le _) hk;rw [nil_append,nil_append]at h3;exact h0.ends (h1.ends (h2.ends (h3.ends (bC9 p is m p.cons (dQ is 0) _ r ks (by simp)))))
section
variable (p :Prog) (but:Int)
end
section
variable {p :Prog} (hp:FineP p) (hn:∀ (i:Nat) (x:Node),p.nodes[i]?=some x→ -1000000000≤x.n∧x.n≤1000000000)
include hp hn
end
def aRm (p:Prog)(l:List aB) :Bool:=decide (l.length=p.funs.length) &&gJ l&&decide (dX cV l 0=p.main)
def setF :List Int→Nat→List Int→List Int
 |F,_,[] =>F
 |F,k,y::t=>setF (F.set y.toNat (1+ (k:Int))) (k+1) t
def aSy (l:List aB)(y:Int) :aB:= (l[y.toNat]?).getD []
section
variable {p :Prog} (hs:aJ p=true) (hr:aP p=true)
include hs hr
end
section
variable (p :Prog) (l:List aB) (hl:l.length=p.funs.length) (hf:p.funs.length≤1000)
include hl hf
end
theorem aBN {p:Prog}{l:List aB}(h:aRm p l=true) :l.length=p.funs.length∧gJ l=true∧dX cV l 0=p.main:=by
 unfold aRm at h;simp only [and_eq_true,decide_eq_true_eq]at h;exact⟨h.1.1,h.1.2,h.2⟩
end
end Go.Hb
