/- A machine on abstract values, its soundness, ways, plain laws. -/
import Derived.Test.YtfaikcecgpcimaaGreatHF
import Derived.Test.YtfaikcecgpcimaaGreatHG
import Derived.Test.YtfaikcecgpcimaaGreatHK
import Derived.Test.YtfaikcecgpcimaaGreatHL
import Derived.Test.YtfaikcecgpcimaaGreatHM
import Derived.Test.YtfaikcecgpcimaaGreatHH
import Derived.Test.YtfaikcecgpcimaaGreatHI
set_option linter.defProp false
set_option linter.unusedVariables false
set_option linter.unusedSimpArgs false
set_option linter.unusedSectionVars false
set_option maxRecDepth 100000
set_option maxHeartbeats 4000000
namespace Go.Hb
open Bool (and_eq_true)
open List (getElem?_map length length_append length_map length_set map map_map range replicate set)
open Go.Proofs Tryz
noncomputable section
abbrev MC (fr:List Node)(fs cs:List Int)(b n:Nat) :AObj:=.cells (putCells .leaf 0 [.ilst 4 (map Node.av fr) false,.gl b 4 0 n false,.ilst 1 (map bL fs) false,.ilst 1 (map bL cs) false]) 4 [] false
abbrev MHp (fr:List Node)(fs cs:List Int)(L:List ONode) :List (Nat×AObj×Bool) :=[(0,MC fr fs cs 1 (length L),false),(1,OL L,true)]
section
variable (fr :List Node) (fs cs:List Int) (L:List ONode)
end
def MNS (p:Prog)(fs cs:List Int)(at0:Int)(L:List ONode)(ns:List Node) :Prop:=
 aBr PP 1 (.enter 144 [.ptr 0 0,.int .i64 at0]) (aF (MHp p.nodes fs cs L) 2) (.ret (.int .i64 ((length L:Nat) :Int))) (aF (MHp p.nodes fs cs (L++map Node.o ns)) 2)
section
variable (p :Prog) (fs cs:List Int) (L:List ONode) (at0:Int)
variable (k :Nat) (ih:∀ (M:List ONode) (c:Int) (ns:List Node),aDg p fs cs k M.length c=some ns→MNS p fs cs c M ns) (x:Node) (v:Int) (P:List Pat) (hk:x.kids.length<1000000)
include ih hk
end
theorem uQ (s:aB) :∀ (l:List aB) (i:Nat),eZ s l i= -1∨ ((i:Int) ≤eZ s l i∧eZ s l i<i+l.length∧l[(eZ s l i).toNat-i]?=some s)
 | [],i=>.inl rfl
 | x ::l,i=>by
  rw [eZ];by_cases e:x=s
  · rw [if_pos e];exact .inr ⟨by omega,by simp;omega,by simp [e]⟩
  · rw [if_neg e];rcases uQ s l (i+1)with h| ⟨h1,h2,h3⟩
    ·exact .inl h
    · refine .inr ⟨by omega,by simp;omega,?_⟩;rw [show(eZ s l (i+1)).toNat-i= ((eZ s l (i+1)).toNat- (i+1)) +1 by omega];simpa using h3
def aOg (T ls:List aB)(s:aB) :Int:=if eZ s T 0<0 then(T.length:Int) +eZ s ls 0 else eZ s T 0
def aE9 (T ls:List aB)(u:LUnit) :List Int:= (aE u++u.needs).map (aOg T ls)
def aWJ (cs:List Con)(u:LUnit) :List Int:=u.cons.map (fun c=>gZ c.name cs 0)
def aWK (T ls:List aB)(cs:List Con) :List LFun→List Node→List LUnit→Option (List LFun×List Node)
 |fs,ns,[] =>some (fs,ns)
 | fs,ns,u::l=>match aQy (aDg (aDs u) (aE9 T ls u) (aWJ cs u) u.nodes.length) ns.length (dJ u)with
  |some (ks,r) =>aWK T ls cs (fs++List.zipWith LFun.mk (aE u) ks) (ns++r) l
  |none=>none
section
variable (nm :aB) (cs:List Con) (ls:List aB) (l:List LUnit) (T:List aB) (hT:T.length≤1000) (hls:ls.length≤1000) (hcs:cs.length≤1000)
include hT hls in
include hcs in
include hT hls hcs in
end
def aYL (x:Node) :Prop:=x.kids.length≤10∧bQ x.pats≤120
structure MovN (p:Prog) (F C:List Int) (i:Nat) (x:Node) :Prop where
 kl:x.kids.length≤10
 kids:∀k∈x.kids,(i:Int) <k∧k<p.nodes.length
 ps:bQ x.pats≤120
 n:∃n',mN F C x.op x.n=some n'
 pats:∃ps',aBB C x.pats=some ps'∧bQ ps'=bQ x.pats
theorem aMh {p p':Prog}{f:Node→Node}(h:p'.nodes=p.nodes.map f)(hf:∀x,(f x).kids=x.kids) :∀ (k:Nat) (a:Int),pre p' k a=pre p k a
 |0,a=>rfl
 | k+1,a=>by
  have ih:pre p' k=pre p k:=funext (aMh h hf k);rw [pre,pre,h,getElem?_map];cases p.nodes[a.toNat]? with
  |none=>rfl
  |some x=>simp only [Option.map];rw [hf,ih]
theorem pH (a b:Nat)(x:Node) : (fO a b x).kids=x.kids:=by unfold fO;split<;>rfl
theorem aAY (a b:Nat)(x:Node) : (fO a b x).pats=x.pats:=by unfold fO;split<;>rfl
theorem aCa (a b:Nat)(x:Node) : (fO a b x).op=x.op:=by unfold fO;split<;>rfl
structure GoodU (u:LUnit) :Prop where
 few:FewU u
 formed:fU u=true
theorem GoodU.small {u:LUnit}(h:GoodU u) :u.nodes.length≤320∧u.cons.length≤25:=by
 have:=h.few.p;simp only [aH,and_eq_true,decide_eq_true_eq]at this;exact⟨this.1.1.1.1,this.1.1.2⟩
theorem GoodU.cases {u:LUnit}(h:GoodU u) : (u.funs= [] ∧u.nodes= []) ∨ (u.funs≠ [] ∧aO (jP u) =true) :=by
 have hf:=h.formed;unfold fU at hf;simp only [and_eq_true]at hf;have h2:=hf.2;split at h2
 · rename_i h0;simp only [and_eq_true,decide_eq_true_eq]at h2;exact .inl ⟨List.eq_nil_of_length_eq_zero h0,List.eq_nil_of_length_eq_zero h2.1⟩
 · rename_i h0;exact .inr ⟨fun e=>h0 (by rw [e];rfl),h2⟩
def bP :List LUnit→Nat
 | [] =>0
 |u::l=>u.nodes.length+bP l
def eM :aB:=[109,97,105,110]
theorem lO {l:List LUnit}(hu:∀u∈l,FewU u)(h:dS l=true) :l.length≤10∧∀u∈l,GoodU u:=by
 simp only [dS,and_eq_true,decide_eq_true_eq]at h;exact⟨h.1,fun u hm=> ⟨hu u hm,List.all_eq_true.1 h.2 u hm⟩⟩
theorem vP {own:List aB}:∀ {l:List LUnit} {out:List aB},(∀u∈l,FewU u) → (mP own out l).length≤out.length+25*l.length
 | [],out,_=>by simp [mP]
 | u::l,out,hu=>by
  have hn:= (hu u (List.mem_cons_self ..)).n;have h1:=vN own u.needs out;have h2:=vP (own:=own) (l:=l) (out:=nL own out u.needs) (fun x hx=>hu x (List.mem_cons_of_mem _ hx));rw [mP];simp;omega
def aTu (ls:List aB)(cs:List Con)(l:List LUnit) :List LFun×List Node:= (aWK (aX l) ls cs [] [] l).getD ([],[])
structure PutOk (ls:List aB) (cs:List Con) (l:List LUnit) :Prop where
 eq:aWK (aX l) ls cs [] [] l=some (aTu ls cs l)
 len: (aTu ls cs l).2.length=bP l
 fit:∀x∈ (aTu ls cs l).2,aYL x
 funs: (aTu ls cs l).1.length≤300
structure Fw (p:Prog) :Prop where
 fine:FineP p
 dup: (dQ p).Nodup
 len: (dQ p).length=p.nodes.length
 into:∀x∈dQ p,0≤x∧x<p.nodes.length
theorem Fw.of {p:Prog}(h:Fm p) :Fw p:= ⟨h.fine,h.dup,h.len,h.into⟩
section
variable {p :Prog}
theorem Fw.mem (h:Fw p){k:Int}(h0:0≤k)(h1:k<p.nodes.length) :∃i:Nat,(dQ p)[i]?=some k:=by
 refine List.mem_iff_getElem?.1 ?_;have hd: ((dQ p).map Int.toNat).Nodup:=by
  have hd:=h.dup;rw [List.nodup_iff_pairwise_ne]at hd ⊢;refine List.pairwise_map.2 (hd.imp_of_mem (fun {a b} ha hb hne e=>?_));have:=h.into a ha;have:=h.into b hb;exact hne (by omega)
 by_cases hm:k∈dQ p
 ·exact hm
 · have h2:=lV (p.nodes.length) (k.toNat:: (dQ p).map Int.toNat) (List.nodup_cons.2 ⟨fun hm2=>by
    obtain⟨y,hy,e⟩ :=List.mem_map.1 hm2;have:=h.into y hy;exact hm ((show y=k by omega) ▸ hy),hd⟩) (fun x hx=>by
    rcases List.mem_cons.1 hx with rfl|hx
    ·omega
    · obtain⟨y,hy,rfl⟩ :=List.mem_map.1 hx;have:=h.into y hy;omega)
   rw [List.length_cons,length_map]at h2;have:=h.len;omega
theorem Fw.after (h:Fw p) :KidsAfter p (dQ p) :=KidsAfter.flatten fun l hl=>by
 obtain⟨k,hk,rfl⟩ :=List.mem_map.1 hl;have:=h.fine.funs k hk;exact aE8 h.fine _ k this.1 this.2 (by omega)
theorem Fw.toL (h:Fw p)(off:Nat) :∀ (i:Nat) (k:Int),(dQ p)[i]?=some k→kB (toL p off) k= ((off+i:Nat) :Int) :=fun i k hk=>by
 have:=aEY (dQ p) (replicate p.nodes.length 0) off h.dup (fun x hx=>by rw [List.length_replicate];exact h.into x hx) i k hk;unfold Go.Hb.toL;rw [this];simp
end
section
variable {a p:Prog} {off:Nat} {mf mc:List (Int×Int)} {to:List Int}
theorem Laid.atW (h:Laid a off p mf mc to)(hp:Fw p){k:Int}(h0:0≤k)(h1:k<p.nodes.length) :0≤kB to k∧a.nodes[(kB to k).toNat]?=some (kR mf mc to (nodeAt p k)) :=by
 obtain⟨i,hi⟩ :=hp.mem h0 h1;have e:=h.to i k hi;rw [e,Int.toNat_natCast];exact⟨by omega,h.node i k hi⟩
theorem aFa (h:Laid a off p mf mc to)(hp:Fw p) :∀ (f:Nat) (k:Int),0≤k→k<p.nodes.length→p.nodes.length-k.toNat≤f→pre a f (kB to k) = (pre p f k).map (kB to)
 |0,k,h0,h1,h2=>by omega
 | f+1,k,h0,h1,h2=>by
  obtain⟨x,hx⟩ :∃x,p.nodes[k.toNat]?=some x:= ⟨_,List.getElem?_eq_getElem (by omega)⟩;obtain⟨g0,g1⟩ :=h.atW hp h0 h1;rw [pG hx]at g1;rw [Go.Hb.pre,Go.Hb.pre,hx,g1];simp only [List.map_cons,List.map_flatten,map_map,kR];congr 2
  exact List.map_congr_left (fun c hc=>by
   have:= (hp.fine.node _ _ hx).2.2 c hc;exact aFa h hp f c (by omega) (by omega) (by omega))
theorem Laid.walkW (h:Laid a off p mf mc to)(hp:Fw p){F:Nat}(hF:p.nodes.length≤F) : ((p.funs.map (kB to)).map (Go.Hb.pre a F)).flatten= (range p.nodes.length).map fun i=> ((off+i:Nat) :Int) :=by
 have e1: (p.funs.map (kB to)).map (Go.Hb.pre a F) = (p.funs.map (Go.Hb.pre p p.nodes.length)).map (map (kB to)) :=by
  rw [map_map,map_map];refine List.map_congr_left (fun k hk=>?_);have:=hp.fine.funs k hk;show Go.Hb.pre a F (kB to k) = (Go.Hb.pre p p.nodes.length k).map (kB to);rw [aFa h hp F k this.1 this.2 (by omega),aDy hp.fine F p.nodes.length k this.1 this.2 (by omega) (by omega)]
 rw [e1,←List.map_flatten];have hlen:=hp.len;refine List.ext_getElem? (fun i=>?_);rw [getElem?_map,getElem?_map];by_cases hi:i< (dQ p).length
 · rw [List.getElem?_range (by omega)];have e: (dQ p)[i]?=some (dQ p)[i] :=List.getElem?_eq_getElem hi;have: ((p.funs.map (Go.Hb.pre p p.nodes.length)).flatten)[i]?=some (dQ p)[i] :=e;rw [this];simp only [Option.map_some];rw [h.to i _ e]
 · have e: (dQ p)[i]?=none:=List.getElem?_eq_none (by omega);have: ((p.funs.map (Go.Hb.pre p p.nodes.length)).flatten)[i]?=none:=e;rw [this,List.getElem?_eq_none (by simp;omega)];rfl
end
def gG (u:LUnit) :Prog:= ⟨u.nodes,dJ u,0,u.cons⟩
def aBE (u:LUnit) :Prog:= ⟨u.nodes,replicate (u.funs.length+u.needs.length) 0,0,u.cons⟩
theorem aJc {u:LUnit}{x:Node}(h:bD (jP u) (fO u.funs.length u.needs.length x) =true) :bD (aBE u) x=true:=by
 have hf: (jP u).funs.length=u.funs.length:=by simp [jP,dJ]
 have hw: (aBE u).funs.length=u.funs.length+u.needs.length:=by simp [aBE]
 simp only [bD,hX,and_eq_true,decide_eq_true_eq]at h ⊢;rw [pH,aAY,aCa]at h;obtain⟨⟨⟨h1,h2⟩,h3⟩,h4⟩ :=h;by_cases e4:x.op=4
 · have z1:eI (aBE u) x=0:=by unfold eI;rw [if_neg (fun g=>by have:=g.1;omega)]
   have z2:eI (jP u) (fO u.funs.length u.needs.length x) =0:=by unfold eI;rw [aCa,if_neg (fun g=>by have:=g.1;omega)]
   rw [z2]at h4;rw [z1];refine⟨⟨⟨?_,h2⟩,h3⟩,h4⟩;by_cases g: -(u.funs.length:Int) -u.needs.length≤x.n∧x.n≤ -(u.funs.length:Int) -1
   · rw [e4];simp [bW,cS,hw];omega
   · have e:fO u.funs.length u.needs.length x=x:=by unfold fO;rw [if_neg (fun k=>g k.2)]
     rw [e,e4]at h1;rw [e4];simp [bW,cS,hf,hw]at h1 ⊢;omega
 · have e:fO u.funs.length u.needs.length x=x:=by unfold fO;rw [if_neg (fun g=>e4 g.1)]
   rw [e]at h1 h4;refine⟨⟨⟨?_,h2⟩,h3⟩,h4⟩;unfold bW at h1 ⊢;rw [if_neg e4]at h1 ⊢;exact h1
theorem aOh {u:LUnit}(h:GoodU u){i:Nat}{x:Node}(hx:u.nodes[i]?=some x) :bD (aBE u) x=true∧x.pats.length≤10∧aT x=true:=by
 have hs:=h.few.p;simp only [aH,and_eq_true]at hs;have hsn:=List.all_eq_true.1 hs.2 x (List.mem_of_getElem? hx);have hsn2:=hsn;simp only [aT,and_eq_true,decide_eq_true_eq]at hsn2;refine⟨?_,hsn2.1.2,hsn⟩;rcases h.cases with⟨_,h1⟩ | ⟨_,hr⟩
 ·rw [h1]at hx;simp at hx
 · have hx': (jP u).nodes[i]?=some (fO u.funs.length u.needs.length x) :=by simp [jP,getElem?_map,hx]
   exact aJc ((yI (lW h.few) hr).2.2.2 i _ hx')
theorem aAj {u:LUnit}(h:GoodU u) :Fw (gG u) :=by
 rcases h.cases with⟨h0,h1⟩ | ⟨_,hr⟩
 · have hb:dJ u= [] :=by simp [dJ,h0]
   have ho:dQ (gG u) = [] :=by unfold dQ;simp [gG,hb]
   refine⟨⟨by simp [gG,h1],by simp [gG,hb],fun i x hx=>by simp [gG,h1]at hx,fun f hf=>by simp [gG,hb]at hf⟩,by rw [ho];exact List.nodup_nil,by rw [ho];simp [gG,h1],fun x hx=>by rw [ho]at hx;cases hx⟩
 · have hs:=lW h.few;obtain⟨p1,p2,p3,p4⟩ :=yI hs hr;have hfn:=uN hs hr;have hnl: (jP u).nodes.length=u.nodes.length:=by simp [jP]
   have ho:dQ (gG u) = ((jP u).funs.map (pre (jP u) (jP u).nodes.length)).flatten:=by
    unfold dQ;rw [hnl];show((dJ u).map (pre (gG u) u.nodes.length)).flatten= ((dJ u).map _).flatten;congr 2;exact(funext (aMh (p:=gG u) (p':=jP u) (f:=fO u.funs.length u.needs.length) rfl (pH _ _) _)).symm
   refine⟨⟨by have:=hfn.small;rw [hnl]at this;exact this,hfn.fsmall,fun i x hx=>?_,fun f hf=>by have:=hfn.funs f hf;rw [hnl]at this;exact this⟩,by rw [ho];exact p1,by rw [ho,p2,hnl];rfl,fun x hx=>by rw [ho]at hx;have:=p3 x hx;rw [hnl]at this;exact this⟩;have hx1:u.nodes[i]?=some x:=hx;have hx': (jP u).nodes[i]?=some (fO u.funs.length u.needs.length x) :=by simp [jP,getElem?_map,hx1]
   obtain⟨c1,c2,c3⟩ :=hfn.node i _ hx';have m1:=c1.mat;have m2:=c1.let2;rw [aCa,pH,aAY]at m1;rw [aCa,pH]at m2;rw [pH]at c2 c3;rw [hnl]at c3;exact⟨⟨fun q hq=>c1.pats q (by rw [aAY];exact hq),m1,m2⟩,c2,c3⟩
def aJd :List Int→Int→List (Int×Int) →List (Int×Int)
 | [],_,m=>m
 |g::t,i,m=>aJd t (i+1) (bK i g m)
theorem aJe :∀ (t:List Int) (i:Int) (m:List (Int×Int)) (j:Int),j<i→lU (aJd t i m) j=lU m j
 | [],i,m,j,h=>rfl
 |c::t,i,m,j,h=>by rw [aJd,aJe t (i+1) _ j (by omega),aB9,if_neg (by omega)]
theorem aMi :∀ (t:List Int) (i:Int) (m:List (Int×Int)) (j:Nat) (d:Int),t[j]?=some d→lU (aJd t i m) (i+j) =d
 | [],i,m,j,d,h=>by simp at h
 | c::t,i,m,0,d,h=>by
  simp only [List.getElem?_cons_zero,Option.some.injEq]at h;subst h;rw [aJd,aJe t (i+1) _ _ (by omega),aB9,if_pos (by omega)]
 | c::t,i,m,j+1,d,h=>by
  simp only [List.getElem?_cons_succ]at h;have:=aMi t (i+1) (bK i c m) j d h;rw [aJd,show i+ ((j+1:Nat) :Int) =i+1+ (j:Int)by omega];exact this
theorem aTv (F:List Int) :aEZ F.length (aJd F 0 []) F:=fun i h0 h1=>by
 have e:F[i.toNat]?=some (F[i.toNat]'(by omega)) :=List.getElem?_eq_getElem (by omega);have:=aMi F 0 [] i.toNat _ e;rw [show(0:Int) + ((i.toNat:Nat) :Int) =i by omega]at this;rw [e,this]
def mfU (T ls:List aB)(u:LUnit) :List (Int×Int) :=aJd (aE9 T ls u) 0 []
def mcU (cs:List Con)(u:LUnit) :List (Int×Int) :=aLl cs u.cons 0 []
theorem aOi (T ls:List aB)(u:LUnit) : (aE9 T ls u).length=u.funs.length+u.needs.length:=by simp [aE9,aE]
theorem aWM {T ls:List aB}{u:LUnit}{i:Int}(h0:0≤i)(h1:i<u.funs.length+u.needs.length) :∃s,(aE u++u.needs)[i.toNat]?=some s∧lU (mfU T ls u) i=aOg T ls s:=by
 have hl:=aOi T ls u;have e:=aTv (aE9 T ls u) i h0 (by omega);unfold aE9 at e;rw [getElem?_map]at e;cases hs: (aE u++u.needs)[i.toNat]? with
 |none=>rw [hs]at e;cases e
 |some s=>rw [hs]at e;exact⟨s,rfl,(Option.some.inj e).symm⟩
def aQ7 (T ls:List aB)(cs:List Con)(off:Nat)(u:LUnit) :List Node:= (dQ (gG u)).map fun k=>kR (mfU T ls u) (mcU cs u) (toL (gG u) off) (nodeAt (gG u) k)
def aQ8 (off:Nat)(u:LUnit) :List Int:= (dJ u).map (kB (toL (gG u) off))
theorem aQ9 {u:LUnit}(h:GoodU u)(T ls:List aB)(cs:List Con)(off:Nat) : (aQ7 T ls cs off u).length=u.nodes.length:=by
 unfold aQ7;rw [length_map,(aAj h).len];rfl
def pI (T ls:List aB)(cs:List Con) :Nat→List LUnit→List Node
 |_,[] =>[]
 |off,u::l=>aQ7 T ls cs off u++pI T ls cs (off+u.nodes.length) l
theorem aAZ {T ls:List aB}{cs:List Con}:∀ (l:List LUnit) (off:Nat),(∀u∈l,GoodU u) → (pI T ls cs off l).length=bP l
 | [],off,_=>rfl
 | u::l,off,hg=>by
  rw [pI,length_append,aQ9 (hg u (List.mem_cons_self ..)),aAZ l _ (fun x hx=>hg x (List.mem_cons_of_mem _ hx)),bP]
theorem aFb {T ls:List aB}{cs:List Con}:∀ (l m:List LUnit) (off:Nat),pI T ls cs off (l++m) =pI T ls cs off l++pI T ls cs (off+bP l) m
 | [],m,off=>by simp [pI,bP]
 | u::l,m,off=>by
  rw [List.cons_append,pI,pI,aFb l m,List.append_assoc,bP,Nat.add_assoc]
theorem vQ :∀l m:List LUnit,bP (l++m) =bP l+bP m
 | [],m=>by simp [bP]
 |u::l,m=>by rw [List.cons_append,bP,bP,vQ l m,Nat.add_assoc]
theorem aRa (off:Nat)(u:LUnit) : (aE u).length= (aQ8 off u).length:=by simp [aQ8,aE,dJ]
def aAk :Nat→List LUnit→List Int
 |_,[] =>[]
 |off,u::l=>aQ8 off u++aAk (off+u.nodes.length) l
theorem aA0 :∀ (l:List LUnit) (off:Nat),(aAk off l).length= (aX l).length
 | [],off=>rfl
 |u::l,off=>by rw [aAk,length_append,←aRa,aA0 l,pC,length_append]
section
variable {T ls:List aB} {cs:List Con} {a:Prog} {l:List LUnit}
theorem aDA (hg:∀u∈l,GoodU u)(ha:a.nodes=pI T ls cs 0 l){l1 l2:List LUnit}{u:LUnit}(hl:l=l1++u::l2) :Laid a (bP l1) (gG u) (mfU T ls u) (mcU cs u) (toL (gG u) (bP l1)) :=by
 have hw:=aAj (hg u (by rw [hl];simp));refine⟨fun i k hk=>?_,hw.toL _⟩;have h1:=aAZ (T:=T) (ls:=ls) (cs:=cs) l1 0 (fun x hx=>hg x (by rw [hl];simp [hx]));have hlt:= (List.getElem?_eq_some_iff.1 hk).1;rw [ha,hl,aFb,pI,List.getElem?_append_right (by omega),h1,show bP l1+i-bP l1=i by omega,Nat.zero_add,List.getElem?_append_left (by unfold aQ7;rw [length_map];exact hlt)];unfold aQ7;rw [getElem?_map,hk];rfl
theorem aDB (hg:∀u∈l,GoodU u)(ha:a.nodes=pI T ls cs 0 l){N:Nat}(hN:bP l≤N) :∀ (l2 l1:List LUnit),l=l1++l2 →
  ((aAk (bP l1) l2).map (pre a N)).flatten= (range (bP l2)).map fun i=> ((bP l1+i:Nat) :Int)
 | [],l1,_=>rfl
 | u::l2,l1,hl=>by
  have hw:=aAj (hg u (by rw [hl];simp));have hsz:bP l=bP l1+ (u.nodes.length+bP l2) :=by rw [hl,vQ,bP]
  have e1:= (aDA (T:=T) (ls:=ls) (cs:=cs) (a:=a) hg ha hl).walkW hw (F:=N) (by change u.nodes.length≤N;omega);have e2:=aDB hg ha hN l2 (l1++ [u]) (by rw [hl,List.append_assoc];rfl);have es:bP (l1++ [u]) =bP l1+u.nodes.length:=by rw [vQ,bP,bP];omega
  rw [es]at e2;rw [aAk,List.map_append,List.flatten_append,e2]
  change ((aQ8 (bP l1) u).map (pre a N)).flatten=_ at e1
  rw [e1,bP,List.range_add,List.map_append,map_map];congr 1;refine List.map_congr_left (fun i _=>?_);simp only [Function.comp];omega
end
def aVA(a:LUnit):TS:=dL PP 161 [(.agg [(aD a.name),(iC a.cons),(.ilst 2 (map LFun.av a.funs) false),(iS a.needs),(iN a.nodes)])] [] 0
def aGJ(a:LUnit)(c:Int)(b:List aB):TS:=⟨(tf 161 20 [(2,.nils),(3,(.gl 0 1 0 b.length false)),(7,(.ilst 2 (map LFun.av a.funs) false)),(8,(nI (a.funs.length:Int))),(9,(nI c))] [kc f161 116,kl f161 116,.inBlock 0,kc f161 15]),[],[oL 0 1 (map aD b)],1⟩
def aXt(a:List aB):TS:=dL PP 139 [(iS a)] [] 0
def aGK(a:List aB)(b:Int):TS:=⟨(tf 204 19 [(0,(iS a)),(1,(.func 202 [] [])),(4,(nI 0)),(7,(nI (a.length:Int))),(8,(nI b))] [kc f204 52,kl f204 52,.inBlock 0,kc f204 7]),[(tf 201 9 [(4,(bV false)),(5,(iS a)),(6,(.func 202 [] []))] [ko f201 6 2,kc f201 7]),(tf 139 10 [(0,(iS a)),(2,(bV false)),(3,(iS a))] [ko f139 6 1,kc f139 7])],[],0⟩
def aA1(a:List aB)(c:Int)(b:List (aB×Bool)):TS:=⟨(tf 203 25 [(1,(.func 141 [] [])),(4,(bV false)),(5,(.map 0)),(9,(iS a)),(10,(nI (a.length:Int))),(11,(nI c))] [kc f203 116,kl f203 116,.inBlock 0,kc f203 15]),[(tf 139 10 [(2,(bV false)),(6,(bV true)),(7,(iS a))] [ko f139 6 5,kc f139 7])],[(0,(.map (aJ aD fX 0 b) b.length),true)],1⟩
def aRb(a:List Node):TS:=dL PP 189 [(iN a)] [] 0
def aXu(a:List Node):TS:=⟨(tf 189 8 [(0,(iN a)),(2,.nils),(3,(iN a))] [ko f189 12 1,kc f189 13,kc f189 7]),[],[],0⟩
def aWN(a:List Node):TS:=⟨(tf 189 8 [(0,(iN a)),(2,.nils),(3,.nils)] [ko f189 12 1,kc f189 13,kc f189 7]),[],[],0⟩
def aWO(a:List Node)(b:Addr)(c d:Nat):TS:=⟨(tf 189 8 [(0,(iN a)),(2,.nils),(3,(.val (Value.slice (some b) c d)))] [ko f189 12 1,kc f189 13,kc f189 7]),[],[],0⟩
def aRc(a b:List aB):TS:=dL PP 160 [(.slice 0 0 2 2 1 true)] [oC 0 [(iS a),(iS b)]] 1
def aVB(a:LUnit):TS:=dL PP 121 [(.agg [(aD a.name),(iC a.cons),(.ilst 2 (map LFun.av a.funs) false),(iS a.needs),(iN a.nodes)])] [] 0
def aGL(a:LUnit)(c:List aB)(d:Int)(b:List Int):TS:=⟨(tf 121 114 [kp 1 0,(2,(bV false)),(3,(iS c)),kp 4 1,(49,(.ilst 2 (map LFun.av a.funs) false)),(50,(nI (a.funs.length:Int))),(51,(nI d))] [kc f121 500,kl f121 500,.inBlock 0,kc f121 63]),[],[oC 0 [(aD a.name),(iC a.cons),(.ilst 2 (map LFun.av a.funs) false),(iS a.needs),(iN a.nodes)],oC 1 [(.gl 2 4 0 a.nodes.length false),(.gl 3 1 0 b.length false),(nI 0),(iC a.cons)],oL 2 4 (jN a.nodes),oL 3 1 (jI b)],4⟩
def rU(a:LUnit)(d:List aB)(e:Int)(b:List Node)(c:List Int)(f:Int):TS:=⟨(tf 121 114 [kp 1 0,(2,(bV false)),(3,(iS d)),kp 4 1,(76,(.gl 2 4 0 b.length false)),(77,(nI e)),(78,(nI f))] [kc f121 2036,kl f121 2036,.inBlock 2,kc f121 255]),[],[oC 0 [(aD a.name),(iC a.cons),(.ilst 2 (map LFun.av a.funs) false),(iS a.needs),(iN a.nodes)],oC 1 [(.gl 2 4 0 b.length false),(.gl 3 1 0 c.length false),(nI 0),(iC a.cons)],oL 2 4 (jN b),oL 3 1 (jI c)],4⟩
def aTw (a:LUnit):=(tT 0 (aVA a)<|gl 14 LFun.av a.funs<|.i [rn 4,.nilL 3 1] []<|gu 0 1 (map aD ([] :List aB))<|gs 0 3 (.gl 1 1 0 ([] :List aB).length false)<|.W 0 2 [1] (aGJ a 0 ([] :List aB))) ⟨kk,trivial⟩
def aRd(c:LUnit)(a:Int)(b:List aB):=tT 0 (aGJ c a b)<|gd 5 10 (a< (c.funs.length:Int)) (gX LFun.av 6 c.funs a<|fun d=>ga 9 aD b [d.name]<|gw 5 18 (a+1)<|.W 3 4 [3] (aGJ c (a+1) (b++ [d.name])))<|gz 8 2 0 1 aD b false<|gE 0 1 (iS b)
def aTx:=fun a b c d e f g i j=>aRd a b c|>.t e d f g i j ⟨kk,trivial⟩
def aTy:=fun a b c d=>aRd a b c|>.f d tv
def aTz (a:List aB):=(tT 0 (aXt a)<|gl 25 aD a<|.W 4 0 [] (aGK a 0)) tv
def aLm(a:List aB)(b:Int):=tT 0 (aGK a b)<|gd 5 9 (b< (a.length:Int)) (gX aD 14 a b<|fun c=>eS 9 85 [(aD c)]<|fun d=>.b 6 16 (!d) (.b 15 6 (!(decide (b≥0))) (.i [rn 9,.mset 0 (aJ aD fX 0 ([] :List (aB×Bool))) ([] :List (aB×Bool)).length] [hr (aJ aD fX 0 ([] :List (aB×Bool))),hr (length ([] :List (aB×Bool)))]<|gl 6 aD a<|.W 4 1 [0] (aA1 a 0 ([] :List (aB×Bool))))<|gE 6 0 (bV false))<|gw 5 18 (b+1)<|.W 3 0 [] (aGK a (b+1)))<|.i [rn 24,.mset 0 (aJ aD fX 0 ([] :List (aB×Bool))) ([] :List (aB×Bool)).length] [hr (aJ aD fX 0 ([] :List (aB×Bool))),hr (length ([] :List (aB×Bool)))]<|gl 6 aD a<|.W 4 1 [0] (aA1 a 0 ([] :List (aB×Bool)))
def aTA:=fun a b c d e f g i j k=>aLm a b|>.t e c f g d i|>.t j|>.f k tv
def aTB:=fun a b c d e f g i j k=>aLm a b|>.t e c f g d i|>.f j k tv
def aTC:=fun a b c=>aLm a b|>.f c ⟨bA (fun _=>rfl) (fun _=>rfl) _ _ _,trivial⟩
def aLn(f:List aB)(c:Int)(a:List (aB×Bool)):=tT 0 (aA1 f c a)<|gd 5 12 (c< (f.length:Int)) (gX aD 6 f c<|fun g=>gpS 9 141 [(aD g)]<|fun d=>.o (.y fun b:Bool=>.i [.ans (.look (some (uE d a,(fX b))))] [.a (dG d a=some b) (p':=dX (aD d) (aJ aD fX 0 a) 0=some (some (uE d a,(fX b)))) (oU fG)]<|.b 1 19 b (gE 11 1 (bV false))<|gpS 6 141 [(aD g)]<|fun e=>.i [.mput (aJ aD fX 0 (bK e true a)) (bK e true a).length] [.q (p:=qS (aJ aD fX 0 a) a.length (aD e) (fX true) =some ((aJ aD fX 0 (bK e true a)),length (bK e true a))) (aF2 fG _ _ _)]<|gw 4 24 (c+1)<|.W 3 1 [0] (aA1 f (c+1) (bK e true a)))<|.i [.ans (.look none)] [.a (dG d a=none) (p':=dX (aD d) (aJ aD fX 0 a) 0=some none) (oS fG)]<|gpS 7 141 [(aD g)]<|fun b=>.i [.mput (aJ aD fX 0 (bK b true a)) (bK b true a).length] [.q (p:=qS (aJ aD fX 0 a) a.length (aD b) (fX true) =some ((aJ aD fX 0 (bK b true a)),length (bK b true a))) (aF2 fG _ _ _)]<|gw 4 24 (c+1)<|.W 3 1 [0] (aA1 f (c+1) (bK b true a)))<|gE 12 1 (bV true)
def aTD:=fun a b c d e f g i j k l m=>aLn a b c|>.t g d i j e k|>.1 f l|>.t m tv
def aTE:=fun a b c d e f g i j k l m n=>aLn a b c|>.t g d i j e k|>.2 l f m n ⟨bA (fun _=>rfl) (fun _=>rfl) _ _ _,trivial⟩
def aTF:=fun a b c d=>aLn a b c|>.f d tv
def aXv (a:List Node):=(tT 0 (aRb a)<|.W 8 0 [] (aXu a)) tv
def aXw (a:List Node):=(tT 0 (aWN a)<|.i [rn 8,.nilL 2 4] []<|.E 0 1 [0] (.gl 0 4 0 0 false) [oL 0 4 (jN ([] :List Node))] 1) ⟨kk,trivial⟩
def aXx (a:List Node)(b:Addr)(c d:Nat):=fun e=>(tT 0 (aWO a b c d)<|.i [rn 8,.toL 5 true []] [.q (p:=getCells (putCells .leaf 0 []) 0 (0*4) =some []) rfl,hr true]<|gu 0 0 (jN ([] :List Node))<|gs 0 5 (.gl 0 4 0 ([] :List Node).length true)<|.i [.weak 5] []<|ga 0 Node.av ([] :List Node) a<|.E 3 2 [1] (.gl 0 4 0 (([] :List Node) ++a).length false) [oL 0 4 (jN (([] :List Node) ++a))] 1) e ⟨kk,trivial⟩
def aRe(a b:List aB):=tT 1 (aRc a b)<|gl 36 aD a<|gw 1 18 (0+ (a.length:Int))<|gd 7 20 ((0+ (a.length:Int)) <0) (.P 4 1 [] [((.iface 9 (.str 16 134789072936214216453580009062074836332)),false)] [oC 0 [(iS a),(iS b)]] 1)<|gl 27 aD b<|gw 1 18 ((0+ (a.length:Int)) + (b.length:Int))<|gd 7 20 (((0+ (a.length:Int)) + (b.length:Int)) <0) (.P 4 1 [] [((.iface 9 (.str 16 134789072936214216453580009062074836332)),false)] [oC 0 [(iS a),(iS b)]] 1)<|gd 29 6 (((0+ (a.length:Int)) + (b.length:Int)) <0) .x<|gw 12 14 (((0+ (a.length:Int)) + (b.length:Int)) -0)<|gd 7 16 ((((0+ (a.length:Int)) + (b.length:Int)) -0) >0) (.i [rn 7,.appN (map aD (replicate (((0+ (a.length:Int)) + (b.length:Int)) -0).toNat ([] :aB))) (((0+ (a.length:Int)) + (b.length:Int)) -0).toNat] [hA ((((0+ (a.length:Int)) + (b.length:Int)) -0) = (((((0+ (a.length:Int)) + (b.length:Int)) -0).toNat:Nat) :Int)),hA (0< (((0+ (a.length:Int)) + (b.length:Int)) -0).toNat),hA ((((0+ (a.length:Int)) + (b.length:Int)) -0).toNat<100000),.q (p:=hJ [AV.str 0 0] (((0+ (a.length:Int)) + (b.length:Int)) -0).toNat= (map aD (replicate (((0+ (a.length:Int)) + (b.length:Int)) -0).toNat ([] :aB)))) (aIV _),.q (p:=cA (map aD (replicate (((0+ (a.length:Int)) + (b.length:Int)) -0).toNat ([] :aB))) =true) (uO _)]<|.i [.toL 22 false (map aD (replicate (((0+ (a.length:Int)) + (b.length:Int)) -0).toNat ([] :aB)))] [.q (p:=getCells (putCells .leaf 0 (map aD (replicate (((0+ (a.length:Int)) + (b.length:Int)) -0).toNat ([] :aB)))) 0 ((((0+ (a.length:Int)) + (b.length:Int)) -0).toNat*1) =some (map aD (replicate (((0+ (a.length:Int)) + (b.length:Int)) -0).toNat ([] :aB)))) (aQN _),.q (p:=cA (map aD (replicate (((0+ (a.length:Int)) + (b.length:Int)) -0).toNat ([] :aB))) =true) (uO _)]<|.i [.lset 1 (map aD (replicate (((0+ (a.length:Int)) + (b.length:Int)) -0).toNat ([] :aB)))] [.q (p:=lE false 1 (((0+ (a.length:Int)) + (b.length:Int)) -0).toNat (map aD (replicate (((0+ (a.length:Int)) + (b.length:Int)) -0).toNat ([] :aB))) = (map aD (replicate (((0+ (a.length:Int)) + (b.length:Int)) -0).toNat ([] :aB)))) (aQO _)]<|.i [rn 2,.ans (.ev (.gl 1 1 0 0 false))] [.a (0≤ (((0+ (a.length:Int)) + (b.length:Int)) -0).toNat) (p':=vT PP 25 (.gl 1 1 0 ((((0+ (a.length:Int)) + (b.length:Int)) -0).toNat) false) none (some (nI 0)) (.gl 1 1 0 0 false)) (fun h=>(aPa (k:=0) (by kernel_rfl) (by decide) h))]<|.i [rn 38,.app (map aD a) a.length] [.q (p:=0+0≤length (map aD (replicate (((0+ (a.length:Int)) + (b.length:Int)) -0).toNat ([] :aB)))) (Nat.zero_le _),hA (a.length≤1000000),.q (p:=List.take 0 (List.drop 0 (map aD (replicate (((0+ (a.length:Int)) + (b.length:Int)) -0).toNat ([] :aB)))) ++ (map aD a) = (map aD a)) (by rw [List.take_zero,List.nil_append]),.q (p:=0+length (map aD a) =a.length) (by rw [Nat.zero_add,length_map])]<|ga 26 aD a b<|gz 21 2 3 1 aD (a++b) false<|.E 0 4 [] (iS (a++b)) [oC 0 [(iS a),(iS b)]] 1)<|.i [rn 38,.nilL 31 1] []<|gu 0 1 (map aD ([] :List aB))<|gs 0 31 (.gl 1 1 0 ([] :List aB).length false)<|ga 0 aD ([] :List aB) a<|ga 26 aD (([] :List aB) ++a) b<|gz 21 2 3 1 aD ((([] :List aB) ++a) ++b) false<|.E 0 4 [] (iS ((([] :List aB) ++a) ++b)) [oC 0 [(iS a),(iS b)]] 1
def aTG:=fun b c d e f a g i j k l m n o=>aRe b c d|>.f e f|>.f a|>.f a g|>.t i j k l m n o tv
def aTH:=fun b c d e f a g i j k=>aRe b c d|>.f e f|>.f a|>.f a g|>.f i j k tv
def aA2(a:LUnit):=tT 0 (aVB a)<|.y fun b:List aB=>gp 8 161 [(.agg [(aD a.name),(iC a.cons),(.ilst 2 (map LFun.av a.funs) false),(iS a.needs),(iN a.nodes)])] (iS b)<|eS 7 85 [(aD a.name)]<|fun c=>.b 2 16 (!c) (gE 32 1 (bV false))<|gl 2 aD a.needs<|gd 3 22 ((a.needs.length:Int) >20) (gE 26 1 (bV false))<|eS 1 139 [(iS b)]<|fun d=>.b 3 27 (!d) (gE 21 1 (bV false))<|eS 2 139 [(iS a.needs)]<|fun e=>.b 3 33 (!e) (gE 15 1 (bV false))<|gk 4 (.enter 160 [(.slice 1 0 2 2 1 true)]) [oC 0 [(aD a.name),(iC a.cons),(.ilst 2 (map LFun.av a.funs) false),(iS a.needs),(iN a.nodes)],oC 1 [(iS b),(iS a.needs)]] 2 (iS (b++a.needs)) [oC 0 [(aD a.name),(iC a.cons),(.ilst 2 (map LFun.av a.funs) false),(iS a.needs),(iN a.nodes)],oC 1 [(iS b),(iS a.needs)]] 2<|eS 0 139 [(iS (b++a.needs))]<|fun f=>.b 3 41 (!f) (gE 6 2 (bV false))<|.i [rn 3,.reg (rd 4 (.call (.gl 3 4 0 a.nodes.length false) (aF [oC 0 [(aD a.name),(iC a.cons),(.ilst 2 (map LFun.av a.funs) false),(iS a.needs),(iN a.nodes)],oC 1 [(iS b),(iS a.needs)],oL 3 4 (jN a.nodes)] 4)::rd 3 []))] [hA (Spec PP (.enter 189 [(iN a.nodes)]) (aF [oC 0 [(aD a.name),(iC a.cons),(.ilst 2 (map LFun.av a.funs) false),(iS a.needs),(iN a.nodes)],oC 1 [(iS b),(iS a.needs)]] 3) (.ret (.gl 3 4 0 a.nodes.length false)) (aF [oC 0 [(aD a.name),(iC a.cons),(.ilst 2 (map LFun.av a.funs) false),(iS a.needs),(iN a.nodes)],oC 1 [(iS b),(iS a.needs)],oL 3 4 (jN a.nodes)] 4)),hr (AV.ilst 2 (jC a.cons) false),hr (AV.ilst 2 (jC a.cons) false)]<|gl 5 LFun.av a.funs<|.i [rn 4,.cnil 2 1 1] []<|gu 0 4 (jI ([] :List Int))<|gv 0 2 1 (.gl 4 1 0 ([] :List Int).length false)<|.W 0 5 [0,2,3,4] (aGL a b 0 ([] :List Int))
def aTI:=fun a b c d e f=>aA2 a b d c e|>.t f tv
def aTJ:=fun a b c d e f g=>aA2 a b d c e|>.f f|>.t g tv
def aTK:=fun a b c d e f g i j k=>aA2 a b e c f|>.f g|>.f i d j|>.t k tv
def aTL:=fun a b c d e f g i j k l m n=>aA2 a b f c g|>.f i|>.f j d k|>.f l e m|>.t n tv
def aTM:=fun a b c d e f g i j k l m n o p q r=>aA2 a b g c i|>.f j|>.f k d l|>.f m e n|>.f o p f q|>.t r tv
def aTN:=fun a b c d e f g i j k l m n o p q r s=>aA2 a b g c i|>.f j|>.f k d l|>.f m e n|>.f o p f q|>.f r s ⟨kk,⟨kk,trivial⟩⟩
def aGM(a:LUnit)(b:List aB)(c:Int)(d:List Int):=tT 0 (aGL a b c d)<|gd 5 52 (c< (a.funs.length:Int)) (gX LFun.av 6 a.funs c<|fun e=>ga 10 bL d [e.body]<|gw 6 62 (c+1)<|.W 3 7 [0,1,2,6] (aGL a b (c+1) (d++ [e.body])))<|gl 6 aD b<|.b 2 65 ((b.length:Int) ==0) (gl 6 Node.av a.nodes<|gd 2 69 ((a.nodes.length:Int) >0) (gE 6 4 (bV false))<|.i [rn 13,.ctoL 1 0 true [(nI 3),(nI 0),.nils,.nils]] [hr (some [(nI 3),(nI 0),.nils,.nils]),hr true]<|.i [.lw 4 (jN [(Node.mk 3 0 [] [])])] [.q (p:=([(.agg [(nI 3),(nI 0),.nils,.nils])] :List AV) ≠ []) (by simp),.q (p:=VW [(.agg [(nI 3),(nI 0),.nils,.nils])] (jN [(Node.mk 3 0 [] [])])) (aL7 _ _)]<|gv 0 1 0 (.gl 4 4 0 [(Node.mk 3 0 [] [])].length true)<|.i [.cweak 1 0] []<|.i [.ctoL 1 1 false [(nI 0)]] [hr (some [(nI 0)]),hr true]<|gu 0 5 (jI [0])<|gv 0 1 1 (.gl 5 1 0 [0].length true)<|.i [.cweak 1 1] []<|.W 8 6 [0,1,4,5] (rU a b (([(Node.mk 3 0 [] [])].length:Nat) :Int) [(Node.mk 3 0 [] [])] [0] 0))<|.W 12 4 [0,1,2,3] (rU a b (a.nodes.length:Int) a.nodes d 0)
def aTO:=fun a b c d e f g i j k=>aGM a b c d|>.t f e g i j k ⟨kk,⟨kk,trivial⟩⟩
def aTP:=fun a b c d e f g=>aGM a b c d|>.f e|>.t f|>.t g tv
def aTQ:=fun a b c d e f g=>aGM a b c d|>.f e|>.t f|>.f g ⟨kk,⟨kk,trivial⟩⟩
def aTR:=fun a b c d e f=>aGM a b c d|>.f e|>.f f ⟨kk,⟨kk,trivial⟩⟩
def aDC(e:LUnit)(f:List aB)(g:Int)(b:List Node)(d:List Int)(c:Int):=tT 0 (rU e f g b d c)<|gd 5 79 (c<g) (.i [rn 7,.ans (.ix)] [hA (0≤c),hA (c< (b.length:Int))]<|.y fun a:Node=>gj Node.av 0 b c.toNat a<|gw 9 85 ((-1:Int) -a.n)<|.b 8 89 (a.op==4) (gl 2 aD f<|gd 3 95 (((-1:Int) -a.n) ≥ (f.length:Int)) (gl 2 aD f<|gl 2 aD e.needs<|gw 1 102 ((f.length:Int) + (e.needs.length:Int))<|gd 3 104 (((-1:Int) -a.n) < ((f.length:Int) + (e.needs.length:Int))) (.i [rn 5,.ans (.ix)] [hA (0≤c),hA (c< (b.length:Int))]<|.i [rn 1,.st (Node.av a) (Node.av (Node.mk a.op (-1) a.kids a.pats))] [.a (((b)[c.toNat]?) =some a) (jJ (f:=Node.av)),hr (some (Node.av (Node.mk a.op (-1) a.kids a.pats)))]<|.i [.lset 2 (jN (set b c.toNat (Node.mk a.op (-1) a.kids a.pats)))] [.q (p:=(jN b).set (0+c.toNat) (Node.av (Node.mk a.op (-1) a.kids a.pats)) = (jN (set b c.toNat (Node.mk a.op (-1) a.kids a.pats)))) (kQ _ _ _ _)]<|.i [.set 76 (.gl 2 4 0 (set b c.toNat (Node.mk a.op (-1) a.kids a.pats)).length false)] [.q (p:=(AV.gl 2 4 0 b.length false) = (.gl 2 4 0 (set b c.toNat (Node.mk a.op (-1) a.kids a.pats)).length false)) (dB (length_set ..).symm)]<|.i [.set 106 (.gl 2 4 0 (set b c.toNat (Node.mk a.op (-1) a.kids a.pats)).length false)] [.q (p:=(AV.gl 2 4 0 b.length false) = (.gl 2 4 0 (set b c.toNat (Node.mk a.op (-1) a.kids a.pats)).length false)) (dB (length_set ..).symm)]<|.i [.cset 1 0 (.gl 2 4 0 (set b c.toNat (Node.mk a.op (-1) a.kids a.pats)).length false)] [.q (p:=(AV.gl 2 4 0 b.length false) = (.gl 2 4 0 (set b c.toNat (Node.mk a.op (-1) a.kids a.pats)).length false)) (dB (length_set ..).symm)]<|gw 4 110 (c+1)<|.W 3 5 [0,1,2,3] (rU e f g (set b c.toNat (Node.mk a.op (-1) a.kids a.pats)) d (c+1)))<|gw 5 110 (c+1)<|.W 3 5 [0,1,2,3] (rU e f g b d (c+1)))<|gw 15 110 (c+1)<|.W 3 5 [0,1,2,3] (rU e f g b d (c+1)))<|gw 21 110 (c+1)<|.W 3 5 [0,1,2,3] (rU e f g b d (c+1)))<|.i [rn 5,.frz 111 2 (jN b)] [hk Node.av b,.q (p:=AV.frzOk 2 4 (jN b) (jN b) (.agg [(.gl 2 4 0 b.length false),(.gl 3 1 0 d.length false),(nI 0),(iC e.cons)])) (by simp [AV.frzOk,AV.frzOkL,List.take_of_length_le])]<|.i [.frz 111 3 (jI d)] [hk bL d,.q (p:=AV.frzOk 3 1 (jI d) (jI d) (.agg [(iN b),(.gl 3 1 0 d.length false),(nI 0),(iC e.cons)])) (by simp [AV.frzOk,AV.frzOkL,List.take_of_length_le])]<|gpI 0 138 [(.agg [(iN b),(iI d),(nI 0),(iC e.cons)])]<|fun a=>gE 4 4 (bV (a==0))
def aTS:=fun d e f g i j k l a b c m n o p q r=>aDC d e f g i j|>.t l a b k c m|>.t n|>.t o p|>.t q a b c r ⟨kk,⟨kk,trivial⟩⟩
def aTT:=fun a b c d e f g i j k l m n o p q r=>aDC a b c d e f|>.t i j k g l m|>.t n|>.t o p|>.f q r ⟨kk,⟨kk,trivial⟩⟩
def aTU:=fun a b c d e f g i j k l m n o p=>aDC a b c d e f|>.t i j k g l m|>.t n|>.f o p ⟨kk,⟨kk,trivial⟩⟩
def aMj:=fun a b c d e f g i j k l m n o=>aDC a b c d e f|>.t i j k g l m|>.f n o ⟨kk,⟨kk,trivial⟩⟩
def aMk:=fun a b c d e f g i j=>aDC a b c d e f|>.f i g j tv
def aXy(a:aB):TS:=dL PP 141 [(aD a)] [] 0
def aTV (a:aB):=(tT 0 (aXy a)<|gE 10 0 (aD a)) tv
end
end Go.Hb

set_option linter.defProp false
set_option linter.unusedVariables false
set_option linter.unusedSimpArgs false
set_option linter.unusedSectionVars false
set_option maxRecDepth 100000
set_option maxHeartbeats 4000000
namespace Go.Hb
open Bool (and_eq_true eq_false_iff not_eq_true')
open Eq (mp)
open List (all_cons append_assoc append_nil length map map_nil mem_cons_of_mem mem_cons_self mem_of_getElem? nil_append nodup_append)
open Go.Proofs Tryz
noncomputable section
theorem aDD (s:aB) :Pure PP 141 [aD s] (aD s) :=aV (by kernel_rfl) rfl rfl (aTV s)
theorem aJf (u:LUnit)(hl:u.funs.length≤1000) :∀ (t:List LFun) (i:Nat) (acc:List aB),u.funs.drop i=t→acc.length=i→Ends PP 0 (aGJ u (i:Int) acc).as (.ret (.ilst 1 (map aD (acc++t.map LFun.name)) false)) (aF [] 0)
 | [],i,acc,h,ha=>by
  have:=bE h;rw [map_nil,append_nil];exact aTy u i acc sd
 | c::t,i,acc,h,ha=>by
  obtain⟨q1,q2,q3⟩ :=bB h;have hi:= (List.getElem?_eq_some_iff.1 q1).1;refine(aTx u i acc c sd sd sd (by simp;omega) sd).ends ?_;have:=aJf u hl t (i+1) (acc++ [c.name]) q2 (by simp [ha]);rw [append_assoc]at this;exact this
theorem aRf (u:LUnit)(hl:u.funs.length≤1000) :Pure PP 161 [LUnit.av u] (.ilst 1 (map aD (aE u)) false) :=
 cJ (s:=aVA u) (by kernel_rfl) (by kernel_rfl) (by simp [AV.keylessL,uP]) (by simp [AV.keyless]) ((aTw u).ends (aJf u hl u.funs 0 [] rfl rfl))
def aRg (pre:List aB)(m:List (aB×Bool)) :Prop:=∀s,dG s m=if aQ pre s=true then some true else none
theorem aOj {pre:List aB}{m:List (aB×Bool)}(h:aRg pre m)(s:aB) :aRg (pre++ [s]) (bK s true m) :=fun k=>by
 rw [mO,h k];by_cases e:k=s
 ·rw [if_pos e,if_pos (by rw [hasS_mem,e];simp)]
 · rw [if_neg e];have: (aQ (pre++ [s]) k=true) = (aQ pre k=true) :=by
    rw [hasS_mem,hasS_mem];simp [e]
   simp only [this]
theorem aVC (l:List aB)(hl:l.length<1000000) :∀ (t:List aB) (i:Nat) (m:List (aB×Bool)),l.drop i=t→aRg (l.take i) m→Ends PP 0 (aA1 l (i:Int) m).as (.ret (.bool (cD (l.take i) t))) (aF [] 0)
 | [],i,m,h,hm=>by
  have:=bE h;exact aTF l i m sd
 | s::t,i,m,h,hm=>by
  obtain⟨q1,q2,q3⟩ :=bB h;have g:=hm s;rw [cD];cases e:aQ (l.take i) s with
  | true=>
   rw [e,if_pos rfl]at g;exact aTD l i m s s true sd sd sd (aDD s) g rfl
  | false=>
   rw [e,if_neg (by simp)]at g;have h1:=aTE l i m s s s sd sd sd (aDD s) g (aDD s) sd;have ih:=aVC l hl t (i+1) (bK s true m) q2 (by rw [aB8 q1];exact aOj hm s);rw [aB8 q1]at ih;exact h1.ends ih
theorem aVD (l:List aB)(hl:l.length<1000000) :∀ (t:List aB) (i:Nat),l.drop i=t→Ends PP 0 (aGK l (i:Int)).as (.ret (.bool (t.all nH&&bU l))) (aF [] 0)
 | [],i,h=>by
  have:=bE h;have h2:=aVC l hl l 0 [] rfl (fun s=>by simp [dG,aQ]);exact(aTC l i sd).ends h2
 | s::t,i,h=>by
  obtain⟨q1,q2,q3⟩ :=bB h;have hn:=aIL s;rw [all_cons];cases e:nH s with
  |false=>rw [e]at hn;exact aTA l i s false sd sd sd hn rfl (by simp)
  |true=>rw [e]at hn;rw [Bool.true_and];exact(aTB l i s true sd sd sd hn rfl sd).ends (aVD l hl t (i+1) q2)
theorem aDE (l:List aB)(hl:l.length<1000000) :Pure PP 139 [.ilst 1 (map aD l) false] (.bool (eK l)) :=
 aV (by kernel_rfl) rfl rfl ((aTz l).ends (aVD l hl l 0 rfl))
abbrev aLo (a b:List aB) :AObj:=.cells (putCells .leaf 0 [.ilst 1 (map aD a) false,.ilst 1 (map aD b) false]) 2 [] false
theorem aRh (a b:List aB)(ha:a.length≤1000)(hb:b.length≤1000) :aBr PP 1 (.enter 160 [.slice 0 0 2 2 1 true]) (aF [(0,aLo a b,false)] 1) (.ret (.ilst 1 (map aD (a++b)) false)) (aF [(0,aLo a b,false)] 1) :=by
 suffices hh:Ends PP 1 (aRc a b).as (.ret (.ilst 1 (map aD (a++b)) false)) (aF [(0,aLo a b,false)] 1)from⟨(aRc a b).as.fr,by kernel_rfl,mp (by kernel_rfl) hh⟩
 have w1:IntKind.i64.wrap ((0:Int) + ((length a:Nat) :Int)) = (0:Int) + ((length a:Nat) :Int) :=by apply wrap64<;>omega
 have w2:IntKind.i64.wrap (((0:Int) + ((length a:Nat) :Int)) + ((length b:Nat) :Int)) = ((0:Int) + ((length a:Nat) :Int)) + ((length b:Nat) :Int) :=by apply wrap64<;>omega
 have w3:IntKind.i64.wrap ((((0:Int) + ((length a:Nat) :Int)) + ((length b:Nat) :Int)) - (0:Int)) = (((0:Int) + ((length a:Nat) :Int)) + ((length b:Nat) :Int)) - (0:Int) :=by apply wrap64<;>omega
 by_cases h:a.length+b.length=0
 · have h1:=aTH a b w1 (decide_eq_false (by omega)) w2 (decide_eq_false (by omega)) w3 (decide_eq_false (by omega)) (by simp;omega) (by simp;omega);rw [nil_append]at h1;exact h1
 ·exact aTG a b w1 (decide_eq_false (by omega)) w2 (decide_eq_false (by omega)) w3 (decide_eq_true (by omega)) (by omega) (by omega) (by omega) (by omega) (by omega) (by simp;omega)
theorem aRi (xs:List Node)(h:xs.length≤1000000) :aBq PP (.enter 189 [.ilst 4 (map Node.av xs) false]) (aF [] 0) (.ret (.gl 0 4 0 (length xs) false)) (aF [(0,.lst 4 (map Node.av xs),true)] 1) :=by
 suffices hh:Ends PP 0 (aRb xs).as (.ret (.gl 0 4 0 (length xs) false)) (aF [(0,.lst 4 (map Node.av xs),true)] 1)from⟨(aRb xs).as.fr,by kernel_rfl,mp (by kernel_rfl) hh⟩
 refine(aXv xs).ends ?_;refine aOW (j:=3) (e:=4) (ex:=false) (xs:=map Node.av xs) (by kernel_rfl) (fun hx=>?_) (fun a n c=>?_)
 · have hx:xs= [] :=by simpa using hx
   subst hx;exact mp (by kernel_rfl) (aXw [])
 · have h1:=aXx xs a n c (by simpa using h);rw [nil_append]at h1;exact mp (by kernel_rfl) h1
theorem mQ (l:List aB) :bU l=true↔l.Nodup:=
 ⟨fun h=> (rS l [] h).1,fun h=>rT l [] h (fun _ _ hx=>by cases hx)⟩
theorem aLp (a b:List aB)(ha:eK a=true)(hb:eK b=true) :eK (a++b) =b.all (fun s=> !aQ a s) :=by
 simp only [eK,and_eq_true,mQ]at ha hb;have hn: (a++b).all nH=true:=by rw [List.all_append,ha.1,hb.1];rfl
 rw [eK,hn,Bool.true_and];rw [Bool.eq_iff_iff,mQ,nodup_append,List.all_eq_true];constructor
 · intro h s hs;rw [not_eq_true',eq_false_iff];intro hh;exact h.2.2 s (hasS_mem.1 hh) s hs rfl
 · intro h;refine⟨ha.2,hb.2,fun x hx y hy e=>?_⟩;have:=h y hy;rw [not_eq_true',eq_false_iff]at this;exact this (hasS_mem.2 (e ▸ hx))
def NumU (u:LUnit) :Prop:=∀x∈u.nodes,-9223372036854775808≤x.n∧x.n≤9223372036854775807
theorem aOk {n:Int}(h: -9223372036854775808≤n∧n≤9223372036854775807) :IntKind.i64.wrap ((-1:Int) -n) = (-1:Int) -n:=by apply wrap64<;>omega
theorem aFc (b:Bool) : (checkN b== (0:Int)) =b:=by cases b<;>rfl
section
variable (u :LUnit) (hu:FewU u) (hi:NumU u)
include hu hi
theorem aVE (l3:List Int)(h3:l3=dJ u) :∀ (t:List Node) (i:Nat),u.nodes.drop i=t→i≤u.nodes.length→Ends PP 0 (rU u (aE u) ((u.nodes.length:Nat) :Int) (pD (fO u.funs.length u.needs.length) u.nodes i) l3 (i:Int)).as (.ret (.bool (aO (jP u)))) (aF [] 0)
 | [],i,h,hi=>by
  have hd:=bE h;rw [aI3 (by omega),h3];have h1:=aMk u (aE u) ((u.nodes.length:Nat) :Int) (jP u).nodes (jP u).funs i _ sd (aIU (lW hu));rw [aFc]at h1;exact h1
 | x :: t,i,h,hi2=>by
  obtain⟨q1,q2,q3⟩ :=bB h;have hi3:= (List.getElem?_eq_some_iff.1 q1).1;have hn:u.nodes.length≤320:=by have:=hu.p;simp only [aH,and_eq_true,decide_eq_true_eq]at this;exact this.1.1.1.1
  have hf:=hu.f;have hd:=hu.n;have hl: (pD (fO u.funs.length u.needs.length) u.nodes i).length=u.nodes.length:=aDw;have ho: (aE u).length=u.funs.length:=by simp [aE]
  have hg:=aI4 (f:=fO u.funs.length u.needs.length) q1;have w1:=aOk (hi x (mem_of_getElem? q1));have w2:IntKind.i64.wrap (((length (aE u) :Nat) :Int) + ((length u.needs:Nat) :Int)) = ((length (aE u) :Nat) :Int) + ((length u.needs:Nat) :Int) :=by apply wrap64<;>omega
  have ih:=aVE l3 h3 t (i+1) q2 (by omega);by_cases h4:x.op=4
  · by_cases ha: ((length (aE u) :Nat) :Int) ≤ -1-x.n
    · by_cases hb: -1-x.n< ((length (aE u) :Nat) :Int) + ((length u.needs:Nat) :Int)
      · have ef:fO u.funs.length u.needs.length x= ⟨x.op,-1,x.kids,x.pats⟩ :=by unfold fO;rw [if_pos ⟨h4,by omega⟩]
        have h1:=aTS u (aE u) ((u.nodes.length:Nat) :Int) _ l3 i x sd sd (by rw [hl];omega) (by rw [Int.toNat_natCast];exact hg) w1 (by simp [h4]) (decide_eq_true ha) w2 (decide_eq_true hb) sd;rw [Int.toNat_natCast,←ef,aI5 q1]at h1;exact h1.ends ih
      · have ef:fO u.funs.length u.needs.length x=x:=by unfold fO;rw [if_neg (fun g=>by have:=g.2;omega)]
        have h1:=aTT u (aE u) ((u.nodes.length:Nat) :Int) _ l3 i x sd sd (by rw [hl];omega) (by rw [Int.toNat_natCast];exact hg) w1 (by simp [h4]) (decide_eq_true ha) w2 (decide_eq_false hb) sd;rw [pE q1 ef]at h1 hl ⊢;exact h1.ends ih
    · have ef:fO u.funs.length u.needs.length x=x:=by unfold fO;rw [if_neg (fun g=>by have:=g.2;omega)]
      have h1:=aTU u (aE u) ((u.nodes.length:Nat) :Int) _ l3 i x sd sd (by rw [hl];omega) (by rw [Int.toNat_natCast];exact hg) w1 (by simp [h4]) (decide_eq_false ha) sd;rw [pE q1 ef]at h1 hl ⊢;exact h1.ends ih
  · have ef:fO u.funs.length u.needs.length x=x:=by unfold fO;rw [if_neg (fun g=>h4 g.1)]
    have h1:=aMj u (aE u) ((u.nodes.length:Nat) :Int) _ l3 i x sd sd (by rw [hl];omega) (by rw [Int.toNat_natCast];exact hg) w1 (by simp [h4]) sd;rw [pE q1 ef]at h1 hl ⊢;exact h1.ends ih
theorem aRj :Ends PP 0 (rU u (aE u) (((length [(Node.mk 3 0 [] [])]) :Nat) :Int) [(Node.mk 3 0 [] [])] [0] 0).as (.ret (.bool (aO (xG u)))) (aF [] 0) :=by
 have h0:=aMj u (aE u) 1 [(Node.mk 3 0 [] [])] [0] 0 ⟨3,0,[],[]⟩ (by decide) (by decide) (by decide) rfl (by decide) (by decide) (by decide);have h1:=aMk u (aE u) 1 (xG u).nodes (xG u).funs 1 _ (by decide) (aIU (yL hu));rw [aFc]at h1;exact h0.ends h1
theorem aVF (b:Bool)(hb:b=if u.funs.length=0 then decide (u.nodes.length=0) &&aO (xG u)else aO (jP u)) :∀ (t:List LFun) (i:Nat) (acc:List Int),u.funs.drop i=t→acc.length=i→acc++t.map LFun.body=dJ u→Ends PP 0 (aGL u (aE u) (i:Int) acc).as (.ret (.bool b)) (aF [] 0)
 | [], i,acc,h,ha,e=>by
  have:=bE h;have ho: (aE u).length=u.funs.length:=by simp [aE]
  rw [map_nil,append_nil]at e;by_cases h0:u.funs.length=0
  · rw [if_pos h0]at hb;by_cases h1:u.nodes.length=0
    · rw [decide_eq_true h1,Bool.true_and]at hb;rw [hb];exact(aTQ u (aE u) i acc sd (by rw [ho,h0];rfl) (by rw [h1];rfl)).ends (aRj u hu hi)
    · rw [decide_eq_false h1,Bool.false_and]at hb;rw [hb];exact aTP u (aE u) i acc sd (by rw [ho,h0];rfl) (decide_eq_true (by omega))
  · rw [if_neg h0]at hb;rw [hb];have h2:=aVE u hu hi acc e u.nodes 0 rfl (Nat.zero_le _);rw [aE6]at h2;exact(aTR u (aE u) i acc sd (beq_eq_false_iff_ne.2 (by rw [ho];omega))).ends h2
 | f::t,i,acc,h,ha,e=>by
  obtain⟨q1,q2,q3⟩ :=bB h;have hf:=hu.f;exact(aTO u (aE u) i acc f sd sd sd (by simp;omega) sd).ends (aVF b hb t (i+1) (acc++ [f.body]) q2 (by simp [ha]) (by simpa using e))
theorem aJg :Pure PP 121 [LUnit.av u] (.bool (fU u)) :=by
 have hf:=hu.f;have hd:=hu.n;refine cJ (s:=aVB u) (by kernel_rfl) (by kernel_rfl) (by simp [AV.keylessL,uP]) (by simp [AV.keyless]) ?_;have hnl: (aE u).length=u.funs.length:=by simp [aE]
 have a0:=aRf u (by omega);have a1:=aIL u.name;have a2:=aDE (aE u) (by omega);have a3:=aDE u.needs (by omega);have a4:=aDE (aE u++u.needs) (by simp;omega);have hn:u.nodes.length≤320:=by have:=hu.p;simp only [aH,and_eq_true,decide_eq_true_eq]at this;exact this.1.1.1.1
 have hc:=aRh (aE u) u.needs (by omega) (by omega)
 have hc':=vM (m:=1) (ks:=[1]) (n2:=2) (n3:=2) (v':=.ilst 1 (map aD (aE u++u.needs)) false) (args':=[.slice 1 0 2 2 1 true])
  (lc:=[(0,aMd u,false),(1,aLo (aE u) u.needs,false)]) (lc':=[(0,aMd u,false),(1,aLo (aE u) u.needs,false)])
  hc (by rfl) (by kernel_rfl) (by kernel_rfl) (by rfl) (by rfl) (by kernel_rfl) (by kernel_rfl) trivial (by kernel_rfl) trivial
 have hk:=aO5 (ks:=[]) (n2:=3) (args':=[.ilst 4 (map Node.av u.nodes) false])
  (lc:=[(0,aMd u,false),(1,aLo (aE u) u.needs,false)]) (x:=[(0,aMd u,false),(1,aLo (aE u) u.needs,false)])
  (aRi u.nodes (by omega)) (by kernel_rfl) (by kernel_rfl) (by kernel_rfl) trivial (by kernel_rfl) (by kernel_rfl) (by kernel_rfl) (by kernel_rfl) ⟨jG _ (fun _=>rfl) _,trivial⟩ (by kernel_rfl)
 unfold fU;cases e1:nH u.name with
 |false=>rw [e1]at a1;simp only [Bool.false_and];exact aTI u (aE u) false a0 a1 rfl
 | true =>
  rw [e1]at a1;by_cases e2:u.needs.length≤20
  · rw [decide_eq_true e2];cases e3:eK (aE u)with
    |false=>rw [e3]at a2;simp only [Bool.true_and,Bool.false_and,Bool.and_false];exact aTK u (aE u) true false a0 a1 rfl (by simp;omega) a2 rfl
    | true=>
     rw [e3]at a2;cases e4:eK u.needs with
     |false=>rw [e4]at a3;simp only [Bool.true_and,Bool.false_and,Bool.and_false];exact aTL u (aE u) true true false a0 a1 rfl (by simp;omega) a2 rfl a3 rfl
     | true=>
      rw [e4]at a3;rw [aLp _ _ e3 e4]at a4;simp only [Bool.true_and];cases e5:u.needs.all (fun s=> !aQ (aE u) s)with
      | false=>
       rw [e5]at a4;rw [Bool.false_and];exact aTM u (aE u) true true true false a0 a1 rfl (by simp;omega) a2 rfl a3 rfl (mp (by kernel_rfl) hc') a4 rfl
      | true=>
       rw [e5]at a4;rw [Bool.true_and];exact(aTN u (aE u) true true true true a0 a1 rfl (by simp;omega) a2 rfl a3 rfl (mp (by kernel_rfl) hc') a4 rfl (mp (by kernel_rfl) hk)).ends (aVF u hu hi _ rfl u.funs 0 [] rfl rfl rfl)
  · rw [decide_eq_false e2];simp only [Bool.and_false,Bool.false_and];exact aTJ u (aE u) true a0 a1 rfl (by simp;omega)
end
def aJh(a:List LUnit):TS:=dL PP 63 [(.ilst 5 (map LUnit.av a) false)] [] 0
def uR(a:List LUnit)(e:Int)(f:Bool)(b c:List (aB×Int))(d:List aB):TS:=⟨(tf 63 87 [(2,.nilp),kp 3 0,(19,(.ilst 5 (map LUnit.av a) false)),(20,(nI (a.length:Int))),(21,(nI e))] [kc f63 244,kl f63 244,.inBlock 0,kc f63 31]),[],[oC 0 [(.ilst 5 (map LUnit.av a) false),(.map 1),(.map 2),(.gl 3 1 0 d.length false),(bV f)],(1,(.map (aJ aD bL 0 b) b.length),true),(2,(.map (aJ aD bL 0 c) c.length),true),oL 3 1 (map aD d)],4⟩
def aA3(a:List LUnit)(e:List LFun)(f g:Int)(i:Bool)(b:List aB)(c d:List (aB×Int))(j k:Int):TS:=⟨(tf 63 87 [(2,.nilp),kp 3 0,(4,(nI j)),(19,(.ilst 5 (map LUnit.av a) false)),(20,(nI (a.length:Int))),(21,(nI k)),(31,(.ilst 2 (map LFun.av e) false)),(32,(nI f)),(33,(nI g))] [kc f63 125340,kl f63 125340,.inBlock 2,.inBlock 1,kc f63 1959,kl f63 244,.inBlock 0,kc f63 31]),[],[oC 0 [(.ilst 5 (map LUnit.av a) false),(.map 1),(.map 2),(.gl 3 1 0 b.length false),(bV i)],(1,(.map (aJ aD bL 0 c) c.length),true),(2,(.map (aJ aD bL 0 d) d.length),true),oL 3 1 (map aD b)],4⟩
def aRk(d:List LUnit)(a b:List (aB×Int))(c:List aB)(e:Bool):TS:=dL PP 64 [(.ptr 0 0)] [oC 0 [(.ilst 5 (map LUnit.av d) false),(.map 1),(.map 2),(.gl 3 1 0 c.length false),(bV e)],(1,(.map (aJ aD bL 0 a) a.length),true),(2,(.map (aJ aD bL 0 b) b.length),true),oL 3 1 (map aD c)] 4
def aDF(a:List LUnit)(b c:List (aB×Int))(d:List aB)(f:Bool)(g:Int)(e:List aB):TS:=⟨(tf 64 50 [kp 0 0,(2,.nils),(3,(.gl 4 1 0 e.length false)),(13,(.ilst 5 (map LUnit.av a) false)),(14,(nI (a.length:Int))),(15,(nI g))] [kc f64 116,kl f64 116,.inBlock 0,kc f64 15]),[],[oC 0 [(.ilst 5 (map LUnit.av a) false),(.map 1),(.map 2),(.gl 3 1 0 d.length false),(bV f)],(1,(.map (aJ aD bL 0 b) b.length),true),(2,(.map (aJ aD bL 0 c) c.length),true),oL 3 1 (map aD d),oL 4 1 (map aD e)],5⟩
def uS(a:List LUnit)(b c:List (aB×Int))(d:List aB)(f:Bool)(g:List aB)(i j:Int)(e:List aB)(k:Int):TS:=⟨(tf 64 50 [kp 0 0,(2,.nils),(3,(.gl 4 1 0 e.length false)),(13,(.ilst 5 (map LUnit.av a) false)),(14,(nI (a.length:Int))),(15,(nI k)),(20,(iS g)),(21,(nI i)),(22,(nI j))] [kc f64 29900,kl f64 29900,.inBlock 2,.inBlock 1,kc f64 935,kl f64 116,.inBlock 0,kc f64 15]),[],[oC 0 [(.ilst 5 (map LUnit.av a) false),(.map 1),(.map 2),(.gl 3 1 0 d.length false),(bV f)],(1,(.map (aJ aD bL 0 b) b.length),true),(2,(.map (aJ aD bL 0 c) c.length),true),oL 3 1 (map aD d),oL 4 1 (map aD e)],5⟩
def aGN(c:List LUnit)(d e:List (aB×Int))(f:List aB)(g:Bool)(b:aB)(i:List aB)(j k l m n:Int)(a:List aB):TS:=⟨(tf 151 19 [(0,(.gl 4 1 0 a.length false)),(1,(aD b)),(4,(nI 0)),(7,(nI m)),(8,(nI l))] [kc f151 52,kl f151 52,.inBlock 0,kc f151 7]),[(tf 58 9 [(4,(bV false)),(5,(.gl 4 1 0 a.length false)),(6,(aD b))] [ko f58 6 2,kc f58 7]),(tf 64 50 [kp 0 0,(2,.nils),(3,(.gl 4 1 0 a.length false)),(7,(aD b)),(13,(.ilst 5 (map LUnit.av c) false)),(14,(nI (c.length:Int))),(15,(nI n)),(20,(iS i)),(21,(nI j)),(22,(nI k)),(37,(bV true)),(38,(.gl 4 1 0 a.length false)),(39,(aD b))] [ko f64 3827302 5,kc f64 3827303,.inBlock 3,kc f64 239207,kl f64 29900,.inBlock 2,.inBlock 1,kc f64 935,kl f64 116,.inBlock 0,kc f64 15])],[oC 0 [(.ilst 5 (map LUnit.av c) false),(.map 1),(.map 2),(.gl 3 1 0 f.length false),(bV g)],(1,(.map (aJ aD bL 0 d) d.length),true),(2,(.map (aJ aD bL 0 e) e.length),true),oL 3 1 (map aD f),oL 4 1 (map aD a)],5⟩
def aRl(a:List LUnit):=tT 0 (aJh a)<|gl 7 LUnit.av a<|gd 6 4 ((a.length:Int) >10) (gQ 7 0 [((.iface 201 (.agg [(nI 2)])),false)])<|.i [rn 9,.mset 0 (aJ aD bL 0 ([] :List (aB×Int))) ([] :List (aB×Int)).length] [hr (aJ aD bL 0 ([] :List (aB×Int))),hr (length ([] :List (aB×Int)))]<|.i [rn 1,.mset 1 (aJ aD bL 0 ([] :List (aB×Int))) ([] :List (aB×Int)).length] [hr (aJ aD bL 0 ([] :List (aB×Int))),hr (length ([] :List (aB×Int)))]<|gl 8 LUnit.av a<|.i [rn 4,.cnil 2 3 1] []<|gu 0 3 (map aD ([] :List aB))<|gv 0 2 3 (.gl 3 1 0 ([] :List aB).length false)<|.W 0 4 [2,0,1,3] (uR a 0 false ([] :List (aB×Int)) ([] :List (aB×Int)) ([] :List aB))
def aTW:=fun a b=>aRl a|>.t b tv
def aGO:=fun a b=>aRl a|>.f b ⟨bA (fun _=>rfl) (fun _=>rfl) _ _ _,⟨bA (fun _=>rfl) (fun _=>rfl) _ _ _,⟨kk,trivial⟩⟩⟩
def aLq(b:List LUnit)(c:Int)(g:Bool)(d e:List (aB×Int))(f:List aB):=tT 0 (uR b c g d e f)<|gd 5 22 (c< (b.length:Int)) (gX LUnit.av 7 b c<|fun a=>eS 8 121 [(.agg [(aD a.name),(iC a.cons),(.ilst 2 (map LFun.av a.funs) false),(iS a.needs),(iN a.nodes)])]<|fun i=>.b 6 4 (!i) (gQ 7 5 [((.iface 201 (.agg [(nI 2)])),false)])<|gl 9 LFun.av a.funs<|.W 4 5 [0,1,2,3] (aA3 b a.funs (a.funs.length:Int) 0 g f d e c c))<|.E 8 4 [0,1,2,3] (.ptr 0 0) [oC 0 [(.ilst 5 (map LUnit.av b) false),(.map 1),(.map 2),(.gl 3 1 0 f.length false),(bV g)],(1,(.map (aJ aD bL 0 d) d.length),true),(2,(.map (aJ aD bL 0 e) e.length),true),oL 3 1 (map aD f)] 4
def aTX:=fun a b c d e f g i j k l m n=>aLq a b c d e f|>.t j g k l i m|>.t n tv
def aMl:=fun a b c d e f g i j k l m n=>aLq a b c d e f|>.t j g k l i m|>.f n ⟨bA (fun _=>rfl) (fun _=>rfl) _ _ _,⟨bA (fun _=>rfl) (fun _=>rfl) _ _ _,⟨kk,trivial⟩⟩⟩
def aMm:=fun a b c d e f g=>aLq a b c d e f|>.f g ⟨bA (fun _=>rfl) (fun _=>rfl) _ _ _,⟨bA (fun _=>rfl) (fun _=>rfl) _ _ _,⟨kk,trivial⟩⟩⟩
def aLr(i:List LUnit)(j:List LFun)(k f:Int)(l:Bool)(c:List aB)(b d:List (aB×Int))(e g:Int):=tT 0 (aA3 i j k f l c b d e g)<|gd 5 34 (f<k) (gX LFun.av 6 j f<|fun a=>.o (.y fun m:Int=>.i [rn 6,.reg (rd 6 (.ans (.look (some (uE a.name b,(bL m))))::rd 5 [])),rn 11,.reg (rd 8 (.app (map aD (c++ [a.name])) (c++ [a.name]).length::rd 3 []))] [.a (dG a.name b=some m) (p':=dX (aD a.name) (aJ aD bL 0 b) 0=some (some (uE a.name b,(bL m)))) (oU fG),hb aD c,hA (length (c++ [a.name]) ≤1000000),hc aD c [a.name],he aD c [a.name]]<|gw 3 84 (f+1)<|.W 3 7 [0,1,2,6] (aA3 i j k (f+1) true (c++ [a.name]) b d e g))<|.i [rn 6,.reg (rd 6 (.ans (.look none)::rd 5 [])),rn 5,.reg (rd 18 [.mval (.tup [(nI 0),(nI (b.length:Int))]) (aJ aD bL 0 (bK a.name 0 b)) (bK a.name 0 b).length,.d,.mval .undef (aJ aD bL 0 (bK a.name (c.length:Int) b)) (bK a.name (c.length:Int) b).length,.mval (.tup [(nI 0),(nI (d.length:Int))]) (aJ aD bL 0 (bK a.name 0 d)) (bK a.name 0 d).length,.d,.mval .undef (aJ aD bL 0 (bK a.name e d)) (bK a.name e d).length]),.reg (rd 8 (.app (map aD (c++ [a.name])) (c++ [a.name]).length::rd 3 []))] [.a (dG a.name b=none) (p':=dX (aD a.name) (aJ aD bL 0 b) 0=some none) (oS fG),.a (dG a.name b=none) (p':=aAL (aJ aD bL 0 b) b.length (aD a.name) (bL 0) =some ((.tup [(nI 0),(nI (b.length:Int))]),(aJ aD bL 0 (bK a.name 0 b)),length (bK a.name 0 b))) (fun h=>(aL8 fG h _)),.q (p:=0≤ (b.length:Int)) (Int.natCast_nonneg _),.a (dG a.name b=none) (p':=hY (bL (c.length:Int)) (b.length:Int).toNat (aJ aD bL 0 (bK a.name 0 b)) =some (aJ aD bL 0 (bK a.name (c.length:Int) b))) (fun h=>(aIW h _ _)),.a (dG a.name b=none) (p':=(bK a.name 0 b).length=length (bK a.name (c.length:Int) b)) (fun h=>(aL9 h _ _)),hr AV.undef,.a (dG a.name d=none) (p':=aAL (aJ aD bL 0 d) d.length (aD a.name) (bL 0) =some ((.tup [(nI 0),(nI (d.length:Int))]),(aJ aD bL 0 (bK a.name 0 d)),length (bK a.name 0 d))) (fun h=>(aL8 fG h _)),.q (p:=0≤ (d.length:Int)) (Int.natCast_nonneg _),.a (dG a.name d=none) (p':=hY (bL e) (d.length:Int).toNat (aJ aD bL 0 (bK a.name 0 d)) =some (aJ aD bL 0 (bK a.name e d))) (fun h=>(aIW h _ _)),.a (dG a.name d=none) (p':=(bK a.name 0 d).length=length (bK a.name e d)) (fun h=>(aL9 h _ _)),hr AV.undef,hr (nI (c.length:Int)),hr (nI (c.length:Int)),hr (AV.gl 3 1 0 c.length false),hr (AV.gl 3 1 0 c.length false),hr (aD a.name),hr (aD a.name),hr (aD a.name),hb aD c,hA (length (c++ [a.name]) ≤1000000),hc aD c [a.name],he aD c [a.name]]<|gw 3 84 (f+1)<|.W 3 7 [0,1,2,6] (aA3 i j k (f+1) l (c++ [a.name]) (bK a.name (c.length:Int) b) (bK a.name e d) e g))<|gw 5 85 (g+1)<|.W 3 4 [0,1,2,3] (uR i (g+1) l b d c)
def aMn:=fun a b c d e f g i j k l m n o p q r s=>aLr a b c d e f g i j k|>.t n l o p|>.1 m q r s ⟨bA (fun _=>rfl) (fun _=>rfl) _ _ _,⟨bA (fun _=>rfl) (fun _=>rfl) _ _ _,⟨kk,trivial⟩⟩⟩
def aMo:=fun c d e f g i j k l m n o p q a b r s=>aLr c d e f g i j k l m|>.t o n p q|>.2 a a a a b b b r s ⟨bA (fun _=>rfl) (fun _=>rfl) _ _ _,⟨bA (fun _=>rfl) (fun _=>rfl) _ _ _,⟨kk,trivial⟩⟩⟩
def aMp:=fun a b c d e f g i j k l m=>aLr a b c d e f g i j k|>.f l m ⟨bA (fun _=>rfl) (fun _=>rfl) _ _ _,⟨bA (fun _=>rfl) (fun _=>rfl) _ _ _,⟨kk,trivial⟩⟩⟩
def aTY (a:List LUnit)(b c:List (aB×Int))(d:List aB)(e:Bool):=(tT 4 (aRk a b c d e)<|gl 15 LUnit.av a<|.i [rn 4,.nilL 3 1] []<|gu 0 4 (map aD ([] :List aB))<|gs 0 3 (.gl 4 1 0 ([] :List aB).length false)<|.W 0 5 [4] (aDF a b c d e 0 ([] :List aB))) ⟨bA (fun _=>rfl) (fun _=>rfl) _ _ _,⟨bA (fun _=>rfl) (fun _=>rfl) _ _ _,⟨kk,⟨kk,trivial⟩⟩⟩⟩
def aWP(a:List LUnit)(b c:List (aB×Int))(d:List aB)(g:Bool)(e:Int)(f:List aB):=tT 4 (aDF a b c d g e f)<|gd 5 16 (e< (a.length:Int)) (gX LUnit.av 6 a e<|fun i=>gl 8 aD i.needs<|.W 4 6 [4] (uS a b c d g i.needs (i.needs.length:Int) 0 f e))<|gz 8 2 4 1 aD f false<|.E 0 5 [] (iS f) [oC 0 [(.ilst 5 (map LUnit.av a) false),(.map 1),(.map 2),(.gl 3 1 0 d.length false),(bV g)],(1,(.map (aJ aD bL 0 b) b.length),true),(2,(.map (aJ aD bL 0 c) c.length),true),oL 3 1 (map aD d)] 4
def aTZ:=fun a b c d e f g i j k l=>aWP a b c d e f g|>.t j i k l ⟨bA (fun _=>rfl) (fun _=>rfl) _ _ _,⟨bA (fun _=>rfl) (fun _=>rfl) _ _ _,⟨kk,⟨kk,trivial⟩⟩⟩⟩
def aLs(f:List LUnit)(a g:List (aB×Int))(i:List aB)(j:Bool)(k:List aB)(l c:Int)(d:List aB)(e:Int):=tT 4 (uS f a g i j k l c d e)<|gd 5 23 (c<l) (gX aD 6 k c<|fun b=>.o (.y fun m:Int=>.i [rn 10,.ans (.look (some (uE b a,(bL m))))] [.a (dG b a=some m) (p':=dX (aD b) (aJ aD bL 0 a) 0=some (some (uE b a,(bL m)))) (oU fG)]<|gw 22 47 (c+1)<|.W 3 5 [4] (uS f a g i j k l (c+1) d e))<|.i [rn 10,.ans (.look none)] [.a (dG b a=none) (p':=dX (aD b) (aJ aD bL 0 a) 0=some none) (oS fG)]<|.W 36 5 [4] (aGN f a g i j b k l c 0 (d.length:Int) e d))<|gw 5 48 (e+1)<|.W 3 5 [4] (aDF f a g i j (e+1) d)
def aT0:=fun a b c d e f g i j k l m n o p q r=>aLs a b c d e f g i j k|>.t n l o p|>.1 m q r ⟨bA (fun _=>rfl) (fun _=>rfl) _ _ _,⟨bA (fun _=>rfl) (fun _=>rfl) _ _ _,⟨kk,⟨kk,trivial⟩⟩⟩⟩
def aT1:=fun a b c d e f g i j k l m n o p=>aLs a b c d e f g i j k|>.t m l n o|>.2 p ⟨bA (fun _=>rfl) (fun _=>rfl) _ _ _,⟨bA (fun _=>rfl) (fun _=>rfl) _ _ _,⟨kk,⟨kk,trivial⟩⟩⟩⟩
def aT2:=fun a b c d e f g i j k l m=>aLs a b c d e f g i j k|>.f l m ⟨bA (fun _=>rfl) (fun _=>rfl) _ _ _,⟨bA (fun _=>rfl) (fun _=>rfl) _ _ _,⟨kk,⟨kk,trivial⟩⟩⟩⟩
def aLt(e:List LUnit)(f g:List (aB×Int))(i:List aB)(j:Bool)(b:aB)(k:List aB)(l c d n m:Int)(a:List aB):=tT 4 (aGN e f g i j b k l c d n m a)<|gd 5 9 (d<n) (.i [rn 14,.ans (.ix)] [hA (0≤d),hA (d< (a.length:Int))]<|.y fun o:aB=>gj aD 0 a d.toNat o<|.b 2 16 (bM b.length (aA b) o.length (aA o)) (.b 16 42 (!(decide (d≥0))) (ga 5 aD a [b]<|gw 5 47 (c+1)<|.W 3 7 [6] (uS e f g i j k l (c+1) (a++ [b]) m))<|gw 5 47 (c+1)<|.W 3 5 [4] (uS e f g i j k l (c+1) a m))<|gw 5 18 (d+1)<|.W 3 5 [4] (aGN e f g i j b k l c (d+1) n m a))<|ga 21 aD a [b]<|gw 5 47 (c+1)<|.W 3 7 [6] (uS e f g i j k l (c+1) (a++ [b]) m)
def aT3:=fun a b c d e f g i j k l m n o p q r s t u v=>aLt a b c d e f g i j k l m n|>.t p q r o s|>.t t|>.f u v ⟨bA (fun _=>rfl) (fun _=>rfl) _ _ _,⟨bA (fun _=>rfl) (fun _=>rfl) _ _ _,⟨kk,⟨kk,trivial⟩⟩⟩⟩
def aT4:=fun a b c d e f g i j k l m n o p q r s t u=>aLt a b c d e f g i j k l m n|>.t p q r o s|>.f t u ⟨bA (fun _=>rfl) (fun _=>rfl) _ _ _,⟨bA (fun _=>rfl) (fun _=>rfl) _ _ _,⟨kk,⟨kk,trivial⟩⟩⟩⟩
def aT5:=fun a b c d e f g i j k l m n o p q=>aLt a b c d e f g i j k l m n|>.f o p q ⟨bA (fun _=>rfl) (fun _=>rfl) _ _ _,⟨bA (fun _=>rfl) (fun _=>rfl) _ _ _,⟨kk,⟨kk,trivial⟩⟩⟩⟩
abbrev aWQ (l:List LUnit)(a b c:Nat)(od:List aB)(tw:Bool) :AObj:=.cells (putCells .leaf 0 [.ilst 5 (map LUnit.av l) false,.map a,.map b,.gl c 1 0 (length od) false,.bool tw]) 5 [] false
abbrev MTb (m:List (aB×Int)) :AObj:=.map (aJ aD bL 0 m) (length m)
abbrev aA4 (l:List aB) :AObj:=.lst 1 (map aD l)
abbrev THp (l:List LUnit)(mf mh:List (aB×Int))(od:List aB)(tw:Bool) :List (Nat×AObj×Bool) :=[(0,aWQ l 1 2 3 od tw,false),(1,MTb mf,true),(2,MTb mh,true),(3,aA4 od,true)]
theorem uT (m:List (aB×Int)) : (MTb m).kl:=bA (fun _=>rfl) (fun _=>rfl) _ _ _
theorem aAl (l:List aB) : (aA4 l).kl:=jG _ (fun _=>rfl) _
theorem fA (a b:List aB)(s:aB) :aQ (a++b) s= (aQ a s||aQ b s) :=by simp [aQ]
theorem aA5 (s:aB) :∀ (a b:List aB) (i:Nat),eZ s (a++b) i=if aQ a s=true then eZ s a i else eZ s b (i+a.length)
 | [],b,i=>by simp [aQ]
 | x ::a,b,i=>by
  rw [List.cons_append,eZ,eZ,pF];by_cases e:x=s
  ·rw [if_pos e,if_pos e,decide_eq_true e,Bool.true_or,if_pos rfl]
  · rw [if_neg e,if_neg e,decide_eq_false e,Bool.false_or,aA5 s a b (i+1)];rw [List.length_cons,show i+1+a.length=i+ (a.length+1)by omega]
theorem aA6 (s:aB) :∀ (a:List aB) (i:Nat),eZ s a i<0↔aQ a s=false
 | [],i=>by simp [eZ,aQ]
 | x ::a,i=>by
  rw [eZ,pF];by_cases e:x=s
  · rw [if_pos e,decide_eq_true e,Bool.true_or];constructor
    ·intro h;omega
    ·intro h;cases h
  ·rw [if_neg e,decide_eq_false e,Bool.false_or,aA6 s a (i+1)]
theorem aAm (a:List aB)(s:aB) :bU (a++ [s]) = (bU a&& !aQ a s) :=by
 rw [Bool.eq_iff_iff,mQ,and_eq_true,mQ,not_eq_true',eq_false_iff,Ne,hasS_mem,nodup_append];constructor
 · intro h;exact⟨h.1,fun hm=>h.2.2 s hm s (by simp) rfl⟩
 · intro h;refine⟨h.1,by simp,fun x hx y hy e=>?_⟩;rw [List.mem_singleton.1 hy]at e;exact h.2 (e ▸ hx)
structure TabI (od:List aB) (tw:Bool) (mf mh:List (aB×Int)) :Prop where
 tw:tw= !bU od
 f:∀s,dG s mf=if aQ od s=true then some (eZ s od 0)else none
 h:∀s,aQ od s=false→dG s mh=none
theorem TabI.nil :TabI [] false [] [] := ⟨rfl,fun s=>by simp [dG,aQ],fun s _=>rfl⟩
theorem TabI.old {od:List aB}{tw:Bool}{mf mh:List (aB×Int)}(t:TabI od tw mf mh){s:aB}(h:aQ od s=true) :TabI (od++ [s]) true mf mh:=by
 refine⟨by rw [aAm,h];simp,fun k=>?_,fun k hk=>?_⟩
 · rw [t.f k,fA,aA5];by_cases e:aQ od k=true
   ·rw [if_pos e,if_pos e,e,Bool.true_or,if_pos rfl]
   · rw [if_neg e,if_neg];rw [Bool.not_eq_true]at e;rw [e,Bool.false_or,pF];intro hh;have:s=k:=by simpa [aQ]using hh
     rw [this,e]at h;cases h
 · rw [fA,Bool.or_eq_false_iff]at hk;exact t.h k hk.1
theorem TabI.new {od:List aB}{tw:Bool}{mf mh:List (aB×Int)}(t:TabI od tw mf mh){s:aB}(h:aQ od s=false)(i:Int) :TabI (od++ [s]) tw (bK s ((od.length:Nat) :Int) mf) (bK s i mh) :=by
 refine⟨by rw [aAm,h,t.tw];simp,fun k=>?_,fun k hk=>?_⟩
 · rw [mO,fA,aA5,t.f k];by_cases e:k=s
   · subst e;rw [if_pos rfl,h];simp [aQ,eZ]
   · rw [if_neg e];have:aQ [s] k=false:=by simp [aQ,Ne.symm e]
     rw [this,Bool.or_false];by_cases e2:aQ od k=true
     ·rw [if_pos e2,if_pos e2,if_pos e2]
     ·rw [if_neg e2,if_neg e2]
 · rw [fA,Bool.or_eq_false_iff]at hk;have:k≠s:=fun e=>by rw [e]at hk;simp [aQ]at hk
   rw [mO,if_neg this];exact t.h k hk.1
section
variable (l :List LUnit)
theorem aRm (u:LUnit)(hf:u.funs.length≤30)(i:Nat)(hi:i<1000) :∀ (t:List LFun) (k:Nat) (od:List aB) (tw:Bool) (m1 m2:List (aB×Int)),u.funs.drop k=t→od.length+t.length≤1000→TabI od tw m1 m2 →
  ∃tw' m1' m2',TabI (od++t.map LFun.name) tw' m1' m2'∧LeadsM PP 0 (aA3 l u.funs ((u.funs.length:Nat) :Int) (k:Int) tw od m1 m2 (i:Int) (i:Int)).as (uR l ((i:Int) +1) tw' m1' m2' (od++t.map LFun.name)).as
 | [],k,od,tw,m1,m2,h,ho,ht=>by
  have:=bE h;rw [map_nil,append_nil];exact⟨tw,m1,m2,ht,aMp l u.funs _ k tw od m1 m2 i i sd sd⟩
 | f::t,k,od,tw,m1,m2,h,ho,ht=>by
  obtain⟨q1,q2,q3⟩ :=bB h;simp only [List.length_cons]at ho;have g:=ht.f f.name;cases e:aQ od f.name with
  | true=>
   rw [e,if_pos rfl]at g;obtain⟨tw',m1',m2',h1,h2⟩ :=aRm u hf i hi t (k+1) (od++ [f.name]) true m1 m2 q2 (by simp;omega) (ht.old e);refine⟨tw',m1',m2',by simpa using h1,?_⟩;rw [append_assoc]at h2;exact(aMn l u.funs _ k tw od m1 m2 i i f _ sd sd sd g (by simp;omega) sd).trans h2
  | false=>
   rw [e,if_neg (by simp)]at g;obtain⟨tw',m1',m2',h1,h2⟩ :=aRm u hf i hi t (k+1) (od++ [f.name]) tw (bK f.name ((od.length:Nat) :Int) m1) (bK f.name (i:Int) m2) q2 (by simp;omega) (ht.new e i);refine⟨tw',m1',m2',by simpa using h1,?_⟩;rw [append_assoc]at h2;exact(aMo l u.funs _ k tw od m1 m2 i i f sd sd sd g (ht.h _ e) (by simp;omega) sd).trans h2
abbrev aT6 (e:Int) :Res:=.pan [((.iface 201 (.agg [(.int .i64 e)])),false)]
theorem aRn (hl:l.length≤10)(hu:∀u∈l,FewU u∧NumU u) :∀ (t:List LUnit) (i:Nat) (od:List aB) (tw:Bool) (m1 m2:List (aB×Int)),l.drop i=t→od.length≤30*i→TabI od tw m1 m2 →
  (t.all fU=true→∃tw' mf mh,TabI (od++aX t) tw' mf mh∧Ends PP 0 (uR l (i:Int) tw m1 m2 od).as (.ret (.ptr 0 0)) (aF (THp l mf mh (od++aX t) tw') 4)) ∧
  (t.all fU=false→Ends PP 0 (uR l (i:Int) tw m1 m2 od).as (aT6 2) (aF [] 0))
 | [],i,od,tw,m1,m2,h,ho,ht=>by
  have:=bE h;refine⟨fun _=> ⟨tw,m1,m2,?_,?_⟩,fun h=>by simp at h⟩
  ·rw [show aX [] = []from rfl,append_nil];exact ht
  ·rw [show aX [] = []from rfl,append_nil];exact aMm l i tw m1 m2 od sd
 | u ::t,i,od,tw,m1,m2,h,ho,ht=>by
  obtain⟨q1,q2,q3⟩ :=bB h;have hh:=hu u (mem_of_getElem? q1);have hf:=hh.1.f;have hp:=aJg u hh.1 hh.2;rw [all_cons];cases e:fU u with
  | false=>
   rw [e]at hp;refine⟨fun h=>by simp at h,fun _=>?_⟩;exact aTX l i tw m1 m2 od u false sd sd sd hp rfl
  | true=>
   rw [e]at hp;rw [Bool.true_and];obtain⟨tw',m1',m2',h1,h2⟩ :=aRm l u hf i (by omega) u.funs 0 od tw m1 m2 rfl (by omega) ht;have h0:=aMl l i tw m1 m2 od u true sd sd sd hp rfl;have ih:=aRn hl hu t (i+1) (od++aE u) tw' m1' m2' q2 (by simp [aE];omega) h1;refine⟨fun hg=>?_,fun hg=>?_⟩
   · obtain⟨tw2,mf,mh,g1,g2⟩ :=ih.1 hg;rw [append_assoc]at g1 g2;exact⟨tw2,mf,mh,g1,h0.ends (h2.ends g2)⟩
   ·exact h0.ends (h2.ends (ih.2 hg))
theorem aLu (hu:∀u∈l,FewU u∧NumU u)(h:dS l=false) :aJO PP 63 [.ilst 5 (map LUnit.av l) false] [((.iface 201 (.agg [(.int .i64 2)])),false)] :=by
 refine throws_at (by kernel_rfl) (by simp [AV.keylessL,AV.keyless]) (fun x hx=>by rw [List.mem_singleton.1 hx];rfl) ?_;by_cases hl:l.length≤10
 · rw [dS,decide_eq_true hl,Bool.true_and]at h;exact(aGO l (by simp;omega)).ends ((aRn l hl hu l 0 [] false [] [] rfl (by simp) TabI.nil).2 h)
 ·exact aTW l (by simp;omega)
theorem aRo (hu:∀u∈l,FewU u∧NumU u)(h:dS l=true) :∃mf mh,TabI (aX l) (!bU (aX l)) mf mh ∧
  aBq PP (.enter 63 [.ilst 5 (map LUnit.av l) false]) (aF [] 0) (.ret (.ptr 0 0)) (aF (THp l mf mh (aX l) (!bU (aX l))) 4) :=by
 simp only [dS,and_eq_true,decide_eq_true_eq]at h;obtain⟨tw,mf,mh,h1,h2⟩ := (aRn l h.1 hu l 0 [] false [] [] rfl (by simp) TabI.nil).1 h.2;rw [nil_append]at h1 h2;have e:=h1.tw;subst e;refine⟨mf,mh,h1,?_⟩
 suffices hh:Ends PP 0 (aJh l).as (.ret (.ptr 0 0)) (aF (THp l mf mh (aX l) (!bU (aX l))) 4)from⟨(aJh l).as.fr,by kernel_rfl,mp (by kernel_rfl) hh⟩
 exact(aGO l (by simp;omega)).ends h2
end
section
variable (l :List LUnit) (mf mh:List (aB×Int)) (od:List aB) (tw:Bool)
theorem aVG (s:aB)(nd:List aB)(hn:nd.length≤1000)(k:Nat)(hk:k<1000)(i:Int)(acc:List aB)(ha:acc.length≤100000) :∀ (t:List aB) (j:Nat),acc.drop j=t →
  LeadsM PP 4 (aGN l mf mh od tw s nd ((nd.length:Nat) :Int) (k:Int) (j:Int) ((acc.length:Nat) :Int) i acc).as (uS l mf mh od tw nd ((nd.length:Nat) :Int) ((k:Int) +1) (if aQ t s=true then acc else acc++ [s]) i).as
 | [],j,h=>by
  have:=bE h;exact aT5 l mf mh od tw s nd _ k j _ i acc sd (by simp;omega) sd
 | x ::t,j,h=>by
  obtain⟨q1,q2,q3⟩ :=bB h;rw [pF];by_cases e:x=s
  · rw [decide_eq_true e,Bool.true_or,if_pos rfl];exact aT3 l mf mh od tw s nd _ k j _ i acc x sd sd sd sd (by rw [hU];simp [e]) (by simp) sd
  · rw [decide_eq_false e,Bool.false_or];exact(aT4 l mf mh od tw s nd _ k j _ i acc x sd sd sd sd (by rw [hU];simp [Ne.symm e]) sd).trans (aVG s nd hn k hk i acc ha t (j+1) q2)
theorem aRp (ht:TabI od tw mf mh)(nd:List aB)(hn:nd.length≤25)(i:Nat)(hi:i<1000) :∀ (t:List aB) (k:Nat) (acc:List aB),nd.drop k=t→acc.length≤25*i+k →
  LeadsM PP 4 (uS l mf mh od tw nd ((nd.length:Nat) :Int) (k:Int) acc (i:Int)).as (aDF l mf mh od tw ((i:Int) +1) (nL od acc t)).as
 | [],k,acc,h,ha=>by
  have:=bE h;exact aT2 l mf mh od tw nd _ k acc i sd sd
 | s::t,k,acc,h,ha=>by
  obtain⟨q1,q2,q3⟩ :=bB h;have g:=ht.f s;rw [nL];cases e:aQ od s with
  | true=>
   rw [e,if_pos rfl]at g;rw [if_pos (.inl rfl)];exact(aT0 l mf mh od tw nd _ k acc i s _ sd sd sd g sd).trans (aRp ht nd hn i hi t (k+1) acc q2 (by omega))
  | false=>
   rw [e,if_neg (by simp)]at g;have h1:=aT1 l mf mh od tw nd ((nd.length:Nat) :Int) k acc i s sd sd sd g;have h2:=aVG l mf mh od tw s nd (by omega) k (by omega) i acc (by omega) acc 0 rfl;have e2: (if false=true∨aQ acc s=true then acc else acc++ [s]) = (if aQ acc s=true then acc else acc++ [s]) :=by simp
   rw [e2];exact h1.trans (h2.trans (aRp ht nd hn i hi t (k+1) _ q2 (by split<;>first|omega| (simp;omega))))
end
section
variable (l :List LUnit) (mf mh:List (aB×Int)) (od:List aB) (tw:Bool) (cs:List Con) (ls:List aB) (hT:od.length≤1000) (hls:ls.length≤1000) (hcs:cs.length≤1000) (ht:TabI od tw mf mh)
include hT hls ht in
include hcs in
include hT hls hcs ht in
include hT hls hcs ht in
end
theorem lX (s:aB) :∀ (l:List LUnit) (i:Nat),cF s l i<0↔aQ (aX l) s=false
 | [],i=>by simp [cF,aQ,aX]
 | u ::l,i=>by
  rw [cF,pC,fA];by_cases e:aQ (aE u) s=true
  · rw [if_pos e,e,Bool.true_or];constructor
    ·intro h;omega
    ·intro h;cases h
  · rw [if_neg e,lX s l (i+1)];rw [Bool.not_eq_true]at e;rw [e,Bool.false_or]
abbrev aFd :AObj:=.cells (putCells .leaf 0 [.int .i64 0]) 1 [] false
section
variable (l :List LUnit) (mf mh:List (aB×Int)) (od:List aB) (tw:Bool)
end
section
variable (l :List LUnit) (mf mh:List (aB×Int)) (od:List aB) (tw:Bool)
end
theorem aJi {out o:List Con}{c:Con}(h:aQ2 out c=some o)(hd: (out.map Con.name).Nodup) : (o.map Con.name).Nodup∧ (∀d∈o,d∈out∨d=c) ∧ (∀d∈out,d∈o) ∧c∈o:=by
 unfold aQ2 at h;split at h
 · rename_i hf;cases h
   have hno:c.name∉out.map Con.name:=fun hm=>by
    obtain⟨d,hd1,hd2⟩ :=List.mem_map.1 hm;have:=List.find?_eq_none.1 hf d hd1;simp [hd2]at this
   refine⟨?_,fun d h=>by simpa using h,fun d h=>by simp [h],by simp⟩;rw [List.map_append,nodup_append];refine⟨hd,by simp,fun a ha b hb e=>?_⟩;simp at hb;exact hno (by rw [←hb,←e];exact ha)
 · rename_i d hf;split at h
   · rename_i ha;cases h;have h1:=List.mem_of_find?_eq_some hf;have h2:=List.find?_some hf;have h3:d.name=c.name:=by simpa using h2
     have e:c=d:=by
      obtain⟨a,b⟩ :=c;obtain⟨a',b'⟩ :=d;simp only at ha h3;rw [ha,h3]
     exact⟨hd,fun d h=>.inl h,fun d h=>h,by rw [e];exact h1⟩
   ·cases h
theorem aBF :∀ {t out o:List Con},aMb out t=some o→ (out.map Con.name).Nodup→ (o.map Con.name).Nodup∧ (∀d∈o,d∈out∨d∈t) ∧ (∀d∈out,d∈o) ∧∀c∈t,c∈o
 | [],out,o,h,hd=>by cases h;exact⟨hd,fun d h=>.inl h,fun d h=>h,fun c h=>by cases h⟩
 | c :: t,out,o,h,hd=>by
  rw [aMb]at h;split at h
  · rename_i o1 h1;obtain⟨a1,a2,a3,a4⟩ :=aJi h1 hd;obtain⟨b1,b2,b3,b4⟩ :=aBF h a1;refine⟨b1,fun d hd=>?_,fun d hd=>b3 d (a3 d hd),fun d hd=>?_⟩
    · rcases b2 d hd with g|g
      · rcases a2 d g with g|g
        ·exact .inl g
        ·exact .inr (by rw [g];exact mem_cons_self ..)
      ·exact .inr (mem_cons_of_mem _ g)
    · rcases List.mem_cons.1 hd with g|g
      ·rw [g];exact b3 c a4
      ·exact b4 d g
  ·cases h
theorem uU :∀ {l:List LUnit} {out o:List Con},aMc out l=some o→ (out.map Con.name).Nodup→ (o.map Con.name).Nodup∧ (∀d∈o,d∈out∨∃u∈l,d∈u.cons) ∧ (∀d∈out,d∈o) ∧∀u∈l,∀c∈u.cons,c∈o
 | [],out,o,h,hd=>by cases h;exact⟨hd,fun d h=>.inl h,fun d h=>h,fun c h=>by cases h⟩
 | u :: l,out,o,h,hd=>by
  rw [aMc]at h;split at h
  · rename_i o1 h1;obtain⟨a1,a2,a3,a4⟩ :=aBF h1 hd;obtain⟨b1,b2,b3,b4⟩ :=uU h a1;refine⟨b1,fun d hd=>?_,fun d hd=>b3 d (a3 d hd),fun v hv=>?_⟩
    · rcases b2 d hd with g| ⟨v,g1,g2⟩
      · rcases a2 d g with g|g
        ·exact .inl g
        ·exact .inr ⟨u,mem_cons_self ..,g⟩
      ·exact .inr ⟨v,mem_cons_of_mem _ g1,g2⟩
    · rcases List.mem_cons.1 hv with g|g
      ·rw [g];exact fun c hc=>b3 c (a4 c hc)
      ·exact b4 v g
  ·cases h
theorem aBG (own:List aB) :∀ (t out:List aB),(∀s,aQ out s=true→aQ (nL own out t) s=true) ∧∀s∈t,aQ own s=true∨aQ (nL own out t) s=true
 | [],out=> ⟨fun s h=>h,fun s h=>by cases h⟩
 | x :: t,out=>by
  rw [nL];obtain⟨h1,h2⟩ :=aBG own t (if aQ own x=true∨aQ out x=true then out else out++ [x])
  have h0:∀s,aQ out s=true→aQ (if aQ own x=true∨aQ out x=true then out else out++ [x]) s=true:=fun s h=>by
   split
   ·exact h
   ·rw [fA,h];rfl
  refine⟨fun s h=>h1 s (h0 s h),fun s hs=>?_⟩;rcases List.mem_cons.1 hs with rfl|hs
  · by_cases ho:aQ own s=true
    ·exact .inl ho
    · refine .inr (h1 s ?_);split
      · rename_i g;exact g.resolve_left ho
      ·rw [fA];simp [aQ]
  ·exact h2 s hs
theorem aBH (own:List aB) :∀ (l:List LUnit) (out:List aB),(∀s,aQ out s=true→aQ (mP own out l) s=true) ∧∀u∈l,∀s∈u.needs,aQ own s=true∨aQ (mP own out l) s=true
 | [],out=> ⟨fun s h=>h,fun u h=>by cases h⟩
 | u::l,out=>by
  rw [mP];obtain⟨h1,h2⟩ :=aBH own l (nL own out u.needs);obtain⟨g1,g2⟩ :=aBG own u.needs out;refine⟨fun s h=>h1 s (g1 s h),fun v hv s hs=>?_⟩;rcases List.mem_cons.1 hv with rfl|hv
  ·exact(g2 s hs).imp_right (h1 s)
  ·exact h2 v hv s hs
theorem aRq {l:List LUnit}{u:LUnit}(hu:u∈l){s:aB}(hs:s∈aE u) :s∈aX l:=List.mem_flatten.2 ⟨aE u,List.mem_map.2 ⟨u,hu,rfl⟩,hs⟩
def aAn (l:List LUnit)(cs:List Con) :Prog:= ⟨pI (aX l) [] cs 0 l,aAk 0 l,eZ eM (aX l) 0,cs⟩
structure LinkOk (l:List LUnit) (cs:List Con) :Prop where
 hl:l.length≤10
 good:∀u∈l,GoodU u
 cons:aQ3 l=some cs
 differ:bU (aX l) =true
 lost:iU l= []
 main:¬cF eM l 0<0
 size:bP l≤300
 c20:cs.length≤20
theorem aMr :∀ (l:List LUnit) (i:Nat),i<bP l→∃l1 u l2 j,l=l1++u::l2∧j<u.nodes.length∧i=bP l1+j
 | [],i,h=>by simp [bP]at h
 | u ::l,i,h=>by
  rw [bP]at h;by_cases hi:i<u.nodes.length
  ·exact⟨[],u,l,i,rfl,hi,by simp [bP]⟩
  · obtain⟨l1,v,l2,j,h1,h2,h3⟩ :=aMr l (i-u.nodes.length) (by omega);exact⟨u::l1,v,l2,j,by rw [h1];rfl,h2,by rw [bP];omega⟩
theorem aLv {u:LUnit}(h:GoodU u)(off:Nat) :∀f∈aQ8 off u,(off:Int) ≤f∧f<off+u.nodes.length:=fun f hf=>by
 have hw:=aAj h;obtain⟨k,hk,rfl⟩ :=List.mem_map.1 hf;have hr:=hw.fine.funs k hk;obtain⟨j,hj⟩ :=hw.mem hr.1 hr.2;have h1:= (List.getElem?_eq_some_iff.1 hj).1;rw [hw.len]at h1
 change j<u.nodes.length at h1
 rw [hw.toL off j k hj];omega
theorem aBI :∀ (l:List LUnit) (off:Nat),(∀u∈l,GoodU u) →∀f∈aAk off l,(off:Int) ≤f∧f<off+bP l
 | [],off,_,f,hf=>by cases hf
 | u ::l,off,hg,f,hf=>by
  rw [aAk]at hf;rw [bP];rcases List.mem_append.1 hf with h|h
  · have:=aLv (hg u (mem_cons_self ..)) off f h;omega
  · have:=aBI l _ (fun x hx=>hg x (mem_cons_of_mem _ hx)) f h;omega
theorem aT7 {u:LUnit}(h:GoodU u) : (aE u).length≤u.nodes.length:=by
 unfold aE;rw [List.length_map];rcases h.cases with⟨h0,_⟩ | ⟨_,hr⟩
 ·rw [h0];simp
 · have:= (Fs.of (lW h.few) hr).head.2.2.1;simpa [jP,dJ]using this
theorem aMs :∀ (l:List LUnit),(∀u∈l,GoodU u) → (aX l).length≤bP l
 | [],_=>by simp [aX]
 | u::l,hg=>by
  have:=aT7 (hg u (mem_cons_self ..));have:=aMs l (fun x hx=>hg x (mem_cons_of_mem _ hx));rw [pC,bP,List.length_append];omega
theorem aOl {u:LUnit}(h:GoodU u){c:Con}(hc:c∈u.cons) :eH c=true∧c.name.length≤40:=by
 have hp:=h.few.p;simp only [aH,and_eq_true,eY]at hp;refine⟨?_,by simpa using List.all_eq_true.1 hp.1.2 c hc⟩;have hf:=h.formed;unfold fU at hf;simp only [and_eq_true]at hf;have h2:=hf.2;split at h2
 · simp only [and_eq_true]at h2;exact(Fs.of (yL h.few) h2.2).head.2.2.2.2.2.2 c hc
 ·exact(Fs.of (lW h.few) h2).head.2.2.2.2.2.2 c hc
section
variable {l :List LUnit} {cs:List Con}
theorem LinkOk.laid (h:LinkOk l cs){l1 l2:List LUnit}{u:LUnit}(hl:l=l1++u::l2) :Laid (aAn l cs) (bP l1) (gG u) (mfU (aX l) [] u) (mcU cs u) (toL (gG u) (bP l1)) :=
 aDA h.good rfl hl
theorem aT8 {l:List LUnit}{cs:List Con}(hc:aQ3 l=some cs){u:LUnit}(hu:u∈l){i:Nat}{d:Con}(hd:u.cons[i]?=some d) :0≤lU (mcU cs u) (i:Int) ∧cs[(lU (mcU cs u) (i:Int)).toNat]?=some d:=by
 have hf:=uU hc (by simp);have hm:=hf.2.2.2 u hu d (mem_of_getElem? hd);obtain⟨j,hj⟩ :=List.mem_iff_getElem?.1 hm;have e:=aMf cs u.cons 0 [] i d hd;rw [show(0:Int) + (i:Int) =i by omega,aQ5 hf.1 hj]at e;unfold mcU;rw [e];exact⟨by omega,by rw [Int.toNat_natCast];exact hj⟩
theorem aRr {T ls:List aB}{s:aB}(h:aQ T s=true) :0≤aOg T ls s∧aOg T ls s<T.length∧T[(aOg T ls s).toNat]?=some s:=by
 unfold aOg;split
 · rename_i g;rw [(aA6 s T 0).1 g]at h;cases h
 · rename_i g;rcases uQ s T 0 with r| ⟨_,r1,r2⟩
   ·omega
   ·exact⟨by omega,by omega,by simpa using r2⟩
theorem LinkOk.own (h:LinkOk l cs){u:LUnit}(hu:u∈l){s:aB}(hs:s∈aE u++u.needs) :aQ (aX l) s=true:=by
 rcases List.mem_append.1 hs with g|g
 ·exact hasS_mem.2 (aRq hu g)
 · rcases(aBH (aX l) l []).2 u hu s g with g|g
   ·exact g
   · change aQ (iU l) s=true at g
     rw [h.lost]at g;cases g
theorem LinkOk.maps (h:LinkOk l cs){u:LUnit}(hu:u∈l) :MapsOk (aBE u) (aAn l cs) (mfU (aX l) [] u) (mcU cs u) :=by
 refine⟨fun i h0 h1=>?_,fun i d hd=>aT8 h.cons hu hd⟩;have hw: (aBE u).funs.length=u.funs.length+u.needs.length:=by simp [aBE]
 rw [hw]at h1;obtain⟨s,hs,e⟩ :=aWM (T:=aX l) (ls:=[]) (u:=u) h0 (by omega);have:=aRr (ls:=[]) (h.own hu (mem_of_getElem? hs));rw [e];have e2: (aAn l cs).funs.length= (aX l).length:=aA0 l 0;omega
theorem LinkOk.len (h:LinkOk l cs) : (aAn l cs).nodes.length=bP l:=aAZ l 0 h.good
theorem LinkOk.walk (h:LinkOk l cs) :dQ (aAn l cs) = (List.range (bP l)).map fun(i:Nat) => (i:Int) :=by
 have e:=aDB (T:=aX l) (ls:=[]) (cs:=cs) (a:=aAn l cs) h.good rfl (N:= (aAn l cs).nodes.length) (by rw [h.len];exact Nat.le_refl _) l [] rfl;unfold dQ
 change ((aAk (bP []) l).map _).flatten=_
 rw [e];refine List.map_congr_left (fun i _=>?_);simp [bP]
theorem LinkOk.fs (h:LinkOk l cs) :Fs (aAn l cs) :=by
 have hf:=uU h.cons (by simp);have hm:0≤eZ eM (aX l) 0∧eZ eM (aX l) 0< (aX l).length:=by
  have g:¬eZ eM (aX l) 0<0:=fun g=>h.main ((lX eM l 0).2 ((aA6 eM (aX l) 0).1 g));rcases uQ eM (aX l) 0 with r|r<;>omega
 have hfl: (aAn l cs).funs.length= (aX l).length:=aA0 l 0;refine aGI (N:=bP l) h.len h.size (by omega) (by rw [hfl];exact aMs l h.good) hm.1 (by rw [hfl];exact hm.2) h.c20 (fun c hc=>?_) hf.1 (fun i x hx=>?_) (fun f hf=>?_) h.walk
 · rcases hf.2.1 c hc with g| ⟨u,g1,g2⟩
   ·cases g
   ·exact aOl (h.good u g1) g2
 · have hi:= (List.getElem?_eq_some_iff.1 hx).1;rw [h.len]at hi;obtain⟨l1,u,l2,j,h1,h2,h3⟩ :=aMr l i hi;have hu:u∈l:=by rw [h1];simp
   have hg:=h.good u hu;have hw:=aAj hg;have hL:=h.laid h1;have hsz:bP l=bP l1+ (u.nodes.length+bP l2) :=by rw [h1,vQ,bP]
   obtain⟨k,hk⟩ :∃k,(dQ (gG u))[j]?=some k:= ⟨_,List.getElem?_eq_getElem (by rw [hw.len];exact h2)⟩;have hkr:=hw.into k (mem_of_getElem? hk);obtain⟨y,hy⟩ :∃y,u.nodes[k.toNat]?=some y:= ⟨_,List.getElem?_eq_getElem (by have:=hkr.2;change k<u.nodes.length at this;omega)⟩;have e:=hL.node j k hk;rw [←h3,hx,pG (p:=gG u) hy]at e;have e:=Option.some.inj e;obtain⟨n1,_,n3⟩ :=aOh hg hy;rw [e];refine⟨aQ4 (h.maps hu) _ n1,aJa _ n3,fun c hc=>?_⟩;obtain⟨c0,hc0,rfl⟩ :=List.mem_map.1 hc;have ek:dA (gG u) k=y.kids:=by unfold dA;rw [show(gG u).nodes=u.nodes from rfl,hy]
   obtain⟨j2,hj,e2⟩ :=hw.after j k c0 hk (by rw [ek];exact hc0);rw [hL.to j2 c0 e2];have:= (List.getElem?_eq_some_iff.1 e2).1;rw [hw.len]at this
   change j2<u.nodes.length at this
   omega
 · have:=aBI l 0 h.good f hf;omega
end
def aVH(a:List LUnit):TS:=dL PP 17 [(.ilst 5 (map LUnit.av a) false)] [] 0
def aGP(a:List LUnit)(c d e:Int)(b:List LPlace):TS:=⟨(tf 17 35 [kp 2 0,kp 3 1,(4,(nI c)),(5,(nI d)),(11,(.ilst 5 (map LUnit.av a) false)),(12,(nI (a.length:Int))),(13,(nI e))] [kc f17 500,kl f17 500,.inBlock 0,kc f17 63] (defers:=[.fn 61 [(.ptr 1 0),(.func 70 [] [(.ptr 0 0)])]])),[],[oC 0 [(.gl 2 2 0 b.length false)],oC 1 [(nI 0)],oL 2 2 (map LPlace.av b)],3⟩
def aT9 (a:List LUnit):=fun b c d e f=>(tT 0 (aVH a)<|.y fun b:List (aB×Int)=>.y fun c:List (aB×Int)=>.y fun d:List aB=>.y fun e:Bool=>gk 13 (.enter 63 [(.ilst 5 (map LUnit.av a) false)]) [oC 0 [.nils],oC 1 [(nI 0)]] 2 (.ptr 2 0) [oC 0 [.nils],oC 1 [(nI 0)],oC 2 [(.ilst 5 (map LUnit.av a) false),(.map 3),(.map 4),(.gl 5 1 0 d.length false),(bV e)],(3,(.map (aJ aD bL 0 b) b.length),true),(4,(.map (aJ aD bL 0 c) c.length),true),oL 5 1 (map aD d)] 6<|gl 10 LUnit.av a<|.i [rn 4,.cnil 0 0 2] []<|gu 0 6 (map LPlace.av ([] :List LPlace))<|gv 0 0 0 (.gl 6 2 0 ([] :List LPlace).length false)<|.W 0 7 [0,1,6] (aGP a 0 0 0 ([] :List LPlace))) b c d e f ⟨kk,trivial⟩
def aRs(d:List LUnit)(e f b:Int)(c:List LPlace):=tT 0 (aGP d e f b c)<|gd 5 14 (b< (d.length:Int)) (gX LUnit.av 6 d b<|fun a=>ga 11 LPlace.av c [(LPlace.mk e f)]<|.i [rn 2,.reg (rd 3 (.ans (.len (a.nodes.length:Int))::rd 4 (.ans (.len (a.funs.length:Int))::rd 3 [])))] [hl Node.av a.nodes,hl LFun.av a.funs]<|gw 3 33 (b+1)<|.W 3 6 [0,1,5] (aGP d (IntKind.i64.wrap (e+ (a.nodes.length:Int))) (IntKind.i64.wrap (f+ (a.funs.length:Int))) (b+1) (c++ [(LPlace.mk e f)])))<|gy 3 0 0 2 2 LPlace.av c false<|gE 23 3 (.tup [(.ilst 2 (map LPlace.av c) false),(nI 0)])
def aUa:=fun a b c d e f g i j k l=>aRs a b c d e|>.t g f i j k l ⟨kk,trivial⟩
def aUb:=fun a b c d e f=>aRs a b c d e|>.f f tv
structure Mover where
 unit:LUnit
 prog:Prog
 names:List aB
def Mover.av (m:Mover) :AV:=.agg [aD m.unit.name,.ilst 2 (map Con.av m.unit.cons) false,.ilst 2 (map LFun.av m.unit.funs) false,.ilst 1 (map aD m.unit.needs) false,.ilst 4 (map Node.av m.unit.nodes) false,.ilst 4 (map Node.av m.prog.nodes) false,.ilst 1 (map bL m.prog.funs) false,.int .i64 m.prog.main,.ilst 2 (map Con.av m.prog.cons) false,.ilst 1 (map aD m.names) false]
end
end Go.Hb

set_option linter.defProp false
set_option linter.unusedVariables false
set_option linter.unusedSimpArgs false
set_option linter.unusedSectionVars false
set_option maxRecDepth 100000
set_option maxHeartbeats 4000000
namespace Go.Hb
open List (map range)
open Go.Proofs Tryz
noncomputable section
def gY :Nat→Nat→List LUnit→List LPlace
 |_,_,[] =>[]
 |n,f,u::l=> ⟨(n:Int),(f:Int)⟩ ::gY (n+u.nodes.length) (f+u.funs.length) l
theorem aBJ :∀ (l:List LUnit) (n f:Nat),(gY n f l).length=l.length
 | [],n,f=>rfl
 |u::l,n,f=>by rw [gY,List.length_cons,List.length_cons,aBJ l]
section
variable (l :List LUnit)
abbrev aLw :AObj:=.cells (putCells .leaf 0 [.nils]) 1 [] false
abbrev aVI (l:List LUnit)(mf mh:List (aB×Int))(od:List aB)(tw:Bool) :List (Nat×AObj×Bool) :=[(0,aLw,false),(1,aFd,false),(2,aWQ l 3 4 5 od tw,false),(3,MTb mf,true),(4,MTb mh,true),(5,aA4 od,true)]
theorem aXz (mf mh:List (aB×Int))(od:List aB)(tw:Bool)(hs:aBq PP (.enter 63 [.ilst 5 (map LUnit.av l) false]) (aF [] 0) (.ret (.ptr 0 0)) (aF (THp l mf mh od tw) 4)) :
  Spec PP (.enter 63 [.ilst 5 (map LUnit.av l) false]) (aF [(0,aLw,false),(1,aFd,false)] 2) (.ret (.ptr 2 0)) (aF (aVI l mf mh od tw) 6) :=
 vM (m:=0) (ks:=[]) (n2:=2) (n3:=6) (v':=.ptr 2 0) (args':=[.ilst 5 (map LUnit.av l) false]) (lc:=[(0,aLw,false),(1,aFd,false)]) (lc':=aVI l mf mh od tw)
  hs (by rfl) (by rfl) (by kernel_rfl) (by rfl) (by rfl) (by kernel_rfl) (by kernel_rfl) trivial (by kernel_rfl) ⟨uT _,uT _,aAl _,trivial⟩
theorem aVJ (hl:l.length≤11)(hu:∀u∈l,u.nodes.length≤320∧u.funs.length≤30) :∀ (t:List LUnit) (i n f:Nat) (acc:List LPlace),l.drop i=t→acc.length=i→n≤320*i→f≤30*i →
  Ends PP 0 (aGP l (n:Int) (f:Int) (i:Int) acc).as (.ret (.tup [.ilst 2 (map LPlace.av (acc++gY n f t)) false,.int .i64 0])) (aF [] 0)
 | [],i,n,f,acc,h,ha,_,_=>by
  have:=bE h;rw [gY,List.append_nil];exact aUb l n f i acc sd
 | u::t,i,n,f,acc,h,ha,hn,hf=>by
  obtain⟨q1,q2,q3⟩ :=bB h;have hi:= (List.getElem?_eq_some_iff.1 q1).1;obtain⟨b1,b2⟩ :=hu u (List.mem_of_getElem? q1);have ih:=aVJ hl hu t (i+1) (n+u.nodes.length) (f+u.funs.length) (acc++ [⟨(n:Int),(f:Int)⟩]) q2 (by simp [ha]) (by omega) (by omega);rw [List.append_assoc]at ih;have st:=aUa l n f i acc u sd sd sd (by simp;omega) sd;rw [wrap64 (by omega) (by omega),wrap64 (by omega) (by omega),show((n:Int) + ((u.nodes.length:Nat) :Int)) = ((n+u.nodes.length:Nat) :Int)by omega,show((f:Int) + ((u.funs.length:Nat) :Int)) = ((f+u.funs.length:Nat) :Int)by omega]at st;exact st.ends ih
theorem aGQ (hl:l.length≤11)(hu:∀u∈l,FewU u∧NumU u)(h0:dS l=true) :Pure PP 17 [.ilst 5 (map LUnit.av l) false] (.tup [.ilst 2 (map LPlace.av (gY 0 0 l)) false,.int .i64 0]) :=by
 obtain⟨hl10,hg⟩ :=lO (fun u h=> (hu u h).1) h0;obtain⟨mf,mh,ht,hs⟩ :=aRo l hu h0
 exact cJ (s:=aVH l) (by kernel_rfl) (by kernel_rfl) (by simp [AV.keylessL,AV.keyless]) (by simp [AV.keylessL,AV.keyless])
  ((aT9 l mf mh _ _ (aXz l mf mh _ _ hs)).ends (aVJ l hl (fun u h=> ⟨(hg u h).small.1,(hu u h).1.f⟩) l 0 0 0 [] rfl rfl (by omega) (by omega)))
end
def ConsTo (uc pc:List Con)(mc:List (Int×Int)) :Prop:=∀ (i:Nat) (d:Con),uc[i]?=some d→0≤lU mc (i:Int) ∧pc[(lU mc (i:Int)).toNat]?=some d
theorem ConsTo.at {uc pc:List Con}{mc:List (Int×Int)}(h:ConsTo uc pc mc){n:Int}(h0:0≤n)(h1:n<uc.length) :∃d,uc[n.toNat]?=some d∧0≤lU mc n∧pc[(lU mc n).toNat]?=some d:=by
 have e:uc[n.toNat]?=some (uc[n.toNat]'(by omega)) :=List.getElem?_eq_getElem (by omega);have:=h n.toNat _ e;rw [show((n.toNat:Nat) :Int) =n by omega]at this;exact⟨_,e,this.1,this.2⟩
section
variable (m :Mover) (mc:List (Int×Int))
end
section
variable (p :Prog) (but:Int)
end
section
variable {p :Prog} (hp:FineP p) (hn:∀ (i:Nat) (x:Node),p.nodes[i]?=some x→ -1000000000≤x.n∧x.n≤1000000000)
include hp hn
end
def aLx (p:Prog)(l:List aB) :Bool:=decide (l.length=p.funs.length) &&eK l&&decide (eZ eM l 0=p.main)
def setF :List Int→Nat→List Int→List Int
 |F,_,[] =>F
 |F,k,y::t=>setF (F.set y.toNat (1+ (k:Int))) (k+1) t
def aMt (l:List aB)(y:Int) :aB:= (l[y.toNat]?).getD []
section
variable {p :Prog} (hs:aH p=true) (hr:aO p=true)
include hs hr
end
section
variable (p :Prog) (l:List aB) (hl:l.length=p.funs.length) (hf:p.funs.length≤1000)
include hl hf
end
theorem yO {p:Prog}{l:List aB}(h:aLx p l=true) :l.length=p.funs.length∧eK l=true∧eZ eM l 0=p.main:=by
 unfold aLx at h;simp only [Bool.and_eq_true,decide_eq_true_eq]at h;exact⟨h.1.1,h.1.2,h.2⟩
section
variable (p :Prog) (l:List aB) (hl:l.length=p.funs.length) (hf:p.funs.length≤1000)
include hl hf
end
section
variable {P :Program}
def aOm (P:Program)(is:List Ins)(s:TS) :Option (AV×Nat×List Prop) :=
 match aEx P is s.as with
 | some (s1,ps) =>match s1.cs,s1.fr.kind,s1.fr.mode,s1.fr.roundOf,s1.fr.defers with
  | [],.normal,.ret,none,[] =>match P.funcs[s1.fr.fn]? with
   | some fd=>match jB P s1.h s1.fr.tm fd.results.toList with
    |some [v] =>some (v,s1.fr.fn,ps)
    |_=>none
   |none=>none
  |_,_,_,_,_=>none
 |none=>none
theorem aGR {f : Nat} {args : List AV} {is : List Ins}{b:Bool}{ps:List Prop}{cargs:List Value}(hb:iE P f=true)(hk:AV.keylessL args=true)(h0:aOm P is (start P f args) =some (.bool b,f,ps))(hps:AllP ps)(w:World)(hv:VRs (embOf w) args cargs) :
  Calls P f ⟨cargs⟩ w fun e w'=>e= .returned (.bool b) ∧GrownO w w':=by
 intro base;unfold iE at hb;split at hb
 · rename_i fn hf;split at hb
   · rename_i c hc;have hg:cM P f args .normal=some ⟨f,dD .leaf 0 args,max fn.ntmps args.length,[.code c],[],.run,.normal,none⟩ :=by simp [cM,hf,hc]
     have fr':FR (embOf w) _ (Frame.enter P f ⟨cargs⟩ .normal) :=eX hg hv;have f1:FR (embOf w) (start P f args).as.fr (Frame.enter P f ⟨cargs⟩ .normal) :=by
      have e1: (start P f args).as.fr= ⟨f,mkT ((range args.length).zip args),max fn.ntmps args.length,[.code c],[],.run,.normal,none⟩ :=by simp [start,hf,hc,TS.as,TF.fr]
      rw [e1];refine⟨fr'.fn,⟨fr'.tm.1,fun t a e=>?_⟩,fr'.todo,fr'.defers,fr'.mode,fr'.kind,fr'.round⟩;have h1:=zR (tZ e);have hlt:= (List.getElem?_eq_some_iff.1 h1).1;have h2: (dD .leaf 0 args).at t=some a:=by
       unfold dD;rw [bX,if_pos hlt];exact h1
      exact fr'.tm.2 t a h2
     have e2 : (start P f args).as.cs = [] := by unfold start;split; · split<;>rfl
                                                 ·rfl
     have e3 : (start P f args).as.h = ⟨.leaf, 0⟩ := by unfold start;split; · split<;>rfl
                                                        ·rfl
     unfold aOm at h0;split at h0
     · rename_i s1 qs h1;split at h0
       · rename_i hcs hkd hmo hro hde;split at h0
         · rename_i fd hfd;split at h0
           · rename_i v hrs;simp only [Option.some.injEq,Prod.mk.injEq]at h0;obtain⟨rfl,hfn,rfl⟩ :=h0;have hl:LeadsM P 0 (start P f args).as s1:=nG h1 (fun p hpp=>hps.mem p hpp);obtain⟨E',g,ccs,w',s2,f2,fs2,r2,x⟩ :=hl (by rw [e3];exact Nat.le_refl _) (embOf w) _ [] w base f1 (by rw [e2];rfl) (by rw [e3];exact aEG w);rw [hcs]at fs2;have:=fs2.nil_inv;subst this;obtain⟨cv,g1,g2⟩ :=nC r2 f2.tm hrs;simp only [xN,VR]at g2;subst g2;have fm:=f2.mode;rw [hmo]at fm;simp only [MR]at fm;have fdd:=f2.defers;rw [hde]at fdd;rw [e3]at x;have hno:∀ {b o},¬ (⟨.leaf,0⟩ :Hp).look b=some o:=fun {b o} e=>by simp [Hp.look,T.at_leaf]at e
             refine⟨.returned (.bool b),w',g,⟨rfl,⟨x.os,x.output,fun i hi=>?_⟩,x.froz,x.size⟩,s2,by rw [f2.fn,hfn],fm,fdd.nil_inv,by rw [f2.kind,hkd],fd,by rw [f2.fn];exact hfd,g1⟩;have:=x.keep i hi (fun b o L e=>absurd e hno);rw [this];cases w.heap[i]? with
             |none=>rfl
             |some ob=>cases ob<;>simp
           ·cases h0
         ·cases h0
       ·cases h0
     ·cases h0
   ·cases hb
 ·cases hb
theorem aBP {f : Nat} {args : List AV} {is : List Ins}{b:Bool}{ps:List Prop}{cargs:List Value}{t:TS}(hb:iE P f=true)(hk:AV.keylessL args=true)(hl0:LeadsM P 0 (start P f args).as t.as)(h0:aOm P is t=some (.bool b,f,ps))(hps:AllP ps)(w:World)(hv:VRs (embOf w) args cargs) :
  Calls P f ⟨cargs⟩ w fun e w'=>e= .returned (.bool b) ∧GrownO w w':=by
 intro base;unfold iE at hb;split at hb
 · rename_i fn hf;split at hb
   · rename_i c hc;have hg:cM P f args .normal=some ⟨f,dD .leaf 0 args,max fn.ntmps args.length,[.code c],[],.run,.normal,none⟩ :=by simp [cM,hf,hc]
     have fr':FR (embOf w) _ (Frame.enter P f ⟨cargs⟩ .normal) :=eX hg hv;have f1:FR (embOf w) (start P f args).as.fr (Frame.enter P f ⟨cargs⟩ .normal) :=by
      have e1: (start P f args).as.fr= ⟨f,mkT ((range args.length).zip args),max fn.ntmps args.length,[.code c],[],.run,.normal,none⟩ :=by simp [start,hf,hc,TS.as,TF.fr]
      rw [e1];refine⟨fr'.fn,⟨fr'.tm.1,fun t a e=>?_⟩,fr'.todo,fr'.defers,fr'.mode,fr'.kind,fr'.round⟩;have h1:=zR (tZ e);have hlt:= (List.getElem?_eq_some_iff.1 h1).1;have h2: (dD .leaf 0 args).at t=some a:=by
       unfold dD;rw [bX,if_pos hlt];exact h1
      exact fr'.tm.2 t a h2
     have e2 : (start P f args).as.cs = [] := by unfold start;split; · split<;>rfl
                                                 ·rfl
     have e3 : (start P f args).as.h = ⟨.leaf, 0⟩ := by unfold start;split; · split<;>rfl
                                                        ·rfl
     unfold aOm at h0;split at h0
     · rename_i s1 qs h1;split at h0
       · rename_i hcs hkd hmo hro hde;split at h0
         · rename_i fd hfd;split at h0
           · rename_i v hrs;simp only [Option.some.injEq,Prod.mk.injEq]at h0;obtain⟨rfl,hfn,rfl⟩ :=h0;have hl:LeadsM P 0 (start P f args).as s1:=hl0.trans (nG h1 (fun p hpp=>hps.mem p hpp));obtain⟨E',g,ccs,w',s2,f2,fs2,r2,x⟩ :=hl (by rw [e3];exact Nat.le_refl _) (embOf w) _ [] w base f1 (by rw [e2];rfl) (by rw [e3];exact aEG w);rw [hcs]at fs2;have:=fs2.nil_inv;subst this;obtain⟨cv,g1,g2⟩ :=nC r2 f2.tm hrs;simp only [xN,VR]at g2;subst g2;have fm:=f2.mode;rw [hmo]at fm;simp only [MR]at fm;have fdd:=f2.defers;rw [hde]at fdd;rw [e3]at x;have hno:∀ {b o},¬ (⟨.leaf,0⟩ :Hp).look b=some o:=fun {b o} e=>by simp [Hp.look,T.at_leaf]at e
             refine⟨.returned (.bool b),w',g,⟨rfl,⟨x.os,x.output,fun i hi=>?_⟩,x.froz,x.size⟩,s2,by rw [f2.fn,hfn],fm,fdd.nil_inv,by rw [f2.kind,hkd],fd,by rw [f2.fn];exact hfd,g1⟩;have:=x.keep i hi (fun b o L e=>absurd e hno);rw [this];cases w.heap[i]? with
             |none=>rfl
             |some ob=>cases ob<;>simp
           ·cases h0
         ·cases h0
       ·cases h0
     ·cases h0
   ·cases hb
 ·cases hb
theorem cW {f:Nat}{args:List AV}{b:Bool}{cargs:List Value}(L:List Pf)(is:List Ins)(w:World)(hv:VRs (embOf w) args cargs)(hb:iE P f=true:=by kernel_rfl)(hk:AV.keylessL args=true:=by kernel_rfl)(h0:aOm P is (start P f args) =some (.bool b,f,L.map Pf.p) :=by kernel_rfl) :
    Calls P f ⟨cargs⟩ w fun e w'=>e= .returned (.bool b) ∧GrownO w w':=aGR hb hk h0 (aPc L) w hv
theorem cL {f:Nat}{args:List AV}{b:Bool}{cargs:List Value}{t:TS}(hl:LeadsM P 0 (start P f args).as t.as)(L:List Pf)(is:List Ins)(w:World)(hv:VRs (embOf w) args cargs)(hb:iE P f=true:=by kernel_rfl)(hk:AV.keylessL args=true:=by kernel_rfl)(h0:aOm P is t=some (.bool b,f,L.map Pf.p) :=by kernel_rfl) :
    Calls P f ⟨cargs⟩ w fun e w'=>e= .returned (.bool b) ∧GrownO w w':=aBP hb hk hl h0 (aPc L) w hv
end
end
end Go.Hb

set_option linter.defProp false
set_option linter.unusedVariables false
set_option linter.unusedSimpArgs false
set_option linter.unusedSectionVars false
set_option maxRecDepth 100000
set_option maxHeartbeats 4000000
namespace Go.Hb
open List (append_assoc append_nil drop length length_cons length_set map replicate set take)
open Go.Proofs Tryz
noncomputable section
structure PartOk (l:List LUnit) (c:List Con) :Prop where
 hl:l.length≤10
 good:∀u∈l,GoodU u
 cons:aQ3 l=some c
 differ:bU (aX l) =true
 size:bP l≤300
 c20:c.length≤20
 n20: (iU l).length≤20
section
variable {l :List LUnit} {c:List Con}
end
section
variable {p :Prog} (f:Fs p) {b:Int} (hb:b∈p.funs)
include f hb
end
section
variable {p :Prog} (hs:aH p=true) (hr:aO p=true)
include hs hr
end
structure NamesOk (p:Prog) (l:List aB) :Prop where
 named:aLx p l=true
 short:∀s∈l,s.length≤30
section
variable {p :Prog} {l:List aB} (hs:aH p=true) (hr:aO p=true) (hN:NamesOk p l)
include hN in
theorem NamesOk.len :l.length=p.funs.length:= (yO hN.named).1
include hN in
theorem NamesOk.nodup :l.Nodup:=by
 have:= (yO hN.named).2.1;unfold eK at this;rw [Bool.and_eq_true]at this;exact(mQ l).1 this.2
include hN in
theorem NamesOk.ok :∀s∈l,nH s=true:=by
 have:= (yO hN.named).2.1;unfold eK at this;rw [Bool.and_eq_true,List.all_eq_true]at this;exact this.1
include hN in
theorem NamesOk.at {y:Int}(h0:0≤y)(h1:y<p.funs.length) :l[y.toNat]?=some (aMt l y) :=by
 have hl:=hN.len;unfold aMt;rw [List.getElem?_eq_getElem (by omega)];rfl
include hN in
theorem NamesOk.inj {y z:Int}(h0:0≤y)(h1:y<p.funs.length)(g0:0≤z)(g1:z<p.funs.length)(e:aMt l y=aMt l z) :y=z:=by
 have a:=hN.at h0 h1;have b:=hN.at g0 g1;rw [←e]at b;have hl:=hN.len;have:= (List.getElem?_inj (by omega) hN.nodup).1 (a.trans b.symm);omega
include hs hr hN
end
section
variable {p :Prog} {l:List aB} (hs:aH p=true) (hr:aO p=true) (hN:NamesOk p l)
include hs hr hN
end
section
variable {p :Prog} {l:List aB} (hs:aH p=true) (hr:aO p=true) (hN:NamesOk p l) (h10:p.funs.length≤10)
include hs hr hN h10
end
def aWS(a:List LUnit)(b c:List (aB×Int))(d:List aB)(f:Bool)(g:Int)(e:List aB):TS:=⟨(tf 64 50 [kp 0 0,(2,.nils),(3,(.gl 4 1 0 e.length false)),(13,(.ilst 5 (map LUnit.av a) false)),(14,(nI (a.length:Int))),(15,(nI g))] [kc f64 116,kl f64 116,.inBlock 0,kc f64 15]),[],[oC 0 [(.ilst 5 (map LUnit.av a) false),(.map 1),(.map 2),(.gl 3 1 0 d.length false),(bV f)],(1,(.map (aJ aD bL 0 b) b.length),true),(2,(.map (aJ aD bL 0 c) c.length),true),oL 3 1 (map aD d),oL 4 1 (map aD e)],5⟩
def aWT(a:List LUnit)(b c:List (aB×Int))(d:List aB)(f:Bool)(g:List aB)(i j:Int)(e:List aB)(k:Int):TS:=⟨(tf 64 50 [kp 0 0,(2,.nils),(3,(.gl 4 1 0 e.length false)),(13,(.ilst 5 (map LUnit.av a) false)),(14,(nI (a.length:Int))),(15,(nI k)),(20,(iS g)),(21,(nI i)),(22,(nI j))] [kc f64 29900,kl f64 29900,.inBlock 2,.inBlock 1,kc f64 935,kl f64 116,.inBlock 0,kc f64 15]),[],[oC 0 [(.ilst 5 (map LUnit.av a) false),(.map 1),(.map 2),(.gl 3 1 0 d.length false),(bV f)],(1,(.map (aJ aD bL 0 b) b.length),true),(2,(.map (aJ aD bL 0 c) c.length),true),oL 3 1 (map aD d),oL 4 1 (map aD e)],5⟩
def aWU(a:List LUnit)(b c:List (aB×Int))(d:List aB)(g:Bool)(e:Int)(f:List aB):=tT 4 (aWS a b c d g e f)<|gd 5 16 (e< (a.length:Int)) (gX LUnit.av 6 a e<|fun i=>gl 8 aD i.needs<|.W 4 6 [4] (aWT a b c d g i.needs (i.needs.length:Int) 0 f e))<|.E 8 5 [4] (.gl 4 1 0 f.length false) [oC 0 [(.ilst 5 (map LUnit.av a) false),(.map 1),(.map 2),(.gl 3 1 0 d.length false),(bV g)],(1,(.map (aJ aD bL 0 b) b.length),true),(2,(.map (aJ aD bL 0 c) c.length),true),oL 3 1 (map aD d),oL 4 1 (map aD f)] 5
def aUc:=fun a b c d e f g i=>aWU a b c d e f g|>.f i ⟨bA (fun _=>rfl) (fun _=>rfl) _ _ _,⟨bA (fun _=>rfl) (fun _=>rfl) _ _ _,⟨kk,⟨kk,trivial⟩⟩⟩⟩
section
variable (l :List LUnit) (mf mh:List (aB×Int)) (od:List aB) (tw:Bool)
theorem aVK (ht:TabI od tw mf mh)(hl:l.length≤11)(hu:∀u∈l,FewU u) :∀ (t:List LUnit) (i:Nat) (acc:List aB),l.drop i=t→acc.length≤25*i →
  Ends PP 4 (aDF l mf mh od tw (i:Int) acc).as (.ret (.gl 4 1 0 (length (mP od acc t)) false)) (aF (THp l mf mh od tw++ [(4,aA4 (mP od acc t),true)]) 5)
 | [],i,acc,h,ha=>by
  have:=bE h;exact Eq.mp (by kernel_rfl) (aUc l mf mh od tw i acc sd)
 | u::t,i,acc,h,ha=>by
  obtain⟨q1,q2,q3⟩ :=bB h;have hn:= (hu u (List.mem_of_getElem? q1)).n;have hlen:=vN od u.needs acc;exact(aTZ l mf mh od tw i acc u sd sd sd).ends ((aRp l mf mh od tw ht u.needs hn i (by omega) u.needs 0 acc rfl (by omega)).ends (aVK ht hl hu t (i+1) _ q2 (by omega)))
theorem aRt (ht:TabI od tw mf mh)(hl:l.length≤11)(hu:∀u∈l,FewU u) :aBr PP 4 (.enter 64 [.ptr 0 0]) (aF (THp l mf mh od tw) 4) (.ret (.gl 4 1 0 (length (mP od [] l)) false)) (aF (THp l mf mh od tw++ [(4,aA4 (mP od [] l),true)]) 5) :=by
 suffices hh:Ends PP 4 (aRk l mf mh od tw).as (.ret (.gl 4 1 0 (length (mP od [] l)) false)) (aF (THp l mf mh od tw++ [(4,aA4 (mP od [] l),true)]) 5)from⟨(aRk l mf mh od tw).as.fr,by kernel_rfl,Eq.mp (by kernel_rfl) hh⟩
 exact(aTY l mf mh od tw).ends (aVK l mf mh od tw ht hl hu l 0 [] rfl (by simp))
end
abbrev NlC :AObj:=.cells (putCells .leaf 0 [.nils]) 1 [] false
abbrev GlC (b n:Nat) :AObj:=.cells (putCells .leaf 0 [.gl b 1 0 n false]) 1 [] false
abbrev aGS (c0:AObj)(l:List LUnit)(mf mh:List (aB×Int))(od:List aB)(tw:Bool) :List (Nat×AObj×Bool) :=[(0,c0,false),(1,aFd,false),(2,aWQ l 3 4 5 od tw,false),(3,MTb mf,true),(4,MTb mh,true),(5,aA4 od,true)]
section
variable (l :List LUnit) (mf mh:List (aB×Int)) (od:List aB) (tw:Bool)
theorem aVM (hs:aBq PP (.enter 63 [.ilst 5 (map LUnit.av l) false]) (aF [] 0) (.ret (.ptr 0 0)) (aF (THp l mf mh od tw) 4)) :
  Spec PP (.enter 63 [.ilst 5 (map LUnit.av l) false]) (aF [(0,NlC,false),(1,aFd,false)] 2) (.ret (.ptr 2 0)) (aF (aGS NlC l mf mh od tw) 6) :=
 vM (m:=0) (ks:=[]) (n2:=2) (n3:=6) (v':=.ptr 2 0) (args':=[.ilst 5 (map LUnit.av l) false]) (lc:=[(0,NlC,false),(1,aFd,false)]) (lc':=aGS NlC l mf mh od tw)
  hs (by rfl) (by rfl) (by kernel_rfl) (by rfl) (by rfl) (by kernel_rfl) (by kernel_rfl) trivial (by kernel_rfl) ⟨uT _,uT _,aAl _,trivial⟩
theorem aXA {n:Nat}{L:List aB}(hs:aBr PP 4 (.enter 64 [.ptr 0 0]) (aF (THp l mf mh od tw) 4) (.ret (.gl 4 1 0 n false)) (aF (THp l mf mh od tw++ [(4,aA4 L,true)]) 5)) :
  Spec PP (.enter 64 [.ptr 2 0]) (aF (aGS NlC l mf mh od tw) 6) (.ret (.gl 6 1 0 n false)) (aF (aGS NlC l mf mh od tw++ [(6,aA4 L,true)]) 7) :=
 vM (m:=4) (ks:=[2,3,4,5]) (n2:=6) (n3:=7) (v':=.gl 6 1 0 n false) (args':=[.ptr 2 0]) (lc:=aGS NlC l mf mh od tw) (lc':=aGS NlC l mf mh od tw++ [(6,aA4 L,true)])
  hs (by rfl) (by kernel_rfl) (by kernel_rfl) (by rfl) (by rfl) (by kernel_rfl) (by kernel_rfl) ⟨uT _,uT _,aAl _,trivial⟩ (by kernel_rfl) ⟨uT _,uT _,aAl _,aAl _,trivial⟩
end
section
variable {l :List LUnit} {c1:List Con} {nm:aB}
end
section
variable {l1 l2:List LUnit} {c1 c2:List Con} {n1 n2:aB}
theorem aJj (l m:List LUnit) :aX (l++m) =aX l++aX m:=by simp [aX]
end
section
variable {P :Program}
theorem aJk {t:TypeId}{b e o n:Nat}(hu:nZ P t e=true){kk:IntKind}{k:Int}(h0:0≤k)(h1:k.toNat≤n) :
  vT P t (.gl b e o n false) (some (.int kk k)) none (.gl b e (o+k.toNat) (n-k.toNat) false) :=by
 refine⟨_,_,_,oR h0,eR,eR,.inr ⟨?_,?_⟩⟩
 ·unfold kT;split<;>simp_all
 · unfold pY;simp only [hu,cond,Option.getD_some,Option.getD_none];rw [if_pos ⟨h1,Nat.le_refl _⟩];simp
theorem aWV {α:Type}{f:α→AV}{l:List α}{k:Nat}(h:k≤l.length) :k+ (l.length-k) ≤ (map f l).length:=by simp;omega
theorem aWW {α:Type}{f:α→AV}{l x:List α}{k:Nat}:take (l.length-k) (drop k (map f l)) ++map f x=map f (drop k l++x) :=by
 rw [List.take_of_length_le (by simp),List.map_append,List.map_drop]
theorem aWX {α:Type}{f:α→AV}{l x:List α}{k:Nat}: (l.length-k) + (map f x).length= (drop k l++x).length:=by simp
end
def aVN(a:List LUnit):TS:=dL PP 15 [(.ilst 5 (map LUnit.av a) false)] [] 0
def aVO(a:List LUnit):TS:=dL PP 17 [(.ilst 5 (map LUnit.av a) false)] [] 0
def aVP(a:List LUnit):TS:=dL PP 16 [(.ilst 5 (map LUnit.av a) false)] [] 0
def aMu(a:List LUnit):TS:=dL PP 16 [(.ilst 5 (map LUnit.av a) false)] [] 0
def aDG(i:List LUnit)(j:Int)(k:Bool)(a:List Int)(b:List Bool)(c d:List (aB×Int))(e:List aB)(f:Nat)(g:List Int):TS:=⟨(tf 156 51 [(0,(.yield 0)),kp 1 1,kp 5 2,(6,(.func 157 [] [(.ptr 1 0),(.ptr 3 0),(.ptr 2 0)]))] [kc f156 124,kl f156 124,.inBlock 0]),[(tf 155 13 [kp 2 4,(4,.nils)] [.inRF 0,.inBlock 0,kc f155 7] (defers:=[.col 5])),(tf 68 5 [(2,.nils),(3,(.func 156 [] [(.ptr 1 0),(.ptr 6 0)]))] [ko f68 6 1,kc f68 7]),(tf 16 31 [kp 2 7,kp 3 8,(29,(.func 156 [] [(.ptr 1 0),(.ptr 6 0)]))] [ko f16 126 3,kc f16 127] (defers:=[.fn 61 [(.ptr 8 0),(.func 66 [] [(.ptr 7 0)])]]))],[(0,(.loop .ready none 155 (mkT [kp 2 4]) 13 [7] (kd f155 52) (kd f155 53) 5),false),oC 1 [(.ptr 9 0)],oC 2 [(.gl 10 1 f (a.length-f) false)],oC 3 [(.gl 11 1 0 b.length true)],oC 4 [(.gl 12 1 0 g.length false)],(5,(.defd false),false),oC 6 [(nI j)],oC 7 [.nils],oC 8 [(nI 0)],oC 9 [(.ilst 5 (map LUnit.av i) false),(.map 13),(.map 14),(.gl 15 1 0 e.length false),(bV k)],oL 10 1 (jI a),oL 11 1 (map fX b),oL 12 1 (jI g),(13,(.map (aJ aD bL 0 c) c.length),true),(14,(.map (aJ aD bL 0 d) d.length),true),oL 15 1 (map aD e)],16⟩
def aA7(i:List LUnit)(j:List aB)(k l:Int)(m:Bool)(a:List Int)(b:List Bool)(c:List Int)(d e:List (aB×Int))(f:List aB)(n:Int)(g:Nat):TS:=⟨(tf 156 51 [(0,(.yield 0)),kp 1 1,kp 5 2,(6,(.func 157 [] [(.ptr 1 0),(.ptr 3 0),(.ptr 2 0)])),(39,(iS j)),(40,(nI k)),(41,(nI n))] [kc f156 15956,kl f156 15956,.inBlock 2,kc f156 1995,.inBlock 1,kl f156 124,.inBlock 0]),[(tf 155 13 [kp 2 4,(4,.nils)] [.inRF 0,.inBlock 0,kc f155 7] (defers:=[.col 5])),(tf 68 5 [(2,.nils),(3,(.func 156 [] [(.ptr 1 0),(.ptr 6 0)]))] [ko f68 6 1,kc f68 7]),(tf 16 31 [kp 2 7,kp 3 8,(29,(.func 156 [] [(.ptr 1 0),(.ptr 6 0)]))] [ko f16 126 3,kc f16 127] (defers:=[.fn 61 [(.ptr 8 0),(.func 66 [] [(.ptr 7 0)])]]))],[(0,(.loop .ready none 155 (mkT [kp 2 4]) 13 [7] (kd f155 52) (kd f155 53) 5),false),oC 1 [(.ptr 9 0)],oC 2 [(.gl 10 1 g (a.length-g) false)],oC 3 [(.gl 11 1 0 b.length true)],oC 4 [(.gl 12 1 0 c.length false)],(5,(.defd false),false),oC 6 [(nI l)],oC 7 [.nils],oC 8 [(nI 0)],oC 9 [(.ilst 5 (map LUnit.av i) false),(.map 13),(.map 14),(.gl 15 1 0 f.length false),(bV m)],oL 10 1 (jI a),oL 11 1 (map fX b),oL 12 1 (jI c),(13,(.map (aJ aD bL 0 d) d.length),true),(14,(.map (aJ aD bL 0 e) e.length),true),oL 15 1 (map aD f)],16⟩
def aUd (a:List LUnit):=fun b=>(tT 0 (aVN a)<|gK 13 (.enter 63 [(.ilst 5 (map LUnit.av a) false)]) [oC 0 [.nils],oC 1 [(nI 0)]] 2 [((.iface 201 (.agg [(nI 2)])),false)] [oC 0 [.nils],oC 1 [(nI 0)]] 2<|.i [rn 43,.cnilI 0 0 1] []<|gE 0 3 (.tup [(.ilst 1 (map aD ([] :List aB)) true),(nI 2)])) b tv
def aUe (a:List LUnit):=fun b=>(tT 0 (aVO a)<|gK 13 (.enter 63 [(.ilst 5 (map LUnit.av a) false)]) [oC 0 [.nils],oC 1 [(nI 0)]] 2 [((.iface 201 (.agg [(nI 2)])),false)] [oC 0 [.nils],oC 1 [(nI 0)]] 2<|.i [rn 43,.cnilI 0 0 2] []<|gE 0 3 (.tup [(.ilst 2 (map LPlace.av ([] :List LPlace)) true),(nI 2)])) b tv
def aUf (a:List LUnit):=fun b=>(tT 0 (aVP a)<|gK 13 (.enter 63 [(.ilst 5 (map LUnit.av a) false)]) [oC 0 [.nils],oC 1 [(nI 0)]] 2 [((.iface 201 (.agg [(nI 2)])),false)] [oC 0 [.nils],oC 1 [(nI 0)]] 2<|.i [rn 43,.cnilI 0 0 1] []<|gE 0 3 (.tup [(.ilst 1 (jI ([] :List Int)) true),(nI 2)])) b tv
def aGT(a:List LUnit):=tT 0 (aMu a)<|.y fun e:List (aB×Int)=>.y fun c:List (aB×Int)=>.y fun f:List aB=>.y fun d:Bool=>gk 13 (.enter 63 [(.ilst 5 (map LUnit.av a) false)]) [oC 0 [.nils],oC 1 [(nI 0)]] 2 (.ptr 2 0) [oC 0 [.nils],oC 1 [(nI 0)],oC 2 [(.ilst 5 (map LUnit.av a) false),(.map 3),(.map 4),(.gl 5 1 0 f.length false),(bV d)],(3,(.map (aJ aD bL 0 e) e.length),true),(4,(.map (aJ aD bL 0 c) c.length),true),oL 5 1 (map aD f)] 6<|.o (.y fun b:Int=>.i [rn 8,.ans (.look (some (uE (strOf [109,97,105,110]) c,(bL b))))] [.a (dG (strOf [109,97,105,110]) c=some b) (p':=dX (aD (strOf [109,97,105,110])) (aJ aD bL 0 c) 0=some (some (uE (strOf [109,97,105,110]) c,(bL b)))) (oU fG)]<|.b 13 22 d (.i [rn 58,.cnilI 0 0 1] []<|gE 0 7 (.tup [(.ilst 1 (jI ([] :List Int)) true),(nI 7)]))<|.i [rn 52,.lkeep 10 [2]] []<|gl 6 LUnit.av a<|.i [.mk a.length] [hr (a.length:Int),hr (a.length:Int),hA (a.length<100000)]<|.i [.lset 11 (map fX (replicate a.length false))] [.q (p:=replicate a.length (fX false) = (map fX (replicate a.length false))) (aF1 _ _ _)]<|.i [.set 14 (.gl 11 1 0 (replicate a.length false).length true)] [.q (p:=(AV.gl 11 1 0 a.length true) = (.gl 11 1 0 (replicate a.length false).length true)) (dB (List.length_replicate ..).symm)]<|.i [rn 14,.ans (.ix)] [hA (0≤b),hA (b< (((replicate a.length false).length:Nat) :Int))]<|.y fun g:Bool=>.i [.st (fX g) (fX true)] [.a ((((replicate a.length false))[b.toNat]?) =some g) (jJ (f:=fX)),hr (some (fX true))]<|.i [.lset 11 (map fX (set (replicate a.length false) b.toNat true))] [.q (p:=(map fX (replicate a.length false)).set (0+b.toNat) (fX true) = (map fX (set (replicate a.length false) b.toNat true))) (kQ _ _ _ _)]<|.i [.set 14 (.gl 11 1 0 (set (replicate a.length false) b.toNat true).length true)] [.q (p:=(AV.gl 11 1 0 (replicate a.length false).length true) = (.gl 11 1 0 (set (replicate a.length false) b.toNat true).length true)) (dB (length_set ..).symm)]<|.i [.set 17 (.gl 11 1 0 (set (replicate a.length false) b.toNat true).length true)] [.q (p:=(AV.gl 11 1 0 (replicate a.length false).length true) = (.gl 11 1 0 (set (replicate a.length false) b.toNat true).length true)) (dB (length_set ..).symm)]<|.i [.cset 12 0 (.gl 11 1 0 (set (replicate a.length false) b.toNat true).length true)] [.q (p:=(AV.gl 11 1 0 (replicate a.length false).length true) = (.gl 11 1 0 (set (replicate a.length false) b.toNat true).length true)) (dB (length_set ..).symm)]<|.i [rn 2,.ctoL 14 0 false [(nI b)]] [hr (some [(nI b)]),hr true]<|gu 0 13 (jI [b])<|gv 0 14 0 (.gl 13 1 0 [b].length true)<|.i [.cweak 14 0] []<|.i [rn 6,.cnil 8 0 1] []<|gu 0 15 (jI ([] :List Int))<|gv 0 8 0 (.gl 15 1 0 ([] :List Int).length false)<|.W 0 16 [10,6,14,12,8,9,7,0,1,2,13,11,15,3,4,5] (aDG a b d [b] (set (replicate a.length false) b.toNat true) e c f 0 ([] :List Int)))<|.i [rn 8,.ans (.look none)] [.a (dG (strOf [109,97,105,110]) c=none) (p':=dX (aD (strOf [109,97,105,110])) (aJ aD bL 0 c) 0=some none) (oS fG)]<|.b 13 22 d (.i [rn 58,.cnilI 0 0 1] []<|gE 0 7 (.tup [(.ilst 1 (jI ([] :List Int)) true),(nI 7)]))<|.i [rn 58,.cnilI 0 0 1] []<|gE 0 7 (.tup [(.ilst 1 (jI ([] :List Int)) true),(nI 7)])
def aUg:=fun a b c d e f g i j=>aGT a b c d e g|>.1 f i|>.t j tv
def aUh:=fun a b c d e f g i j k l m n o=>aGT a b c d e i|>.1 f j|>.f k l m n g o ⟨kk,⟨kk,⟨kk,⟨bA (fun _=>rfl) (fun _=>rfl) _ _ _,⟨bA (fun _=>rfl) (fun _=>rfl) _ _ _,⟨kk,trivial⟩⟩⟩⟩⟩⟩
def aUi:=fun a b c d e f g i=>aGT a b c d e f|>.2 g|>.t i tv
def aUj:=fun a b c d e f g i=>aGT a b c d e f|>.2 g|>.f i tv
def aRu(f:List LUnit)(g:Int)(i:Bool)(b:List Int)(j:List Bool)(k l:List (aB×Int))(m:List aB)(c:Nat)(e:List Int):=tT 0 (aDG f g i b j k l m c e)<|gd 7 23 ((((b.length-c) :Nat) :Int) >0) (.i [rn 8,.ans (.ix)] [hA (0≤ (0:Int)),hA ((0:Int) < (((b.length-c) :Nat) :Int))]<|.y fun a:Int=>.i [aI (bL a)] [.a (((b)[(c+ (0:Int).toNat)]?) =some a) (cV (f:=bL))]<|ga 10 bL e [a]<|.y fun d:LUnit=>.i [rn 10,.reg (rd 5 [.ans (.ix),.ans (.idx (bL a)),.ans (.idx (LUnit.av d)),.d,.d,.ans (.len (d.needs.length:Int)),.d])] [hA (0≤ (0:Int)),hA ((0:Int) < (((b.length-c) :Nat) :Int)),.a (((b)[(c+ (0:Int).toNat)]?) =some a) (cV (f:=bL)),hA (0≤a),.a (((f)[a.toNat]?) =some d) (cV (f:=LUnit.av)),hl aD d.needs]<|.W 2 18 [0,1,2,3,4,5,6,7,8,9,10,11,17,13,14,15] (aA7 f d.needs (d.needs.length:Int) g i b j (e++ [a]) k l m 0 c))<|gy 39 7 0 12 1 bL e false<|gE 0 16 (.tup [(iI e),(nI 0)])
def aUk:=fun d e f g i j k l m n o p q a b c r s t=>aRu d e f g i j k l m n|>.t q a b o c r p a b c s t ⟨kk,⟨kk,⟨kk,⟨bA (fun _=>rfl) (fun _=>rfl) _ _ _,⟨bA (fun _=>rfl) (fun _=>rfl) _ _ _,⟨kk,trivial⟩⟩⟩⟩⟩⟩
def aUl:=fun a b c d e f g i j k l=>aRu a b c d e f g i j k|>.f l tv
def aGU(i:List LUnit)(j:List aB)(k l:Int)(m:Bool)(d:List Int)(c:List Bool)(n:List Int)(o e:List (aB×Int))(p:List aB)(f:Int)(b:Nat):=tT 0 (aA7 i j k l m d c n o e p f b)<|gd 5 42 (f<k) (gX aD 6 j f<|fun g=>.o (.y fun a:Int=>.i [rn 14,.ans (.look (some (uE g e,(bL a))))] [.a (dG g e=some a) (p':=dX (aD g) (aJ aD bL 0 e) 0=some (some (uE g e,(bL a)))) (oU fG)]<|.i [rn 12,.ans (.ix)] [hA (0≤a),hA (a< (c.length:Int))]<|.y fun q:Bool=>gj fX 0 c a.toNat q<|.b 3 23 (!q) (.i [rn 5,.ans (.ix)] [hA (0≤a),hA (a< (c.length:Int))]<|.i [.st (fX q) (fX true)] [.a (((c)[a.toNat]?) =some q) (jJ (f:=fX)),hr (some (fX true))]<|.i [.lset 11 (map fX (set c a.toNat true))] [.q (p:=(map fX c).set (0+a.toNat) (fX true) = (map fX (set c a.toNat true))) (kQ _ _ _ _)]<|.i [.set 18 (.gl 11 1 0 (set c a.toNat true).length true)] [.q (p:=(AV.gl 11 1 0 c.length true) = (.gl 11 1 0 (set c a.toNat true).length true)) (dB (length_set ..).symm)]<|.i [.set 24 (.gl 11 1 0 (set c a.toNat true).length true)] [.q (p:=(AV.gl 11 1 0 c.length true) = (.gl 11 1 0 (set c a.toNat true).length true)) (dB (length_set ..).symm)]<|.i [.cset 3 0 (.gl 11 1 0 (set c a.toNat true).length true)] [.q (p:=(AV.gl 11 1 0 c.length true) = (.gl 11 1 0 (set c a.toNat true).length true)) (dB (length_set ..).symm)]<|.i [rn 5,.app (jI (drop b d++ [a])) (drop b d++ [a]).length] [.a (b≤d.length) (p':=b+ (d.length-b) ≤length (jI d)) aWV,hA (length (drop b d++ [a]) ≤1000000),.q (p:=take (d.length-b) (drop b (jI d)) ++ (jI [a]) = (jI (drop b d++ [a]))) aWW,.q (p:=(d.length-b) +length (jI [a]) =length (drop b d++ [a])) aWX]<|gw 8 48 (f+1)<|.W 3 18 [0,1,2,3,4,5,6,7,8,9,17,11,12,13,14,15] (aA7 i j k l m (drop b d++ [a]) (set c a.toNat true) n o e p (f+1) 0))<|gw 8 48 (f+1)<|.W 3 16 [0,1,2,3,4,5,6,7,8,9,10,11,12,13,14,15] (aA7 i j k l m d c n o e p (f+1) b))<|.i [rn 14,.ans (.look none)] [.a (dG g e=none) (p':=dX (aD g) (aJ aD bL 0 e) 0=some none) (oS fG)]<|gw 25 48 (f+1)<|.W 3 16 [0,1,2,3,4,5,6,7,8,9,10,11,12,13,14,15] (aA7 i j k l m d c n o e p (f+1) b))<|.i [rn 4,.ans (.ev (.gl 10 1 (b+1) ((d.length-b) -1) false))] [.a (1≤ (d.length-b)) (p':=vT PP 29 (.gl 10 1 b (d.length-b) false) (some (nI 1)) none (.gl 10 1 (b+1) ((d.length-b) -1) false)) (fun h=>(aJk (k:=1) (by kernel_rfl) (by decide) h))]<|.W 4 16 [0,1,2,3,4,5,6,7,8,9,10,11,12,13,14,15] (aDG i l m d c o e p (b+1) n)
def aUm:=fun d e f g i j k l m n o p q r s t u v w x a b c y z A B=>aGU d e f g i j k l m n o p q|>.t u r v w|>.1 s x a b t c|>.t y a b c z A B ⟨kk,⟨kk,⟨kk,⟨bA (fun _=>rfl) (fun _=>rfl) _ _ _,⟨bA (fun _=>rfl) (fun _=>rfl) _ _ _,⟨kk,trivial⟩⟩⟩⟩⟩⟩
def aUn:=fun a b c d e f g i j k l m n o p q r s t u v w x y z=>aGU a b c d e f g i j k l m n|>.t r o s t|>.1 p u v w q x|>.f y z ⟨kk,⟨kk,⟨kk,⟨bA (fun _=>rfl) (fun _=>rfl) _ _ _,⟨bA (fun _=>rfl) (fun _=>rfl) _ _ _,⟨kk,trivial⟩⟩⟩⟩⟩⟩
def aUo:=fun a b c d e f g i j k l m n o p q r s t=>aGU a b c d e f g i j k l m n|>.t p o q r|>.2 s t ⟨kk,⟨kk,⟨kk,⟨bA (fun _=>rfl) (fun _=>rfl) _ _ _,⟨bA (fun _=>rfl) (fun _=>rfl) _ _ _,⟨kk,trivial⟩⟩⟩⟩⟩⟩
def aUp:=fun a b c d e f g i j k l m n o p=>aGU a b c d e f g i j k l m n|>.f o p ⟨kk,⟨kk,⟨kk,⟨bA (fun _=>rfl) (fun _=>rfl) _ _ _,⟨bA (fun _=>rfl) (fun _=>rfl) _ _ _,⟨kk,trivial⟩⟩⟩⟩⟩⟩
def aMv(a:List LUnit):TS:=dL PP 19 [(.ilst 5 (map LUnit.av a) false)] [] 0
def aDH(b:List LUnit)(a:List Int)(c:Int):TS:=⟨(tf 19 77 [(0,(.ilst 5 (map LUnit.av b) false)),(2,.nils),(3,(nI 0)),(4,(.gl 0 1 0 a.length false)),(5,(nI c))] [kc f19 500,kl f19 500,.inBlock 0,kc f19 63]),[],[oL 0 1 (jI a)],1⟩
def aA8(b:List LUnit)(a:List Int)(c:aB)(d:List Con)(e:List LFun)(f:List aB)(g:List Node)(i j:Int):TS:=⟨(tf 19 77 [(0,(.ilst 5 (map LUnit.av b) false)),(2,.nils),(3,(nI 0)),(4,(.gl 0 1 0 a.length false)),(5,(nI j)),kp 6 1,(7,(nI i))] [kc f19 64076,kl f19 64076,.inBlock 2,.inBlock 1,kc f19 2003,kl f19 500,.inBlock 0,kc f19 63]),[],[oL 0 1 (jI a),oC 1 [(aD c),(iC d),(.ilst 2 (map LFun.av e) false),(iS f),(iN g)]],2⟩
def aDI(b:List LUnit)(c:Int)(d:Bool)(a:List Int)(e:aB)(f:List Con)(g:List LFun)(i:List aB)(j:List Node)(k l m:Int):TS:=⟨(tf 19 77 [(0,(.ilst 5 (map LUnit.av b) false)),(2,.nils),(3,(nI 0)),(4,(.gl 0 1 0 a.length false)),(5,(nI l)),kp 6 1,(7,(nI m)),(8,(nI c)),(9,(bV d)),(10,(nI k))] [kc f19 32807220,kl f19 32807220,.inBlock 4,kc f19 4100903,.inBlock 3,kc f19 256307,kl f19 64076,.inBlock 2,.inBlock 1,kc f19 2003,kl f19 500,.inBlock 0,kc f19 63]),[],[oL 0 1 (jI a),oC 1 [(aD e),(iC f),(.ilst 2 (map LFun.av g) false),(iS i),(iN j)]],2⟩
def aVQ(a:List LUnit):TS:=dL PP 20 [(.ilst 5 (map LUnit.av a) false)] [] 0
def aGV(b:List LUnit)(c:Int)(a:List LPlace)(d e:Int):TS:=⟨(tf 20 41 [(0,(.ilst 5 (map LUnit.av b) false)),(2,.nils),(3,(nI 0)),(4,(.gl 0 2 0 a.length false)),kp 5 1,(6,(nI c))] [kc f20 500,kl f20 500,.inBlock 0,kc f20 63]),[],[oL 0 2 (map LPlace.av a),oC 1 [(nI d),(nI e)]],2⟩
def aVR(a b:List Int):TS:=dL PP 23 [(iI a),(iI b)] [] 0
def aGW(a b:List Int)(c:Int):TS:=⟨(tf 75 26 [(0,(iI a)),(1,(iI b)),(4,(bV false)),(5,(nI c))] [kc f75 116,kl f75 116,.inBlock 0,kc f75 15]),[(tf 23 8 [(4,(bV false)),(5,(iI a)),(6,(iI b))] [ko f23 6 2,kc f23 7])],[],0⟩
def aVS(a b:List aB):TS:=dL PP 21 [(iS a),(iS b)] [] 0
def aGX(a b:List aB)(c:Int):TS:=⟨(tf 21 26 [(0,(iS a)),(1,(iS b)),(4,(bV false)),(5,(nI c))] [kc f21 116,kl f21 116,.inBlock 0,kc f21 15]),[],[],0⟩
def aGY(a:List LUnit):=tT 0 (aMv a)<|eS 9 18 [(.ilst 5 (map LUnit.av a) false)]<|fun d=>.b 2 13 (!d) (.i [rn 7,.nilI 2 1] []<|gE 0 0 (.tup [(.ilst 1 (jI ([] :List Int)) true),(nI 2)]))<|.y fun c:List aB=>gp 6 72 [(.ilst 5 (map LUnit.av a) false)] (iS c)<|eS 0 71 [(iS c)]<|fun e=>.b 2 18 (!e) (.i [rn 12,.nilI 2 1] []<|gE 0 0 (.tup [(.ilst 1 (jI ([] :List Int)) true),(nI 7)]))<|gpI 1 73 [(.ilst 5 (map LUnit.av a) false),(.str 4 1852399981)]<|fun f=>gd 3 22 (f<0) (.i [rn 7,.nilI 2 1] []<|gE 0 0 (.tup [(.ilst 1 (jI ([] :List Int)) true),(nI 7)]))<|gpI 5 73 [(.ilst 5 (map LUnit.av a) false),(.str 4 1852399981)]<|fun b=>.i [rn 10,.toL 4 false [(nI b)]] [hr (some [(nI b)]),hr true]<|gu 0 0 (jI [b])<|gs 0 4 (.gl 0 1 0 [b].length true)<|.i [.weak 4] []<|.W 0 1 [0] (aDH a [b] 0)
def aUq:=fun a b c d=>aGY a b c|>.t d tv
def aUr:=fun a b c d e f g i j=>aGY a b e|>.f f c g d i|>.t j tv
def aUs:=fun a b c d e f g i j k l m=>aGY a b f|>.f g c i d j|>.f k e l|>.t m tv
def aUt:=fun a b c d e f g i j k l m n o=>aGY a b g|>.f i c j d k|>.f l e m|>.f n f o ⟨kk,trivial⟩
def aRv(d:List LUnit)(a:List Int)(b:Int):=tT 0 (aDH d a b)<|gd 8 29 (b< (a.length:Int)) (.i [rn 9,.ans (.ix)] [hA (0≤b),hA (b< (a.length:Int))]<|.y fun e:Int=>gj bL 0 a b.toNat e<|gX LUnit.av 0 d e<|fun c=>.W 10 2 [0,1] (aA8 d a c.name c.cons c.funs c.needs c.nodes 0 b))<|gz 9 2 0 1 bL a false<|gE 0 1 (.tup [(iI a),(nI 0)])
def aUu:=fun a b c d e f g i j k l=>aRv a b c|>.t f g i d j e k l ⟨kk,trivial⟩
def aUv:=fun a b c d=>aRv a b c|>.f d tv
def aRw(b:List LUnit)(e:List Int)(f:aB)(g:List Con)(i:List LFun)(a:List aB)(j:List Node)(c d:Int):=tT 0 (aA8 b e f g i a j c d)<|gl 6 aD a<|gd 2 43 (c< (a.length:Int)) (gX aD 10 a c<|fun l=>gpI 1 73 [(.ilst 5 (map LUnit.av b) false),(aD l)]<|fun k=>.W 15 2 [0,1] (aDI b k (decide (k<0)) e f g i a j 0 d c))<|gw 6 31 (d+1)<|.W 3 2 [0] (aDH b e (d+1))
def aUw:=fun a b c d e f g i j k l m n o p=>aRw a b c d e f g i j|>.t m k n o l p ⟨kk,trivial⟩
def aUx:=fun a b c d e f g i j k l=>aRw a b c d e f g i j|>.f k l ⟨kk,trivial⟩
def aGZ(e:List LUnit)(d:Int)(m:Bool)(a:List Int)(f:aB)(g:List Con)(i:List LFun)(j:List aB)(k:List Node)(b l c:Int):=tT 0 (aDI e d m a f g i j k b l c)<|gd 8 58 (b< (a.length:Int)) (.b 7 62 m (gw 13 60 (b+1)<|.W 3 2 [0,1] (aDI e d true a f g i j k (b+1) l c))<|.i [rn 2,.ans (.ix)] [hA (0≤b),hA (b< (a.length:Int))]<|.y fun n:Int=>gj bL 0 a b.toNat n<|gw 9 60 (b+1)<|.W 3 2 [0,1] (aDI e d (n==d) a f g i j k (b+1) l c))<|.b 7 71 (!m) (ga 5 bL a [d]<|gw 6 45 (c+1)<|.W 3 4 [3,1] (aA8 e (a++ [d]) f g i j k (c+1) l))<|gw 6 45 (c+1)<|.W 3 2 [0,1] (aA8 e a f g i j k (c+1) l)
def aUy:=fun a b c d e f g i j k l m n o p=>aGZ a b c d e f g i j k l m|>.t n|>.t o p ⟨kk,trivial⟩
def aUz:=fun a b c d e f g i j k l m n o p q r s t=>aGZ a b c d e f g i j k l m|>.t o|>.f p q r n s t ⟨kk,trivial⟩
def aUA:=fun a b c d e f g i j k l m n o p q=>aGZ a b c d e f g i j k l m|>.f n|>.t o p q ⟨kk,trivial⟩
def aUB:=fun a b c d e f g i j k l m n o p=>aGZ a b c d e f g i j k l m|>.f n|>.f o p ⟨kk,trivial⟩
def aWY(a:List LUnit):=tT 0 (aVQ a)<|eS 9 18 [(.ilst 5 (map LUnit.av a) false)]<|fun b=>.b 2 9 (!b) (.i [rn 7,.nilI 2 2] []<|gE 0 0 (.tup [(.ilst 2 (map LPlace.av ([] :List LPlace)) true),(nI 2)]))<|.i [rn 19,.nilL 4 2] []<|gu 0 1 (map LPlace.av ([] :List LPlace))<|gs 0 4 (.gl 1 2 0 ([] :List LPlace).length false)<|.W 0 2 [1,0] (aGV a 0 ([] :List LPlace) 0 0)
def aUC:=fun a b c d=>aWY a b c|>.f d ⟨kk,trivial⟩
def aRx(c:List LUnit)(b:Int)(d:List LPlace)(e f:Int):=tT 0 (aGV c b d e f)<|gl 5 LUnit.av c<|gd 2 14 (b< (c.length:Int)) (ga 9 LPlace.av d [(LPlace.mk e f)]<|.y fun a:LUnit=>.i [rn 2,.reg (rd 4 (.ans (.idx (LUnit.av a))::.d::.d::.ans (.len (a.nodes.length:Int))::rd 5 (.ans (.idx (LUnit.av a))::.d::.d::.ans (.len (a.funs.length:Int))::rd 3 [])))] [hA (0≤b),.a (((c)[b.toNat]?) =some a) (cV (f:=LUnit.av)),hl Node.av a.nodes,hA (0≤b),.a (((c)[b.toNat]?) =some a) (cV (f:=LUnit.av)),hl LFun.av a.funs]<|gw 4 16 (b+1)<|.W 3 4 [3,1] (aGV c (b+1) (d++ [(LPlace.mk e f)]) (IntKind.i64.wrap (e+ (a.nodes.length:Int))) (IntKind.i64.wrap (f+ (a.funs.length:Int)))))<|gz 9 2 0 2 LPlace.av d false<|gE 0 2 (.tup [(.ilst 2 (map LPlace.av d) false),(nI 0)])
def aUD:=fun c d e f g i j k a b l=>aRx c d e f g|>.t j k i a b a b l ⟨kk,trivial⟩
def aUE:=fun a b c d e f=>aRx a b c d e|>.f f tv
def aWZ(a b:List Int):=tT 0 (aVR a b)<|gl 17 bL a<|gl 1 bL b<|.b 2 10 ((a.length:Int) != (b.length:Int)) (gE 10 0 (bV false))<|.W 9 0 [] (aGW a b 0)
def aUF:=fun a b c=>aWZ a b|>.f c tv
def aRy(b c:List Int)(a:Int):=tT 0 (aGW b c a)<|gl 5 bL b<|gd 2 14 (a< (b.length:Int)) (.y fun d:Int=>.y fun e:Int=>.i [rn 5,.reg (.d::.d::.ans (.idx (bL d))::rd 3 [.ans (.idx (bL e)),.d,.d])] [hA (0≤a),.a (((b)[a.toNat]?) =some d) (cV (f:=bL)),hA (0≤a),.a (((c)[a.toNat]?) =some e) (cV (f:=bL))]<|.b 0 25 (d != e) (gE 10 0 (bV false))<|gw 6 16 (a+1)<|.W 3 0 [] (aGW b c (a+1)))<|gE 11 0 (bV true)
def aUG:=fun b c d e f g a i j k l=>aRy b c d|>.t g e f a i a j|>.f k l tv
def aUH:=fun a b c d=>aRy a b c|>.f d tv
def aW0(a b:List aB):=tT 0 (aVS a b)<|gl 8 aD a<|gl 1 aD b<|.b 2 10 ((a.length:Int) != (b.length:Int)) (gE 6 0 (bV false))<|.W 9 0 [] (aGX a b 0)
def aUI:=fun a b c=>aW0 a b|>.f c tv
def aRz(b e:List aB)(a:Int):=tT 0 (aGX b e a)<|gl 5 aD b<|gd 2 14 (a< (b.length:Int)) (.y fun c:aB=>.y fun d:aB=>.i [rn 5,.reg (.d::.d::.ans (.idx (aD c))::rd 3 [.ans (.idx (aD d)),.d,.d])] [hA (0≤a),.a (((b)[a.toNat]?) =some c) (cV (f:=aD)),hA (0≤a),.a (((e)[a.toNat]?) =some d) (cV (f:=aD))]<|.b 0 25 (!(bM c.length (aA c) d.length (aA d))) (gE 6 0 (bV false))<|gw 6 16 (a+1)<|.W 3 0 [] (aGX b e (a+1)))<|gE 7 0 (bV true)
def aUJ:=fun b c d e f g a i j k l=>aRz b c d|>.t g e f a i a j|>.f k l tv
def aUK:=fun a b c d=>aRz a b c|>.f d tv
theorem aFe (s:aB) :∀ (a b:List LUnit) (i:Nat),cF s (a++b) i=if aQ (aX a) s=true then cF s a i else cF s b (i+a.length)
 | [],b,i=>by rw [if_neg (by simp [aX,aQ])];rfl
 | u ::a,b,i=>by
  rw [List.cons_append,cF,cF,pC,fA,aFe s a b (i+1),length_cons];by_cases e:aQ (aE u) s=true
  ·rw [if_pos e,if_pos (by rw [e];rfl),if_pos e]
  · rw [if_neg e,if_neg e];rw [Bool.not_eq_true]at e;rw [e,Bool.false_or,show i+1+a.length=i+ (a.length+1)by omega]
def HomI (q:List LUnit)(r:List aB)(mh:List (aB×Int)) :Prop:=∀s,dG s mh=if aQ (aX q) s=true then some (cF s q 0)else if aQ r s=true then some ((q.length:Nat) :Int)else none
theorem HomI.old {q:List LUnit}{r:List aB}{mh:List (aB×Int)}(h:HomI q r mh){s:aB}(e:aQ (aX q++r) s=true) :HomI q (r++ [s]) mh:=fun k=>by
 rw [h k];by_cases e1:aQ (aX q) k=true
 ·rw [if_pos e1,if_pos e1]
 · rw [if_neg e1,if_neg e1,fA];by_cases e2:aQ r k=true
   ·rw [if_pos e2,if_pos (by rw [e2];rfl)]
   · rw [if_neg e2,if_neg];intro g;rw [Bool.not_eq_true]at e2 e1;rw [e2,Bool.false_or]at g;have:s=k:=by simpa [aQ]using g
     rw [this,fA,e1,e2]at e;cases e
theorem HomI.new {q:List LUnit}{r:List aB}{mh:List (aB×Int)}(h:HomI q r mh){s:aB}(e:aQ (aX q++r) s=false) :HomI q (r++ [s]) (bK s ((q.length:Nat) :Int) mh) :=fun k=>by
 rw [fA,Bool.or_eq_false_iff]at e;rw [mO,h k,fA];by_cases ek:k=s
 · subst ek;rw [if_pos rfl,if_neg (by rw [e.1];simp),if_pos (by simp [aQ])]
 · rw [if_neg ek];have:aQ [s] k=false:=by simp [aQ,Ne.symm ek]
   rw [this,Bool.or_false]
theorem HomI.next {q:List LUnit}{u:LUnit}{mh:List (aB×Int)}(h:HomI q (aE u) mh) :HomI (q++ [u]) [] mh:=fun s=>by
 rw [h s,aFe,aJj,fA,show aX [u] =aE u by simp [aX]];by_cases e1:aQ (aX q) s=true
 ·rw [if_pos e1,if_pos (by rw [e1];rfl),if_pos e1]
 · rw [if_neg e1,if_neg e1];rw [Bool.not_eq_true]at e1;rw [e1,Bool.false_or];by_cases e2:aQ (aE u) s=true
   ·rw [if_pos e2,if_pos e2,cF,if_pos e2];simp
   ·rw [if_neg e2,if_neg e2,if_neg (by simp [aQ])]
section
variable (l :List LUnit)
theorem aRA (u:LUnit)(hf:u.funs.length≤30)(q:List LUnit)(hi:q.length<1000) :∀ (t:List LFun) (k:Nat) (r:List aB) (tw:Bool) (m1 m2:List (aB×Int)),u.funs.drop k=t→ (aX q++r).length+t.length≤1000→TabI (aX q++r) tw m1 m2→HomI q r m2 →
  ∃tw' m1' m2',TabI (aX q++ (r++t.map LFun.name)) tw' m1' m2'∧HomI q (r++t.map LFun.name) m2'∧LeadsM PP 0 (aA3 l u.funs ((u.funs.length:Nat) :Int) (k:Int) tw (aX q++r) m1 m2 (q.length:Int) (q.length:Int)).as (uR l ((q.length:Int) +1) tw' m1' m2' (aX q++ (r++t.map LFun.name))).as
 | [],k,r,tw,m1,m2,h,ho,ht,hh=>by
  have:=bE h;rw [List.map_nil,append_nil];exact⟨tw,m1,m2,ht,hh,aMp l u.funs _ k tw _ m1 m2 q.length q.length sd sd⟩
 | f::t,k,r,tw,m1,m2,h,ho,ht,hh=>by
  obtain⟨q1,q2,q3⟩ :=bB h;simp only [length_cons]at ho;have g:=ht.f f.name;cases e:aQ (aX q++r) f.name with
  | true=>
   rw [e,if_pos rfl]at g;have ht':=ht.old e;rw [append_assoc]at ht';obtain⟨tw',m1',m2',h1,h3,h2⟩ :=aRA u hf q hi t (k+1) (r++ [f.name]) true m1 m2 q2 (by simp at ho ⊢;omega) ht' (hh.old e);rw [append_assoc]at h1 h3;rw [append_assoc r [f.name]]at h2;have h0:= (aMn l u.funs ((u.funs.length:Nat) :Int) k tw (aX q++r) m1 m2 q.length q.length f _ sd sd sd g (by simp at ho ⊢;omega) sd);rw [append_assoc (aX q)]at h0;exact⟨tw',m1',m2',h1,h3,h0.trans h2⟩
  | false=>
   rw [e,if_neg (by simp)]at g;have ht':=ht.new e (q.length:Int);rw [append_assoc]at ht';obtain⟨tw',m1',m2',h1,h3,h2⟩ :=aRA u hf q hi t (k+1) (r++ [f.name]) tw (bK f.name (((aX q++r).length:Nat) :Int) m1) (bK f.name (q.length:Int) m2) q2 (by simp at ho ⊢;omega) ht' (hh.new e);rw [append_assoc]at h1 h3;rw [append_assoc r [f.name]]at h2;have h0:= (aMo l u.funs ((u.funs.length:Nat) :Int) k tw (aX q++r) m1 m2 q.length q.length f sd sd sd g (ht.h _ e) (by simp at ho ⊢;omega) sd);rw [append_assoc (aX q)]at h0;exact⟨tw',m1',m2',h1,h3,h0.trans h2⟩
theorem aVT (hl:l.length≤10)(hu:∀u∈l,FewU u∧NumU u)(hg:l.all fU=true) :∀ (t q:List LUnit) (tw:Bool) (m1 m2:List (aB×Int)),l=q++t→ (aX q).length≤30*q.length→TabI (aX q) tw m1 m2→HomI q [] m2 →
  ∃tw' mf mh,TabI (aX l) tw' mf mh∧HomI l [] mh∧Ends PP 0 (uR l (q.length:Int) tw m1 m2 (aX q)).as (.ret (.ptr 0 0)) (aF (THp l mf mh (aX l) tw') 4)
 | [],q,tw,m1,m2,h,ho,ht,hh=>by
  rw [append_nil]at h;subst h;exact⟨tw,m1,m2,ht,hh,aMm l l.length tw m1 m2 (aX l) sd⟩
 | u::t,q,tw,m1,m2,h,ho,ht,hh=>by
  have q1:l[q.length]?=some u:=by rw [h,List.getElem?_append_right (Nat.le_refl _)];simp
  have hlen:q.length<l.length:= (List.getElem?_eq_some_iff.1 q1).1;have hm:=List.mem_of_getElem? q1;have hf:= (hu u hm).1.f;have hp:=aJg u (hu u hm).1 (hu u hm).2;rw [List.all_eq_true.1 hg u hm]at hp;have ht0:TabI (aX q++ []) tw m1 m2:=by rw [append_nil];exact ht
  obtain⟨tw',m1',m2',h1,h3,h2⟩ :=aRA l u hf q (by omega) u.funs 0 [] tw m1 m2 rfl (by simp;omega) ht0 hh;have h0:=aMl l q.length tw m1 m2 (aX q) u true sd sd sd hp rfl;rw [List.nil_append]at h1 h2 h3;rw [append_nil]at h2;have eA:aX (q++ [u]) =aX q++u.funs.map LFun.name:=by rw [aJj];simp [aX,aE]
  have eL: ((q.length:Int) +1) = (((q++ [u]).length:Nat) :Int) :=by simp
  rw [←eA]at h1 h2;rw [eL]at h2;obtain⟨tw2,mf,mh,g1,g2,g3⟩ :=aVT hl hu hg t (q++ [u]) tw' m1' m2' (by rw [h];simp) (by rw [eA];simp;omega) h1 h3.next
  exact⟨tw2,mf,mh,g1,g2,h0.ends (h2.ends g3)⟩
theorem aW1 (hu:∀u∈l,FewU u∧NumU u)(h:dS l=true) :∃mf mh,TabI (aX l) (!bU (aX l)) mf mh∧HomI l [] mh ∧
  aBq PP (.enter 63 [.ilst 5 (map LUnit.av l) false]) (aF [] 0) (.ret (.ptr 0 0)) (aF (THp l mf mh (aX l) (!bU (aX l))) 4) :=by
 simp only [dS,Bool.and_eq_true,decide_eq_true_eq]at h;obtain⟨tw,mf,mh,h1,h3,h2⟩ :=aVT l h.1 hu h.2 l [] false [] [] rfl (by simp [aX]) TabI.nil (fun s=>by simp [dG,aQ,aX]);have e:=h1.tw;subst e;refine⟨mf,mh,h1,h3,?_⟩
 suffices hh:Ends PP 0 (aJh l).as (.ret (.ptr 0 0)) (aF (THp l mf mh (aX l) (!bU (aX l))) 4)from⟨(aJh l).as.fr,by kernel_rfl,Eq.mp (by kernel_rfl) hh⟩
 exact(aGO l (by simp;omega)).ends h2
end
def addN (l:List LUnit)(O:List Int)(s:aB) :List Int:=if cF s l 0<0∨cF s l 0∈O then O else O++ [cF s l 0]
def rV (l:List LUnit) :List Int→List aB→List Int
 |O,[] =>O
 |O,s::t=>rV l (addN l O s) t
def aG0 (l:List LUnit)(n:Int) :List aB:= ((l[n.toNat]?).map LUnit.needs).getD []
def uV (l:List LUnit) :Nat→List Int→Nat→List Int
 |0,O,_=>O
 | f+1,O,i=>match O[i]? with
  |none=>O
  |some n=>uV l f (rV l O (aG0 l n)) (i+1)
theorem pJ (s:aB) :∀ (l:List LUnit) (i:Nat),cF s l i< ((i+l.length:Nat) :Int)
 | [],i=>by simp [cF];omega
 | u ::l,i=>by
  rw [cF];split
  ·simp;omega
  · have:=pJ s l (i+1);simp only [length_cons];omega
structure InU (l:List LUnit) (O:List Int) :Prop where
 nd:O.Nodup
 r:∀n∈O,0≤n∧n< (l.length:Int)
theorem InU.len {l:List LUnit}{O:List Int}(h:InU l O) :O.length≤l.length:=by
 have:=lV l.length (O.map Int.toNat) (by
  rw [List.nodup_iff_pairwise_ne];refine List.pairwise_map.2 ((List.nodup_iff_pairwise_ne.1 h.nd).imp_of_mem (fun {a b} ha hb hne e=>hne ?_));have:=h.r a ha;have:=h.r b hb
  omega) (fun x hx=>by
   obtain⟨n,hn,rfl⟩ :=List.mem_map.1 hx;have:=h.r n hn;omega)
 simpa using this
theorem InU.add {l:List LUnit}{O:List Int}(h:InU l O)(s:aB) :InU l (addN l O s) :=by
 unfold addN;split
 ·exact h
 · rename_i g;rw [not_or]at g;have hlt:=pJ s l 0;refine⟨?_,fun n hn=>?_⟩
   · rw [List.nodup_append];refine⟨h.nd,by simp,fun a ha b hb e=>?_⟩;rw [List.mem_singleton.1 hb]at e;exact g.2 (e ▸ ha)
   · rcases List.mem_append.1 hn with k|k
     ·exact h.r n k
     ·rw [List.mem_singleton.1 k];omega
theorem InU.all {l:List LUnit}:∀ (t:List aB) {O:List Int},InU l O→InU l (rV l O t)
 | [],O,h=>h
 |s::t,O,h=>InU.all t (h.add s)
def SeenI (l:List LUnit)(b:List Bool)(O:List Int) :Prop:=b.length=l.length∧∀j,j<l.length→b[j]?=some (decide ((j:Int) ∈O))
theorem SeenI.new {l:List LUnit}{b:List Bool}{O:List Int}(h:SeenI l b O){n:Int}(h0:0≤n)(h1:n<l.length) :SeenI l (set b n.toNat true) (O++ [n]) :=by
 refine⟨by rw [length_set];exact h.1,fun j hj=>?_⟩;by_cases e:n.toNat=j
 · subst e;rw [List.getElem?_set_self (by rw [h.1];exact hj)];have: ((n.toNat:Nat) :Int) =n:=by omega
   rw [this];simp
 · rw [List.getElem?_set_ne e,h.2 j hj];congr 1;have: (j:Int) ≠n:=by omega
   simp [this]
section
variable (l :List LUnit) (mf mh:List (aB×Int)) (od:List aB) (m:Int) (tw:Bool)
theorem aMw (hh:HomI l [] mh)(hl:l.length≤10)(ns:List aB)(hn:ns.length≤1000)(y:Int)(P:List Int) :∀ (t:List aB) (j:Nat) (L:List Int) (b:List Bool) (k:Nat) (T:List Int),ns.drop j=t→L.drop k=y::T→SeenI l b (P++T) →InU l (P++T) →
  ∃L' b' k' T',L'.drop k'=y::T'∧P++T'=rV l (P++T) t∧SeenI l b' (P++T') ∧LeadsM PP 0 (aA7 l ns ((ns.length:Nat) :Int) m tw L b P mf mh od (j:Int) k).as (aDG l m tw L' b' mf mh od (k'+1) P).as
 | [],j,L,b,k,T,h,hd,hS,hI=>by
  have:=bE h;have hlk:k<L.length:=by
   have:=congrArg length hd;simp at this;omega
  exact⟨L,b,k,T,hd,rfl,hS,aUp l ns _ m tw L b P mf mh od j k sd (by omega)⟩
 | s :: t,j,L,b,k,T,h,hd,hS,hI=>by
  obtain⟨q1,q2,q3⟩ :=bB h;have hw:IntKind.i64.wrap ((j:Int) + (1:Int)) = (j:Int) + (1:Int) :=by apply wrap64<;>omega
  have hm:=hh s;rw [rV];by_cases e:aQ (aX l) s=true
  · rw [if_pos e]at hm;have h0:¬cF s l 0<0:=fun g=>by rw [(lX s l 0).1 g]at e;cases e
    have h1:=pJ s l 0;rw [Nat.zero_add]at h1;have hb:=hS.2 (cF s l 0).toNat (by omega);rw [show(((cF s l 0).toNat:Nat) :Int) =cF s l 0 by omega]at hb;have hbl:=hS.1;by_cases g:cF s l 0∈P++T
    · rw [decide_eq_true g]at hb;have ea:addN l (P++T) s=P++T:=by unfold addN;rw [if_pos (.inr g)]
      rw [ea];obtain⟨L',b',k',T',r1,r2,r3,r4⟩ :=aMw hh hl ns hn y P t (j+1) L b k T q2 hd hS hI;exact⟨L',b',k',T',r1,r2,r3,(aUn l ns _ m tw L b P mf mh od j k s _ true sd sd sd hm (by omega) (by omega) hb rfl hw).trans r4⟩
    · rw [decide_eq_false g]at hb;have ea:addN l (P++T) s=P++ (T++ [cF s l 0]) :=by unfold addN;rw [if_neg (fun x=>x.elim h0 g),append_assoc]
      have hI2:=hI.add s;rw [ea]at hI2 ⊢;have hS2:=hS.new (n:=cF s l 0) (by omega) h1;rw [append_assoc]at hS2;have hkl:k≤L.length:=by
       have:=congrArg length hd;simp at this;omega
      have hTl:=hI2.len;obtain⟨L',b',k',T',r1,r2,r3,r4⟩ :=aMw hh hl ns hn y P t (j+1) (drop k L++ [cF s l 0]) (set b (cF s l 0).toNat true) 0 (T++ [cF s l 0]) q2 (by rw [List.drop_zero,hd];rfl) hS2 hI2;exact⟨L',b',k',T',r1,r2,r3,(aUm l ns _ m tw L b P mf mh od j k s _ false sd sd sd hm (by omega) (by omega) hb rfl hkl (by rw [hd];simp at hTl ⊢;omega) hw).trans r4⟩
  · rw [if_neg e,if_neg (by simp [aQ])]at hm;rw [Bool.not_eq_true]at e;have ea:addN l (P++T) s=P++T:=by unfold addN;rw [if_pos (.inl ((lX s l 0).2 e))]
    rw [ea];obtain⟨L',b',k',T',r1,r2,r3,r4⟩ :=aMw hh hl ns hn y P t (j+1) L b k T q2 hd hS hI;exact⟨L',b',k',T',r1,r2,r3,(aUo l ns _ m tw L b P mf mh od j k s sd sd sd hm hw).trans r4⟩
theorem aVU (hh:HomI l [] mh)(hl:l.length≤10)(hn:∀u∈l,u.needs.length≤1000) :∀ (f i:Nat) (P T L:List Int) (b:List Bool) (k:Nat),P.length=i→l.length≤i+f→L.drop k=T→SeenI l b (P++T) →InU l (P++T) →
  Ends PP 0 (aDG l m tw L b mf mh od k P).as (.ret (.tup [.ilst 1 (map bL (uV l f (P++T) i)) false,.int .i64 0])) (aF [] 0)
 | f,i,P,[],L,b,k,hi,hf,hd,hS,hI=>by
  have hlk:L.length-k=0:=by
   have:=congrArg length hd;simpa using this
  have e:uV l f (P++ []) i=P:=by
   rw [append_nil];cases f with
   |zero=>rfl
   |succ f=>rw [uV,List.getElem?_eq_none (by omega)]
  rw [e];exact aUl l m tw L b mf mh od k P (decide_eq_false (by omega))
 | 0,i,P,y::T,L,b,k,hi,hf,hd,hS,hI=>by
  have:=hI.len;simp at this;omega
 | f+1,i,P,y::T,L,b,k,hi,hf,hd,hS,hI=>by
  obtain⟨q1,q2,q3⟩ :=bB hd;have hy:=hI.r y (by simp);have hlen:=hI.len;simp only [List.length_append,length_cons]at hlen;obtain⟨u,hu⟩ :∃u,l[y.toNat]?=some u:= ⟨_,List.getElem?_eq_getElem (by omega)⟩;have hun:=hn u (List.mem_of_getElem? hu);have eO:P++y::T= (P++ [y]) ++T:=by simp
  have e1:uV l (f+1) (P++y::T) i=uV l f (rV l (P++y::T) u.needs) (i+1) :=by
   rw [uV,List.getElem?_append_right (by omega)];simp only [hi,Nat.sub_self,List.getElem?_cons_zero];unfold aG0;rw [hu];rfl
  rw [e1];have h0:=aUk l m tw L b mf mh od k P y u (decide_eq_true (by omega)) (by decide) (by omega) (by simpa using q1) (by simp;omega) hy.1 hu;rw [eO]at hS hI ⊢;obtain⟨L',b',k',T',r1,r2,r3,r4⟩ :=aMw l mf mh od m tw hh hl u.needs hun y (P++ [y]) u.needs 0 L b k T rfl hd hS hI;have hI':=InU.all u.needs hI;rw [←r2]at hI';obtain⟨_,z2,_⟩ :=bB r1;have ih:=aVU hh hl hn f (i+1) (P++ [y]) T' L' b' (k'+1) (by simp;omega) (by omega) z2 r3 hI';rw [r2]at ih;exact h0.ends (r4.ends ih)
end
end
end Go.Hb
