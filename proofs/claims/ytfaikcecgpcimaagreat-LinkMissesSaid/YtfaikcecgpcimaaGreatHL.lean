/- A machine on abstract values, its soundness, ways, plain laws. -/
import Derived.Test.YtfaikcecgpcimaaGreatHF
import Derived.Test.YtfaikcecgpcimaaGreatHG
import Derived.Test.YtfaikcecgpcimaaGreatHH
import Derived.Test.YtfaikcecgpcimaaGreatHI
import Derived.Test.YtfaikcecgpcimaaGreatHK
set_option linter.defProp false
set_option linter.unusedVariables false
set_option linter.unusedSimpArgs false
set_option linter.unusedSectionVars false
set_option maxRecDepth 100000
set_option maxHeartbeats 4000000
namespace Go.Hb
open Bool (and_eq_true)
open Int (le_refl toNat)
open List (count_append flatten_cons getElem?_cons_succ getElem?_cons_zero getElem?_eq_getElem getElem?_eq_none getElem?_map length length_cons length_map map map_cons map_map mem_cons_of_mem mem_cons_self mem_of_getElem? range replicate)
open Go.Proofs Tryz
noncomputable section
theorem pF {s x:aB}{l:List aB}:aQ (x::l) s= (decide (x=s) ||aQ l s) :=rfl
theorem aVy (l:List LUnit)(s:aB)(own:List aB)(i:Int)(k:Nat)(hk:k<1000)(acc:List aB)(ha:acc.length<100000) :∀ (t:List aB) (j:Nat),acc.drop j=t→LeadsM PP 0 (aGG l s own (j:Int) (k:Int) acc i).as (yJ l own ((k:Int) +1) (if aQ t s=true then acc else acc++ [s]) i).as
 | [],j,h=>by
  have:=bE h;exact aTs l s own j k acc i sd (by simp;omega) sd
 | x ::t,j,h=>by
  obtain⟨q1,q2,q3⟩ :=bB h;rw [pF];by_cases e:x=s
  · rw [decide_eq_true e,Bool.true_or,if_pos rfl];exact aTq l s own j k acc i x sd sd sd sd (by rw [hU];simp [e]) sd
  · rw [decide_eq_false e,Bool.false_or];exact(aTr l s own j k acc i x sd sd sd sd (by rw [hU];simp [e]) sd).trans (aVy l s own i k hk acc ha t (j+1) q2)
theorem aQ0 (l:List LUnit)(own:List aB)(ho:own.length<1000000)(u:LUnit)(i:Nat)(hi:l[i]?=some u)(hi2:i<1000)(hn:u.needs.length≤25) :∀ (t:List aB) (k:Nat) (acc:List aB),u.needs.drop k=t→acc.length≤25*i+k →
  LeadsM PP 0 (yJ l own (k:Int) acc (i:Int)).as (aDt l own ((i:Int) +1) (nL own acc t)).as
 | [],k,acc,h,ha=>by
  have:=bE h;exact aTp l own k acc i u sd sd sd sd
 | s::t,k,acc,h,ha=>by
  obtain⟨q1,q2,q3⟩ :=bB h;have hh:=oW own s ho;rw [nL];cases e:aQ own s with
  | true=>
   rw [e]at hh;rw [if_pos (.inl rfl)];exact(aTo l own k acc i u s true sd sd sd sd sd hh rfl sd).trans (aQ0 l own ho u i hi hi2 hn t (k+1) acc q2 (by omega))
  | false=>
   rw [e]at hh;have h1:=aTn l own k acc i u s false sd sd sd sd sd hh rfl;have h2:=aVy l s own i k (by omega) acc (by omega) acc 0 rfl;refine h1.trans (h2.trans ?_);have e2: (if false=true∨aQ acc s=true then acc else acc++ [s]) = (if aQ acc s=true then acc else acc++ [s]) :=by simp
   rw [e2];exact aQ0 l own ho u i hi hi2 hn t (k+1) _ q2 (by split<;>first|omega| (simp;omega))
theorem aVz (l:List LUnit)(own:List aB)(ho:own.length<1000000)(hl:l.length≤11)(hu:∀u∈l,FewU u) :∀ (t:List LUnit) (i:Nat) (acc:List aB),l.drop i=t→acc.length≤25*i →
  Ends PP 0 (aDt l own (i:Int) acc).as (.ret (.ilst 1 (map aD (mP own acc t)) false)) (aF [] 0)
 | [],i,acc,h,ha=>by
  have:=bE h;exact aTm l own i acc sd
 | u::t,i,acc,h,ha=>by
  obtain⟨q1,q2,q3⟩ :=bB h;have hf:=hu u (mem_of_getElem? q1);have hn:=hf.n;have hlen:=vN own u.needs acc;exact(aTl l own i acc sd).ends ((aQ0 l own ho u i q1 (by omega) hn u.needs 0 acc rfl (by omega)).ends (aVz l own ho hl hu t (i+1) _ q2 (by omega)))
theorem aI7 (l:List LUnit)(hu:∀u∈l,FewU u) : (aX l).length≤30*l.length:=by
 induction l with
 |nil=>simp [aX]
 | cons u l ih=>
  have:=ih (fun x hx=>hu x (mem_cons_of_mem _ hx));have h1:= (hu u (mem_cons_self ..)).f;rw [pC,List.length_append,length_cons];simp [aE];omega
theorem aQ1 (l:List LUnit)(hl:l.length≤11)(hu:∀u∈l,FewU u) :Pure PP 74 [.ilst 5 (map LUnit.av l) false] (.ilst 1 (map aD (iU l)) false) :=by
 have:=aI7 l hu;exact cJ (s:=aVu l) (by kernel_rfl) (by kernel_rfl) (by simp [AV.keylessL,AV.keyless]) (by simp [AV.keyless]) ((aTk l (aX l) (aE4 l hl (fun u h=> (hu u h).f))).ends (aVz l (aX l) (by omega) hl hu l 0 [] rfl (by simp)))
def aQ2 (out:List Con)(c:Con) :Option (List Con) :=match out.find? (fun d=>decide (d.name=c.name))with
 |none=>some (out++ [c])
 |some d=>if d.args=c.args then some out else none
def aMb :List Con→List Con→Option (List Con)
 |out,[] =>some out
 | out,c::t=>match aQ2 out c with
  |some o=>aMb o t
  |none=>none
def aMc :List Con→List LUnit→Option (List Con)
 |out,[] =>some out
 | out,u::t=>match aMb out u.cons with
  |some o=>aMc o t
  |none=>none
def aQ3 (l:List LUnit) :Option (List Con) :=aMc [] l
abbrev UAV (u:LUnit) :AV:=.agg [aD u.name,.ilst 2 (map Con.av u.cons) false,.ilst 2 (map LFun.av u.funs) false,.ilst 1 (map aD u.needs) false,.ilst 4 (map Node.av u.nodes) false]
abbrev aMd (u:LUnit) :AObj:=.cells (putCells .leaf 0 [aD u.name,.ilst 2 (map Con.av u.cons) false,.ilst 2 (map LFun.av u.funs) false,.ilst 1 (map aD u.needs) false,.ilst 4 (map Node.av u.nodes) false]) 5 [] false
def aWH (u:LUnit)(funs cons:List Int)(c:Int)(L:List ONode)(ns:List Node) :Prop:=
 aBq PP (.enter 147 [.gl 0 4 0 (length L) false,UAV u,.int .i64 c,.ilst 1 (map bL funs) false,.ilst 1 (map bL cons) false]) (aF [(0,OL L,true)] 1)
  (.ret (.gl 0 4 0 (length (L++map Node.o ns)) false)) (aF [(0,OL (L++map Node.o ns),true)] 1)
section
variable (l :List ONode) (u:LUnit) (at0:Int) (funs cons:List Int)
variable (k :Nat) (ih:∀ (L:List ONode) (c:Int) (ns:List Node),aDg (aDs u) funs cons k L.length c=some ns→aWH u funs cons c L ns) (x:Node) (n':Int) (ps':List Pat) (hkids:x.kids.length<1000000)
include ih hkids
end
structure WS where
 l:List Con
 mc:List (aB×Int)
 ar:List Int
structure TB (p:Prog) (fl pl:List aB) (A:Nat) :Prop where
 fl:fl.length≤1000000000
 pl:pl.length≤1000000000
 ks:∀x∈p.nodes,x.kids.length<1000000∧x.pats.length<1000000∧∀q∈x.pats,dM q<1000000
 ad:∀x∈p.nodes,∀i:Nat,i<x.kids.length→Pure PP A [Node.av x,.int .i64 (i:Int)] (.int .i64 (aIT x i))
 kl:AV.keyless (PA p) =true
structure Spk where
 prog:Prog
 funs:List aB
 places:List aB
def Spk.av (x:Spk) :AV:=.agg [.ilst 4 (map Node.av x.prog.nodes) false,.ilst 1 (map bL x.prog.funs) false,.int .i64 x.prog.main,.ilst 2 (map Con.av x.prog.cons) false,.ilst 1 (map aD x.funs) false,.ilst 1 (map aD x.places) false]
section
variable (p q:Prog) (mn:Int) (zn:List Node) (zu:List Int)
end
theorem hasS_mem {l:List aB}{s:aB}:aQ l s=true↔s∈l:=by
 simp [aQ]
theorem rS :∀ (l pre:List aB),cD pre l=true→l.Nodup∧∀x∈l,x∉pre
 | [],pre,_=> ⟨List.nodup_nil,fun x hx=>by cases hx⟩
 | x::t,pre,h=>by
  simp only [cD,and_eq_true,Bool.not_eq_true']at h;obtain⟨h1,h2⟩ :=rS t (pre++ [x]) h.2
  have hx:x∉pre:=fun hm=>by
   have:=hasS_mem.2 hm;rw [h.1]at this;cases this
  refine⟨List.nodup_cons.2 ⟨fun hm=>h2 x hm (by simp),h1⟩,fun y hy=>?_⟩;rcases List.mem_cons.1 hy with rfl|hy
  ·exact hx
  ·exact fun hm=>h2 y hy (List.mem_append_left _ hm)
theorem aB9 (k v j:Int)(m:List (Int×Int)) :lU (bK k v m) j=if j=k then v else lU m j:=by
 unfold lU;rw [mO];split<;>rfl
structure Fm (p:Prog) :Prop where
 fine:FineP p
 cons:p.cons.length≤25
 dup: ((p.funs.map (pre p p.nodes.length)).flatten).Nodup
 len: ((p.funs.map (pre p p.nodes.length)).flatten).length=p.nodes.length
 into:∀x∈ (p.funs.map (pre p p.nodes.length)).flatten,0≤x∧x<p.nodes.length
 node:∀ (i:Nat) (x:Node),p.nodes[i]?=some x→bD p x=true∧x.pats.length≤10
 names: (p.cons.map Con.name).Nodup
theorem aLk {p:Prog}(hs:aH p=true)(hf:aO p=true) :Fm p:=by
 have hss:=hs;simp only [aH,and_eq_true,decide_eq_true_eq]at hss;obtain⟨⟨⟨⟨s1,s2⟩,s3⟩,_⟩,s5⟩ :=hss;obtain⟨a,b,c,d⟩ :=yI hs hf;refine⟨uN hs hf,s3,a,b,c,fun i x hx=> ⟨d i x hx,?_⟩,?_⟩
 · have h10:=List.all_eq_true.1 s5 x (mem_of_getElem? hx);simp only [aT,and_eq_true,decide_eq_true_eq]at h10;omega
 · simp only [aO,and_eq_true,uK]at hf;exact(rS _ _ hf.1.2.2).1
theorem Fm.fit {p:Prog}(h:Fm p)(i:Nat)(x:Node)(hx:p.nodes[i]?=some x) :aXq x:=by
 obtain⟨h1,h2⟩ :=h.node i x hx;have:= (h.fine.node i x hx).2.1;exact⟨by omega,(aN3 h.fine.fsmall h1 h2).1.1⟩
def nodeAt (p:Prog)(k:Int) :Node:= (p.nodes[k.toNat]?).getD ⟨0,0,[],[]⟩
theorem pG {p:Prog}{k:Int}{x:Node}(h:p.nodes[k.toNat]?=some x) :nodeAt p k=x:=by unfold nodeAt;rw [h];rfl
def dQ (p:Prog) :List Int:= (p.funs.map (pre p p.nodes.length)).flatten
theorem aDy {p:Prog}(hp:FineP p) :∀ (f g:Nat) (k:Int),0≤k→k<p.nodes.length→p.nodes.length-k.toNat≤f→p.nodes.length-k.toNat≤g→pre p f k=pre p g k
 |0,_,k,h0,h1,h2,_=>by omega
 |_+1,0,k,h0,h1,_,h3=>by omega
 | f+1,g+1,k,h0,h1,h2,h3=>by
  obtain⟨x,hx⟩ :∃x,p.nodes[k.toNat]?=some x:= ⟨_,getElem?_eq_getElem (by omega)⟩;rw [pre,pre,hx];simp only;congr 2
  exact List.map_congr_left (fun c hc=>by
   have:= (hp.node _ _ hx).2.2 c hc;exact aDy hp f g c (by omega) (by omega) (by omega) (by omega))
def KidsAfter (p:Prog)(l:List Int) :Prop:=∀ (i:Nat) (k c:Int),l[i]?=some k→c∈dA p k→∃j,i<j∧l[j]?=some c
theorem KidsAfter.append {p:Prog}{l m:List Int}(h1:KidsAfter p l)(h2:KidsAfter p m) :KidsAfter p (l++m) :=fun i k c hi hc=>by
 by_cases h:i<l.length
 · rw [List.getElem?_append_left h]at hi;obtain⟨j,hj,e⟩ :=h1 i k c hi hc;exact⟨j,hj,by rw [List.getElem?_append_left (List.getElem?_eq_some_iff.1 e).1];exact e⟩
 · rw [List.getElem?_append_right (by omega)]at hi;obtain⟨j,hj,e⟩ :=h2 _ k c hi hc;exact⟨l.length+j,by omega,by rw [List.getElem?_append_right (by omega),show l.length+j-l.length=j by omega];exact e⟩
theorem KidsAfter.flatten {p:Prog}:∀ {L:List (List Int)},(∀l∈L,KidsAfter p l) →KidsAfter p L.flatten
 | [],_=>fun i k c hi _=>by simp at hi
 | l::L,h=>by
  rw [flatten_cons];exact(h l (mem_cons_self ..)).append (KidsAfter.flatten fun m hm=>h m (mem_cons_of_mem _ hm))
theorem aE8 {p:Prog}(hp:FineP p) :∀ (f:Nat) (k:Int),0≤k→k<p.nodes.length→p.nodes.length-k.toNat≤f→KidsAfter p (pre p f k)
 |0,k,h0,h1,h2=>by omega
 | f +1,k,h0,h1,h2=>by
  obtain⟨x,hx⟩ :∃x,p.nodes[k.toNat]?=some x:= ⟨_,getElem?_eq_getElem (by omega)⟩;have e:pre p (f+1) k=k:: (x.kids.map (pre p f)).flatten:=by rw [pre,hx]
  have hks:= (hp.node _ _ hx).2.2
  have hrest:KidsAfter p (x.kids.map (pre p f)).flatten:=KidsAfter.flatten fun l hl=>by
   obtain⟨c,hc,rfl⟩ :=List.mem_map.1 hl;have:=hks c hc;exact aE8 hp f c (by omega) (by omega) (by omega)
  rw [e];intro i k' c hi hc;cases i with
  | zero=>
   simp only [getElem?_cons_zero,Option.some.injEq]at hi;subst hi;have ek:dA p k=x.kids:=by unfold dA;rw [hx]
   rw [ek]at hc
   have hm:c∈ (x.kids.map (pre p f)).flatten:=List.mem_flatten.2 ⟨pre p f c,List.mem_map.2 ⟨c,hc,rfl⟩,by
    have:=hks c hc;obtain⟨y,g,_,_,h3⟩ :=aQF hp (f:=f) (a:=c) (by omega) (by omega) (by omega);rw [h3];exact mem_cons_self ..⟩
   obtain⟨j,hj⟩ :=List.mem_iff_getElem?.1 hm;exact⟨j+1,by omega,by simpa using hj⟩
  | succ i=>
   simp only [getElem?_cons_succ]at hi;obtain⟨j,hj,e2⟩ :=hrest i k' c hi hc;exact⟨j+1,by omega,by simpa using e2⟩
theorem aI8 {p:Prog}(h:Fm p){k:Int}(h0:0≤k)(h1:k<p.nodes.length) :∃i:Nat,(dQ p)[i]?=some k:=by
 refine List.mem_iff_getElem?.1 ?_;have hd: ((dQ p).map toNat).Nodup:=by
  have hd:=h.dup;rw [List.nodup_iff_pairwise_ne]at hd ⊢;refine List.pairwise_map.2 (hd.imp_of_mem (fun {a b} ha hb hne e=>?_));have:=h.into a ha;have:=h.into b hb;exact hne (by omega)
 by_cases hm:k∈dQ p
 ·exact hm
 · have h2:=lV (p.nodes.length) (k.toNat:: (dQ p).map toNat) (List.nodup_cons.2 ⟨fun hm2=>by
    obtain⟨y,hy,e⟩ :=List.mem_map.1 hm2;have:=h.into y hy;exact hm ((show y=k by omega) ▸ hy),hd⟩) (fun x hx=>by
    rcases List.mem_cons.1 hx with rfl|hx
    ·omega
    · obtain⟨y,hy,rfl⟩ :=List.mem_map.1 hx;have:=h.into y hy;omega)
   rw [length_cons,length_map]at h2;have:=h.len;unfold dQ at h2;omega
structure Laid (a:Prog) (off:Nat) (p:Prog) (mf mc:List (Int×Int)) (to:List Int) :Prop where
 node:∀ (i:Nat) (k:Int),(dQ p)[i]?=some k→a.nodes[off+i]?=some (kR mf mc to (nodeAt p k))
 to:∀ (i:Nat) (k:Int),(dQ p)[i]?=some k→kB to k= ((off+i:Nat) :Int)
section
variable {a p:Prog} {off:Nat} {mf mc:List (Int×Int)} {to:List Int}
theorem Laid.at (h:Laid a off p mf mc to)(hp:Fm p){k:Int}(h0:0≤k)(h1:k<p.nodes.length) :0≤kB to k∧a.nodes[(kB to k).toNat]?=some (kR mf mc to (nodeAt p k)) :=by
 obtain⟨i,hi⟩ :=aI8 hp h0 h1;have e:=h.to i k hi;rw [e,Int.toNat_natCast];exact⟨by omega,h.node i k hi⟩
theorem Laid.pre (h:Laid a off p mf mc to)(hp:Fm p) :∀ (f:Nat) (k:Int),0≤k→k<p.nodes.length→p.nodes.length-k.toNat≤f→pre a f (kB to k) = (pre p f k).map (kB to)
 |0,k,h0,h1,h2=>by omega
 | f+1,k,h0,h1,h2=>by
  obtain⟨x,hx⟩ :∃x,p.nodes[k.toNat]?=some x:= ⟨_,getElem?_eq_getElem (by omega)⟩;obtain⟨g0,g1⟩ :=h.at hp h0 h1;rw [pG hx]at g1;rw [Go.Hb.pre,Go.Hb.pre,hx,g1];simp only [map_cons,List.map_flatten,map_map,kR];congr 2
  exact List.map_congr_left (fun c hc=>by
   have:= (hp.fine.node _ _ hx).2.2 c hc;exact h.pre hp f c (by omega) (by omega) (by omega))
theorem Laid.walk (h:Laid a off p mf mc to)(hp:Fm p){F:Nat}(hF:p.nodes.length≤F) : ((p.funs.map (kB to)).map (Go.Hb.pre a F)).flatten= (range (dQ p).length).map fun i=> ((off+i:Nat) :Int) :=by
 have e1: (p.funs.map (kB to)).map (Go.Hb.pre a F) = (p.funs.map (Go.Hb.pre p p.nodes.length)).map (map (kB to)) :=by
  rw [map_map,map_map];refine List.map_congr_left (fun k hk=>?_);have:=hp.fine.funs k hk;show Go.Hb.pre a F (kB to k) = (Go.Hb.pre p p.nodes.length k).map (kB to);rw [h.pre hp F k this.1 this.2 (by omega),aDy hp.fine F p.nodes.length k this.1 this.2 (by omega) (by omega)]
 rw [e1,←List.map_flatten];refine List.ext_getElem? (fun i=>?_);rw [getElem?_map,getElem?_map];by_cases hi:i< (dQ p).length
 · rw [List.getElem?_range hi];have e: (dQ p)[i]?=some (dQ p)[i] :=getElem?_eq_getElem hi;have: ((p.funs.map (Go.Hb.pre p p.nodes.length)).flatten)[i]?=some (dQ p)[i] :=e;rw [this];simp only [Option.map_some];rw [h.to i _ e]
 · have e: (dQ p)[i]?=none:=getElem?_eq_none (by omega);have: ((p.funs.map (Go.Hb.pre p p.nodes.length)).flatten)[i]?=none:=e;rw [this,getElem?_eq_none (by simp;omega)];rfl
end
mutual
theorem aDz (mc:List (Int×Int)) :∀q:Pat,kZ (vU mc q) =kZ q
 | .mk f n s ps=>by rw [vU,kZ,kZ,aBD mc ps]
theorem aBD (mc:List (Int×Int)) :∀ps:List Pat,lM (fN mc ps) =lM ps
 | [] =>rfl
 |q::ps=>by rw [fN,lM,lM,aDz mc q,aBD mc ps]
end
structure MapsOk (p a:Prog) (mf mc:List (Int×Int)) :Prop where
 funs:∀i:Int,0≤i→i<p.funs.length→0≤lU mf i∧lU mf i<a.funs.length
 cons:∀ (i:Nat) (d:Con),p.cons[i]?=some d→0≤lU mc (i:Int) ∧a.cons[(lU mc (i:Int)).toNat]?=some d
section
variable {p a:Prog} {mf mc:List (Int×Int)}
theorem MapsOk.at (h:MapsOk p a mf mc){n:Int}(h0:0≤n)(h1:n<p.cons.length) :0≤lU mc n∧lU mc n<a.cons.length∧dW a.cons (lU mc n) =dW p.cons n∧a.cons[(lU mc n).toNat]?=p.cons[n.toNat]?:=by
 have e:p.cons[n.toNat]?=some p.cons[n.toNat] :=getElem?_eq_getElem (by omega);obtain⟨g0,g1⟩ :=h.cons n.toNat _ e;rw [show((n.toNat:Nat) :Int) =n by omega]at g0 g1;have:= (List.getElem?_eq_some_iff.1 g1).1;refine⟨g0,by omega,?_,by rw [g1,e]⟩;unfold dW;rw [g1,e]
theorem vO (mc:List (Int×Int)) :∀ps:List Pat,(fN mc ps).length=ps.length
 | [] =>rfl
 |p::ps=>by rw [fN,length_cons,length_cons,vO mc ps]
mutual
theorem aMe (h:MapsOk p a mf mc) :∀q:Pat,cY p.cons q=true→cY a.cons (vU mc q) =true
 | .mk f n s ps,g=>by
  rw [cY,and_eq_true]at g;rw [vU,cY,aI9 h ps g.2,Bool.and_true,vO];have g1:=g.1;by_cases hf:f=6
  · subst hf;unfold dF at g1 ⊢;simp [cS]at g1 ⊢;obtain⟨⟨⟨a0,a1⟩,a2⟩,a3⟩ :=g1;obtain⟨b0,b1,b2,b3⟩ :=h.at a0 (by omega);exact⟨⟨⟨b0,by omega⟩,by rw [b2];exact a2⟩,a3⟩
  · rw [if_neg hf];unfold dF at g1 ⊢;rw [if_neg hf]at g1 ⊢;exact g1
theorem aI9 (h:MapsOk p a mf mc) :∀ps:List Pat,bY p.cons ps=true→bY a.cons (fN mc ps) =true
 | [],_=>rfl
 | q::ps,g=>by
  rw [bY,and_eq_true]at g;rw [fN,bY,aMe h q g.1,aI9 h ps g.2];rfl
end
theorem aAX (mc:List (Int×Int)) :∀ {ps:List Pat} {q':Pat},q'∈fN mc ps→∃q∈ps,q'=vU mc q
 | [],_,h=>by simp [fN]at h
 | q ::ps,q',h=>by
  rw [fN]at h;rcases List.mem_cons.1 h with rfl|h
  ·exact⟨q,mem_cons_self ..,rfl⟩
  · obtain⟨x,hx,e⟩ :=aAX mc h;exact⟨x,mem_cons_of_mem _ hx,e⟩
theorem aQ4 (h:MapsOk p a mf mc)(to:List Int){x:Node}(hx:bD p x=true) :bD a (kR mf mc to x) =true:=by
 simp only [bD,hX,and_eq_true,decide_eq_true_eq]at hx ⊢;obtain⟨⟨⟨h1,h2⟩,h3⟩,h4⟩ :=hx;have hl: (kR mf mc to x).pats.length=x.pats.length:=vO mc _;have hk: (kR mf mc to x).kids.length=x.kids.length:=length_map ..;have ho: (kR mf mc to x).op=x.op:=rfl;have hn: (kR mf mc to x).n=bN mf mc x.op x.n:=rfl;refine⟨⟨⟨?_,by rw [hl];exact h2⟩,?_⟩,?_⟩
 · rw [ho,hn];unfold bN;by_cases e4:x.op=4
   · rw [if_pos e4];rw [e4]at h1 ⊢;simp [bW,cS]at h1 ⊢;by_cases hn:0≤x.n
     ·rw [if_pos hn];omega
     · rw [if_neg hn];have:=h.funs (-1-x.n) (by omega) (by omega);omega
   · rw [if_neg e4];by_cases e14:x.op=14
     · rw [if_pos e14];rw [e14]at h1 ⊢;simp [bW,cS]at h1 ⊢;obtain⟨b0,b1,_⟩ :=h.at (n:=x.n) h1.1 (by omega);omega
     · rw [if_neg e14];unfold bW at h1 ⊢;rw [if_neg e4,if_neg e14]at *;exact h1
 · refine List.all_eq_true.2 (fun q' hq=>?_);obtain⟨q,hq2,rfl⟩ :=aAX mc hq;have:=List.all_eq_true.1 h3 q hq2;simp only [fJ,and_eq_true,decide_eq_true_eq]at this ⊢;exact⟨by rw [aAV];exact this.1,aMe h q this.2⟩
 · rw [hl,hk,ho,h4];congr 1;unfold eI;rw [ho,hn];by_cases e14:x.op=14
   · have h1':=h1;rw [e14]at h1';simp [bW,cS]at h1';obtain⟨b0,b1,b2,_⟩ :=h.at (n:=x.n) h1'.1 (by omega);unfold bN;rw [if_neg (show ¬x.op=4 by omega),if_pos e14,if_pos ⟨e14,by simp [cS];omega⟩,if_pos ⟨e14,by simp [cS];omega⟩,b2]
   ·rw [if_neg (fun g=>e14 g.1),if_neg (fun g=>e14 g.1)]
theorem aJa (to:List Int){x:Node}(hx:aT x=true) :aT (kR mf mc to x) =true:=by
 simp only [aT,and_eq_true,decide_eq_true_eq]at hx ⊢;obtain⟨⟨h1,h2⟩,h3⟩ :=hx;refine⟨⟨by show(x.kids.map _).length≤10;rw [length_map];exact h1,by show(fN mc x.pats).length≤10;rw [vO];exact h2⟩,?_⟩;refine List.all_eq_true.2 (fun q' hq=>?_);obtain⟨q,hq2,rfl⟩ :=aAX mc hq;have:=List.all_eq_true.1 h3 q hq2;simp only [uJ,and_eq_true,decide_eq_true_eq]at this ⊢;exact⟨by rw [aAV];exact this.1,by rw [aDz];exact this.2⟩
end
theorem yM {lo n:Int}(hlo:0≤lo) :∀ (ks:List Int) (u:List Bool),(u.length:Int) =n→ (∀k∈ks,lo≤k∧k<n) → (∀m:Int,0≤m→m<n→ks.count m+iV u m≤1) →∃v,marks lo n ks u=some v
 | [],u,_,_,_=> ⟨u,rfl⟩
 | k ::ks,u,hl,hr,hc=>by
  have hk:=hr k (mem_cons_self ..);have h1:=hc k (by omega) hk.2;rw [show k::ks= [k] ++ks from rfl,count_append,List.count_singleton_self]at h1;have hu:u[k.toNat]?=some false:=by
   have hlt:k.toNat<u.length:=by omega
   cases hb:u[k.toNat]with
   |false=>rw [getElem?_eq_getElem hlt,hb]
   | true=>
    have:iV u k=1:=by unfold iV;rw [getElem?_eq_getElem hlt,hb];rfl
    omega
  obtain⟨v,hv⟩ :=yM hlo ks (u.set k.toNat true) (by rw [List.length_set];exact hl) (fun x hx=>hr x (mem_cons_of_mem _ hx)) (fun m m0 m1=>by
   have h2:=hc m m0 m1;rw [show k::ks= [k] ++ks from rfl,count_append]at h2;by_cases e:m=k
   · subst e;have:iV (u.set m.toNat true) m≤1:=by unfold iV;split<;>omega
     rw [List.count_singleton_self]at h2;omega
   · have:iV (u.set k.toNat true) m=iV u m:=by unfold iV;rw [List.getElem?_set_ne (by omega)]
     omega)
  exact⟨v,by rw [marks,if_pos ⟨by simp [cS];omega,hu⟩];exact hv⟩
theorem xH {a:Prog}:∀ (t:List Node) (i:Nat) (u:List Bool),u.length=a.nodes.length→ (∀x∈t,bD a x=true) → (∀ (j:Nat) (x:Node),t[j]?=some x→∀k∈x.kids,((i+j:Nat) :Int) <k∧k<a.nodes.length) →
  (∀m:Int,0≤m→m<a.nodes.length→ ((t.map Node.kids).flatten).count m+iV u m≤1) →∃v,cI a i t u=some v
 | [],i,u,_,_,_,_=> ⟨u,rfl⟩
 | x::t,i,u,hl,hok,hk,hc=>by
  obtain⟨w,hw⟩ :=yM (lo:= (i:Int) +1) (n:= (a.nodes.length:Int)) (by omega) x.kids u (by omega) (fun k hkm=>by
   have:=hk 0 x rfl k hkm;omega) (fun m m0 m1=>by
   have:=hc m m0 m1;rw [map_cons,flatten_cons,count_append]at this;omega)
  obtain⟨v,hv⟩ :=xH t (i+1) w (by rw [jZ hw,hl]) (fun y hy=>hok y (mem_cons_of_mem _ hy)) (fun j y hy k hkm=>by
   have:=hk (j+1) y (by simpa using hy) k hkm;omega) (fun m m0 m1=>by
   have h1:=hc m m0 m1;have h2:=gC (m:=m) (by omega) m0 hw;rw [map_cons,flatten_cons,count_append]at h1;omega)
  exact⟨v,by rw [cI,if_pos (hok x (mem_cons_self ..)),hw];exact hv⟩
def aLl (al:List Con) :List Con→Int→List (Int×Int) →List (Int×Int)
 | [],_,m=>m
 |c::t,i,m=>aLl al t (i+1) (bK i (gZ c.name al 0) m)
theorem conIx_mem {s:aB}{l:List Con}:0≤gZ s l 0↔s∈l.map Con.name:=by
 constructor
 · intro h;rcases nK s l 0 (le_refl _)with g| ⟨_,_,d,h3,h4⟩
   ·omega
   ·exact List.mem_map.2 ⟨d,mem_of_getElem? h3,h4⟩
 · intro h;rcases nK s l 0 (le_refl _)with g| ⟨h1,_⟩
   · have :gZ s l 0≠ -1:=by
      clear g;have :∀ (l:List Con) (i:Int),0≤i→s∈l.map Con.name→gZ s l i≠ -1:=by
       intro l
       induction l with
       |nil=>intro i _ h;simp at h
       | cons c l ih=>
        intro i hi h;rw [gZ];split
        ·omega
        · rename_i e;rcases List.mem_cons.1 (by simpa using h:s∈c.name::l.map Con.name)with g|g
          ·exact absurd g.symm e
          ·exact ih (i+1) (by omega) g
      exact this l 0 (le_refl _) h
     exact absurd g this
   ·exact h1
theorem aQ5 {l:List Con}(hd: (l.map Con.name).Nodup){j:Nat}{d:Con}(h:l[j]?=some d) :gZ d.name l 0=j:=by
 rcases nK d.name l 0 (le_refl _)with g| ⟨h1,h2,e,h3,h4⟩
 · have:0≤gZ d.name l 0:=conIx_mem.2 (List.mem_map.2 ⟨d,mem_of_getElem? h,rfl⟩);omega
 · have hj:= (List.getElem?_eq_some_iff.1 h).1;have h3:l[(gZ d.name l 0).toNat]?=some e:=by simpa using h3
   have hk:= (List.getElem?_eq_some_iff.1 h3).1;have a1: (l.map Con.name)[(gZ d.name l 0).toNat]?=some d.name:=by rw [getElem?_map,h3];simp [h4]
   have a2: (l.map Con.name)[j]?=some d.name:=by rw [getElem?_map,h];rfl
   have hne:∀ (l:List aB) (i j:Nat) (x:aB),l.Nodup→l[i]?=some x→l[j]?=some x→i=j:=by
    intro l
    induction l with
    |nil=>intro i j x _ h;simp at h
    | cons y l ih=>
     intro i j x hd hi hj;have hd:=List.nodup_cons.1 hd;cases i with
     | zero=>
      cases j with
      |zero=>rfl
      | succ j=>
       simp only [getElem?_cons_zero,Option.some.injEq,getElem?_cons_succ]at hi hj;exact absurd (mem_of_getElem? hj) (hi ▸ hd.1)
     | succ i=>
      cases j with
      | zero=>
       simp only [getElem?_cons_zero,Option.some.injEq,getElem?_cons_succ]at hi hj;exact absurd (mem_of_getElem? hi) (hj ▸ hd.1)
      | succ j=>
       simp only [getElem?_cons_succ]at hi hj;rw [ih i j x hd.2 hi hj]
   have:=hne _ _ _ _ hd a1 a2;omega
theorem aJb (al:List Con) :∀ (t:List Con) (i:Int) (m:List (Int×Int)) (j:Int),j<i→lU (aLl al t i m) j=lU m j
 | [],i,m,j,h=>rfl
 |c::t,i,m,j,h=>by rw [aLl,aJb al t (i+1) _ j (by omega),aB9,if_neg (by omega)]
theorem aMf (al:List Con) :∀ (t:List Con) (i:Int) (m:List (Int×Int)) (j:Nat) (d:Con),t[j]?=some d→lU (aLl al t i m) (i+j) =gZ d.name al 0
 | [],i,m,j,d,h=>by simp at h
 | c::t,i,m,0,d,h=>by
  simp only [getElem?_cons_zero,Option.some.injEq]at h;subst h;rw [aLl,aJb al t (i+1) _ _ (by omega),aB9,if_pos (by omega)]
 | c::t,i,m,j+1,d,h=>by
  simp only [getElem?_cons_succ]at h;have:=aMf al t (i+1) (bK i (gZ c.name al 0) m) j d h;rw [aLl,show i+ ((j+1:Nat) :Int) =i+1+ (j:Int)by omega];exact this
def toL (p:Prog)(off:Nat) :List Int:=yG (replicate p.nodes.length 0) off (dQ p)
section
variable {p :Prog}
end
theorem rT :∀ (l pre:List aB),l.Nodup→ (∀x∈l,x∉pre) →cD pre l=true
 | [],_,_,_=>rfl
 | x ::t,pre,hd,h=>by
  have hd:=List.nodup_cons.1 hd;simp only [cD,and_eq_true,Bool.not_eq_true'];refine⟨?_,rT t (pre++ [x]) hd.2 (fun y hy=>?_)⟩
  · cases e:aQ pre x with
    |false=>rfl
    |true=>exact absurd (hasS_mem.1 e) (h x (mem_cons_self ..))
  · rw [List.mem_append,not_or,List.mem_singleton];exact⟨h y (mem_cons_of_mem _ hy),fun e=>hd.1 (e ▸ hy)⟩
structure Fs (p:Prog) :Prop extends Fm p where
 sm:aH p=true
 fo:aO p=true
theorem Fs.of {p:Prog}(hs:aH p=true)(hf:aO p=true) :Fs p:={aLk hs hf with sm:=hs,fo:=hf}
theorem Fs.head {p:Prog}(h:Fs p) :p.nodes.length≤300∧1≤p.funs.length∧p.funs.length≤p.nodes.length∧0≤p.main∧p.main<p.funs.length∧p.cons.length≤20∧ (∀c∈p.cons,eH c=true) :=by
 have:=h.fo;simp only [aO,and_eq_true,dN,uK,decide_eq_true_eq]at this;obtain⟨⟨⟨⟨a1,a2⟩,a3⟩,⟨a4,a5⟩,_⟩,_⟩ :=this;simp [cS]at a2 a3;exact⟨a1,by omega,by omega,by omega,by omega,a5,fun c hc=>List.all_eq_true.1 a4 c hc⟩
section
variable {a :Prog} {N:Nat}
theorem aGI (hN:a.nodes.length=N)(h300:N≤300)(hf1:1≤a.funs.length)(hf2:a.funs.length≤N)(hm0:0≤a.main)(hm1:a.main<a.funs.length)(hc20:a.cons.length≤20)(hc:∀c∈a.cons,eH c=true∧c.name.length≤40)(hcd: (a.cons.map Con.name).Nodup)
  (hnode:∀ (i:Nat) (x:Node),a.nodes[i]?=some x→bD a x=true∧aT x=true∧∀k∈x.kids,(i:Int) <k∧k<N) (hfun:∀f∈a.funs,0≤f∧f<N) (hw:dQ a= (range N).map fun(i:Nat) => (i:Int)) :Fs a:=by
 have hsm:aH a=true:=by
  simp only [aH,and_eq_true,decide_eq_true_eq,eY];refine⟨⟨⟨⟨by omega,by omega⟩,by omega⟩,List.all_eq_true.2 fun c h=>by simpa using(hc c h).2⟩,List.all_eq_true.2 fun x hx=>?_⟩;obtain⟨i,hi⟩ :=List.mem_iff_getElem?.1 hx;exact(hnode i x hi).2.1
 have hfine:FineP a:= ⟨by omega,by omega,fun i x hx=>by
  obtain⟨h1,h2,h3⟩ :=hnode i x hx;simp only [aT,and_eq_true,decide_eq_true_eq]at h2;exact⟨aL1 h1,h2.1.1,fun k hk=>by have:=h3 k hk;omega⟩,fun f hf=>by have:=hfun f hf;omega⟩
 refine Fs.of hsm ?_;have hnd: (dQ a).Nodup:=by
  rw [hw,List.nodup_iff_pairwise_ne];refine List.pairwise_map.2 ((List.nodup_iff_pairwise_ne.1 List.nodup_range).imp fun h e=>h (by omega))
 have hcnt:∀m:Int,0≤m→m<a.nodes.length→a.funs.count m+ ((a.nodes.map Node.kids).flatten).count m=1:=fun m h0 h1=>by
  have e1:=rQ (p:=a) (q:=pre a a.nodes.length) m a.funs (fun k hk=>by
   have:=hfine.funs k hk;exact aAU hfine m _ k this.1 this.2 (by omega))
  have e2: (dQ a).map (dA a) =a.nodes.map Node.kids:=by
   refine List.ext_getElem? (fun i=>?_);rw [hw,getElem?_map,getElem?_map,getElem?_map];by_cases hi:i<N
   · rw [List.getElem?_range hi];have:a.nodes[i]?=some a.nodes[i] :=getElem?_eq_getElem (by omega);simp only [Option.map_some,this];unfold dA;rw [Int.toNat_natCast,this]
   ·rw [getElem?_eq_none (by simp;omega),getElem?_eq_none (by omega)];rfl
  have e3: (dQ a).count m=1:=by
   have a1:=List.nodup_iff_count.1 hnd m;have a2:m∈dQ a:=by rw [hw];exact List.mem_map.2 ⟨m.toNat,List.mem_range.2 (by omega),by omega⟩
   have:=List.count_pos_iff.2 a2;omega
  change (dQ a).count m=a.funs.count m+ (((dQ a).map (dA a)).flatten).count m at e1
  rw [e2,e3]at e1;omega
 have hrep:∀m:Int,iV (replicate a.nodes.length false) m=0:=fun m=>by
  unfold iV;rw [List.getElem?_replicate];by_cases g:m.toNat<a.nodes.length
  ·rw [if_pos g];rfl
  ·rw [if_neg g];rfl
 obtain⟨u,hu⟩ :=yM (lo:=0) (n:= (a.nodes.length:Int)) (le_refl _) a.funs (replicate a.nodes.length false) (by rw [List.length_replicate]) (fun k hk=>by have:=hfun k hk;omega) (fun m h0 h1=>by
  have:=hcnt m h0 h1;rw [hrep];omega)
 have hul:=jZ hu;rw [List.length_replicate]at hul
 obtain⟨v,hv⟩ :=xH (a:=a) a.nodes 0 u hul (fun x hx=>by
  obtain⟨i,hi⟩ :=List.mem_iff_getElem?.1 hx;exact(hnode i x hi).1) (fun j x hx k hk=>by have:= (hnode j x hx).2.2 k hk;omega) (fun m h0 h1=>by
  have h2:=gC (m:=m) (by omega) h0 hu;have:=hcnt m h0 h1;rw [hrep]at h2;omega)
 simp only [aO,and_eq_true];refine⟨⟨?_,?_⟩,?_⟩
 ·simp [dN,cS];omega
 · simp only [uK,and_eq_true,decide_eq_true_eq];exact⟨⟨List.all_eq_true.2 fun c h=> (hc c h).1,hc20⟩,rT _ [] hcd (fun x _=>by simp)⟩
 · rw [hu];simp only;rw [hv];unfold allT;refine List.all_eq_true.2 (fun b hb=>?_);obtain⟨i,hi⟩ :=List.mem_iff_getElem?.1 hb;have hvl:=rO hv;have hlt:= (List.getElem?_eq_some_iff.1 hi).1;have h2:=gC (m:= (i:Int)) (by omega) (by omega) hu;have h3:=jM (m:= (i:Int)) (by omega) hv;have:=hcnt (i:Int) (by omega) (by omega);rw [hrep]at h2;have h4:iV v (i:Int) =1:=by omega
   unfold iV at h4;rw [Int.toNat_natCast,hi]at h4;cases b with
   |true=>rfl
   |false=>simp at h4
end
section
variable {p a:Prog} {off:Nat} {mf mc:List (Int×Int)} {to:List Int}
end
section
variable {p q:Prog}
end
end
end Go.Hb
