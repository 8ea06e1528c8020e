/- A machine on abstract values, its soundness, ways, plain laws. -/
import Derived.Test.YtlgoblkihmkmcaaGreatHF
import Derived.Test.YtlgoblkihmkmcaaGreatHG
import Derived.Test.YtlgoblkihmkmcaaGreatHH
import Derived.Test.YtlgoblkihmkmcaaGreatHK
import Derived.Test.YtlgoblkihmkmcaaGreatHJ
set_option linter.defProp false
set_option linter.unusedVariables false
set_option linter.unusedSimpArgs false
set_option linter.unusedSectionVars false
set_option maxRecDepth 100000
set_option maxHeartbeats 4000000
namespace Go.Hb
open Bool (and_eq_true)
open List (getElem?_cons_succ getElem?_eq_none getElem?_map length map mem_of_getElem? range replicate set set_set)
open Go.Proofs Tryz
noncomputable section
def aQS (al:List Con) :List Con→Int→List (Int×Int) →List (Int×Int)
 | [],_,m=>m
 |c::t,i,m=>aQS al t (i+1) (cB i (gI c.name al 0) m)
theorem conIx_mem {s:aB}{l:List Con}:0≤gI s l 0↔s∈l.map Con.name:=by
 constructor
 · intro h;rcases rP s l 0 (Int.le_refl _)with g| ⟨_,_,d,h3,h4⟩
   ·omega
   ·exact List.mem_map.2 ⟨d,mem_of_getElem? h3,h4⟩
 · intro h;rcases rP s l 0 (Int.le_refl _)with g| ⟨h1,_⟩
   · have :gI s l 0≠ -1:=by
      clear g;have :∀ (l:List Con) (i:Int),0≤i→s∈l.map Con.name→gI s l i≠ -1:=by
       intro l
       induction l with
       |nil=>intro i _ h;simp at h
       | cons c l ih=>
        intro i hi h;rw [gI];split
        ·omega
        · rename_i e;rcases List.mem_cons.1 (by simpa using h:s∈c.name::l.map Con.name)with g|g
          ·exact absurd g.symm e
          ·exact ih (i+1) (by omega) g
      exact this l 0 (Int.le_refl _) h
     exact absurd g this
   ·exact h1
theorem tL {l:List Con}(hd: (l.map Con.name).Nodup){j:Nat}{d:Con}(h:l[j]?=some d) :gI d.name l 0=j:=by
 rcases rP d.name l 0 (Int.le_refl _)with g| ⟨h1,h2,e,h3,h4⟩
 · have:0≤gI d.name l 0:=conIx_mem.2 (List.mem_map.2 ⟨d,mem_of_getElem? h,rfl⟩);omega
 · have hj:= (List.getElem?_eq_some_iff.1 h).1;have h3:l[(gI d.name l 0).toNat]?=some e:=by simpa using h3
   have hk:= (List.getElem?_eq_some_iff.1 h3).1;have a1: (l.map Con.name)[(gI d.name l 0).toNat]?=some d.name:=by rw [getElem?_map,h3];simp [h4]
   have a2: (l.map Con.name)[j]?=some d.name:=by rw [getElem?_map,h];rfl
   have hne:∀ (l:List aB) (i j:Nat) (x:aB),l.Nodup→l[i]?=some x→l[j]?=some x→i=j:=by
    intro l
    induction l with
    |nil=>intro i j x _ h;simp at h
    | cons y l ih=>
     intro i j x hd hi hj;have hd:=List.nodup_cons.1 hd;cases i with
     | zero=>
      cases j with
      |zero=>rfl
      | succ j=>
       simp only [List.getElem?_cons_zero,Option.some.injEq,getElem?_cons_succ]at hi hj;exact absurd (mem_of_getElem? hj) (hi ▸ hd.1)
     | succ i=>
      cases j with
      | zero=>
       simp only [List.getElem?_cons_zero,Option.some.injEq,getElem?_cons_succ]at hi hj;exact absurd (mem_of_getElem? hi) (hj ▸ hd.1)
      | succ j=>
       simp only [getElem?_cons_succ]at hi hj;rw [ih i j x hd.2 hi hj]
   have:=hne _ _ _ _ hd a1 a2;omega
theorem aN7 (al:List Con) :∀ (t:List Con) (i:Int) (m:List (Int×Int)) (j:Int),j<i→iL (aQS al t i m) j=iL m j
 | [],i,m,j,h=>rfl
 |c::t,i,m,j,h=>by rw [aQS,aN7 al t (i+1) _ j (by omega),aFm,if_neg (by omega)]
theorem aLn (al:List Con) :∀ (t:List Con) (i:Int) (m:List (Int×Int)) (j:Nat) (d:Con),t[j]?=some d→iL (aQS al t i m) (i+j) =gI d.name al 0
 | [],i,m,j,d,h=>by simp at h
 | c::t,i,m,0,d,h=>by
  simp only [List.getElem?_cons_zero,Option.some.injEq]at h;subst h;rw [aQS,aN7 al t (i+1) _ _ (by omega),aFm,if_pos (by omega)]
 | c::t,i,m,j+1,d,h=>by
  simp only [getElem?_cons_succ]at h;have:=aLn al t (i+1) (cB i (gI c.name al 0) m) j d h;rw [aQS,show i+ ((j+1:Nat) :Int) =i+1+ (j:Int)by omega];exact this
def toL (p:Prog)(off:Nat) :List Int:=eI (replicate p.nodes.length 0) off (dY p)
section
variable {p :Prog}
end
theorem vU :∀ (l pre:List aB),l.Nodup→ (∀x∈l,x∉pre) →cR pre l=true
 | [],_,_,_=>rfl
 | x ::t,pre,hd,h=>by
  have hd:=List.nodup_cons.1 hd;simp only [cR,and_eq_true,Bool.not_eq_true'];refine⟨?_,vU t (pre++ [x]) hd.2 (fun y hy=>?_)⟩
  · cases e:aQ pre x
    case false=>rfl
    exact absurd (hasS_mem.1 e) (h x (List.mem_cons_self ..))
  · rw [List.mem_append,not_or,List.mem_singleton];exact⟨h y (List.mem_cons_of_mem _ hy),fun e=>hd.1 (e ▸ hy)⟩
structure Fs (p:Prog) :Prop extends Fm p where
 sm:aJ p=true
 fo:aP p=true
theorem Fs.of {p:Prog}(hs:aJ p=true)(hf:aP p=true) :Fs p:={aQP hs hf with sm:=hs,fo:=hf}
theorem Fs.head {p:Prog}(h:Fs p) :p.nodes.length≤300∧1≤p.funs.length∧p.funs.length≤p.nodes.length∧0≤p.main∧p.main<p.funs.length∧p.cons.length≤20∧ (∀c∈p.cons,gB c=true) :=by
 have:=h.fo;simp only [aP,and_eq_true,eF,zA,decide_eq_true_eq]at this;obtain⟨⟨⟨⟨a1,a2⟩,a3⟩,⟨a4,a5⟩,_⟩,_⟩ :=this;simp [dG]at a2 a3;exact⟨a1,by omega,by omega,by omega,by omega,a5,fun c hc=>List.all_eq_true.1 a4 c hc⟩
theorem Fs.snode {p:Prog}(h:Fs p){i:Nat}{x:Node}(hx:p.nodes[i]?=some x) :aW x=true:=by
 have:=h.sm;simp only [aJ,and_eq_true]at this;exact List.all_eq_true.1 this.2 x (mem_of_getElem? hx)
theorem Fs.scons {p:Prog}(h:Fs p){c:Con}(hc:c∈p.cons) :c.name.length≤40:=by
 have:=h.sm;simp only [aJ,and_eq_true,fR]at this;simpa using List.all_eq_true.1 this.1.2 c hc
section
variable {a :Prog} {N:Nat}
theorem aCN (hN:a.nodes.length=N)(h300:N≤300)(hf1:1≤a.funs.length)(hf2:a.funs.length≤N)(hm0:0≤a.main)(hm1:a.main<a.funs.length)(hc20:a.cons.length≤20)(hc:∀c∈a.cons,gB c=true∧c.name.length≤40)(hcd: (a.cons.map Con.name).Nodup)
  (hnode:∀ (i:Nat) (x:Node),a.nodes[i]?=some x→bJ a x=true∧aW x=true∧∀k∈x.kids,(i:Int) <k∧k<N) (hfun:∀f∈a.funs,0≤f∧f<N) (hw:dY a= (range N).map fun(i:Nat) => (i:Int)) :Fs a:=by
 have hsm:aJ a=true:=by
  simp only [aJ,and_eq_true,decide_eq_true_eq,fR];refine⟨⟨⟨⟨by omega,by omega⟩,by omega⟩,List.all_eq_true.2 fun c h=>by simpa using(hc c h).2⟩,List.all_eq_true.2 fun x hx=>?_⟩;obtain⟨i,hi⟩ :=List.mem_iff_getElem?.1 hx;exact(hnode i x hi).2.1
 have hfine:FineP a:= ⟨by omega,by omega,fun i x hx=>by
  obtain⟨h1,h2,h3⟩ :=hnode i x hx;simp only [aW,and_eq_true,decide_eq_true_eq]at h2;exact⟨rN h1,h2.1.1,fun k hk=>by have:=h3 k hk;omega⟩,fun f hf=>by have:=hfun f hf;omega⟩
 refine Fs.of hsm ?_;have hnd: (dY a).Nodup:=by
  rw [hw,List.nodup_iff_pairwise_ne];refine List.pairwise_map.2 ((List.nodup_iff_pairwise_ne.1 List.nodup_range).imp fun h e=>h (by omega))
 have hcnt:∀m:Int,0≤m→m<a.nodes.length→a.funs.count m+ ((a.nodes.map Node.kids).flatten).count m=1:=fun m h0 h1=>by
  have e1:=vO (p:=a) (q:=pre a a.nodes.length) m a.funs (fun k hk=>by
   have:=hfine.funs k hk;exact aDz hfine m _ k this.1 this.2 (by omega))
  have e2: (dY a).map (cT a) =a.nodes.map Node.kids:=by
   refine List.ext_getElem? (fun i=>?_);rw [hw,getElem?_map,getElem?_map,getElem?_map];by_cases hi:i<N
   · rw [List.getElem?_range hi];have:a.nodes[i]?=some a.nodes[i] :=List.getElem?_eq_getElem (by omega);simp only [Option.map_some,this];unfold cT;rw [Int.toNat_natCast,this]
   ·rw [getElem?_eq_none (by simp;omega),getElem?_eq_none (by omega)];rfl
  have e3: (dY a).count m=1:=by
   have a1:=List.nodup_iff_count.1 hnd m;have a2:m∈dY a:=by rw [hw];exact List.mem_map.2 ⟨m.toNat,List.mem_range.2 (by omega),by omega⟩
   have:=List.count_pos_iff.2 a2;omega
  change (dY a).count m=a.funs.count m+ (((dY a).map (cT a)).flatten).count m at e1
  rw [e2,e3]at e1;omega
 have hrep:∀m:Int,lN (replicate a.nodes.length false) m=0:=fun m=>by
  unfold lN;rw [List.getElem?_replicate];by_cases g:m.toNat<a.nodes.length
  ·rw [if_pos g];rfl
  ·rw [if_neg g];rfl
 obtain⟨u,hu⟩ :=aBG (lo:=0) (n:= (a.nodes.length:Int)) (Int.le_refl _) a.funs (replicate a.nodes.length false) (by rw [List.length_replicate]) (fun k hk=>by have:=hfun k hk;omega) (fun m h0 h1=>by
  have:=hcnt m h0 h1;rw [hrep];omega)
 have hul:=iG hu;rw [List.length_replicate]at hul
 obtain⟨v,hv⟩ :=aBc (a:=a) a.nodes 0 u hul (fun x hx=>by
  obtain⟨i,hi⟩ :=List.mem_iff_getElem?.1 hx;exact(hnode i x hi).1) (fun j x hx k hk=>by have:= (hnode j x hx).2.2 k hk;omega) (fun m h0 h1=>by
  have h2:=jW (m:=m) (by omega) h0 hu;have:=hcnt m h0 h1;rw [hrep]at h2;omega)
 simp only [aP,and_eq_true];refine⟨⟨?_,?_⟩,?_⟩
 ·simp [eF,dG];omega
 · simp only [zA,and_eq_true,decide_eq_true_eq];exact⟨⟨List.all_eq_true.2 fun c h=> (hc c h).1,hc20⟩,vU _ [] hcd (fun x _=>by simp)⟩
 · rw [hu];simp only;rw [hv];unfold allT;refine List.all_eq_true.2 (fun b hb=>?_);obtain⟨i,hi⟩ :=List.mem_iff_getElem?.1 hb;have hvl:=iZ hv;have hlt:= (List.getElem?_eq_some_iff.1 hi).1;have h2:=jW (m:= (i:Int)) (by omega) (by omega) hu;have h3:=mD (m:= (i:Int)) (by omega) hv;have:=hcnt (i:Int) (by omega) (by omega);rw [hrep]at h2;have h4:lN v (i:Int) =1:=by omega
   unfold lN at h4;rw [Int.toNat_natCast,hi]at h4;cases b
   case true=>rfl
   simp at h4
end
section
variable {p a:Prog} {off:Nat} {mf mc:List (Int×Int)} {to:List Int}
end
section
variable {p q:Prog}
end
mutual
theorem aUp {cons:List Con}{mc mc' mc2:List (Int×Int)}(h:∀n:Int,0≤n→n<cons.length→iL mc2 n=iL mc' (iL mc n)) :∀q:Pat,cM cons q=true→qS mc' (qS mc q) =qS mc2 q
 | .mk f n s ps,g=>by
  rw [cM,and_eq_true]at g;rw [qS,qS,qS,aBH h ps g.2];by_cases hf:f=6
  · subst hf;have g1:=g.1;unfold cX at g1;simp [dG]at g1;rw [if_pos rfl,if_pos rfl,if_pos rfl,h n g1.1.1.1 (by omega)]
  ·rw [if_neg hf,if_neg hf,if_neg hf]
theorem aBH {cons:List Con}{mc mc' mc2:List (Int×Int)}(h:∀n:Int,0≤n→n<cons.length→iL mc2 n=iL mc' (iL mc n)) :∀ps:List Pat,bX cons ps=true→eJ mc' (eJ mc ps) =eJ mc2 ps
 | [],_=>rfl
 | q::ps,g=>by
  rw [bX,and_eq_true]at g;rw [eJ,eJ,eJ,aUp h q g.1,aBH h ps g.2]
end
theorem aXr {p:Prog}{x:Node}(h:bJ p x=true) : (x.op=4→ -(p.funs.length:Int) ≤x.n) ∧ (x.op=14→0≤x.n∧x.n<p.cons.length) ∧bX p.cons x.pats=true:=by
 simp only [bJ,fJ,and_eq_true]at h;obtain⟨⟨⟨h1,_⟩,h2⟩,_⟩ :=h;refine⟨fun e=>?_,fun e=>?_,kW fun q hq=>?_⟩
 · rw [e]at h1;simp [bP,dG]at h1;omega
 · rw [e]at h1;simp [bP,dG]at h1;omega
 · have:=List.all_eq_true.1 h2 q hq;simp only [iY,and_eq_true]at this;exact this.2
structure Comp (p:Prog) (mf mc:List (Int×Int)) (to:List Int) (mf' mc':List (Int×Int)) (to':List Int) (mf2 mc2:List (Int×Int)) (to2:List Int) :Prop where
 f0:∀i:Int,0≤i→i<p.funs.length→0≤iL mf i
 f:∀i:Int,0≤i→i<p.funs.length→iL mf2 i=iL mf' (iL mf i)
 c:∀i:Int,0≤i→i<p.cons.length→iL mc2 i=iL mc' (iL mc i)
 t:∀ (i:Nat) (k:Int),(dY p)[i]?=some k→fC to2 k=fC to' (fC to k)
theorem Comp.node {p:Prog}{mf mc mf' mc' mf2 mc2:List (Int×Int)}{to to' to2:List Int}(h:Comp p mf mc to mf' mc' to' mf2 mc2 to2)(hp:Fm p){k:Int}(hk:k∈dY p) :fK mf' mc' to' (fK mf mc to (nodeAt p k)) =fK mf2 mc2 to2 (nodeAt p k) :=by
 have hr:=hp.into k hk;obtain⟨x,hx⟩ :∃x,p.nodes[k.toNat]?=some x:= ⟨_,List.getElem?_eq_getElem (by omega)⟩;rw [fD hx];obtain⟨h4,h14,hps⟩ :=aXr (hp.node _ x hx).1;unfold fK;simp only [Node.mk.injEq,List.map_map,true_and];refine⟨?_,List.map_congr_left fun c hc=>?_,aBH h.c _ hps⟩
 · unfold bN;by_cases e4:x.op=4
   · rw [if_pos e4,if_pos e4,if_pos e4];by_cases hn:0≤x.n
     ·rw [if_pos hn,if_pos hn,if_pos hn]
     · have:=h4 e4;have h0:=h.f0 (-1-x.n) (by omega) (by omega);have h1:=h.f (-1-x.n) (by omega) (by omega);rw [if_neg hn,if_neg hn,if_neg (by omega),h1];congr 2;omega
   · rw [if_neg e4,if_neg e4,if_neg e4];by_cases e14:x.op=14
     · have:=h14 e14;rw [if_pos e14,if_pos e14,if_pos e14,h.c x.n this.1 this.2]
     ·rw [if_neg e14,if_neg e14,if_neg e14]
 · have:= (hp.fine.node _ _ hx).2.2 c hc;obtain⟨i,hi⟩ :=aGU hp (k:=c) (by omega) (by omega);exact(h.t i c hi).symm
theorem Laid.slice {a p:Prog}{off:Nat}{mf mc:List (Int×Int)}{to:List Int}(h:Laid a off p mf mc to)(F:Node→Node) : ((range (dY p).length).map fun i=>F (nodeAt a ((off+i:Nat) :Int))) = (dY p).map fun k=>F (fK mf mc to (nodeAt p k)) :=by
 refine List.ext_getElem? (fun i=>?_);rw [getElem?_map,getElem?_map];by_cases hi:i< (dY p).length
 · have e: (dY p)[i]?=some (dY p)[i] :=List.getElem?_eq_getElem hi;rw [List.getElem?_range hi,e];simp only [Option.map_some];rw [fD (p:=a) (k:= ((off+i:Nat) :Int)) (by rw [Int.toNat_natCast];exact h.node i _ e)]
 ·rw [getElem?_eq_none (by simp;omega),getElem?_eq_none (by omega)];rfl
section
variable {p q r:Prog}
end
structure PlOk (p:Prog) (n:Nat) :Prop where
 low:30≤n
 big:n≤900000
 kid:∀ (a:Nat) (x:Node) (sz:Int) (i:Nat),(zE p)[a]?=some sz→p.nodes[a]?=some x→i<x.kids.length→sz+aEF x i≤n
 own:∀ (a:Nat) (x:Node) (sz:Int),(zE p)[a]?=some sz→p.nodes[a]?=some x→x.op=5∨x.op=27∨x.op=7→sz<n
def KidLe (p:Prog)(b:Int)(P:Nat→Prop) :Prop:=∀ (c:Nat) (x:Node) (s:Int) (i:Nat),P c→ (zE p)[c]?=some s→p.nodes[c]?=some x→i<x.kids.length→s+aEF x i≤b
theorem KidLe.mono {p:Prog}{b b':Int}{P:Nat→Prop}(h:KidLe p b P)(hb:b≤b') :KidLe p b' P:=fun c x s i a1 a2 a3 a4=>by
 have:=h c x s i a1 a2 a3 a4;omega
theorem Pure.val {P:Program}{f:Nat}{args:List AV}{v v':AV}(h:Pure P f args v)(hv:∀E cv,VR E v cv→VR E v' cv) :Pure P f args v':=fun hp=>by
 obtain⟨g,hg,he⟩ :=h hp;exact⟨g,hg,Ends.val he hv⟩
section
variable {P :Program}
theorem aCO {E E':Emb}(hle:E.le E') :∀ {xs:List AV} {i:Nat} {y:AV} {vs:List Value} {v:Value},VRs E xs vs→vs[i]?=some v→VR E' y v→VRs E' (xs.set i y) vs
 | [],i,y,vs,v,hvs,hv,_=>by simp only [VRs]at hvs;subst hvs;simp at hv
 | a::xs,0,y,vs,v,hvs,hv,hy=>by
  simp only [VRs]at hvs;obtain⟨u,us,rfl,h1,h2⟩ :=hvs;simp at hv;subst hv;simp only [List.set_cons_zero,VRs];exact⟨_,us,rfl,hy,h2.mono hle⟩
 | a::xs,i+1,y,vs,v,hvs,hv,hy=>by
  simp only [VRs]at hvs;obtain⟨u,us,rfl,h1,h2⟩ :=hvs;simp only [getElem?_cons_succ]at hv;simp only [List.set_cons_succ,VRs];exact⟨u,us,rfl,h1.mono hle,aCO hle h2 hv hy⟩
theorem aN8 {E:Emb}{c:List AV}{o:Nat}{v:AV}(hc:c[o]?=some v){cv:Value}(h:VR E (.agg c) cv) :∃us w,cv= .agg us.toArray∧VRs E c us∧us[o]?=some w∧VR E v w:=by
 rw [VR]at h;obtain⟨us,rfl,h⟩ :=h;obtain⟨w,h1,h2⟩ :=h.get _ _ hc;exact⟨us,w,rfl,h,h1,h2⟩
theorem aEP {m:Nat}{fr:AFrame}{cs:List AFrame}{h h1:Hp}{k e i o:Nat}{zs c:List AV}{v v':AV}(hk:h.look k=some (.lst e zs))(hk1:h1.look k=some (.lst e zs))(hi:zs[i]?=some (.agg c))(hc:c[o]?=some v)(ht:m≤h.nb→sV m h h1 v v') :
  LeadsM P m ⟨fr,cs,h⟩ ⟨fr,cs,h1.set k (.lst e (zs.set i (.agg (c.set o v'))))⟩ :=fun hm E cf ccs w base f fs r=>by
 obtain⟨E',hle,r',x',hvv⟩ :=ht hm E w r;have hun:pZ (.lst e zs) =false:=by
  cases zs with
  |nil=>simp at hi
  |cons _ _=>rfl
 have hr:Rel E' (h1.set k (.lst e (zs.set i (.agg (c.set o v'))))) w.heap:=by
  refine r'.reobj hk1 hun (fun L hL=>?_) rfl rfl rfl;obtain⟨L0,hE,C,el,vs,o1,o2,o3,o4,o5⟩ :=r.obj _ _ hk hun;have:=hle.1 _ _ hE;rw [hL]at this;cases this;obtain⟨cv,g1,g2⟩ :=o3.get _ _ hi;obtain⟨us,q,rfl,g3,g4,g5⟩ :=aN8 hc g2;refine⟨C,el,vs,o1,o2,aCO hle o3 g1 ?_,o4,o5⟩;rw [VR];exact⟨us,rfl,aCO hle g3 g4 (hvv q g5)⟩
 exact⟨E',cf,ccs,w,Steps.refl _ _,f.mono hle,fs.mono hle,hr,kA x' hk1⟩
def LQ (zs:List AV)(i o:Nat)(v v':AV)(ys:List AV) :Prop:=∃c,zs[i]?=some (.agg c) ∧c[o]?=some v∧ys=zs.set i (.agg (c.set o v'))
theorem bAT {m:Nat}{s t:TS}{k b e0 e i o n:Nat}{u:Value}{xs zs ys:List AV}(hk:s.as.h.look k=some (.lst e0 zs))(hb:s.as.h.look b=some (.lstv u e xs))(hne:k≠b)(hn:xs.length=n)(hq:LQ zs i o (.val u) (.gl b e 0 n false) ys)
  (ht:t.as= ⟨s.as.fr,s.as.cs,(s.as.h.set b (.lst e xs)).set k (.lst e0 ys)⟩) :LeadsM P m s.as t.as:=by
 subst hn;obtain⟨c,h1,h2,rfl⟩ :=hq;rw [ht];exact aEP hk (by rw [bF,if_neg hne];exact hk) h1 h2 (aCk hb)
theorem bFA {m:Nat}{s t:TS}{k e0 e i o:Nat}{zs ys:List AV}(hk:s.as.h.look k=some (.lst e0 zs))(hlt:Nat.blt k s.as.h.nb=true)(hq:LQ zs i o .nils (.gl s.as.h.nb e 0 0 false) ys)
  (ht:t.as= ⟨s.as.fr,s.as.cs,(s.as.h.new (.lst e [])).set k (.lst e0 ys)⟩) :LeadsM P m s.as t.as:=by
 obtain⟨c,h1,h2,rfl⟩ :=hq;rw [ht];rw [dC]at hlt;have:=of_decide_eq_true hlt;exact aEP hk (by rw [cO,if_neg (by omega)];exact hk) h1 h2 (aDi e)
def NQ (zs:List AV)(i o b e n:Nat)(u:Value)(ys:List AV) :Prop:=0<n∧∃c ex,zs[i]?=some (.agg c) ∧c[o]?=some (.gl b e 0 n ex) ∧ys=zs.set i (.agg (c.set o (.val u)))
theorem aQT {m:Nat}{s1:AS}{k b e0 e i o:Nat}{zs xs:List AV}{ys:Value→List AV}{res:Res}{h':Hp}(hlk:s1.h.look k=some (.lst e0 zs))(hlb:s1.h.look b=some (.lst e xs))(hkb:k≠b)(hnq:∀u,NQ zs i o b e xs.length u (ys u))
  (hk:∀ua un uc,Ends P m ⟨s1.fr,s1.cs,(s1.h.set b (.lstv (.slice ua un uc) e xs)).set k (.lst e0 (ys (.slice ua un uc)))⟩ res h') :Ends P m s1 res h':=by
 obtain⟨hpos,c,ex,hz,hc,_⟩ :=hnq (.slice none 0 0);intro hm E cf ccs w f fs r cl base;have hun:pZ (.lst e0 zs) =false:=by
  cases zs with
  |nil=>simp at hz
  |cons _ _=>rfl
 have hunb:pZ (.lst e xs) =false:=by
  cases xs with
  |nil=>simp at hpos
  |cons _ _=>rfl
 obtain⟨L0,hE0,C,el,vs,o1,o2,o3,o4,o5⟩ :=r.obj _ _ hlk hun;obtain⟨cv,g1,g2⟩ :=o3.get _ _ hz;obtain⟨us,q,rfl,g3,g4,g5⟩ :=aN8 hc g2;simp only [VR]at g5;rcases g5 with⟨z,_⟩ | ⟨L,a,cap,hE,rfl,a1,_,a3⟩
 ·omega
 · obtain⟨_,c',ex',hz',hc',hys⟩ :=hnq (.slice (some ⟨L.blk,a,none⟩) xs.length cap);rw [hz]at hz';cases hz'
   have r1:Rel E (s1.h.set b (.lstv (.slice (some ⟨L.blk,a,none⟩) xs.length cap) e xs)) w.heap:=r.reobj hlb hunb (fun L' hL'=>by
    obtain⟨C',el',vs',p1,p2,p3,p4,p5⟩ :=r.objL hlb hL';rw [hE]at hL';cases hL';exact⟨C',el',vs',p1,p2,p3,p4,p5,a,cap,rfl,by omega,fun hc=>by have:=a3 hc;exact⟨by omega,this.2⟩⟩) rfl rfl rfl
   have hlk1: (s1.h.set b (.lstv (.slice (some ⟨L.blk,a,none⟩) xs.length cap) e xs)).look k=some (.lst e0 zs) :=by rw [bF,if_neg hkb];exact hlk
   have r2:Rel E ((s1.h.set b (.lstv (.slice (some ⟨L.blk,a,none⟩) xs.length cap) e xs)).set k (.lst e0 (ys (.slice (some ⟨L.blk,a,none⟩) xs.length cap)))) w.heap:=r1.reobj hlk1 hun (fun L' hL'=>by
    rw [hE0]at hL';cases hL';refine⟨C,el,vs,o1,o2,?_,o4,o5⟩;rw [hys];refine aCO (Emb.le.refl E) o3 g1 ?_;rw [VR];exact⟨us,rfl,aCO (Emb.le.refl E) g3 g4 (by simp only [VR])⟩) rfl rfl rfl
   obtain⟨cl',w',E',s1',gg,rr,xx⟩ :=hk (some ⟨L.blk,a,none⟩) xs.length cap hm _ cf ccs w f fs r2 cl base;exact⟨cl',w',E',s1',gg,rr,(kA (kA (ExtM.refl hm) hlb) hlk1).trans xx⟩
theorem aUq {m:Nat}{s:AS}{t:TS}{ks:List Nat}(h2:s.sum (eY m t.nb s.h.nb ks) t=t.want (eY m t.nb s.h.nb ks))(hok:dR m t ks=true)(hkl:jR t.hp) :LeadsM P m s t.as:=by
 simp only [AS.sum,TS.want,Sum.mk.injEq]at h2;obtain⟨a1,a2,a3,a4⟩ :=h2;intro hm E fr ccs w base f fs r;obtain⟨q1,q2⟩ :=nV (l:=t.hp) (nb:=t.nb) (by simpa [dR]using hok) a4 hkl r;exact⟨_,fr,ccs,w,Steps.refl _ _,aKo a1 f,aDp a2 a3 fs,q1,q2⟩
def bFB (P:Program)(m:Nat)(is:List Ins)(s:TS)(k b i o:Nat)(ys:List AV)(u:Value)(is2:List Ins)(t:TS)(ks:List Nat) :Option (Nat×Sum×List Prop) :=
 match aA4 P is s.as with
 | some (s1,ps) =>match s1.h.look k,s1.h.look b with
  | some (.lst e0 zs),some (.lst e xs) =>bif Nat.beq k b then none else
   match aA4 P is2 ⟨s1.fr,s1.cs,(s1.h.set b (.lstv u e xs)).set k (.lst e0 ys)⟩with
   |some (s3,qs) =>some (s3.h.nb,AS.sum s3 (eY m t.nb s3.h.nb ks) t,NQ zs i o b e xs.length u ys:: (ps++qs))
   |none=>none
  |_,_=>none
 |none=>none
theorem aGX {m:Nat}{is:List Ins}{s:TS}{t:Value→TS}{k b i o:Nat}{ys:Value→List AV}{is2:Value→List Ins}{ks:List Nat}{n1:Nat}{ps:Value→List Prop}
  (h0:∀u,bFB P m is s k b i o (ys u) u (is2 u) (t u) ks=some (n1,(t u).want (eY m (t u).nb n1 ks),ps u)) (hok:∀u,dR m (t u) ks=true) (hkl:∀u,jR (t u).hp) (hp:∀u,AllP (ps u))
  {res:Res} {h':Hp} (hk:∀ua un uc,Ends P m (t (.slice ua un uc)).as res h') :Ends P m s.as res h':=by
 have h0':=h0 (.slice none 0 0);unfold bFB at h0';split at h0'
 · rename_i s1 qs h1;split at h0'
   · rename_i e0 zs e xs hlk hlb;cases hkb:Nat.beq k b
     case true=>rw [hkb]at h0';cases h0'
     have hkb':k≠b:=fun g=>by subst g;simp at hkb
     have key:∀u,∃s3 qs3,aA4 P (is2 u) ⟨s1.fr,s1.cs,(s1.h.set b (.lstv u e xs)).set k (.lst e0 (ys u))⟩ =some (s3,qs3) ∧s3.h.nb=n1∧s3.sum (eY m (t u).nb s3.h.nb ks) (t u) = (t u).want (eY m (t u).nb n1 ks) ∧NQ zs i o b e xs.length u (ys u) :: (qs++qs3) =ps u:=fun u=>by
      have h0u:=h0 u;unfold bFB at h0u;rw [h1]at h0u;simp only [hlk,hlb,hkb,cond]at h0u;split at h0u
      · rename_i s3 qs3 h3;simp only [Option.some.injEq,Prod.mk.injEq]at h0u;exact⟨s3,qs3,h3,h0u.1,h0u.2.1,h0u.2.2⟩
      ·cases h0u
     refine(jP h1 (fun q hq=>?_)).ends (aQT (i:=i) (o:=o) hlk hlb hkb' (ys:=ys) (fun u=>?_) (fun ua un uc=>?_))
     · obtain⟨s3,qs3,_,_,_,g⟩ :=key (.slice none 0 0);exact(hp (.slice none 0 0)).mem q (by rw [←g];exact List.mem_cons_of_mem _ (List.mem_append_left _ hq))
     · obtain⟨s3,qs3,_,_,_,g⟩ :=key u;exact(hp u).mem _ (by rw [←g];exact List.mem_cons_self ..)
     · obtain⟨s3,qs3,g1,g2,g3,g⟩ :=key (.slice ua un uc);subst g2;exact((jP g1 (fun q hq=> (hp (.slice ua un uc)).mem q (by rw [←g];exact List.mem_cons_of_mem _ (List.mem_append_right _ hq)))).trans (aUq g3 (hok _) (hkl _))).ends (hk ua un uc)
   ·cases h0'
 ·cases h0'
end
inductive KVD where
 |row (l:List ConD)
 |nil
 |val (u:Value)
def KVD.av :KVD→AV
 | .row l=>.ilst 2 (map ConD.av l) false
 | .nil=>.nils
 | .val u=>.val u
structure ODat where
 name:aB
 kv:KVD
def ODat.av (x:ODat) :AV:=.agg [aH x.name,x.kv.av]
def DataD.o (x:DataD) :ODat:= ⟨x.name,.row x.cons⟩
theorem aLo {β:Type}{f:β→AV}{l:List β}{ix T:Nat}{Y:AV}(h:T=ix)(hlt:ix<length l) : (set (map f l) ix Y)[0+T]?=some Y:=by
 subst h;rw [Nat.zero_add,List.getElem?_set_self (by simpa using hlt)]
theorem aXs {β:Type}{f:β→AV}{l:List β}{ix T:Nat}{Y Y':AV}(h:T=ix) : (set (map f l) ix Y).set (0+T) Y'=set (map f l) ix Y':=by
 subst h;rw [Nat.zero_add,set_set]
theorem bEt {β:Type}{f:β→AV}{l:List β}{ix:Nat}(pre post:List AV){b e n n':Nat}{ex:Bool}{u:Value}{y:β}(hlt:ix<length l)(hn:n'=n)(h0:0<n')(hy:f y= .agg (pre++ .val u::post)) :
  NQ (set (map f l) ix (.agg (pre++ .gl b e 0 n ex::post))) ix pre.length b e n' u (map f (set l ix y)) :=by
 subst hn;refine⟨h0,_,ex,List.getElem?_set_self (by simpa using hlt),by simp,?_⟩;rw [set_set,List.map_set,hy];simp
theorem bEu {β:Type}{f:β→AV}{l:List β}{ix:Nat}(pre post:List AV){v v':AV}{y:β}(h:l[ix]?=some y)(hy:f y= .agg (pre++v::post)) :
  LQ (map f l) ix pre.length v v' (set (map f l) ix (.agg (pre++v'::post))) :=by
 refine⟨pre++v::post,by rw [getElem?_map,h];simp [hy],by simp,by simp⟩
mutual
def pnP (cs:List Con) :Pat→Pat
 | .mk f n s ps=>.mk f (if f=6 then gI s cs 0 else n) [] (bFC cs ps)
def bFC (cs:List Con) :List Pat→List Pat
 | [] =>[]
 |p::ps=>pnP cs p::bFC cs ps
end
abbrev BHc (fs:List aB)(cs:List Con)(b n:Nat) :AObj:=.cells (putCells .leaf 0 [.ilst 1 (map aH fs) false,.ilst 2 (map Con.av cs) false,.gl b 4 0 n false]) 3 [] false
abbrev BH (fs:List aB)(cs:List Con)(L:List ONode) :List (Nat×AObj×Bool) :=[(0,BHc fs cs 1 (length L),false),(1,OL L,true)]
theorem bEv (p:Pat) :aCr (.ret (Pat.av p)) :=qI p
def bGz (fs:List aB)(cs:List Con)(env:List aB)(o n:Int)(s:aB) :Int:=
 if o=14 then gI s cs 0 else if o=4 then(if aQF env s<0 then IntKind.i64.wrap (-1-aQF fs s)else aQF env s)else n
mutual
def bAU (fs:List aB)(cs:List Con) :Term→List aB→Nat→List Node
 | .mk o n s ks ps,env,a=> ⟨o,bGz fs cs env o n s,(aR7 fs cs o s ps ks 0 env (a+1)).1,bFC cs ps⟩ :: (aR7 fs cs o s ps ks 0 env (a+1)).2
def aR7 (fs:List aB)(cs:List Con)(o:Int)(s:aB)(ps:List Pat) :List Term→Nat→List aB→Nat→List Int×List Node
 | [],_,_,_=> ([],[])
 |t::ts,i,env,a=> (((a:Nat) :Int) :: (aR7 fs cs o s ps ts (i+1) env (a+ (bAU fs cs t (env++aQG o s ps i) a).length)).1,bAU fs cs t (env++aQG o s ps i) a++ (aR7 fs cs o s ps ts (i+1) env (a+ (bAU fs cs t (env++aQG o s ps i) a).length)).2)
end
def PUS (fs:List aB)(cs:List Con)(t:Term)(env:List aB)(L:List ONode)(ns:List Node) :Prop:=
 aF2 PP 1 (.enter 67 [.ptr 0 0,Term.av t,.ilst 1 (map aH env) false]) (aD (BH fs cs L) 2) (.ret (.int .i64 ((length L:Nat) :Int))) (aD (BH fs cs (L++map Node.o ns)) 2)
section
variable (fs :List aB) (cs:List Con) (L:List ONode) (o n:Int) (s:aB) (ks:List Term) (ps:List Pat) (env:List aB)
variable (hkl :ks.length≤900) (h15:o=15→ks.length≤ps.length+1) (hps:∀p∈ps,cU p≤1000) (he:env.length≤900000)
 (ih:∀t∈ks,∀ (e:List aB) (M:List ONode),e.length≤env.length+1000→M.length+bEj t≤1000000→PUS fs cs t e M (bAU fs cs t e M.length))
include hkl h15 hps he ih
end
end
end Go.Hb

set_option linter.defProp false
set_option linter.unusedVariables false
set_option linter.unusedSimpArgs false
set_option linter.unusedSectionVars false
set_option maxRecDepth 100000
set_option maxHeartbeats 4000000
namespace Go.Hb
open Bool (and_eq_true)
open Eq (mp)
open List (append_assoc append_nil cons_append drop getElem?_eq_getElem getElem?_map length length_append length_cons length_map length_set map map_append map_cons map_map map_nil mem_append_left mem_append_right mem_cons_of_mem mem_cons_self mem_of_getElem? nil_append range replicate set take zipWith)
open Pats (av)
open Go.Proofs Tryz
noncomputable section
section
variable {P :Program}
theorem Spec.pan0 {c:AIn}{h h':Hp}{ch:List (AV×Bool)}(s:Spec P c h (.pan ch) h') :bEf P c h ch h':=by
 obtain⟨g,hg,he⟩ :=s;refine⟨g,hg,fun E w G r f _ cl base=>?_⟩;obtain⟨cl',w',E',s1,⟨ps,rfl,g2⟩,r2,x2⟩ :=he (Nat.le_refl _) E G [] w f rfl r cl base;exact⟨ps,w',E',s1,g2,r2,x2.toExt r⟩
theorem aXt {rs:List Rec}{k:Nat}(h0:∀r∈rs,r.1=k→Spec P r.2.1 r.2.2.1 (.ret r.2.2.2.1) r.2.2.2.2) :aCe P (wZ rs) k:=fun c h v h' e=>by
 unfold wZ at e;split at e
 · rename_i r hr;split at e
   · rename_i hc;obtain⟨rfl,rfl⟩ :=hc;have h1:=List.find?_some hr;have:=h0 r (List.mem_of_find?_eq_some hr) (Nat.eq_of_beq_eq_true h1);simp only [Option.some.injEq]at e;rw [e]at this;exact this.sound
   ·cases e
 ·cases e
theorem aBd {call:bO}{nt:Nat}{l:List Oper}:∀ {p1 p2:List Plan} {r r1 r2:RS},eU P call nt l p1 r=some r1→eU P call nt l p2 r1=some r2→eU P call nt l (p1++p2) r=some r2
 | [],_,r,r1,r2,h1,h2=>by simp only [eU,Option.some.injEq]at h1;subst h1;exact h2
 | p ::p1,p2,r,r1,r2,h1,h2=>by
  simp only [eU]at h1;split at h1
  · rename_i r' hr;simp only [cons_append,eU,hr];exact aBd h1 h2
  ·cases h1
def aCP (P:Program)(nt:Nat)(ops:Array Oper)(tm:T AV)(h:Hp)(e:Nat)(is1:List RIns)(v:AV)(h2:Hp)(is2:List RIns)(os:List (Option Ans))(ch:List (AV×Bool))(h':Hp) :Option (List Prop) :=
 let pl:=dM ops
 bif pl.ok then
  match fY P nt pl.ops is1 (pl.plans.take e) {tm,h:={h with nb:=h.nb+pl.fresh},stages:=[],s:=0,pend:=[],next:=h.nb,again:=[]},pl.plans.drop e with
  | some (r1,ps1,rs1),p::pl2=>match bY r1.tm pl.ops p.o,p.kd with
   | some true,.eff=>match kE P (aL r1.h r1.s r1.pend) r1.tm p.o with
    | some (.call c) =>match iR r1.tm nt p.o.dst v with
     | some tm2=>match fY P nt pl.ops is2 pl2 {r1 with tm:=tm2,h:=h2,stages:=r1.h::r1.stages,s:=Nat.succ r1.s} with
      | some (r3,ps3,rs3) =>bif aBr (keysOf (rs1++ (r1.s,c,aL r1.h r1.s r1.pend,v,h2) ::rs3))then
        some (ps1++ (ps3++ (rJ P (r3.h::r3.stages) r3.s r3.again os++ [Spec P c (aL r1.h r1.s r1.pend) (.pan ch) h'])))else none
      |none=>none
     |none=>none
    |_=>none
   |_,_=>none
  |_,_=>none
 else none
theorem aLp {s:AS}{id:Nat}{ops:Array Oper}{k:List AItem}(hm:s.fr.mode= .run)(htd:s.fr.todo= .code (.region id ops true) ::k){e:Nat}{is1:List RIns}{v:AV}{h2:Hp}{is2:List RIns}{os:List (Option Ans)}{ch:List (AV×Bool)}{h':Hp}{ps:List Prop}
  (h0:aCP P s.fr.nt ops s.fr.tm s.h e is1 v h2 is2 os ch h'=some ps) (hp:∀p∈ps,p) {E:Emb} {fr:Frame} {w:World} (f:FR E s.fr fr) (rl:Rel E s.h w.heap) (cs:List Frame) :
  ∃ E' w' tmps' is' pp ck,IRs E k ck∧Steps P (lone fr cs w) (lone ((rf fr.fn tmps' (.inRegion ops is'::ck) fr.defers fr.kind fr.roundOf).raise pp) cs w') ∧CR E' ch pp∧Rel E' h' w'.heap∧Ext E s.h w E' h' w' ∧
   ∀tm1:T AV,(∀t a,tm1.at t=some a→s.fr.tm.at t=some a∧∀n,n<ops.toList.length→qE ops.toList n≠some t) →TR E' tm1 s.fr.nt tmps':=by
 unfold aCP at h0;simp only at h0;cases hok: (dM ops).ok
 case false=>rw [hok]at h0;cases h0
 rw [hok]at h0;simp only [cond]at h0;split at h0
 · rename_i r1 ps1 rs1 p pl2 hx1 hdr;split at h0
   · rename_i hw hk;split at h0
     · rename_i c ha;split at h0
       · rename_i tm2 htm2;split at h0
         · rename_i r3 ps3 rs3 hx3;cases hn:aBr (keysOf (rs1++ (r1.s,c,aL r1.h r1.s r1.pend,v,h2) ::rs3))
           case false=>rw [hn]at h0;cases h0
           rw [hn]at h0;simp only at h0;cases h0;have q1:∀q∈ps1,q:=fun q hq=>hp q (mem_append_left _ hq);have q3:∀q∈ps3,q:=fun q hq=>hp q (mem_append_right _ (mem_append_left _ hq));have q4:∀q∈rJ P (r3.h::r3.stages) r3.s r3.again os,q:=fun q hq=>hp q (mem_append_right _ (mem_append_right _ (mem_append_left _ hq)));have q5:Spec P c (aL r1.h r1.s r1.pend) (.pan ch) h':=hp _ (mem_append_right _ (mem_append_right _ (mem_append_right _ (List.mem_singleton_self _))));have hor:=aDm hn;have hst1:=kK (call:=wZ (rs1++ (r1.s,c,aL r1.h r1.s r1.pend,v,h2) ::rs3)) hx1 q1 (fun x hx=>hor x (mem_append_left _ hx));have hst3:=kK (call:=wZ (rs1++ (r1.s,c,aL r1.h r1.s r1.pend,v,h2) ::rs3)) hx3 q3 (fun x hx=>hor x (mem_append_right _ (mem_cons_of_mem _ hx)));have hrec:=hor _ (mem_append_right _ (mem_cons_self ..));simp only at hrec;have hst2:kF P (wZ (rs1++ (r1.s,c,aL r1.h r1.s r1.pend,v,h2) ::rs3)) s.fr.nt (dM ops).ops p r1=some {r1 with tm:=tm2,h:=h2,stages:=r1.h::r1.stages,s:=Nat.succ r1.s}:=by
            simp only [kF,hw,hk,ha,hrec,htm2]
           have hrr:eU P (wZ (rs1++ (r1.s,c,aL r1.h r1.s r1.pend,v,h2) ::rs3)) s.fr.nt (dM ops).ops (dM ops).plans {tm:=s.fr.tm,h:={s.h with nb:=s.h.nb+ (dM ops).fresh},stages:=[],s:=0,pend:=[],next:=s.h.nb,again:=[]}=some r3:=by
            rw [←List.take_append_drop e (dM ops).plans,hdr];exact aBd hst1 (by simp only [eU,hst2];exact hst3)
           have hck:rE P (r3.h::r3.stages) r3.s r3.again:=pF q4;have hpe: (dM ops).plans[e]?=some p:=by
            have:=List.getElem?_drop (xs:= (dM ops).plans) (i:=e) (j:=0);rw [hdr,Nat.add_zero]at this;simpa using this.symm
           have hel:e<ops.toList.length:=by
            have hlen: (dM ops).plans.length=ops.toList.length:=lW _ _ _ _;have:= (List.getElem?_eq_some_iff.1 hpe).1;omega
           have hpo:p=qD ops.toList e ops.toList[e] :=by
            have h9:=yF (kO ops.toList []) (fM ops.toList 0) ops.toList 0 e;rw [getElem?_eq_getElem hel,Option.map_some,Nat.zero_add]at h9;have h8: (dM ops).plans[e]?=some (qD ops.toList e ops.toList[e]) :=h9;rw [hpe]at h8;cases h8;rfl
           have hspec:∀k,k≠r1.s→aCe P (wZ (rs1++ (r1.s,c,aL r1.h r1.s r1.pend,v,h2) ::rs3)) k:=fun k hk=>aXt fun x hx ex=>by
            rcases List.mem_append.1 hx with g|g
            ·exact lX hx1 q1 x g
            · rcases List.mem_cons.1 g with rfl|g
              ·exact absurd ex.symm hk
              ·exact lX hx3 q3 x g
           obtain⟨afr,cs0,h⟩ :=s;simp only at hm htd hrr hst1 f rl ⊢;have e0:=f.run hm;have ef:fr.fn=afr.fn:=f.fn;generalize fr.fn=fn at e0 ef ⊢;generalize fr.tmps=tmps at e0;generalize fr.todo=todo at e0;generalize fr.defers=ds at e0 ⊢;generalize fr.kind=kd at e0 ⊢;generalize fr.roundOf=ro at e0 ⊢;subst e0;have ft:=f.todo;simp only [htd]at ft;obtain⟨i,ck,e1,i1,i2⟩ :=ft.cons_inv;subst e1;simp only [IR]at i1;subst i1;obtain⟨E',w',tmps',is',pp,s1,c1,r1',x1,x2⟩ :=aE0 (o:=ops.toList[e]) hok hrr hck hst1 (getElem?_eq_getElem hel) (by rw [hpo]at hk;exact hk) hspec (by rw [hpo]at hw;exact hw) (by rw [hpo]at ha;exact ha) q5.pan0 rl f.tm id fn ds kd ro ck cs;exact⟨E',w',tmps',is',pp,ck,i2,s1,c1,r1',x1,x2⟩
         ·cases h0
       ·cases h0
     ·cases h0
   ·cases h0
 ·cases h0
theorem aLq {m:Nat}{s:AS}{id:Nat}{ops:Array Oper}{k:List AItem}(hm:s.fr.mode= .run)(hcs:s.cs= [])(hd:s.fr.defers= []){fd:Func}(hfd:P.funcs[s.fr.fn]?=some fd)(htd:s.fr.todo= .code (.region id ops true) ::k){e:Nat}{is1:List RIns}{v:AV}{h2:Hp}{is2:List RIns}{os:List (Option Ans)}{ch:List (AV×Bool)}{h':Hp}{ps:List Prop}
  (h0:aCP P s.fr.nt ops s.fr.tm s.h e is1 v h2 is2 os ch h'=some ps) (hp:∀p∈ps,p) :Ends P m s (.pan ch) h':=by
 intro hm0 E fr ccs w f fs rl cl base;rw [hcs]at fs;obtain rfl:=fs.nil_inv;obtain⟨E',w',tmps',is',pp,ck,_,s1,c1,r1',x1,_⟩ :=aLp hm htd h0 hp f rl (cl::base);have ed:fr.defers= [] :=by
  have:=f.defers;rw [hd]at this;simpa only [DRs]using this
 rw [ed]at s1;exact⟨cl.raise pp,w',E',s1.trans (.one (qC (chain:=pp) rfl rfl (fd:=fd) (by show P.funcs[fr.fn]?=_;rw [f.fn];exact hfd))),⟨pp,rfl,c1⟩,r1',x1.toM hm0⟩
def bGA (P:Program)(m:Nat)(is:List Ins)(s:TS)(e:Nat)(is1:List RIns)(v:AV)(h2:Hp)(is2:List RIns)(os:List (Option Ans))(ch:List (AV×Bool))(h':Hp)(hp:List (Nat×AObj×Bool))(nb:Nat)(ks:List Nat) :Option (Nat×List (AV×Bool) ×List (Option AObj) ×List Prop) :=
 match aA4 P is s.as with
 | some (s1,ps) =>match s1.cs,s1.fr.defers,s1.fr.mode,s1.fr.todo,P.funcs[s1.fr.fn]? with
  | [],[],.run,.code (.region _ ops true) ::_,some _=>match aCP P s1.fr.nt ops s1.fr.tm s1.h e is1 v h2 is2 os ch h' with
   |some qs=>some (h'.nb,ch,uZ h' (eY m nb h'.nb ks) hp,ps++qs)
   |none=>none
  |_,_,_,_,_=>none
 |none=>none
theorem aQU {m:Nat}{is:List Ins}{s:TS}{e:Nat}{is1:List RIns}{v:AV}{h2:Hp}{is2:List RIns}{os:List (Option Ans)}{ch:List (AV×Bool)}{h':Hp}{hp:List (Nat×AObj×Bool)}{nb:Nat}{ks:List Nat}{n1:Nat}{ps:List Prop}
  (h0:bGA P m is s e is1 v h2 is2 os ch h' hp nb ks=some (n1,aRK (eY m nb n1 ks) ch,jQ (eY m nb n1 ks) hp,ps))
  (hok:dR m ⟨⟨0,0,[],[],[],.run,.normal,none⟩,[],hp,nb⟩ ks=true) (hkl:jR hp) (hps:AllP ps) :Ends P m s.as (.pan ch) (aD hp nb) :=by
 unfold bGA at h0;split at h0
 · rename_i s1 qs h1;split at h0
   · rename_i id ops k fd hcs hd hm htd hfd;split at h0
     · rename_i qs2 hx;simp only [Option.some.injEq,Prod.mk.injEq]at h0;obtain⟨rfl,h3,h4,rfl⟩ :=h0;refine(jP h1 (fun p hpp=>hps.mem p (mem_append_left _ hpp))).ends ?_;intro hm0 E fr ccs w f fs r cl base;obtain⟨cl',w',E',g1,⟨ps',rfl,g2⟩,g3,g4⟩ :=aLq (m:=m) hm hcs hd hfd htd hx (fun p hpp=>hps.mem p (mem_append_right _ hpp)) hm0 E fr ccs w f fs r cl base;obtain⟨q1,q2⟩ :=nV hok h4 hkl g3;rw [h3]at g2;exact⟨_,w',_,g1,⟨ps',rfl,aKm g2⟩,q1,g4.trans q2⟩
     ·cases h0
   ·cases h0
 ·cases h0
end
def aXu(b:List Node)(c d:List Int)(a:List ONode)(e f:Int)(g:aB)(i:List Pat):TS:=cQ PP 183 [(.ptr 0 0),(.agg [(nI e),(nI f),(aH g),(iP i)])] [oC 0 [(iN b),(.gl 1 4 0 a.length false),(iI c),(iI d)],oL 1 4 (map ONode.av a)] 2
def aGY(d:List Node)(e f:List Int)(a:List ONode)(g k:Int)(l:aB)(b:List Pat)(i j:Int)(c:List Pat):TS:=⟨(tf 183 42 [kp 0 0,kp 4 2,kp 5 3,(26,(iP b)),(27,(nI (b.length:Int))),(28,(nI j))] [kc f183 244,kl f183 244,.inBlock 0,kc f183 31]),[],[oC 0 [(iN d),(.gl 1 4 0 a.length false),(iI e),(iI f)],oL 1 4 (map ONode.av a),oC 2 [(nI 0),(nI 0),(.str 0 0),.nils],oC 3 [(nI g),(nI i),(.str 0 0),(.gl 4 4 0 c.length false)],oL 4 4 (av c)],5⟩
def aXv(b:List Node)(c d:List Int)(a:List ONode)(e:Int):TS:=cQ PP 136 [(.ptr 0 0),(nI e)] [oC 0 [(iN b),(.gl 1 4 0 a.length false),(iI c),(iI d)],oL 1 4 (map ONode.av a)] 2
def zL(c:List Node)(d e:List Int)(a:List ONode)(p:Int)(f:List Pat)(g i j:Int)(k:List Int)(l:List Pat)(m n o:Int)(b:List Pat):TS:=⟨(tf 136 94 [kp 0 0,(4,(nI 0)),kp 5 1,kp 6 2,(56,(iP f)),(57,(nI g)),(58,(nI o))] [kc f136 500,kl f136 500,.inBlock 1,kc f136 63]),[],[oC 0 [(iN c),(.gl 3 4 0 a.length false),(iI d),(iI e)],oC 1 [(nI i),(nI j),(iI k),(iP l)],oC 2 [(nI m),(nI n),.nils,(.gl 4 4 0 b.length false)],oL 3 4 (map ONode.av a),oL 4 4 (av b)],5⟩
def aLr(d:List Node)(e f:List Int)(a:List ONode)(i:Int)(b:List Int)(g:Int)(c:List ONode):TS:=⟨(tf 184 39 [kp 0 0,(2,(nI (a.length:Int))),(3,(.func 136 [(.ptr 0 0)] [])),(11,(iI b)),(12,(nI g)),(13,(nI 0))] [kc f184 12,kl f184 12,.inBlock 0]),[(tf 136 94 [(4,(nI 0)),(9,(nI (a.length:Int))),kp 86 0,(88,(iI b)),(89,(nI (a.length:Int))),(91,(.func 136 [(.ptr 0 0)] []))] [ko f136 510 6,kc f136 511])],[oC 0 [(iN d),(.gl 1 4 0 c.length false),(iI e),(iI f)],oL 1 4 (map ONode.av c)],2⟩
def aXw(d:List Node)(e f:List Int)(a:List ONode)(j g:Int)(b:List Int)(i:Int)(c:List ONode):TS:=⟨(tf 184 39 [kp 0 0,(2,(nI (a.length:Int))),(3,(.func 136 [(.ptr 0 0)] [])),(10,(nI g)),(11,(iI b)),(12,(nI i)),(13,(nI 0))] [kc f184 819,.inBlock 1,kc f184 103,kl f184 12,.inBlock 0]),[(tf 136 94 [(4,(nI 0)),(9,(nI (a.length:Int))),kp 86 0,(88,(iI b)),(89,(nI (a.length:Int))),(91,(.func 136 [(.ptr 0 0)] []))] [ko f136 510 6,kc f136 511])],[oC 0 [(iN d),(.gl 1 4 0 c.length false),(iI e),(iI f)],oL 1 4 (map ONode.av c)],2⟩
def aR8(d:List Node)(e f:List Int)(a:List ONode)(n g:Int)(b:List Int)(i:Int)(c:List ONode)(j:Nat)(k l:Int)(m:List Pat):TS:=⟨(tf 184 39 [kp 0 0,(2,(nI (a.length:Int))),(3,(.func 136 [(.ptr 0 0)] [])),(10,(nI g)),(11,(iI b)),(12,(nI i)),(13,(nI 0))] [kc f184 819,.inBlock 1,kc f184 103,kl f184 12,.inBlock 0]),[(tf 136 94 [(4,(nI 0)),(9,(nI (a.length:Int))),kp 86 0,(88,(iI b)),(89,(nI (a.length:Int))),(91,(.func 136 [(.ptr 0 0)] []))] [ko f136 510 6,kc f136 511])],[oC 0 [(iN d),(.gl 1 4 0 c.length false),(iI e),(iI f)],(1,(.lst 4 (set (map ONode.av c) j (.agg [(nI k),(nI l),(.gl 2 1 0 ([] :List Int).length false),(iP m)]))),false),oL 2 1 (jI ([] :List Int))],3⟩
def aDH(d:List Node)(e f:List Int)(a:List ONode)(l:Int)(b:List Int)(g:Int)(c:List ONode)(i:List Int)(j:Value)(k:Int):TS:=⟨(tf 184 39 [kp 0 0,(2,(nI (a.length:Int))),(3,(.func 136 [(.ptr 0 0)] [])),(11,(iI b)),(12,(nI g)),(13,(nI k))] [kc f184 12,kl f184 12,.inBlock 0]),[(tf 136 94 [(4,(nI 0)),(9,(nI (a.length:Int))),kp 86 0,(88,(iI b)),(89,(nI (a.length:Int))),(91,(.func 136 [(.ptr 0 0)] []))] [ko f136 510 6,kc f136 511])],[oC 0 [(iN d),(.gl 1 4 0 c.length false),(iI e),(iI f)],oL 1 4 (map ONode.av c),(2,(.lstv j 1 (jI i)),true)],3⟩
def aXx(d:List Node)(e f:List Int)(a:List ONode)(m g:Int)(b:List Int)(i:Int)(c:List ONode)(j:List Int)(k:Value)(l:Int):TS:=⟨(tf 184 39 [kp 0 0,(2,(nI (a.length:Int))),(3,(.func 136 [(.ptr 0 0)] [])),(10,(nI g)),(11,(iI b)),(12,(nI i)),(13,(nI l))] [kc f184 819,.inBlock 1,kc f184 103,kl f184 12,.inBlock 0]),[(tf 136 94 [(4,(nI 0)),(9,(nI (a.length:Int))),kp 86 0,(88,(iI b)),(89,(nI (a.length:Int))),(91,(.func 136 [(.ptr 0 0)] []))] [ko f136 510 6,kc f136 511])],[oC 0 [(iN d),(.gl 1 4 0 c.length false),(iI e),(iI f)],oL 1 4 (map ONode.av c),(2,(.lstv k 1 (jI j)),true)],3⟩
def aR9(e:List Node)(f g:List Int)(a:List ONode)(p i:Int)(b:List Int)(j:Int)(c:List ONode)(d:List Int)(k:Int)(l:Nat)(m n:Int)(o:List Pat):TS:=⟨(tf 184 39 [kp 0 0,(2,(nI (a.length:Int))),(3,(.func 136 [(.ptr 0 0)] [])),(10,(nI i)),(11,(iI b)),(12,(nI j)),(13,(nI k))] [kc f184 819,.inBlock 1,kc f184 103,kl f184 12,.inBlock 0]),[(tf 136 94 [(4,(nI 0)),(9,(nI (a.length:Int))),kp 86 0,(88,(iI b)),(89,(nI (a.length:Int))),(91,(.func 136 [(.ptr 0 0)] []))] [ko f136 510 6,kc f136 511])],[oC 0 [(iN e),(.gl 1 4 0 c.length false),(iI f),(iI g)],(1,(.lst 4 (set (map ONode.av c) l (.agg [(nI m),(nI n),(.gl 2 1 0 d.length false),(iP o)]))),false),oL 2 1 (jI d)],3⟩
def aXy(e:List Node)(f c:List Int)(g:List ONode)(d a:Int)(i:aB)(b:List Pat):=tT 2 (aXu e f c g d a i b)<|.b 22 15 (d==6) (.y fun j:Int=>.i [rn 1,.reg (rd 6 (.ans (.idx (aY j))::rd 3 []))] [hA (0≤a),.a (((c)[a.toNat]?) =some j) (bS (f:=aY))]<|gm 5 aE b<|.i [rn 4,.cnil 4 3 4] []<|gu 0 5 (av ([] :List Pat))<|gv 0 4 3 (.gl 5 4 0 ([] :List Pat).length false)<|.W 0 6 [3,4,5] (aGY e f c g d a i b j 0 ([] :List Pat)))<|gm 7 aE b<|.i [rn 4,.cnil 4 3 4] []<|gu 0 5 (av ([] :List Pat))<|gv 0 4 3 (.gl 5 4 0 ([] :List Pat).length false)<|.W 0 6 [3,4,5] (aGY e f c g d a i b a 0 ([] :List Pat))
def bAV:=fun a b c d e f g i j k l m=>aXy a b c d e f g i|>.t k j l m ⟨(aG _ (fun _=>bG _) _),⟨eT,trivial⟩⟩
def bAW:=fun a b c d e f g i j=>aXy a b c d e f g i|>.f j ⟨(aG _ (fun _=>bG _) _),⟨eT,trivial⟩⟩
def aXz(g:List Node)(i j:List Int)(b:List ONode)(k s:Int)(t:aB)(n:List Pat)(l m:Int)(a:List Pat):=tT 2 (aGY g i j b k s t n l m a)<|gd 5 29 (m< (n.length:Int)) (aF6 6 n m<|fun o p q r=>.y fun c:Int=>.y fun d:Int=>.y fun e:aB=>.y fun f:List Pat=>.i [rn 4,.reg (rd 4 [.call (.agg [(nI c),(nI d),(aH e),(iP f)]) (aD [oC 0 [(iN g),(.gl 1 4 0 b.length false),(iI i),(iI j)],oL 1 4 (map ONode.av b),oC 2 [(nI 0),(nI 0),(.str 0 0),.nils],oC 3 [(nI k),(nI l),(.str 0 0),(.gl 4 4 0 a.length false)],oL 4 4 (av a),oC 5 [(nI o),(nI p),(aH q),(iP r)]] 7),.d,.app (av (a++ [(Pat.mk c d e f)])) (a++ [(Pat.mk c d e f)]).length,.d,.d])] [hA (Spec PP (.enter 183 [(.ptr 0 0),(.agg [(nI o),(nI p),(aH q),(iP r)])]) (aD [oC 0 [(iN g),(.gl 1 4 0 b.length false),(iI i),(iI j)],oL 1 4 (map ONode.av b),oC 2 [(nI 0),(nI 0),(.str 0 0),.nils],oC 3 [(nI k),(nI l),(.str 0 0),(.gl 4 4 0 a.length false)],oL 4 4 (av a),oC 5 [(nI o),(nI p),(aH q),(iP r)]] 7) (.ret (.agg [(nI c),(nI d),(aH e),(iP f)])) (aD [oC 0 [(iN g),(.gl 1 4 0 b.length false),(iI i),(iI j)],oL 1 4 (map ONode.av b),oC 2 [(nI 0),(nI 0),(.str 0 0),.nils],oC 3 [(nI k),(nI l),(.str 0 0),(.gl 4 4 0 a.length false)],oL 4 4 (av a),oC 5 [(nI o),(nI p),(aH q),(iP r)]] 7)),hB aE a,hA (length (a++ [(Pat.mk c d e f)]) ≤1000000),hC aE a [(Pat.mk c d e f)],hE aE a [(Pat.mk c d e f)],hr (AV.gl 4 4 0 a.length false),hr (AV.gl 4 4 0 a.length false)]<|gw 3 40 (m+1)<|.W 3 8 [2,3,7] (aGY g i j b k s t n l (m+1) (a++ [(Pat.mk c d e f)])))<|gY 8 2 3 4 4 aE eT a false<|.E 0 5 [] (.agg [(nI k),(nI l),(.str 0 0),(iP a)]) [oC 0 [(iN g),(.gl 1 4 0 b.length false),(iI i),(iI j)],oL 1 4 (map ONode.av b)] 2
def bAX:=fun a b c d e f g i j k l m n o p q r s t u v w x y z=>aXz a b c d e f g i j k l|>.t u m n o p v w q r s t x y z ⟨(aG _ (fun _=>bG _) _),⟨eT,trivial⟩⟩
def bAY:=fun a b c d e f g i j k l m=>aXz a b c d e f g i j k l|>.f m ⟨(aG _ (fun _=>bG _) _),trivial⟩
def aLs(d:List Node)(e c:List Int)(g:List ONode)(f:Int):=tT 1 (aXv d e c g f)<|gX Node.av 11 d f<|fun a=>.b 22 26 (a.op==4) (gd 6 22 (a.n<0) (.y fun b:Int=>.i [rn 1,.reg (rd 7 (.ans (.idx (aY b))::rd 4 []))] [hA (0≤ (IntKind.i64.wrap ((-1:Int) -a.n))),.a (((e)[(IntKind.i64.wrap ((-1:Int) -a.n)).toNat]?) =some b) (bS (f:=aY))]<|gm 6 aE a.pats<|.i [rn 4,.cnil 3 3 4] []<|gu 0 4 (av ([] :List Pat))<|gv 0 3 3 (.gl 4 4 0 ([] :List Pat).length false)<|.W 0 5 [2,3,1,4] (zL d e c g f a.pats (a.pats.length:Int) a.op a.n a.kids a.pats a.op (IntKind.i64.wrap ((-1:Int) -b)) 0 ([] :List Pat)))<|.b 8 42 (a.op==14) (.y fun b:Int=>.i [rn 1,.reg (rd 6 (.ans (.idx (aY b))::rd 3 []))] [hA (0≤a.n),.a (((c)[a.n.toNat]?) =some b) (bS (f:=aY))]<|gm 6 aE a.pats<|.i [rn 4,.cnil 3 3 4] []<|gu 0 4 (av ([] :List Pat))<|gv 0 3 3 (.gl 4 4 0 ([] :List Pat).length false)<|.W 0 5 [2,3,1,4] (zL d e c g f a.pats (a.pats.length:Int) a.op a.n a.kids a.pats a.op b 0 ([] :List Pat)))<|gm 8 aE a.pats<|.i [rn 4,.cnil 3 3 4] []<|gu 0 4 (av ([] :List Pat))<|gv 0 3 3 (.gl 4 4 0 ([] :List Pat).length false)<|.W 0 5 [2,3,1,4] (zL d e c g f a.pats (a.pats.length:Int) a.op a.n a.kids a.pats a.op a.n 0 ([] :List Pat)))<|.b 14 42 (a.op==14) (.y fun b:Int=>.i [rn 1,.reg (rd 6 (.ans (.idx (aY b))::rd 3 []))] [hA (0≤a.n),.a (((c)[a.n.toNat]?) =some b) (bS (f:=aY))]<|gm 6 aE a.pats<|.i [rn 4,.cnil 3 3 4] []<|gu 0 4 (av ([] :List Pat))<|gv 0 3 3 (.gl 4 4 0 ([] :List Pat).length false)<|.W 0 5 [2,3,1,4] (zL d e c g f a.pats (a.pats.length:Int) a.op a.n a.kids a.pats a.op b 0 ([] :List Pat)))<|gm 8 aE a.pats<|.i [rn 4,.cnil 3 3 4] []<|gu 0 4 (av ([] :List Pat))<|gv 0 3 3 (.gl 4 4 0 ([] :List Pat).length false)<|.W 0 5 [2,3,1,4] (zL d e c g f a.pats (a.pats.length:Int) a.op a.n a.kids a.pats a.op a.n 0 ([] :List Pat))
def bAZ:=fun a b c d e f g i j k l m n=>aLs a b c d e f i j|>.t k|>.t l g m n ⟨(aG _ (fun _=>bG _) _),⟨eT,trivial⟩⟩
def bA0:=fun a b c d e f g i j k l=>aLs a b c d e f g i|>.t j|>.f k|>.f l ⟨(aG _ (fun _=>bG _) _),⟨eT,trivial⟩⟩
def bA1:=fun a b c d e f g i j k l m n=>aLs a b c d e f i j|>.f k|>.t l g m n ⟨(aG _ (fun _=>bG _) _),⟨eT,trivial⟩⟩
def bA2:=fun a b c d e f g i j k=>aLs a b c d e f g i|>.f j|>.f k ⟨(aG _ (fun _=>bG _) _),⟨eT,trivial⟩⟩
def aXA(k:List Node)(l m:List Int)(b:List ONode)(v:Int)(w:List Pat)(x n o:Int)(e:List Int)(p:List Pat)(c d q:Int)(a:List Pat):=tT 1 (zL k l m b v w x n o e p c d q a)<|gd 5 59 (q<x) (aF6 6 w q<|fun r s t u=>.y fun f:Int=>.y fun g:Int=>.y fun i:aB=>.y fun j:List Pat=>.i [rn 4,.reg (rd 4 [.call (.agg [(nI f),(nI g),(aH i),(iP j)]) (aD [oC 0 [(iN k),(.gl 3 4 0 b.length false),(iI l),(iI m)],oC 1 [(nI n),(nI o),(iI e),(iP p)],oC 2 [(nI c),(nI d),.nils,(.gl 4 4 0 a.length false)],oL 3 4 (map ONode.av b),oL 4 4 (av a),oC 5 [(nI r),(nI s),(aH t),(iP u)]] 7),.d,.app (av (a++ [(Pat.mk f g i j)])) (a++ [(Pat.mk f g i j)]).length,.d,.d])] [hA (Spec PP (.enter 183 [(.ptr 0 0),(.agg [(nI r),(nI s),(aH t),(iP u)])]) (aD [oC 0 [(iN k),(.gl 3 4 0 b.length false),(iI l),(iI m)],oC 1 [(nI n),(nI o),(iI e),(iP p)],oC 2 [(nI c),(nI d),.nils,(.gl 4 4 0 a.length false)],oL 3 4 (map ONode.av b),oL 4 4 (av a),oC 5 [(nI r),(nI s),(aH t),(iP u)]] 7) (.ret (.agg [(nI f),(nI g),(aH i),(iP j)])) (aD [oC 0 [(iN k),(.gl 3 4 0 b.length false),(iI l),(iI m)],oC 1 [(nI n),(nI o),(iI e),(iP p)],oC 2 [(nI c),(nI d),.nils,(.gl 4 4 0 a.length false)],oL 3 4 (map ONode.av b),oL 4 4 (av a),oC 5 [(nI r),(nI s),(aH t),(iP u)]] 7)),hB aE a,hA (length (a++ [(Pat.mk f g i j)]) ≤1000000),hC aE a [(Pat.mk f g i j)],hE aE a [(Pat.mk f g i j)],hr (AV.gl 4 4 0 a.length false),hr (AV.gl 4 4 0 a.length false)]<|gw 3 70 (q+1)<|.W 3 8 [1,2,3,7] (zL k l m b v w x n o e p c d (q+1) (a++ [(Pat.mk f g i j)])))<|gY 12 2 3 4 4 aE eT a false<|.i [.reg (rd 7 (.app (map ONode.av (b++ [(ONode.mk c d KV.nil a)])) (b++ [(ONode.mk c d KV.nil a)]).length::rd 3 []))] [hb ONode.av b,hA (length (b++ [(ONode.mk c d KV.nil a)]) ≤1000000),hc ONode.av b [(ONode.mk c d KV.nil a)],he ONode.av b [(ONode.mk c d KV.nil a)]]<|gl 12 aY e<|.W 4 7 [6] (aLr k l m b v e (e.length:Int) (b++ [(ONode.mk c d KV.nil a)]))
def bA3:=fun a b c d e f g i j k l m n o p q r s t u v w x y z A B C D=>aXA a b c d e f g i j k l m n o p|>.t y q r s t z A u v w x B C D ⟨(aG _ (fun _=>bG _) _),⟨eT,trivial⟩⟩
def bA4:=fun a b c d e f g i j k l m n o p q r=>aXA a b c d e f g i j k l m n o p|>.f q r ⟨(aG _ (fun _=>bG _) _),trivial⟩
def aXB(d:List Node)(e f:List Int)(c:List ONode)(k:Int)(g:List Int)(i:Int)(b:List ONode):=tT 1 (aLr d e f c k g i b)<|gd 5 14 (0<i) (gX aY 6 g 0<|fun a=>.y fun j:List Node=>gk 7 (.enter 136 [(.ptr 0 0),(nI a)]) [oC 0 [(iN d),(.gl 1 4 0 b.length false),(iI e),(iI f)],oL 1 4 (map ONode.av b)] 2 (nI (b.length:Int)) [oC 0 [(iN d),(.gl 2 4 0 (b++map Node.o j).length false),(iI e),(iI f)],oL 2 4 (map ONode.av (b++map Node.o j))] 3<|.W 2 3 [2] (aXw d e f c k (b.length:Int) g i (b++map Node.o j)))<|.y fun a:ONode=>.i [rn 11,.lw 1 (map ONode.av (set b c.length (ONode.mk a.op a.n (KV.row []) a.pats)))] [.a (b[c.length]?=some a) (p':=(map ONode.av b) ≠ []) aKy,.a (b[c.length]?=some a∧a.kv=KV.nil) (p':=VW (map ONode.av b) (map ONode.av (set b c.length (ONode.mk a.op a.n (KV.row []) a.pats)))) fun⟨ha,hb⟩=>(aVB ha hb)]<|.i [.cset 0 1 (.gl 1 4 0 (set b c.length (ONode.mk a.op a.n (KV.row []) a.pats)).length false)] [.q (p:=(AV.gl 1 4 0 b.length false) = (.gl 1 4 0 (set b c.length (ONode.mk a.op a.n (KV.row []) a.pats)).length false)) (bD (length_set ..).symm)]<|.E 0 2 [1] (nI (c.length:Int)) [oC 0 [(iN d),(.gl 1 4 0 (set b c.length (ONode.mk a.op a.n (KV.row []) a.pats)).length false),(iI e),(iI f)],oL 1 4 (map ONode.av (set b c.length (ONode.mk a.op a.n (KV.row []) a.pats)))] 2
def bA5:=fun a b c d e f g i j k l m n o=>aXB a b c d e f g i|>.t l j m n k o ⟨(aG _ (fun _=>bG _) _),trivial⟩
def bA6:=fun b c d e f g i j k l a m=>aXB b c d e f g i j|>.f l k a ⟨a,m⟩ ⟨(aG _ (fun _=>bG _) _),trivial⟩
def aXC(f:List Node)(g i:List Int)(d:List ONode)(n:Int)(k:List Int)(l:Int)(b:List ONode)(c:List Int)(e:Value)(j:Int):=tT 1 (aDH f g i d n k l b c e j)<|gd 5 14 (j<l) (gX aY 6 k j<|fun a=>.y fun m:List Node=>gk 7 (.enter 136 [(.ptr 0 0),(nI a)]) [oC 0 [(iN f),(.gl 1 4 0 b.length false),(iI g),(iI i)],oL 1 4 (map ONode.av b),(2,(.lstv e 1 (jI c)),true)] 3 (nI (b.length:Int)) [oC 0 [(iN f),(.gl 3 4 0 (b++map Node.o m).length false),(iI g),(iI i)],(2,(.lstv e 1 (jI c)),true),oL 3 4 (map ONode.av (b++map Node.o m))] 4<|.W 2 4 [3,2] (aXx f g i d n (b.length:Int) k l (b++map Node.o m) c e j))<|.y fun a:ONode=>.i [rn 11,.vfrz 2 1 (map ONode.av (set b d.length (ONode.mk a.op a.n (KV.row c) a.pats)))] [.a (b[d.length]?=some a) (p':=(map ONode.av b) ≠ []) aKy,hk aY c,.a (b[d.length]?=some a∧a.kv=KV.val e) (p':=VQ e 1 (jI c) (map ONode.av b) (map ONode.av (set b d.length (ONode.mk a.op a.n (KV.row c) a.pats)))) fun⟨ha,hb⟩=>(aVC ha hb)]<|.i [.cset 0 1 (.gl 1 4 0 (set b d.length (ONode.mk a.op a.n (KV.row c) a.pats)).length false)] [.q (p:=(AV.gl 1 4 0 b.length false) = (.gl 1 4 0 (set b d.length (ONode.mk a.op a.n (KV.row c) a.pats)).length false)) (bD (length_set ..).symm)]<|.E 0 3 [1] (nI (d.length:Int)) [oC 0 [(iN f),(.gl 1 4 0 (set b d.length (ONode.mk a.op a.n (KV.row c) a.pats)).length false),(iI g),(iI i)],oL 1 4 (map ONode.av (set b d.length (ONode.mk a.op a.n (KV.row c) a.pats)))] 2
def bA7:=fun a b c d e f g i j k l m n o p q r=>aXC a b c d e f g i j k l|>.t o m p q n r ⟨(aG _ (fun _=>bG _) _),⟨kk,trivial⟩⟩
def bA8:=fun b c d e f g i j k l m n o a p=>aXC b c d e f g i j k l m|>.f o n a ⟨a,p⟩ ⟨(aG _ (fun _=>bG _) _),trivial⟩
theorem bA9 (fr:List Node)(fs cs:List Int)(L:List ONode)(at0 n10:Int)(w6:List Int)(t12:Int)(l1:List ONode)(ix:Nat)(t6 q8:Int)(t3:List Pat)(h0:0≤ ((L.length:Nat) :Int))(h1: ((L.length:Nat) :Int) < ((l1.length:Nat) :Int))(h2: ((L.length:Nat) :Int).toNat=ix)(h3:ix<length l1)(h4:length (([] :List Int) ++ [n10]) ≤1000000){res:Res}{h':Hp}(hk:∀ua un uc,Ends PP 1 (let u:=Value.slice ua un uc; (aDH fr fs cs L at0 w6 t12 (set l1 ix (ONode.mk t6 q8 (KV.val u) t3)) (([] :List Int) ++ [n10]) u 1)).as res h') :
  Ends PP 1 (aR8 fr fs cs L at0 n10 w6 t12 l1 ix t6 q8 t3).as res h':=
 aGX (n1:=5) (t:=fun u=> (aDH fr fs cs L at0 w6 t12 (set l1 ix (ONode.mk t6 q8 (KV.val u) t3)) (([] :List Int) ++ [n10]) u 1)) (k:=1) (b:=4) (i:=ix) (o:=2) (ys:=fun u=> (map ONode.av (set l1 ix (ONode.mk t6 q8 (KV.val u) t3)))) (ks:=[1,4]) (ps:=fun u=>[NQ (set (map ONode.av l1) ix (.agg [(nI t6),(nI q8),(.gl 4 1 0 (([] :List Int) ++ [n10]).length false),(iP t3)])) ix 2 4 1 (jI (([] :List Int) ++ [n10])).length u (map ONode.av (set l1 ix (ONode.mk t6 q8 (KV.val u) t3))),0≤ ((L.length:Nat) :Int),((L.length:Nat) :Int) < ((l1.length:Nat) :Int),(set (map ONode.av l1) ix (.agg [(nI t6),(nI q8),(.gl 2 1 0 ([] :List Int).length false),(iP t3)]))[(0+ ((L.length:Nat) :Int).toNat)]?=some (.agg [(nI t6),(nI q8),(.gl 2 1 0 ([] :List Int).length false),(iP t3)]),0+ ([] :List Int).length≤length (jI ([] :List Int)),length (([] :List Int) ++ [n10]) ≤1000000,take ([] :List Int).length (drop 0 (jI ([] :List Int))) ++ (jI [n10]) = (jI (([] :List Int) ++ [n10])),([] :List Int).length+length (jI [n10]) =length (([] :List Int) ++ [n10]),0≤ ((L.length:Nat) :Int),((L.length:Nat) :Int) < ((l1.length:Nat) :Int),(set (map ONode.av l1) ix (.agg [(nI t6),(nI q8),(.gl 2 1 0 ([] :List Int).length false),(iP t3)]))[(0+ ((L.length:Nat) :Int).toNat)]?=some (.agg [(nI t6),(nI q8),(.gl 2 1 0 ([] :List Int).length false),(iP t3)]),qX (.agg [(nI t6),(nI q8),(.gl 2 1 0 ([] :List Int).length false),(iP t3)]) 2 [(.gl 4 1 0 (([] :List Int) ++ [n10]).length false)] =some (.agg [(nI t6),(nI q8),(.gl 4 1 0 (([] :List Int) ++ [n10]).length false),(iP t3)]),(AV.gl 1 4 0 l1.length false) = (AV.gl 1 4 0 l1.length false),(AV.gl 1 4 0 l1.length false) = (AV.gl 1 4 0 l1.length false),(set (map ONode.av l1) ix (.agg [(nI t6),(nI q8),(.gl 2 1 0 ([] :List Int).length false),(iP t3)])).set (0+ ((L.length:Nat) :Int).toNat) (.agg [(nI t6),(nI q8),(.gl 4 1 0 (([] :List Int) ++ [n10]).length false),(iP t3)]) = (set (map ONode.av l1) ix (.agg [(nI t6),(nI q8),(.gl 4 1 0 (([] :List Int) ++ [n10]).length false),(iP t3)])),(AV.gl 1 4 0 l1.length false) = (.gl 1 4 0 (set l1 ix (ONode.mk t6 q8 (KV.val u) t3)).length false),(AV.gl 1 4 0 l1.length false) = (.gl 1 4 0 (set l1 ix (ONode.mk t6 q8 (KV.val u) t3)).length false),(AV.gl 1 4 0 l1.length false) = (.gl 1 4 0 (set l1 ix (ONode.mk t6 q8 (KV.val u) t3)).length false)]) (is:=[.reg [.d,.d,.d,.d,.d,.d,.d,.d,.d,.d,.ans (.ix),.d,.ans (.idx (.agg [(nI t6),(nI q8),(.gl 2 1 0 ([] :List Int).length false),(iP t3)])),.d,.d,.app (jI (([] :List Int) ++ [n10])) (([] :List Int) ++ [n10]).length,.ans (.ix),.d,.st (.agg [(nI t6),(nI q8),(.gl 2 1 0 ([] :List Int).length false),(iP t3)]) (.agg [(nI t6),(nI q8),(.gl 4 1 0 (([] :List Int) ++ [n10]).length false),(iP t3)])],.lset 1 (set (map ONode.av l1) ix (.agg [(nI t6),(nI q8),(.gl 4 1 0 (([] :List Int) ++ [n10]).length false),(iP t3)])),.run 1]) (is2:=fun u=>[.set 23 (.gl 1 4 0 (set l1 ix (ONode.mk t6 q8 (KV.val u) t3)).length false),.set 28 (.gl 1 4 0 (set l1 ix (ONode.mk t6 q8 (KV.val u) t3)).length false),.cset 0 1 (.gl 1 4 0 (set l1 ix (ONode.mk t6 q8 (KV.val u) t3)).length false),.run 5]) (fun u=>by kernel_rfl) (fun u=>by kernel_rfl) (fun u=> ⟨(aG _ (fun _=>bG _) _),⟨(aG _ (fun _=>rfl) _),trivial⟩⟩) (fun u=> ⟨(bEt [(nI t6),(nI q8)] [(iP t3)] h3 (length_map ..) (by simp) rfl),h0,h1,(aLo h2 h3),(aKr _ _),h4,(aKs _ _ _),(aKt _ _ _),h0,h1,(aLo h2 h3),rfl,rfl,rfl,(aXs h2),(bD (length_set ..).symm),(bD (length_set ..).symm),(bD (length_set ..).symm)⟩) hk
theorem bBa (fr:List Node)(fs cs:List Int)(L:List ONode)(at0 n10:Int)(w6:List Int)(t12:Int)(l1:List ONode)(k2:List Int)(t13:Int)(ix:Nat)(t6 q8:Int)(t3:List Pat)(h0:0≤ ((L.length:Nat) :Int))(h1: ((L.length:Nat) :Int) < ((l1.length:Nat) :Int))(h2: ((L.length:Nat) :Int).toNat=ix)(h3:ix<length l1)(h4:length (k2++ [n10]) ≤1000000)(h5: (IntKind.i64.wrap (t13+ (1:Int))) = (t13+ (1:Int))){res:Res}{h':Hp}(hk:∀ua un uc,Ends PP 1 (let u:=Value.slice ua un uc; (aDH fr fs cs L at0 w6 t12 (set l1 ix (ONode.mk t6 q8 (KV.val u) t3)) (k2++ [n10]) u (t13+ (1:Int)))).as res h') :
  Ends PP 1 (aR9 fr fs cs L at0 n10 w6 t12 l1 k2 t13 ix t6 q8 t3).as res h':=
 aGX (n1:=5) (t:=fun u=> (aDH fr fs cs L at0 w6 t12 (set l1 ix (ONode.mk t6 q8 (KV.val u) t3)) (k2++ [n10]) u (t13+ (1:Int)))) (k:=1) (b:=4) (i:=ix) (o:=2) (ys:=fun u=> (map ONode.av (set l1 ix (ONode.mk t6 q8 (KV.val u) t3)))) (ks:=[1,4]) (ps:=fun u=>[NQ (set (map ONode.av l1) ix (.agg [(nI t6),(nI q8),(.gl 4 1 0 (k2++ [n10]).length false),(iP t3)])) ix 2 4 1 (jI (k2++ [n10])).length u (map ONode.av (set l1 ix (ONode.mk t6 q8 (KV.val u) t3))),0≤ ((L.length:Nat) :Int),((L.length:Nat) :Int) < ((l1.length:Nat) :Int),(set (map ONode.av l1) ix (.agg [(nI t6),(nI q8),(.gl 2 1 0 k2.length false),(iP t3)]))[(0+ ((L.length:Nat) :Int).toNat)]?=some (.agg [(nI t6),(nI q8),(.gl 2 1 0 k2.length false),(iP t3)]),0+k2.length≤length (jI k2),length (k2++ [n10]) ≤1000000,take k2.length (drop 0 (jI k2)) ++ (jI [n10]) = (jI (k2++ [n10])),k2.length+length (jI [n10]) =length (k2++ [n10]),0≤ ((L.length:Nat) :Int),((L.length:Nat) :Int) < ((l1.length:Nat) :Int),(set (map ONode.av l1) ix (.agg [(nI t6),(nI q8),(.gl 2 1 0 k2.length false),(iP t3)]))[(0+ ((L.length:Nat) :Int).toNat)]?=some (.agg [(nI t6),(nI q8),(.gl 2 1 0 k2.length false),(iP t3)]),qX (.agg [(nI t6),(nI q8),(.gl 2 1 0 k2.length false),(iP t3)]) 2 [(.gl 4 1 0 (k2++ [n10]).length false)] =some (.agg [(nI t6),(nI q8),(.gl 4 1 0 (k2++ [n10]).length false),(iP t3)]),(AV.gl 1 4 0 l1.length false) = (AV.gl 1 4 0 l1.length false),(AV.gl 1 4 0 l1.length false) = (AV.gl 1 4 0 l1.length false),(set (map ONode.av l1) ix (.agg [(nI t6),(nI q8),(.gl 2 1 0 k2.length false),(iP t3)])).set (0+ ((L.length:Nat) :Int).toNat) (.agg [(nI t6),(nI q8),(.gl 4 1 0 (k2++ [n10]).length false),(iP t3)]) = (set (map ONode.av l1) ix (.agg [(nI t6),(nI q8),(.gl 4 1 0 (k2++ [n10]).length false),(iP t3)])),(AV.gl 1 4 0 l1.length false) = (.gl 1 4 0 (set l1 ix (ONode.mk t6 q8 (KV.val u) t3)).length false),(AV.gl 1 4 0 l1.length false) = (.gl 1 4 0 (set l1 ix (ONode.mk t6 q8 (KV.val u) t3)).length false),(AV.gl 1 4 0 l1.length false) = (.gl 1 4 0 (set l1 ix (ONode.mk t6 q8 (KV.val u) t3)).length false),(nI (IntKind.i64.wrap (t13+ (1:Int)))) = (nI (t13+ (1:Int)))]) (is:=[.reg [.d,.d,.d,.d,.d,.d,.d,.d,.d,.d,.ans (.ix),.d,.ans (.idx (.agg [(nI t6),(nI q8),(.gl 2 1 0 k2.length false),(iP t3)])),.d,.d,.app (jI (k2++ [n10])) (k2++ [n10]).length,.ans (.ix),.d,.st (.agg [(nI t6),(nI q8),(.gl 2 1 0 k2.length false),(iP t3)]) (.agg [(nI t6),(nI q8),(.gl 4 1 0 (k2++ [n10]).length false),(iP t3)])],.lset 1 (set (map ONode.av l1) ix (.agg [(nI t6),(nI q8),(.gl 4 1 0 (k2++ [n10]).length false),(iP t3)])),.run 1]) (is2:=fun u=>[.set 23 (.gl 1 4 0 (set l1 ix (ONode.mk t6 q8 (KV.val u) t3)).length false),.set 28 (.gl 1 4 0 (set l1 ix (ONode.mk t6 q8 (KV.val u) t3)).length false),.cset 0 1 (.gl 1 4 0 (set l1 ix (ONode.mk t6 q8 (KV.val u) t3)).length false),.run 2,.set 38 (nI (t13+ (1:Int))),.run 3]) (fun u=>by kernel_rfl) (fun u=>by kernel_rfl) (fun u=> ⟨(aG _ (fun _=>bG _) _),⟨(aG _ (fun _=>rfl) _),trivial⟩⟩) (fun u=> ⟨(bEt [(nI t6),(nI q8)] [(iP t3)] h3 (length_map ..) (by simp) rfl),h0,h1,(aLo h2 h3),(aKr _ _),h4,(aKs _ _ _),(aKt _ _ _),h0,h1,(aLo h2 h3),rfl,rfl,rfl,(aXs h2),(bD (length_set ..).symm),(bD (length_set ..).symm),(bD (length_set ..).symm),(congrArg (AV.int .i64) h5)⟩) hk
abbrev MC (fr:List Node)(fs cs:List Int)(b n:Nat) :AObj:=.cells (putCells .leaf 0 [.ilst 4 (map Node.av fr) false,.gl b 4 0 n false,.ilst 1 (map aY fs) false,.ilst 1 (map aY cs) false]) 4 [] false
abbrev MHp (fr:List Node)(fs cs:List Int)(L:List ONode) :List (Nat×AObj×Bool) :=[(0,MC fr fs cs 1 (length L),false),(1,OL L,true)]
abbrev PtC (f n:Int)(s:aB)(ps:List Pat) :AObj:=.cells (putCells .leaf 0 [.int .i64 f,.int .i64 n,aH s,.ilst 4 (av ps) false]) 4 [] false
abbrev bGB (f v:Int)(b n:Nat) :AObj:=.cells (putCells .leaf 0 [.int .i64 f,.int .i64 v,.str 0 0,.gl b 4 0 n false]) 4 [] false
abbrev XC (o v:Int)(b n:Nat) :AObj:=.cells (putCells .leaf 0 [.int .i64 o,.int .i64 v,.nils,.gl b 4 0 n false]) 4 [] false
abbrev ZPt :AObj:=.cells (putCells .leaf 0 [.int .i64 0,.int .i64 0,.str 0 0,.nils]) 4 [] false
def MPS (fr:List Node)(fs cs:List Int)(L:List ONode)(p:Pat) :Prop:=∀p',aXo p=true→aGu cs p=some p'→Spec PP (.enter 183 [.ptr 0 0,Pat.av p]) (aD (MHp fr fs cs L) 2) (.ret (Pat.av p')) (aD (MHp fr fs cs L) 2)
section
variable (fr :List Node) (fs cs:List Int) (L:List ONode)
theorem aN9 (f n:Int)(s:aB)(ps:List Pat)(v:Int)(hpl:ps.length<1000000)(ih:∀p∈ps,MPS fr fs cs L p) :∀ (t:List Pat) (i:Nat) (acc t':List Pat),ps.drop i=t→acc.length=i→rQ t=true→mC cs t=some t' →
  Ends PP 2 (aGY fr fs cs L f n s ps v (i:Int) acc).as (.ret (.agg [.int .i64 f,.int .i64 v,.str 0 0,.ilst 4 (av (acc++t')) false])) (aD (MHp fr fs cs L) 2)
 | [],i,acc,t',h,ha,hn,ht=>by
  have:=bA h;cases ht;rw [append_nil];exact bAY fr fs cs L f n s ps v i acc sd
 | .mk f1 n1 s1 ps1::t,i,acc,t',h,ha,hn,ht=>by
  obtain⟨g1,g2,g3⟩ :=aZ h;have hi:= (List.getElem?_eq_some_iff.1 g1).1;rw [rQ,and_eq_true]at hn;simp only [mC]at ht;split at ht
  · rename_i p' hp';split at ht
    · rename_i t1 ht1;cases ht;obtain⟨f2,n2,s2,ps2⟩ :=p';have hs:=ih (.mk f1 n1 s1 ps1) (mem_of_getElem? g1) _ hn.1 hp'
      have hs':=aCs (ks:=[0,1]) (n2:=7) (args':=[.ptr 0 0,Pat.av (.mk f1 n1 s1 ps1)])
       (lc:=[(0,MC fr fs cs 1 (length L),false),(1,OL L,true),(2,ZPt,false),(3,bGB f v 4 (length acc),false),(4,.lst 4 (av acc),true),(5,PtC f1 n1 s1 ps1,false)])
       (lc':=[(0,MC fr fs cs 1 (length L),false),(1,OL L,true),(2,ZPt,false),(3,bGB f v 4 (length acc),false),(4,.lst 4 (av acc),true),(5,PtC f1 n1 s1 ps1,false)])
       hs (by kernel_rfl) (bEv _) (by kernel_rfl) (by kernel_rfl) ⟨xA L,trivial⟩ (by kernel_rfl) ⟨xA L,trivial⟩
      refine(bAX fr fs cs L f n s ps v i acc f1 n1 s1 ps1 f2 n2 s2 ps2 sd sd sd hs' (by simp;omega) sd).ends ?_;have:=aN9 f n s ps v hpl ih t (i+1) (acc++ [.mk f2 n2 s2 ps2]) t1 g2 (by simp [ha]) hn.2 ht1;rw [append_assoc]at this;exact this
    ·cases ht
  ·cases ht
mutual
theorem aXD :∀ (p:Pat),cU p<1000000→MPS fr fs cs L p
 | .mk f n s ps,h,p',hn,hp'=>by
  simp only [cU]at h;have:=iW ps;refine⟨(aXu fr fs cs L f n s ps).as.fr,by kernel_rfl,?_⟩;rw [aXo,and_eq_true,decide_eq_true_eq]at hn;simp only [aGu]at hp';split at hp'
  · rename_i n' hn';split at hp'
    · rename_i ps' hps';cases hp';have hloop:=aN9 fr fs cs L f n s ps n' (by omega) (aLt ps (by omega)) ps 0 [] ps' rfl rfl hn.2 hps';rw [nil_append]at hloop;have E:Ends PP 2 (aXu fr fs cs L f n s ps).as (.ret (Pat.av (.mk f n' s ps'))) (aD (MHp fr fs cs L) 2) :=by
       rw [hn.1]at hloop ⊢;unfold aGt at hn';split at hn'
       · rename_i hf;split at hn'
         · rename_i h0;exact(bAV fr fs cs L f n [] ps n' (by simp [hf]) h0 hn').ends hloop
         ·cases hn'
       · rename_i hf;cases hn';exact(bAW fr fs cs L f n [] ps (by simp [hf])).ends hloop
      exact mp (by kernel_rfl) E
    ·cases hp'
  ·cases hp'
theorem aLt :∀ (ps:List Pat),bH ps<1000000→∀p∈ps,MPS fr fs cs L p
 | [],_,p,hp=>by cases hp
 | q::ps,h,p,hp=>by
  simp only [bH]at h;rcases List.mem_cons.1 hp with e|hp
  ·rw [e];exact aXD q (by omega)
  ·exact aLt ps (by omega) p hp
end
end
def MNS (p:Prog)(fs cs:List Int)(at0:Int)(L:List ONode)(ns:List Node) :Prop:=
 aF2 PP 1 (.enter 136 [.ptr 0 0,.int .i64 at0]) (aD (MHp p.nodes fs cs L) 2) (.ret (.int .i64 ((length L:Nat) :Int))) (aD (MHp p.nodes fs cs (L++map Node.o ns)) 2)
def aXE (p:Prog)(fs cs:List Int)(L:List ONode)(s:TS)(ns:List Node) :Prop:=Ends PP 1 s.as (.ret (.int .i64 ((length L:Nat) :Int))) (aD (MHp p.nodes fs cs (L++map Node.o ns)) 2)
section
variable (p :Prog) (fs cs:List Int) (L:List ONode) (at0:Int)
theorem aOa (x:Node)(v:Int)(hps:bH x.pats<1000000)(hl:L.length<1000000) :∀ (t:List Pat) (i:Nat) (acc t':List Pat),x.pats.drop i=t→acc.length=i→rQ t=true→mC cs t=some t' →
  LeadsM PP 1 (zL p.nodes fs cs L at0 x.pats ((length x.pats:Nat) :Int) x.op x.n x.kids x.pats x.op v (i:Int) acc).as (aLr p.nodes fs cs L at0 x.kids ((length x.kids:Nat) :Int) (L++ [⟨x.op,v,.nil,acc++t'⟩])).as
 | [],i,acc,t',h,ha,hn,ht=>by
  have:=bA h;cases ht;rw [append_nil];exact bA4 p.nodes fs cs L at0 x.pats _ x.op x.n x.kids x.pats x.op v i acc sd (by simp;omega)
 | .mk f1 n1 s1 ps1::t,i,acc,t',h,ha,hn,ht=>by
  obtain⟨g1,g2,g3⟩ :=aZ h;have hi:= (List.getElem?_eq_some_iff.1 g1).1;have:=iW x.pats;rw [rQ,and_eq_true]at hn;simp only [mC]at ht;split at ht
  · rename_i p' hp';split at ht
    · rename_i t1 ht1;cases ht;obtain⟨f2,n2,s2,ps2⟩ :=p';have hs:=aLt p.nodes fs cs L x.pats hps (.mk f1 n1 s1 ps1) (mem_of_getElem? g1) _ hn.1 hp'
      have hs':=aCs (ks:=[0,3]) (n2:=7) (args':=[.ptr 0 0,Pat.av (.mk f1 n1 s1 ps1)])
       (lc:=[(0,MC p.nodes fs cs 3 (length L),false),(1,aBa x,false),(2,XC x.op v 4 (length acc),false),(3,OL L,true),(4,.lst 4 (av acc),true),(5,PtC f1 n1 s1 ps1,false)])
       (lc':=[(0,MC p.nodes fs cs 3 (length L),false),(1,aBa x,false),(2,XC x.op v 4 (length acc),false),(3,OL L,true),(4,.lst 4 (av acc),true),(5,PtC f1 n1 s1 ps1,false)])
       hs (by kernel_rfl) (bEv _) (by kernel_rfl) (by kernel_rfl) ⟨xA L,trivial⟩ (by kernel_rfl) ⟨xA L,trivial⟩
      have h1:=bA3 p.nodes fs cs L at0 x.pats ((length x.pats:Nat) :Int) x.op x.n x.kids x.pats x.op v i acc f1 n1 s1 ps1 f2 n2 s2 ps2 sd sd sd hs' (by simp;omega) sd;have:=aOa x v hps hl t (i+1) (acc++ [.mk f2 n2 s2 ps2]) t1 g2 (by simp [ha]) hn.2 ht1;rw [append_assoc]at this;exact h1.trans this
    ·cases ht
  ·cases ht
theorem aUr (n10:Int)(ks:List Int)(t12:Int)(l:List ONode){ix:Nat}{a b:Int}{P:List Pat}(h:l[ix]?=some ⟨a,b,.nil,P⟩) :LeadsM PP 1 (aXw p.nodes fs cs L at0 n10 ks t12 l).as (aR8 p.nodes fs cs L at0 n10 ks t12 l ix a b P).as:=
 bFA (k:=1) (e0:=4) (e:=1) (by kernel_rfl) (by kernel_rfl) (bEu (f:=ONode.av) [.int .i64 a,.int .i64 b] [.ilst 4 (av P) false] h rfl) (by kernel_rfl)
theorem aUs (n10:Int)(ks:List Int)(t12:Int)(l:List ONode)(k2:List Int)(w:Value)(i:Int){ix:Nat}{a b:Int}{P:List Pat}(h:l[ix]?=some ⟨a,b,.val w,P⟩) :LeadsM PP 1 (aXx p.nodes fs cs L at0 n10 ks t12 l k2 w i).as (aR9 p.nodes fs cs L at0 n10 ks t12 l k2 i ix a b P).as:=
 bAT (k:=1) (b:=2) (e0:=4) (e:=1) (u:=w) (xs:=map aY k2) (n:=length k2) (by kernel_rfl) (by kernel_rfl) (by decide) (length_map ..) (bEu (f:=ONode.av) [.int .i64 a,.int .i64 b] [.ilst 4 (av P) false] h rfl) (by kernel_rfl)
variable (k :Nat) (ih:∀ (M:List ONode) (c:Int) (ns:List Node),dA p fs cs k M.length c=some ns→MNS p fs cs c M ns) (x:Node) (v:Int) (P:List Pat) (hk:x.kids.length<1000000)
include ih hk
theorem aOb :∀ (ts:List Int) (i:Nat) (w:Value) (r0:List Node) (k2 ks:List Int) (r:List Node),x.kids.drop i=ts→k2.length=i→jD (dA p fs cs k) (L.length+1+r0.length) ts=some (ks,r) →
  aXE p fs cs L (aDH p.nodes fs cs L at0 x.kids ((length x.kids:Nat) :Int) (L++ ⟨x.op,v,.val w,P⟩ ::map Node.o r0) k2 w (i:Int)) (⟨x.op,v,k2++ks,P⟩ :: (r0++r))
 | [],i,w,r0,k2,ks,r,h,hl,hm=>by
  have:=bA h;cases hm;have h1:=bA8 p.nodes fs cs L at0 x.kids ((length x.kids:Nat) :Int) (L++ ⟨x.op,v,.val w,P⟩ ::map Node.o r0) k2 w i ⟨x.op,v,.val w,P⟩ sd (tB ..) rfl;rw [tC]at h1;rw [append_nil,append_nil];exact h1
 | c :: ts,i,w,r0,k2,ks,r,h,hl,hm=>by
  obtain⟨g1,g2,g3⟩ :=aZ h;have hi:= (List.getElem?_eq_some_iff.1 g1).1;simp only [jD]at hm;split at hm
  · rename_i ns hns;split at hm
    · rename_i ks1 r1 hm1;cases hm;have hlen: (L++ (⟨x.op,v,.val w,P⟩ :ONode) ::map Node.o r0).length=L.length+1+r0.length:=by simp;omega
      have hs:=ih (L++ ⟨x.op,v,.val w,P⟩ ::map Node.o r0) c ns (by rw [hlen];exact hns);unfold MNS at hs
      have hs':=mW (m:=1) (ks:=[0,1]) (n2:=3) (n3:=4) (v':=.int .i64 ((length (L++ (⟨x.op,v,.val w,P⟩ :ONode) ::map Node.o r0) :Nat) :Int)) (args':=[.ptr 0 0,.int .i64 c])
       (lc:=[(0,MC p.nodes fs cs 1 (length (L++ (⟨x.op,v,.val w,P⟩ :ONode) ::map Node.o r0)),false),(1,OL (L++ ⟨x.op,v,.val w,P⟩ ::map Node.o r0),true),(2,.lstv w 1 (map aY k2),true)])
       (lc':=[(0,MC p.nodes fs cs 3 (length ((L++ (⟨x.op,v,.val w,P⟩ :ONode) ::map Node.o r0) ++map Node.o ns)),false),(2,.lstv w 1 (map aY k2),true),(3,OL ((L++ ⟨x.op,v,.val w,P⟩ ::map Node.o r0) ++map Node.o ns),true)])
       hs (by rfl) (by rfl) (by kernel_rfl) (by rfl) (by rfl) (by kernel_rfl) (by kernel_rfl) ⟨xA _,trivial⟩ (by kernel_rfl) ⟨xA _,trivial⟩
      have h0:=bA7 p.nodes fs cs L at0 x.kids ((length x.kids:Nat) :Int) (L++ ⟨x.op,v,.val w,P⟩ ::map Node.o r0) k2 w i c ns sd sd sd hs';have e2: (L++ (⟨x.op,v,.val w,P⟩ :ONode) ::map Node.o r0) ++map Node.o ns=L++ ⟨x.op,v,.val w,P⟩ ::map Node.o (r0++ns) :=by simp
      rw [e2,hlen]at h0;refine(h0.trans (aUs p fs cs L at0 _ _ _ _ k2 w i (tB L _ _))).ends ?_;refine bBa p.nodes fs cs L at0 _ x.kids _ _ k2 i (length L) x.op v P (by omega) (by simp;omega) (by omega) (by simp) (by simp;omega) sd (fun ua un uc=>?_);have:=aOb ts (i+1) (.slice ua un uc) (r0++ns) (k2++ [((L.length+1+r0.length:Nat) :Int)]) ks1 r1 g2 (by simp [hl]) (by rw [length_append,←Nat.add_assoc];exact hm1);dsimp only;rw [tC];simp only [append_assoc,List.singleton_append]at this ⊢;exact this
    ·cases hm
  ·cases hm
theorem aXF (ks:List Int)(r:List Node)(hm:jD (dA p fs cs k) (L.length+1) x.kids=some (ks,r)) :
  aXE p fs cs L (aLr p.nodes fs cs L at0 x.kids ((length x.kids:Nat) :Int) (L++ [⟨x.op,v,.nil,P⟩])) (⟨x.op,v,ks,P⟩ ::r) :=by
 cases hx:x.kids with
 | nil=>
  rw [hx]at hm;cases hm;have h1:=bA6 p.nodes fs cs L at0 [] ((length ([] :List Int) :Nat) :Int) (L++ [⟨x.op,v,.nil,P⟩]) ⟨x.op,v,.nil,P⟩ (by simp) (tB ..) rfl;rw [tC]at h1;exact h1
 | cons c ts=>
  have hm0:=hm;rw [hx]at hm;simp only [jD]at hm;split at hm
  · rename_i ns hns;split at hm
    · rename_i ks1 r1 hm1;cases hm;have hlen: (L++ [(⟨x.op,v,.nil,P⟩ :ONode)]).length=L.length+1:=by simp
      have hs:=ih (L++ [⟨x.op,v,.nil,P⟩]) c ns (by rw [hlen];exact hns);unfold MNS at hs
      have hs':=mW (m:=1) (ks:=[0,1]) (n2:=2) (n3:=3) (v':=.int .i64 ((length (L++ [(⟨x.op,v,.nil,P⟩ :ONode)]) :Nat) :Int)) (args':=[.ptr 0 0,.int .i64 c])
       (lc:=[(0,MC p.nodes fs cs 1 (length (L++ [(⟨x.op,v,.nil,P⟩ :ONode)])),false),(1,OL (L++ [⟨x.op,v,.nil,P⟩]),true)])
       (lc':=[(0,MC p.nodes fs cs 2 (length ((L++ [(⟨x.op,v,.nil,P⟩ :ONode)]) ++map Node.o ns)),false),(2,OL ((L++ [⟨x.op,v,.nil,P⟩]) ++map Node.o ns),true)])
       hs (by rfl) (by rfl) (by kernel_rfl) (by rfl) (by rfl) (by kernel_rfl) (by kernel_rfl) ⟨xA _,trivial⟩ (by kernel_rfl) ⟨xA _,trivial⟩
      have h0:=bA5 p.nodes fs cs L at0 x.kids ((length x.kids:Nat) :Int) (L++ [(⟨x.op,v,.nil,P⟩ :ONode)]) c ns (by rw [hx];simp) (by omega) (by rw [hx];rfl) hs';have e2: (L++ [(⟨x.op,v,.nil,P⟩ :ONode)]) ++map Node.o ns=L++ ⟨x.op,v,.nil,P⟩ ::map Node.o ns:=by simp
      rw [e2,hlen]at h0;rw [hx]at h0;refine(h0.trans (aUr p fs cs L at0 _ _ _ _ (tB L _ _))).ends ?_;refine bA9 p.nodes fs cs L at0 _ (c::ts) _ _ (length L) x.op v P (by omega) (by simp;omega) (by omega) (by simp) (by simp) (fun ua un uc=>?_);have:=aOb p fs cs L at0 k ih x v P hk ts 1 (.slice ua un uc) ns [((L.length+1:Nat) :Int)] ks1 r1 (by rw [hx];rfl) rfl hm1;rw [hx]at this;dsimp only;rw [tC];exact this
    ·cases hm
  ·cases hm
end
theorem mNd_spec (p :Prog)(fs cs:List Int)(hT:∀x∈p.nodes,rQ x.pats=true) :∀ (k:Nat) (L:List ONode) (at0:Int) (ns:List Node),dA p fs cs k L.length at0=some ns→MNS p fs cs at0 L ns
 |0,L,at0,ns,h=>by cases h
 | k+1, L, at0, ns, h=>by
  simp only [dA]at h;split at h
  · rename_i hh;obtain⟨hat,hlen⟩ :=hh;split at h
    · rename_i y hy;split at h
      · rename_i hb;split at h
        · rename_i n' hn';split at h
          · rename_i ps' hps';split at h
            · rename_i ks r hks;cases h;have hC:= (aOa p fs cs L at0 y n' hb.2 hlen y.pats 0 [] ps' rfl rfl (hT y (mem_of_getElem? hy)) hps').ends (aXF p fs cs L at0 k (mNd_spec p fs cs hT k) y n' ps' hb.1 ks r hks)
              suffices hh:aXE p fs cs L (aXv p.nodes fs cs L at0) (⟨y.op,n',ks,ps'⟩ ::r)from⟨(aXv p.nodes fs cs L at0).as.fr,by kernel_rfl,mp (by kernel_rfl) hh⟩
              unfold mN at hn';split at hn'
              · rename_i h4;split at hn'
                · rename_i g hg;split at hn'
                  · rename_i hr;cases hn';have w1:IntKind.i64.wrap (-1-y.n) = -1-y.n:=aK0 (by omega) (by omega);have w2:IntKind.i64.wrap (-1-g) = -1-g:=aK0 (by omega) (by omega);have h0:=bAZ p.nodes fs cs L at0 y g hat hy (by simp [h4.1]) (by simp [h4.2]) (by rw [w1];omega) (by rw [w1];exact hg);rw [w2]at h0;exact h0.ends hC
                  ·cases hn'
                ·cases hn'
              · rename_i h4;split at hn'
                · rename_i h14;split at hn'
                  · rename_i h0;exact(bA1 p.nodes fs cs L at0 y n' hat hy (by simp [h14]) (by simp [h14]) h0 hn').ends hC
                  ·cases hn'
                · rename_i h14;cases hn';by_cases ho:y.op=4
                  ·exact(bA0 p.nodes fs cs L at0 y hat hy (by simp [ho]) (by simp;omega) (by simp [ho])).ends hC
                  ·exact(bA2 p.nodes fs cs L at0 y hat hy (by simp [ho]) (by simp [h14])).ends hC
            ·cases h
          ·cases h
        ·cases h
      ·cases h
    ·cases h
  ·cases h
theorem lK (s:aB) :∀ (l:List aB) (i:Nat),dX s l i= -1∨ ((i:Int) ≤dX s l i∧dX s l i<i+l.length∧l[(dX s l i).toNat-i]?=some s)
 | [],i=>.inl rfl
 | x ::l,i=>by
  rw [dX];by_cases e:x=s
  · rw [if_pos e];exact .inr ⟨by omega,by simp;omega,by simp [e]⟩
  · rw [if_neg e];rcases lK s l (i+1)with h| ⟨h1,h2,h3⟩
    ·exact .inl h
    · refine .inr ⟨by omega,by simp;omega,?_⟩;rw [show(dX s l (i+1)).toNat-i= ((dX s l (i+1)).toNat- (i+1)) +1 by omega];simpa using h3
def mE (T ls:List aB)(s:aB) :Int:=if dX s T 0<0 then(T.length:Int) +dX s ls 0 else dX s T 0
theorem aGZ (T ls:List aB)(s:aB) : -1≤mE T ls s∧mE T ls s≤T.length+ls.length:=by
 unfold mE;have h1:=lK s T 0;have h2:=lK s ls 0;split<;>omega
def tM (T ls:List aB)(u:LUnit) :List Int:= (aC u++u.needs).map (mE T ls)
def vV (cs:List Con)(u:LUnit) :List Int:=u.cons.map (fun c=>gI c.name cs 0)
def aG0 (T ls:List aB)(cs:List Con) :List LFun→List Node→List LUnit→Option (List LFun×List Node)
 |fs,ns,[] =>some (fs,ns)
 | fs,ns,u::l=>match jD (dA (nY u) (tM T ls u) (vV cs u) u.nodes.length) ns.length (cI u)with
  |some (ks,r) =>aG0 T ls cs (fs++zipWith LFun.mk (aC u) ks) (ns++r) l
  |none=>none
theorem aDI {g:Nat→Int→Option (List Node)}:∀ {cs:List Int} {len:Nat} {ks:List Int} {r:List Node},jD g len cs=some (ks,r) →ks.length=cs.length
 | [],len,ks,r,h=>by cases h;rfl
 | c ::cs,len,ks,r,h=>by
  rw [jD]at h;split at h
  · split at h
    ·rename_i h1;cases h;rw [length_cons,length_cons,aDI h1]
    ·cases h
  ·cases h
section
variable (nm :aB) (cs:List Con) (ls:List aB) (l:List LUnit) (T:List aB) (hT:T.length≤1000) (hls:ls.length≤1000) (hcs:cs.length≤1000)
include hT hls in
include hcs in
include hT hls hcs in
end
mutual
theorem bBb {cons:List Con}{C:List Int}(hC:C.length=cons.length) :∀ (q:Pat),cM cons q=true→∃q',aGu C q=some q'∧cU q'=cU q
 | .mk f n s ps,h=>by
  rw [cM,and_eq_true]at h;obtain⟨ps',hps,hz⟩ :=aG1 hC ps h.2;have hN:∃n',aGt C f n=some n':=by
   unfold aGt;by_cases hf:f=6
   · subst hf;have hh:=h.1;simp only [cX]at hh;simp [dG]at hh;obtain⟨⟨⟨h0,h1⟩,_⟩,_⟩ :=hh;rw [if_pos rfl,if_pos h0];exact⟨_,getElem?_eq_getElem (by omega)⟩
   ·rw [if_neg hf];exact⟨_,rfl⟩
  obtain⟨n',hn⟩ :=hN;refine⟨.mk f n' [] ps',?_,by rw [cU,cU,hz]⟩;have hs:s= [] :=by have:=h.1;rw [cX,and_eq_true]at this;simpa using this.2
  rw [aGu,hn];simp only;rw [hps,hs]
theorem aG1 {cons:List Con}{C:List Int}(hC:C.length=cons.length) :∀ (ps:List Pat),bX cons ps=true→∃ps',mC C ps=some ps'∧bH ps'=bH ps
 | [],_=> ⟨[],rfl,rfl⟩
 | q::ps,h=>by
  rw [bX,and_eq_true]at h;obtain⟨q',h1,z1⟩ :=bBb hC q h.1;obtain⟨ps',h2,z2⟩ :=aG1 hC ps h.2;refine⟨q'::ps',?_,by rw [bH,bH,z1,z2]⟩;rw [mC,h1];simp only;rw [h2]
end
def aQV (x:Node) :Prop:=x.kids.length≤10∧bH x.pats≤120
theorem aG2 {g:Nat→Int→Option (List Node)}{q:Int→List Int}:∀ (ks:List Int) (len:Nat),
  (∀k∈ks,∀len:Nat,len+ (q k).length≤1000000→∃ns,g len k=some ns∧ns.length= (q k).length∧∀x∈ns,aQV x) →len+ ((ks.map q).flatten).length≤1000000 →
  ∃ks' r,jD g len ks=some (ks',r) ∧r.length= ((ks.map q).flatten).length∧∀x∈r,aQV x
 | [],len,_,_=> ⟨[],[],rfl,rfl,fun x hx=>by cases hx⟩
 | k ::ks,len,hg,hb=>by
  simp only [map_cons,List.flatten_cons,length_append]at hb ⊢;obtain⟨ns,e,hl,hf⟩ :=hg k (mem_cons_self ..) len (by omega);obtain⟨ks',r,e2,hl2,hf2⟩ :=aG2 ks (len+ns.length) (fun c hc=>hg c (mem_cons_of_mem _ hc)) (by omega);refine⟨(len:Int) ::ks',ns++r,?_,by rw [length_append];omega,fun x hx=>?_⟩
  · rw [jD,e];simp only;rw [e2]
  · rcases List.mem_append.1 hx with h|h
    ·exact hf x h
    ·exact hf2 x h
structure MovN (p:Prog) (F C:List Int) (i:Nat) (x:Node) :Prop where
 kl:x.kids.length≤10
 kids:∀k∈x.kids,(i:Int) <k∧k<p.nodes.length
 ps:bH x.pats≤120
 n:∃n',mN F C x.op x.n=some n'
 pats:∃ps',mC C x.pats=some ps'∧bH ps'=bH x.pats
theorem aJb {p:Prog}{F C:List Int}(hN:∀ (i:Nat) (x:Node),p.nodes[i]?=some x→MovN p F C i x) :∀ (k:Nat) (a:Int) (len:Nat),0≤a→a<p.nodes.length→p.nodes.length-a.toNat≤k→len+ (pre p k a).length≤1000000 →
  ∃ns,dA p F C k len a=some ns∧ns.length= (pre p k a).length∧∀x∈ns,aQV x
 |0,a,len,ha,hn,hf,_=>by omega
 | k + 1,a,len,ha,hn,hf,hb=>by
  obtain⟨x,hx⟩ :∃x,p.nodes[a.toNat]?=some x:= ⟨_,getElem?_eq_getElem (by omega)⟩;have hm:=hN _ _ hx;have e:pre p (k+1) a=a:: (x.kids.map (pre p k)).flatten:=by rw [pre,hx]
  rw [e]at hb ⊢;simp only [length_cons]at hb ⊢
  obtain⟨ks,r,e1,e2,e3⟩ :=aG2 (g:=dA p F C k) (q:=pre p k) x.kids (len+1) (fun c hc len h1=>by
   have:=hm.kids c hc;exact aJb hN k c len (by omega) (by omega) (by omega) h1) (by omega)
  obtain⟨n',hn'⟩ :=hm.n;obtain⟨ps',hp',hz⟩ :=hm.pats;have h1:=hm.kl;have h2:=hm.ps;refine⟨⟨x.op,n',ks,ps'⟩ ::r,?_,by simp [e2],fun y hy=>?_⟩
  · rw [dA,if_pos ⟨ha,by omega⟩,hx];simp only;rw [if_pos ⟨by omega,by omega⟩,hn'];simp only;rw [hp'];simp only;rw [e1]
  · rcases List.mem_cons.1 hy with h|h
    · rw [h];exact⟨by rw [aDI e1];exact h1,by rw [hz];exact h2⟩
    ·exact e3 y h
theorem aLu {p p':Prog}{f:Node→Node}(h:p'.nodes=p.nodes.map f)(hf:∀x,(f x).kids=x.kids) :∀ (k:Nat) (a:Int),pre p' k a=pre p k a
 |0,a=>rfl
 | k+1,a=>by
  have ih:pre p' k=pre p k:=funext (aLu h hf k);rw [pre,pre,h,getElem?_map];cases p.nodes[a.toNat]? with
  |none=>rfl
  |some x=>simp only [Option.map];rw [hf,ih]
theorem mZ (a b:Nat)(x:Node) : (gP a b x).kids=x.kids:=by unfold gP;split<;>rfl
theorem aAq (a b:Nat)(x:Node) : (gP a b x).pats=x.pats:=by unfold gP;split<;>rfl
theorem aCQ (a b:Nat)(x:Node) : (gP a b x).op=x.op:=by unfold gP;split<;>rfl
structure GoodU (u:LUnit) :Prop where
 few:FewU u
 formed:jJ u=true
theorem GoodU.small {u:LUnit}(h:GoodU u) :u.nodes.length≤320∧u.cons.length≤25:=by
 have:=h.few.p;simp only [aJ,and_eq_true,decide_eq_true_eq]at this;exact⟨this.1.1.1.1,this.1.1.2⟩
theorem GoodU.cases {u:LUnit}(h:GoodU u) : (u.funs= [] ∧u.nodes= []) ∨ (u.funs≠ [] ∧aP (gW u) =true) :=by
 have hf:=h.formed;unfold jJ at hf;simp only [and_eq_true]at hf;have h2:=hf.2;split at h2
 · rename_i h0;simp only [and_eq_true,decide_eq_true_eq]at h2;exact .inl ⟨List.eq_nil_of_length_eq_zero h0,List.eq_nil_of_length_eq_zero h2.1⟩
 · rename_i h0;exact .inr ⟨fun e=>h0 (by rw [e];rfl),h2⟩
theorem aJc {u:LUnit}(h:GoodU u)(hr:aP (gW u) =true){F C:List Int}(hF:F.length=u.funs.length+u.needs.length)(hB:∀g∈F,-1000000000≤g∧g≤1000000000)(hC:C.length=u.cons.length)(i:Nat)(x:Node)(hx:u.nodes[i]?=some x) :MovN (nY u) F C i x∧rQ x.pats=true:=by
 have hs:=lJ h.few;have hfn:=nX hs hr;have hx': (gW u).nodes[i]?=some (gP u.funs.length u.needs.length x) :=by simp [gW,getElem?_map,hx]
 obtain⟨hfi,hk10,hks⟩ :=hfn.node i _ hx';have hok:= (mY hs hr).2.2.2 i _ hx';rw [mZ]at hk10 hks;have hnl: (gW u).nodes.length=u.nodes.length:=by simp [gW]
 rw [hnl]at hks;have hpq:∀q∈x.pats,cU q≤12∧cM u.cons q=true:=fun q hq=>hfi.pats q (by rw [aAq];exact hq);have h10:x.pats.length≤10:=by
  have:=h.few.p;simp only [aJ,and_eq_true]at this;have:=List.all_eq_true.1 this.2 x (mem_of_getElem? hx);simp only [aW,and_eq_true,decide_eq_true_eq]at this;exact this.1.2
 have hpsz:bH x.pats≤12*x.pats.length:=aAn (fun q hq=> (hpq q hq).1);have hpk:=kW (fun q hq=> (hpq q hq).2);have hfl:=h.few.f;have hnd:=h.few.n;refine⟨⟨hk10,hks,by omega,?_,aG1 hC x.pats hpk⟩,aGR x.pats hpk⟩;simp only [bJ,and_eq_true,fJ]at hok;obtain⟨⟨⟨h1,_⟩,_⟩,_⟩ :=hok;rw [aCQ]at h1;have hpf: (gW u).funs.length=u.funs.length:=by simp [gW,cI]
 unfold mN;by_cases h4:x.op=4∧x.n<0
 · rw [if_pos h4];have hr4: -(u.funs.length:Int) -u.needs.length≤x.n:=by
    by_cases hb: -(u.funs.length:Int) -u.needs.length≤x.n∧x.n≤ -(u.funs.length:Int) -1
    ·exact hb.1
    · have:gP u.funs.length u.needs.length x=x:=by unfold gP;rw [if_neg (fun g=>hb g.2)]
      rw [this,h4.1]at h1;simp [bP,dG,hpf]at h1;omega
   have hi: (-1-x.n).toNat<F.length:=by omega
   rw [getElem?_eq_getElem hi];have:=hB _ (List.getElem_mem hi);simp only;rw [if_pos ⟨by omega,this⟩];exact⟨_,rfl⟩
 · rw [if_neg h4];by_cases h14:x.op=14
   · rw [if_pos h14];have:gP u.funs.length u.needs.length x=x:=by unfold gP;rw [if_neg (fun g=>by have:=g.1;omega)]
     rw [this,h14]at h1;simp [bP,dG,gW]at h1;rw [if_pos h1.1];have h1b:=of_decide_eq_true h1.2;have hi:x.n.toNat<C.length:=by omega
     exact⟨_,getElem?_eq_getElem hi⟩
   ·rw [if_neg h14];exact⟨_,rfl⟩
theorem bBc {u:LUnit}(h:GoodU u) :∀x∈u.nodes,rQ x.pats=true:=fun x hx=>by
 rcases h.cases with⟨_,h0⟩ | ⟨_,hr⟩
 ·rw [h0]at hx;cases hx
 · obtain⟨i,hi⟩ :=List.mem_iff_getElem?.1 hx;exact(aJc h hr (F:=replicate (u.funs.length+u.needs.length) 0) (C:=replicate u.cons.length 0) (by simp) (fun g hg=>by rw [(List.mem_replicate.1 hg).2];omega) (by simp) i x hi).2
theorem aXG {u:LUnit}(h:GoodU u){F C:List Int}(hF:F.length=u.funs.length+u.needs.length)(hB:∀g∈F,-1000000000≤g∧g≤1000000000)(hC:C.length=u.cons.length)(len:Nat)(hlen:len≤100000) :
  ∃ks r,jD (dA (nY u) F C u.nodes.length) len (cI u) =some (ks,r) ∧r.length=u.nodes.length∧∀x∈r,aQV x:=by
 rcases h.cases with⟨h0,h1⟩ | ⟨_,hr⟩
 · rw [cI,h0,h1];exact⟨[],[],rfl,rfl,fun x hx=>by cases hx⟩
 · have hs:=lJ h.few;obtain⟨_,p2,_,_⟩ :=mY hs hr;have hfn:=nX hs hr;have hnl: (gW u).nodes.length=u.nodes.length:=by simp [gW]
   have hpre:∀k a,pre (gW u) k a=pre (nY u) k a:=aLu (f:=gP u.funs.length u.needs.length) rfl (mZ _ _);have hsm:=h.small;have e: ((cI u).map (pre (nY u) u.nodes.length)).flatten= ((gW u).funs.map (pre (gW u) (gW u).nodes.length)).flatten:=by
    rw [hnl];show _= ((cI u).map _).flatten;congr 2;exact(funext (hpre _)).symm
   obtain⟨ks,r,e1,e2,e3⟩ :=aG2 (g:=dA (nY u) F C u.nodes.length) (q:=pre (nY u) u.nodes.length) (cI u) len (fun k hk len hl=>by
    have:=hfn.funs k hk;rw [hnl]at this;exact aJb (fun i x hx=> (aJc h hr hF hB hC i x hx).1) _ k len this.1 this.2 (by simp [nY]) hl) (by rw [e,p2,hnl];omega)
   exact⟨ks,r,e1,by rw [e2,e,p2,hnl],e3⟩
def aR :List LUnit→Nat
 | [] =>0
 |u::l=>u.nodes.length+aR l
theorem aG3 :∀ {l:List LUnit},(∀u∈l,GoodU u) →aR l≤320*l.length
 | [],_=>by simp [aR]
 | u::l,h=>by
  have h1:= (h u (mem_cons_self ..)).small;have h2:=aG3 (l:=l) (fun x hx=>h x (mem_cons_of_mem _ hx));simp only [aR,length_cons];omega
theorem aSa {T ls:List aB}{cs:List Con}(hT:T.length≤1000)(hls:ls.length≤1000) :∀ (l:List LUnit) (fs:List LFun) (ns:List Node),(∀u∈l,GoodU u) →ns.length+aR l≤100000→ (∀x∈ns,aQV x) →
  ∃fs' ns',aG0 T ls cs fs ns l=some (fs',ns') ∧ns'.length=ns.length+aR l∧ (∀x∈ns',aQV x) ∧fs'.length≤fs.length+30*l.length
 | [],fs,ns,_,_,hf=> ⟨fs,ns,rfl,rfl,hf,by simp⟩
 | u::l,fs,ns,hg,hb,hf=>by
  have hu:=hg u (mem_cons_self ..);rw [aR]at hb;have hff:=hu.few.f;have hnd:=hu.few.n
  obtain⟨ks,r,e1,e2,e3⟩ :=aXG hu (F:=tM T ls u) (C:=vV cs u) (by simp [tM,aC]) (fun g hg=>by
   obtain⟨s,_,rfl⟩ :=List.mem_map.1 hg;have:=aGZ T ls s;omega) (by simp [vV]) ns.length (by omega)
  obtain⟨fs',ns',g1,g2,g3,g4⟩ :=aSa hT hls l (fs++zipWith LFun.mk (aC u) ks) (ns++r) (fun x hx=>hg x (mem_cons_of_mem _ hx)) (by simp;omega) (fun x hx=>by
   rcases List.mem_append.1 hx with h|h
   ·exact hf x h
   ·exact e3 x h)
  refine⟨fs',ns',?_,by rw [g2,aR];simp;omega,g3,by simp [aC]at g4 ⊢;omega⟩;rw [aG0,e1];exact g1
def cV :aB:=[109,97,105,110]
def aJd :Prog:= ⟨[],[],0,[]⟩
theorem vW {l:List LUnit}(hu:∀u∈l,FewU u)(h:gR l=true) :l.length≤10∧∀u∈l,GoodU u:=by
 simp only [gR,and_eq_true,decide_eq_true_eq]at h;exact⟨h.1,fun u hm=> ⟨hu u hm,List.all_eq_true.1 h.2 u hm⟩⟩
theorem aJe :∀ {l:List LUnit} {out o:List Con},(∀u∈l,FewU u) →tJ out l=some o→o.length≤out.length+25*l.length
 | [],out,o,_,h=>by cases h;simp
 | u ::l,out,o,hu,h=>by
  have hn:u.cons.length≤25:=by have:= (hu u (mem_cons_self ..)).p;simp only [aJ,and_eq_true,decide_eq_true_eq]at this;exact this.1.1.2
  rw [tJ]at h;split at h
  · rename_i o1 h1;have:=aDD h1;have:=aJe (fun x hx=>hu x (mem_cons_of_mem _ hx)) h;simp;omega
  ·cases h
def aBI (ls:List aB)(cs:List Con)(l:List LUnit) :List LFun×List Node:= (aG0 (aN l) ls cs [] [] l).getD ([],[])
structure PutOk (ls:List aB) (cs:List Con) (l:List LUnit) :Prop where
 eq:aG0 (aN l) ls cs [] [] l=some (aBI ls cs l)
 len: (aBI ls cs l).2.length=aR l
 fit:∀x∈ (aBI ls cs l).2,aQV x
 funs: (aBI ls cs l).1.length≤300
theorem bGD {ls:List aB}{cs:List Con}{l:List LUnit}(hl:l.length≤10)(hg:∀u∈l,GoodU u)(hls:ls.length≤1000) :PutOk ls cs l:=by
 have:=aGP l (fun u h=> (hg u h).few);have:=aG3 hg;obtain⟨fs,ns,h1,h2,h3,h4⟩ :=aSa (T:=aN l) (ls:=ls) (cs:=cs) (by omega) hls l [] [] hg (by simp;omega) (fun x hx=>by cases hx);have e:aBI ls cs l= (fs,ns) :=by unfold aBI;rw [h1];rfl
 exact⟨by rw [h1,e],by rw [e];simpa using h2,by rw [e];exact h3,by rw [e];simp at h4 ⊢;omega⟩
def zM (l:List LUnit) :Prog×Int:=
 if gR l=true then
  match aGQ l with
  |none=> (aJd,7)
  | some c=>if cC (aN l) =true∧zJ l= [] ∧¬cA cV l 0<0 then
    (if aR l≤300∧c.length≤20 then(⟨(aBI [] c l).2,(aBI [] c l).1.map LFun.body,dX cV (aN l) 0,c⟩,0)else(aJd,3))
   else(aJd,7)
 else(aJd,2)
structure Fw (p:Prog) :Prop where
 fine:FineP p
 dup: (dY p).Nodup
 len: (dY p).length=p.nodes.length
 into:∀x∈dY p,0≤x∧x<p.nodes.length
theorem Fw.of {p:Prog}(h:Fm p) :Fw p:= ⟨h.fine,h.dup,h.len,h.into⟩
section
variable {p :Prog}
theorem Fw.mem (h:Fw p){k:Int}(h0:0≤k)(h1:k<p.nodes.length) :∃i:Nat,(dY p)[i]?=some k:=by
 refine List.mem_iff_getElem?.1 ?_;have hd: ((dY p).map Int.toNat).Nodup:=by
  have hd:=h.dup;rw [List.nodup_iff_pairwise_ne]at hd ⊢;refine List.pairwise_map.2 (hd.imp_of_mem (fun {a b} ha hb hne e=>?_));have:=h.into a ha;have:=h.into b hb;exact hne (by omega)
 by_cases hm:k∈dY p
 ·exact hm
 · have h2:=mX (p.nodes.length) (k.toNat:: (dY p).map Int.toNat) (List.nodup_cons.2 ⟨fun hm2=>by
    obtain⟨y,hy,e⟩ :=List.mem_map.1 hm2;have:=h.into y hy;exact hm ((show y=k by omega) ▸ hy),hd⟩) (fun x hx=>by
    rcases List.mem_cons.1 hx with rfl|hx
    ·omega
    · obtain⟨y,hy,rfl⟩ :=List.mem_map.1 hx;have:=h.into y hy;omega)
   rw [length_cons,length_map]at h2;have:=h.len;omega
theorem Fw.after (h:Fw p) :KidsAfter p (dY p) :=KidsAfter.flatten fun l hl=>by
 obtain⟨k,hk,rfl⟩ :=List.mem_map.1 hl;have:=h.fine.funs k hk;exact aDF h.fine _ k this.1 this.2 (by omega)
theorem Fw.toL (h:Fw p)(off:Nat) :∀ (i:Nat) (k:Int),(dY p)[i]?=some k→fC (toL p off) k= ((off+i:Nat) :Int) :=fun i k hk=>by
 have:=aAl (dY p) (replicate p.nodes.length 0) off h.dup (fun x hx=>by rw [List.length_replicate];exact h.into x hx) i k hk;unfold Go.Hb.toL;rw [this];simp
end
section
variable {a p:Prog} {off:Nat} {mf mc:List (Int×Int)} {to:List Int}
theorem Laid.atW (h:Laid a off p mf mc to)(hp:Fw p){k:Int}(h0:0≤k)(h1:k<p.nodes.length) :0≤fC to k∧a.nodes[(fC to k).toNat]?=some (fK mf mc to (nodeAt p k)) :=by
 obtain⟨i,hi⟩ :=hp.mem h0 h1;have e:=h.to i k hi;rw [e,Int.toNat_natCast];exact⟨by omega,h.node i k hi⟩
theorem aJf (h:Laid a off p mf mc to)(hp:Fw p) :∀ (f:Nat) (k:Int),0≤k→k<p.nodes.length→p.nodes.length-k.toNat≤f→pre a f (fC to k) = (pre p f k).map (fC to)
 |0,k,h0,h1,h2=>by omega
 | f+1,k,h0,h1,h2=>by
  obtain⟨x,hx⟩ :∃x,p.nodes[k.toNat]?=some x:= ⟨_,getElem?_eq_getElem (by omega)⟩;obtain⟨g0,g1⟩ :=h.atW hp h0 h1;rw [fD hx]at g1;rw [Go.Hb.pre,Go.Hb.pre,hx,g1];simp only [map_cons,List.map_flatten,map_map,fK];congr 2
  exact List.map_congr_left (fun c hc=>by
   have:= (hp.fine.node _ _ hx).2.2 c hc;exact aJf h hp f c (by omega) (by omega) (by omega))
theorem Laid.walkW (h:Laid a off p mf mc to)(hp:Fw p){F:Nat}(hF:p.nodes.length≤F) : ((p.funs.map (fC to)).map (Go.Hb.pre a F)).flatten= (range p.nodes.length).map fun i=> ((off+i:Nat) :Int) :=by
 have e1: (p.funs.map (fC to)).map (Go.Hb.pre a F) = (p.funs.map (Go.Hb.pre p p.nodes.length)).map (map (fC to)) :=by
  rw [map_map,map_map];refine List.map_congr_left (fun k hk=>?_);have:=hp.fine.funs k hk;show Go.Hb.pre a F (fC to k) = (Go.Hb.pre p p.nodes.length k).map (fC to);rw [aJf h hp F k this.1 this.2 (by omega),tK hp.fine F p.nodes.length k this.1 this.2 (by omega) (by omega)]
 rw [e1,←List.map_flatten];have hlen:=hp.len;refine List.ext_getElem? (fun i=>?_);rw [getElem?_map,getElem?_map];by_cases hi:i< (dY p).length
 · rw [List.getElem?_range (by omega)];have e: (dY p)[i]?=some (dY p)[i] :=getElem?_eq_getElem hi;have: ((p.funs.map (Go.Hb.pre p p.nodes.length)).flatten)[i]?=some (dY p)[i] :=e;rw [this];simp only [Option.map_some];rw [h.to i _ e]
 · have e: (dY p)[i]?=none:=List.getElem?_eq_none (by omega);have: ((p.funs.map (Go.Hb.pre p p.nodes.length)).flatten)[i]?=none:=e;rw [this,List.getElem?_eq_none (by simp;omega)];rfl
end
def dI (u:LUnit) :Prog:= ⟨u.nodes,cI u,0,u.cons⟩
def rR (u:LUnit) :Prog:= ⟨u.nodes,replicate (u.funs.length+u.needs.length) 0,0,u.cons⟩
theorem aCR {p p':Prog}(h:p'.nodes=p.nodes)(F C:List Int) :∀k:Nat,dA p' F C k=dA p F C k
 |0=>rfl
 | k+1=>by
  funext len a
  rw [dA,dA,h,aCR h F C k]
theorem aOc {u:LUnit}{x:Node}(h:bJ (gW u) (gP u.funs.length u.needs.length x) =true) :bJ (rR u) x=true:=by
 have hf: (gW u).funs.length=u.funs.length:=by simp [gW,cI]
 have hw: (rR u).funs.length=u.funs.length+u.needs.length:=by simp [rR]
 simp only [bJ,fJ,and_eq_true,decide_eq_true_eq]at h ⊢;rw [mZ,aAq,aCQ]at h;obtain⟨⟨⟨h1,h2⟩,h3⟩,h4⟩ :=h;by_cases e4:x.op=4
 · have z1:gC (rR u) x=0:=by unfold gC;rw [if_neg (fun g=>by have:=g.1;omega)]
   have z2:gC (gW u) (gP u.funs.length u.needs.length x) =0:=by unfold gC;rw [aCQ,if_neg (fun g=>by have:=g.1;omega)]
   rw [z2]at h4;rw [z1];refine⟨⟨⟨?_,h2⟩,h3⟩,h4⟩;by_cases g: -(u.funs.length:Int) -u.needs.length≤x.n∧x.n≤ -(u.funs.length:Int) -1
   · rw [e4];simp [bP,dG,hw];omega
   · have e:gP u.funs.length u.needs.length x=x:=by unfold gP;rw [if_neg (fun k=>g k.2)]
     rw [e,e4]at h1;rw [e4];simp [bP,dG,hf,hw]at h1 ⊢;omega
 · have e:gP u.funs.length u.needs.length x=x:=by unfold gP;rw [if_neg (fun g=>e4 g.1)]
   rw [e]at h1 h4;refine⟨⟨⟨?_,h2⟩,h3⟩,h4⟩;unfold bP at h1 ⊢;rw [if_neg e4]at h1 ⊢;exact h1
theorem tN {u:LUnit}(h:GoodU u){i:Nat}{x:Node}(hx:u.nodes[i]?=some x) :bJ (rR u) x=true∧x.pats.length≤10∧aW x=true:=by
 have hs:=h.few.p;simp only [aJ,and_eq_true]at hs;have hsn:=List.all_eq_true.1 hs.2 x (mem_of_getElem? hx);have hsn2:=hsn;simp only [aW,and_eq_true,decide_eq_true_eq]at hsn2;refine⟨?_,hsn2.1.2,hsn⟩;rcases h.cases with⟨_,h1⟩ | ⟨_,hr⟩
 ·rw [h1]at hx;simp at hx
 · have hx': (gW u).nodes[i]?=some (gP u.funs.length u.needs.length x) :=by simp [gW,getElem?_map,hx]
   exact aOc ((mY (lJ h.few) hr).2.2.2 i _ hx')
theorem rS {u:LUnit}(h:GoodU u) :Fw (dI u) :=by
 rcases h.cases with⟨h0,h1⟩ | ⟨_,hr⟩
 · have hb:cI u= [] :=by simp [cI,h0]
   have ho:dY (dI u) = [] :=by unfold dY;simp [dI,hb]
   refine⟨⟨by simp [dI,h1],by simp [dI,hb],fun i x hx=>by simp [dI,h1]at hx,fun f hf=>by simp [dI,hb]at hf⟩,by rw [ho];exact List.nodup_nil,by rw [ho];simp [dI,h1],fun x hx=>by rw [ho]at hx;cases hx⟩
 · have hs:=lJ h.few;obtain⟨p1,p2,p3,p4⟩ :=mY hs hr;have hfn:=nX hs hr;have hnl: (gW u).nodes.length=u.nodes.length:=by simp [gW]
   have ho:dY (dI u) = ((gW u).funs.map (pre (gW u) (gW u).nodes.length)).flatten:=by
    unfold dY;rw [hnl];show((cI u).map (pre (dI u) u.nodes.length)).flatten= ((cI u).map _).flatten;congr 2;exact(funext (aLu (p:=dI u) (p':=gW u) (f:=gP u.funs.length u.needs.length) rfl (mZ _ _) _)).symm
   refine⟨⟨by have:=hfn.small;rw [hnl]at this;exact this,hfn.fsmall,fun i x hx=>?_,fun f hf=>by have:=hfn.funs f hf;rw [hnl]at this;exact this⟩,by rw [ho];exact p1,by rw [ho,p2,hnl];rfl,fun x hx=>by rw [ho]at hx;have:=p3 x hx;rw [hnl]at this;exact this⟩;have hx1:u.nodes[i]?=some x:=hx;have hx': (gW u).nodes[i]?=some (gP u.funs.length u.needs.length x) :=by simp [gW,getElem?_map,hx1]
   obtain⟨c1,c2,c3⟩ :=hfn.node i _ hx';have m1:=c1.mat;have m2:=c1.let2;rw [aCQ,mZ,aAq]at m1;rw [aCQ,mZ]at m2;rw [mZ]at c2 c3;rw [hnl]at c3;exact⟨⟨fun q hq=>c1.pats q (by rw [aAq];exact hq),m1,m2⟩,c2,c3⟩
def aOd :List Int→Int→List (Int×Int) →List (Int×Int)
 | [],_,m=>m
 |g::t,i,m=>aOd t (i+1) (cB i g m)
theorem aOe :∀ (t:List Int) (i:Int) (m:List (Int×Int)) (j:Int),j<i→iL (aOd t i m) j=iL m j
 | [],i,m,j,h=>rfl
 |c::t,i,m,j,h=>by rw [aOd,aOe t (i+1) _ j (by omega),aFm,if_neg (by omega)]
theorem aSb :∀ (t:List Int) (i:Int) (m:List (Int×Int)) (j:Nat) (d:Int),t[j]?=some d→iL (aOd t i m) (i+j) =d
 | [],i,m,j,d,h=>by simp at h
 | c::t,i,m,0,d,h=>by
  simp only [List.getElem?_cons_zero,Option.some.injEq]at h;subst h;rw [aOd,aOe t (i+1) _ _ (by omega),aFm,if_pos (by omega)]
 | c::t,i,m,j+1,d,h=>by
  simp only [List.getElem?_cons_succ]at h;have:=aSb t (i+1) (cB i c m) j d h;rw [aOd,show i+ ((j+1:Nat) :Int) =i+1+ (j:Int)by omega];exact this
theorem aSc (F:List Int) :aGH F.length (aOd F 0 []) F:=fun i h0 h1=>by
 have e:F[i.toNat]?=some (F[i.toNat]'(by omega)) :=getElem?_eq_getElem (by omega);have:=aSb F 0 [] i.toNat _ e;rw [show(0:Int) + ((i.toNat:Nat) :Int) =i by omega]at this;rw [e,this]
def mfU (T ls:List aB)(u:LUnit) :List (Int×Int) :=aOd (tM T ls u) 0 []
def mcU (cs:List Con)(u:LUnit) :List (Int×Int) :=aQS cs u.cons 0 []
theorem bBe (cs:List Con)(u:LUnit) :aGH u.cons.length (mcU cs u) (vV cs u) :=fun i h0 h1=>by
 have e:u.cons[i.toNat]?=some (u.cons[i.toNat]'(by omega)) :=getElem?_eq_getElem (by omega);have:=aLn cs u.cons 0 [] i.toNat _ e;rw [show(0:Int) + ((i.toNat:Nat) :Int) =i by omega]at this;unfold vV mcU;rw [getElem?_map,e,this];rfl
theorem aJg (T ls:List aB)(u:LUnit) : (tM T ls u).length=u.funs.length+u.needs.length:=by simp [tM,aC]
theorem aLv {T ls:List aB}{u:LUnit}{i:Int}(h0:0≤i)(h1:i<u.funs.length+u.needs.length) :∃s,(aC u++u.needs)[i.toNat]?=some s∧iL (mfU T ls u) i=mE T ls s:=by
 have hl:=aJg T ls u;have e:=aSc (tM T ls u) i h0 (by omega);unfold tM at e;rw [getElem?_map]at e;cases hs: (aC u++u.needs)[i.toNat]? with
 |none=>rw [hs]at e;cases e
 |some s=>rw [hs]at e;exact⟨s,rfl,(Option.some.inj e).symm⟩
def aSd (T ls:List aB)(u:LUnit) :Prop:=∀s∈aC u++u.needs,0≤mE T ls s
def aUt (T ls:List aB)(cs:List Con)(off:Nat)(u:LUnit) :List Node:= (dY (dI u)).map fun k=>fK (mfU T ls u) (mcU cs u) (toL (dI u) off) (nodeAt (dI u) k)
def aIa (off:Nat)(u:LUnit) :List Int:= (cI u).map (fC (toL (dI u) off))
theorem aQW {u:LUnit}(h:GoodU u){T ls:List aB}{cs:List Con}(hT:T.length≤1000)(hls:ls.length≤1000)(hn:aSd T ls u)(off:Nat)(ho:off≤100000) :
  jD (dA (nY u) (tM T ls u) (vV cs u) u.nodes.length) off (cI u) =some (aIa off u,aUt T ls cs off u) :=by
 have hw:=rS h;have hsm:=h.small;have hff:=h.few.f;have hnd:=h.few.n;have hwl: (rR u).funs.length=u.funs.length+u.needs.length:=by simp [rR]
 have hm:MOk (dI u) (mfU T ls u) (mcU cs u) (tM T ls u) (vV cs u) :=fun i x hx=>
  (aGI (p:=rR u) (by rw [hwl,←aJg T ls u];exact aSc _) (bBe cs u) (fun i h0 h1=>by
   rw [hwl]at h1;obtain⟨s,hs,e⟩ :=aLv (T:=T) (ls:=ls) (u:=u) h0 (by omega);rw [e];have:=aGZ T ls s;have:=hn s (mem_of_getElem? hs);omega) (by omega) (tN h hx).1 (tN h hx).2.1).1
 rw [aCR (p:=dI u) (p':=nY u) rfl];have hl:=hw.len;have hl2: (dI u).nodes.length=u.nodes.length:=rfl
 have e:=aCJ (to:=toL (dI u) off) (g:=dA (dI u) (tM T ls u) (vV cs u) u.nodes.length) (h:=wB (dI u) (mfU T ls u) (mcU cs u) (toL (dI u) off) u.nodes.length) (q:=pre (dI u) u.nodes.length) (cI u) off (fun k hk len h1 h2=>by
   have:=hw.fine.funs k hk;exact aDy hw.fine hm _ k len this.1 this.2 (by omega) h1 h2) (fun k hk=>by
   have:=hw.fine.funs k hk;obtain⟨y,g,_,_,h3⟩ :=qN hw.fine (f:=u.nodes.length) (a:=k) this.1 this.2 (by omega);exact⟨aGF _ _ _ _ _,by rw [h3];rfl⟩) (by change off+ (dY (dI u)).length≤1000000;omega) (hw.toL off)
 rw [e];congr 2;exact aQR (dI u) (mfU T ls u) (mcU cs u) (toL (dI u) off)
theorem aOg {u:LUnit}(h:GoodU u)(T ls:List aB)(cs:List Con)(off:Nat) : (aUt T ls cs off u).length=u.nodes.length:=by
 unfold aUt;rw [length_map,(rS h).len];rfl
def nZ (T ls:List aB)(cs:List Con) :Nat→List LUnit→List Node
 |_,[] =>[]
 |off,u::l=>aUt T ls cs off u++nZ T ls cs (off+u.nodes.length) l
def aG4 :Nat→List LUnit→List LFun
 |_,[] =>[]
 |off,u::l=>zipWith LFun.mk (aC u) (aIa off u) ++aG4 (off+u.nodes.length) l
theorem aSe {T ls:List aB}{cs:List Con}(hT:T.length≤1000)(hls:ls.length≤1000) :∀ (l:List LUnit) (fs:List LFun) (ns:List Node),(∀u∈l,GoodU u∧aSd T ls u) →ns.length+aR l≤100000 →
  aG0 T ls cs fs ns l=some (fs++aG4 ns.length l,ns++nZ T ls cs ns.length l)
 | [],fs,ns,_,_=>by rw [aG0,aG4,nZ,append_nil,append_nil]
 | u::l,fs,ns,hg,hb=>by
  obtain⟨h1,h2⟩ :=hg u (mem_cons_self ..);rw [aR]at hb;rw [aG0,aQW h1 hT hls h2 ns.length (by omega)];simp only;have hl:=aOg h1 T ls cs ns.length;rw [aSe hT hls l _ _ (fun x hx=>hg x (mem_cons_of_mem _ hx)) (by rw [length_append,hl];omega)];rw [length_append,hl,aG4,nZ,append_assoc,append_assoc]
theorem aDJ {T ls:List aB}{cs:List Con}:∀ (l:List LUnit) (off:Nat),(∀u∈l,GoodU u) → (nZ T ls cs off l).length=aR l
 | [],off,_=>rfl
 | u::l,off,hg=>by
  rw [nZ,length_append,aOg (hg u (mem_cons_self ..)),aDJ l _ (fun x hx=>hg x (mem_cons_of_mem _ hx)),aR]
theorem aJh {T ls:List aB}{cs:List Con}:∀ (l m:List LUnit) (off:Nat),nZ T ls cs off (l++m) =nZ T ls cs off l++nZ T ls cs (off+aR l) m
 | [],m,off=>by simp [nZ,aR]
 | u::l,m,off=>by
  rw [cons_append,nZ,nZ,aJh l m,append_assoc,aR,Nat.add_assoc]
theorem aAr :∀l m:List LUnit,aR (l++m) =aR l+aR m
 | [],m=>by simp [aR]
 |u::l,m=>by rw [cons_append,aR,aR,aAr l m,Nat.add_assoc]
theorem aOh :∀ (a:List aB) (b:List Int),a.length=b.length→ (zipWith LFun.mk a b).map LFun.body=b∧ (zipWith LFun.mk a b).map LFun.name=a
 | [],[],_=> ⟨rfl,rfl⟩
 | [],_::_,h=>by simp at h
 |_::_,[],h=>by simp at h
 | x::a,y::b,h=>by
  obtain⟨h1,h2⟩ :=aOh a b (by simpa using h);rw [List.zipWith_cons_cons,map_cons,map_cons,h1,h2];exact⟨rfl,rfl⟩
theorem aG5 (off:Nat)(u:LUnit) : (aC u).length= (aIa off u).length:=by simp [aIa,aC,cI]
def kL :Nat→List LUnit→List Int
 |_,[] =>[]
 |off,u::l=>aIa off u++kL (off+u.nodes.length) l
theorem vX :∀ (l:List LUnit) (off:Nat),(aG4 off l).map LFun.body=kL off l
 | [],off=>rfl
 | u::l,off=>by
  rw [aG4,map_append,(aOh _ _ (aG5 off u)).1,vX l,kL]
theorem aJi :∀ (l m:List LUnit) (off:Nat),kL off (l++m) =kL off l++kL (off+aR l) m
 | [],m,off=>by simp [kL,aR]
 | u::l,m,off=>by
  rw [cons_append,kL,kL,aJi l m,append_assoc,aR,Nat.add_assoc]
theorem lL :∀ (l:List LUnit) (off:Nat),(kL off l).length= (aN l).length
 | [],off=>rfl
 |u::l,off=>by rw [kL,length_append,←aG5,lL l,jG,length_append]
section
variable {T ls:List aB} {cs:List Con} {a:Prog} {l:List LUnit}
theorem aG6 (hg:∀u∈l,GoodU u)(ha:a.nodes=nZ T ls cs 0 l){l1 l2:List LUnit}{u:LUnit}(hl:l=l1++u::l2) :Laid a (aR l1) (dI u) (mfU T ls u) (mcU cs u) (toL (dI u) (aR l1)) :=by
 have hw:=rS (hg u (by rw [hl];simp));refine⟨fun i k hk=>?_,hw.toL _⟩;have h1:=aDJ (T:=T) (ls:=ls) (cs:=cs) l1 0 (fun x hx=>hg x (by rw [hl];simp [hx]));have hlt:= (List.getElem?_eq_some_iff.1 hk).1;rw [ha,hl,aJh,nZ,List.getElem?_append_right (by omega),h1,show aR l1+i-aR l1=i by omega,Nat.zero_add,List.getElem?_append_left (by unfold aUt;rw [length_map];exact hlt)];unfold aUt;rw [getElem?_map,hk];rfl
theorem aG7 (hg:∀u∈l,GoodU u)(ha:a.nodes=nZ T ls cs 0 l){N:Nat}(hN:aR l≤N) :∀ (l2 l1:List LUnit),l=l1++l2 →
  ((kL (aR l1) l2).map (pre a N)).flatten= (range (aR l2)).map fun i=> ((aR l1+i:Nat) :Int)
 | [],l1,_=>rfl
 | u::l2,l1,hl=>by
  have hw:=rS (hg u (by rw [hl];simp));have hsz:aR l=aR l1+ (u.nodes.length+aR l2) :=by rw [hl,aAr,aR]
  have e1:= (aG6 (T:=T) (ls:=ls) (cs:=cs) (a:=a) hg ha hl).walkW hw (F:=N) (by change u.nodes.length≤N;omega);have e2:=aG7 hg ha hN l2 (l1++ [u]) (by rw [hl,append_assoc];rfl);have es:aR (l1++ [u]) =aR l1+u.nodes.length:=by rw [aAr,aR,aR];omega
  rw [es]at e2;rw [kL,map_append,List.flatten_append,e2]
  change ((aIa (aR l1) u).map (pre a N)).flatten=_ at e1
  rw [e1,aR,List.range_add,map_append,map_map];congr 1;refine List.map_congr_left (fun i _=>?_);simp only [Function.comp];omega
end
abbrev aG8 (a:LUnit):AV:=.ilst 2 (map LFun.av a.funs) false
abbrev aXH (a:LUnit)(b:List aB):=aD [oC 0 [(aH a.name),(iC a.cons),(aG8 a),(iS a.needs),(iN a.nodes)],oC 1 [(iS b),(iS a.needs)],oL 3 4 (jN a.nodes)] 4
abbrev aQX (a:LUnit):AV:=.agg [(aH a.name),(iC a.cons),(aG8 a),(iS a.needs),(iN a.nodes)]
abbrev aG9 (a:Nat)(b:LUnit):=oC a [(aH b.name),(iC b.cons),(aG8 b),(iS b.needs),(iN b.nodes)]
abbrev aDK (a:List Node)(b:Int)(c:Node):AV:=.gl 2 4 0 (set a b.toNat (Node.mk c.op (-1) c.kids c.pats)).length false
abbrev aXI:AV:=.iface 9 (.str 16 134789072936214216453580009062074836332)
def bEw(a:LUnit):TS:=cQ PP 134 [(aQX a)] [] 0
def aLw(a:LUnit)(c:Int)(b:List aB):TS:=⟨(tf 134 20 [(2,.nils),(3,(.gl 0 1 0 b.length false)),(7,(aG8 a)),(8,(nI (a.funs.length:Int))),(9,(nI c))] [kc f134 116,kl f134 116,.inBlock 0,kc f134 15]),[],[oL 0 1 (map aH b)],1⟩
def bEx(a:Con):TS:=cQ PP 131 [(.agg [(aH a.name),(nI a.args)])] [] 0
def bGE(a:List aB):TS:=cQ PP 139 [(iS a)] [] 0
def aLx(a:List aB)(b:Int):TS:=⟨(tf 221 19 [(0,(iS a)),(1,(.func 187 [] [])),(4,(nI 0)),(7,(nI (a.length:Int))),(8,(nI b))] [kc f221 52,kl f221 52,.inBlock 0,kc f221 7]),[(tf 186 9 [(4,(bV false)),(5,(iS a)),(6,(.func 187 [] []))] [ko f186 6 2,kc f186 7]),(tf 139 10 [(0,(iS a)),(2,(bV false)),(3,(iS a))] [ko f139 6 1,kc f139 7])],[],0⟩
def aDL(a:List aB)(c:Int)(b:List (aB×Bool)):TS:=⟨(tf 188 25 [(1,(.func 189 [] [])),(4,(bV false)),(5,(.map 0)),(9,(iS a)),(10,(nI (a.length:Int))),(11,(nI c))] [kc f188 116,kl f188 116,.inBlock 0,kc f188 15]),[(tf 139 10 [(2,(bV false)),(6,(bV true)),(7,(iS a))] [ko f139 6 5,kc f139 7])],[(0,(.map (aU aH eP 0 b) b.length),true)],1⟩
def aXJ(a:List Node):TS:=cQ PP 140 [(iN a)] [] 0
def bGF(a:List Node):TS:=⟨(tf 140 8 [(0,(iN a)),(2,.nils),(3,(iN a))] [ko f140 12 1,kc f140 13,kc f140 7]),[],[],0⟩
def bFE(a:List Node):TS:=⟨(tf 140 8 [(0,(iN a)),(2,.nils),(3,.nils)] [ko f140 12 1,kc f140 13,kc f140 7]),[],[],0⟩
def bFF(a:List Node)(b:Addr)(c d:Nat):TS:=⟨(tf 140 8 [(0,(iN a)),(2,.nils),(3,(.val (Value.slice (some b) c d)))] [ko f140 12 1,kc f140 13,kc f140 7]),[],[],0⟩
def aXK(a b:List aB):TS:=cQ PP 133 [(.slice 0 0 2 2 1 true)] [oC 0 [(iS a),(iS b)]] 1
def bEy(a:List Con)(b:aB):TS:=cQ PP 130 [(iC a),(.func 131 [] []),(aH b)] [] 0
def aLy(a:List Con)(b:aB)(c:Int):TS:=⟨(tf 180 19 [(0,(iC a)),(1,(.func 181 [] [(.ptr 0 0),(.ptr 1 0)])),(4,(nI 0)),(7,(nI (a.length:Int))),(8,(nI c))] [kc f180 52,kl f180 52,.inBlock 0,kc f180 7]),[(tf 130 10 [(6,(nI 0)),(7,(iC a)),(8,(.func 181 [] [(.ptr 0 0),(.ptr 1 0)]))] [ko f130 6 2,kc f130 7])],[oC 0 [(.func 131 [] [])],oC 1 [(aH b)]],2⟩
def bGG(a:List aB)(b:aB):TS:=cQ PP 135 [(iS a),(aH b)] [] 0
def aLz(a:List aB)(b:aB)(c:Int):TS:=⟨(tf 135 19 [(0,(iS a)),(1,(aH b)),(4,(nI 0)),(7,(nI (a.length:Int))),(8,(nI c))] [kc f135 52,kl f135 52,.inBlock 0,kc f135 7]),[],[],0⟩
def bEz(a:LUnit):TS:=cQ PP 77 [(aQX a)] [] 0
def aLA(a:LUnit)(c:List aB)(d:Int)(b:List Int):TS:=⟨(tf 77 114 [kp 1 0,(2,(bV false)),(3,(iS c)),kp 4 1,(49,(aG8 a)),(50,(nI (a.funs.length:Int))),(51,(nI d))] [kc f77 500,kl f77 500,.inBlock 0,kc f77 63]),[],[aG9 0 a,oC 1 [(.gl 2 4 0 a.nodes.length false),(.gl 3 1 0 b.length false),(nI 0),(iC a.cons)],oL 2 4 (jN a.nodes),oL 3 1 (jI b)],4⟩
def vY(a:LUnit)(d:List aB)(e:Int)(b:List Node)(c:List Int)(f:Int):TS:=⟨(tf 77 114 [kp 1 0,(2,(bV false)),(3,(iS d)),kp 4 1,(76,(.gl 2 4 0 b.length false)),(77,(nI e)),(78,(nI f))] [kc f77 2036,kl f77 2036,.inBlock 2,kc f77 255]),[],[aG9 0 a,oC 1 [(.gl 2 4 0 b.length false),(.gl 3 1 0 c.length false),(nI 0),(iC a.cons)],oL 2 4 (jN b),oL 3 1 (jI c)],4⟩
def bBf (a:LUnit):=(tT 0 (bEw a)<|gl 14 LFun.av a.funs<|.i [rn 4,.nilL 3 1] []<|gu 0 1 (map aH ([] :List aB))<|gs 0 3 (.gl 1 1 0 ([] :List aB).length false)<|.W 0 2 [1] (aLw a 0 ([] :List aB))) ⟨kk,trivial⟩
def aXL(c:LUnit)(a:Int)(b:List aB):=tT 0 (aLw c a b)<|gd 5 10 (a< (c.funs.length:Int)) (gX LFun.av 6 c.funs a<|fun d=>ga 9 aH b [d.name]<|gw 5 18 (a+1)<|.W 3 4 [3] (aLw c (a+1) (b++ [d.name])))<|gz 8 2 0 1 aH b false<|gE 0 1 (iS b)
def bBg:=fun a b c d e f g i j=>aXL a b c|>.t e d f g i j ⟨kk,trivial⟩
def bBh:=fun a b c d=>aXL a b c|>.f d tv
def bBi (a:Con):=(tT 0 (bEx a)<|gE 12 1 (aH a.name)) tv
def bBj (a:List aB):=(tT 0 (bGE a)<|gl 25 aH a<|.W 4 0 [] (aLx a 0)) tv
def aQY(a:List aB)(b:Int):=tT 0 (aLx a b)<|gd 5 9 (b< (a.length:Int)) (gX aH 14 a b<|fun c=>gV 9 107 [(aH c)]<|fun d=>.b 6 16 (!d) (.b 15 6 (!(decide (b≥0))) (.i [rn 9,.mset 0 (aU aH eP 0 ([] :List (aB×Bool))) ([] :List (aB×Bool)).length] [hr (aU aH eP 0 ([] :List (aB×Bool))),hr (length ([] :List (aB×Bool)))]<|gl 6 aH a<|.W 4 1 [0] (aDL a 0 ([] :List (aB×Bool))))<|gE 6 0 (bV false))<|gw 5 18 (b+1)<|.W 3 0 [] (aLx a (b+1)))<|.i [rn 24,.mset 0 (aU aH eP 0 ([] :List (aB×Bool))) ([] :List (aB×Bool)).length] [hr (aU aH eP 0 ([] :List (aB×Bool))),hr (length ([] :List (aB×Bool)))]<|gl 6 aH a<|.W 4 1 [0] (aDL a 0 ([] :List (aB×Bool)))
def bBk:=fun a b c d e f g i j k=>aQY a b|>.t e c f g d i|>.t j|>.f k tv
def bBl:=fun a b c d e f g i j k=>aQY a b|>.t e c f g d i|>.f j k tv
def bBm:=fun a b c=>aQY a b|>.f c ⟨aM (fun _=>rfl) (fun _=>rfl) _ _ _,trivial⟩
def aQZ(f:List aB)(c:Int)(a:List (aB×Bool)):=tT 0 (aDL f c a)<|gd 5 12 (c< (f.length:Int)) (gX aH 6 f c<|fun g=>gpS 9 189 [(aH g)]<|fun d=>.o (.y fun b:Bool=>.i [.ans (.look (some (sF d a,(eP b))))] [.a (dE d a=some b) (p':=eQ (aH d) (aU aH eP 0 a) 0=some (some (sF d a,(eP b)))) (mT eZ)]<|.b 1 19 b (gE 11 1 (bV false))<|gpS 6 189 [(aH g)]<|fun e=>.i [.mput (aU aH eP 0 (cB e true a)) (cB e true a).length] [.q (p:=uV (aU aH eP 0 a) a.length (aH e) (eP true) =some ((aU aH eP 0 (cB e true a)),length (cB e true a))) (aKu eZ _ _ _)]<|gw 4 24 (c+1)<|.W 3 1 [0] (aDL f (c+1) (cB e true a)))<|.i [.ans (.look none)] [.a (dE d a=none) (p':=eQ (aH d) (aU aH eP 0 a) 0=some none) (mS eZ)]<|gpS 7 189 [(aH g)]<|fun b=>.i [.mput (aU aH eP 0 (cB b true a)) (cB b true a).length] [.q (p:=uV (aU aH eP 0 a) a.length (aH b) (eP true) =some ((aU aH eP 0 (cB b true a)),length (cB b true a))) (aKu eZ _ _ _)]<|gw 4 24 (c+1)<|.W 3 1 [0] (aDL f (c+1) (cB b true a)))<|gE 12 1 (bV true)
def bBn:=fun a b c d e f g i j k l m=>aQZ a b c|>.t g d i j e k|>.1 f l|>.t m tv
def bBo:=fun a b c d e f g i j k l m n=>aQZ a b c|>.t g d i j e k|>.2 l f m n ⟨aM (fun _=>rfl) (fun _=>rfl) _ _ _,trivial⟩
def bBp:=fun a b c d=>aQZ a b c|>.f d tv
def bGH (a:List Node):=(tT 0 (aXJ a)<|.W 8 0 [] (bGF a)) tv
def bGI (a:List Node):=(tT 0 (bFE a)<|.i [rn 8,.nilL 2 4] []<|.E 0 1 [0] (.gl 0 4 0 0 false) [oL 0 4 (jN ([] :List Node))] 1) ⟨kk,trivial⟩
def bGJ (a:List Node)(b:Addr)(c d:Nat):=fun e=>(tT 0 (bFF a b c d)<|.i [rn 8,.toL 5 true []] [.q (p:=getCells (putCells .leaf 0 []) 0 (0*4) =some []) rfl,hr true]<|gu 0 0 (jN ([] :List Node))<|gs 0 5 (.gl 0 4 0 ([] :List Node).length true)<|.i [.weak 5] []<|ga 0 Node.av ([] :List Node) a<|.E 3 2 [1] (.gl 0 4 0 (([] :List Node) ++a).length false) [oL 0 4 (jN (([] :List Node) ++a))] 1) e ⟨kk,trivial⟩
def aXM(a b:List aB):=tT 1 (aXK a b)<|gl 36 aH a<|gw 1 18 (0+ (a.length:Int))<|gd 7 20 ((0+ (a.length:Int)) <0) (.P 4 1 [] [(aXI,false)] [oC 0 [(iS a),(iS b)]] 1)<|gl 27 aH b<|gw 1 18 ((0+ (a.length:Int)) + (b.length:Int))<|gd 7 20 (((0+ (a.length:Int)) + (b.length:Int)) <0) (.P 4 1 [] [(aXI,false)] [oC 0 [(iS a),(iS b)]] 1)<|gd 29 6 (((0+ (a.length:Int)) + (b.length:Int)) <0) .x<|gw 12 14 (((0+ (a.length:Int)) + (b.length:Int)) -0)<|gd 7 16 ((((0+ (a.length:Int)) + (b.length:Int)) -0) >0) (.i [rn 7,.appN (map aH (replicate (((0+ (a.length:Int)) + (b.length:Int)) -0).toNat ([] :aB))) (((0+ (a.length:Int)) + (b.length:Int)) -0).toNat] [hA ((((0+ (a.length:Int)) + (b.length:Int)) -0) = (((((0+ (a.length:Int)) + (b.length:Int)) -0).toNat:Nat) :Int)),hA (0< (((0+ (a.length:Int)) + (b.length:Int)) -0).toNat),hA ((((0+ (a.length:Int)) + (b.length:Int)) -0).toNat<100000),.q (p:=kG [AV.str 0 0] (((0+ (a.length:Int)) + (b.length:Int)) -0).toNat= (map aH (replicate (((0+ (a.length:Int)) + (b.length:Int)) -0).toNat ([] :aB)))) (aNW _),.q (p:=cK (map aH (replicate (((0+ (a.length:Int)) + (b.length:Int)) -0).toNat ([] :aB))) =true) (zF _)]<|.i [.toL 22 false (map aH (replicate (((0+ (a.length:Int)) + (b.length:Int)) -0).toNat ([] :aB)))] [.q (p:=getCells (putCells .leaf 0 (map aH (replicate (((0+ (a.length:Int)) + (b.length:Int)) -0).toNat ([] :aB)))) 0 ((((0+ (a.length:Int)) + (b.length:Int)) -0).toNat*1) =some (map aH (replicate (((0+ (a.length:Int)) + (b.length:Int)) -0).toNat ([] :aB)))) (aW7 _),.q (p:=cK (map aH (replicate (((0+ (a.length:Int)) + (b.length:Int)) -0).toNat ([] :aB))) =true) (zF _)]<|.i [.lset 1 (map aH (replicate (((0+ (a.length:Int)) + (b.length:Int)) -0).toNat ([] :aB)))] [.q (p:=oY false 1 (((0+ (a.length:Int)) + (b.length:Int)) -0).toNat (map aH (replicate (((0+ (a.length:Int)) + (b.length:Int)) -0).toNat ([] :aB))) = (map aH (replicate (((0+ (a.length:Int)) + (b.length:Int)) -0).toNat ([] :aB)))) (aW8 _)]<|.i [rn 2,.ans (.ev (.gl 1 1 0 0 false))] [.a (0≤ (((0+ (a.length:Int)) + (b.length:Int)) -0).toNat) (p':=aH5 PP 46 (.gl 1 1 0 ((((0+ (a.length:Int)) + (b.length:Int)) -0).toNat) false) none (some (nI 0)) (.gl 1 1 0 0 false)) (fun h=>(aVk (k:=0) (by kernel_rfl) (by decide) h))]<|.i [rn 38,.app (map aH a) a.length] [.q (p:=0+0≤length (map aH (replicate (((0+ (a.length:Int)) + (b.length:Int)) -0).toNat ([] :aB)))) (Nat.zero_le _),hA (a.length≤1000000),.q (p:=take 0 (drop 0 (map aH (replicate (((0+ (a.length:Int)) + (b.length:Int)) -0).toNat ([] :aB)))) ++ (map aH a) = (map aH a)) (by rw [List.take_zero,nil_append]),.q (p:=0+length (map aH a) =a.length) (by rw [Nat.zero_add,length_map])]<|ga 26 aH a b<|gz 21 2 3 1 aH (a++b) false<|.E 0 4 [] (iS (a++b)) [oC 0 [(iS a),(iS b)]] 1)<|.i [rn 38,.nilL 31 1] []<|gu 0 1 (map aH ([] :List aB))<|gs 0 31 (.gl 1 1 0 ([] :List aB).length false)<|ga 0 aH ([] :List aB) a<|ga 26 aH (([] :List aB) ++a) b<|gz 21 2 3 1 aH ((([] :List aB) ++a) ++b) false<|.E 0 4 [] (iS ((([] :List aB) ++a) ++b)) [oC 0 [(iS a),(iS b)]] 1
def bBq:=fun b c d e f a g i j k l m n o=>aXM b c d|>.f e f|>.f a|>.f a g|>.t i j k l m n o tv
def bBr:=fun b c d e f a g i j k=>aXM b c d|>.f e f|>.f a|>.f a g|>.f i j k tv
def bBs (a:List Con)(b:aB):=(tT 0 (bEy a b)<|gl 19 Con.av a<|.W 4 2 [0,1] (aLy a b 0)) tv
def aQ0(c:List Con)(a:aB)(b:Int):=tT 0 (aLy c a b)<|gd 5 9 (b< (c.length:Int)) (gX Con.av 14 c b<|fun e=>.y fun d:aB=>.i [rn 8,.reg (.d::.d::.pure (aH d)::rd 3 [])] [hA (Pure PP 131 [(.agg [(aH e.name),(nI e.args)])] (aH d)),hr (aH a),hr (aH a)]<|.b 3 16 (bM d.length (aA d) a.length (aA a)) (gE 11 3 (nI b))<|gw 5 18 (b+1)<|.W 3 3 [0,1] (aLy c a (b+1)))<|gE 11 2 (nI (-1))
def bBt:=fun a b c d e f g i j k=>aQ0 a b c|>.t f d g i e j|>.t k tv
def bBu:=fun a b c d e f g i j k l=>aQ0 a b c|>.t f d g i e j|>.f k l tv
def bBv:=fun a b c d=>aQ0 a b c|>.f d tv
def bBw (a:List aB)(b:aB):=(tT 0 (bGG a b)<|gl 8 aH a<|.W 4 0 [] (aLz a b 0)) tv
def aQ1(b:List aB)(c:aB)(a:Int):=tT 0 (aLz b c a)<|gd 5 9 (a< (b.length:Int)) (gX aH 14 b a<|fun d=>.b 3 16 (bM c.length (aA c) d.length (aA d)) (gE 7 0 (nI a))<|gw 5 18 (a+1)<|.W 3 0 [] (aLz b c (a+1)))<|gE 7 0 (nI (-1))
def bBx:=fun a b c d e f g i=>aQ1 a b c|>.t e d f g|>.t i tv
def bBy:=fun a b c d e f g i j=>aQ1 a b c|>.t e d f g|>.f i j tv
def bBz:=fun a b c d=>aQ1 a b c|>.f d tv
def aDM(a:LUnit):=tT 0 (bEz a)<|.y fun b:List aB=>gp 8 134 [(aQX a)] (iS b)<|gV 7 107 [(aH a.name)]<|fun c=>.b 2 16 (!c) (gE 32 1 (bV false))<|gl 2 aH a.needs<|gd 3 22 ((a.needs.length:Int) >20) (gE 26 1 (bV false))<|gV 1 139 [(iS b)]<|fun d=>.b 3 27 (!d) (gE 21 1 (bV false))<|gV 2 139 [(iS a.needs)]<|fun e=>.b 3 33 (!e) (gE 15 1 (bV false))<|gk 4 (.enter 133 [(.slice 1 0 2 2 1 true)]) [aG9 0 a,oC 1 [(iS b),(iS a.needs)]] 2 (iS (b++a.needs)) [aG9 0 a,oC 1 [(iS b),(iS a.needs)]] 2<|gV 0 139 [(iS (b++a.needs))]<|fun f=>.b 3 41 (!f) (gE 6 2 (bV false))<|.i [rn 3,.reg (rd 4 (.call (.gl 3 4 0 a.nodes.length false) (aXH a b)::rd 3 []))] [hA (Spec PP (.enter 140 [(iN a.nodes)]) (aD [aG9 0 a,oC 1 [(iS b),(iS a.needs)]] 3) (.ret (.gl 3 4 0 a.nodes.length false)) (aXH a b)),hr (AV.ilst 2 (jC a.cons) false),hr (AV.ilst 2 (jC a.cons) false)]<|gl 5 LFun.av a.funs<|.i [rn 4,.cnil 2 1 1] []<|gu 0 4 (jI ([] :List Int))<|gv 0 2 1 (.gl 4 1 0 ([] :List Int).length false)<|.W 0 5 [0,2,3,4] (aLA a b 0 ([] :List Int))
def bBA:=fun a b c d e f=>aDM a b d c e|>.t f tv
def bBB:=fun a b c d e f g=>aDM a b d c e|>.f f|>.t g tv
def bBC:=fun a b c d e f g i j k=>aDM a b e c f|>.f g|>.f i d j|>.t k tv
def bBD:=fun a b c d e f g i j k l m n=>aDM a b f c g|>.f i|>.f j d k|>.f l e m|>.t n tv
def bBE:=fun a b c d e f g i j k l m n o p q r=>aDM a b g c i|>.f j|>.f k d l|>.f m e n|>.f o p f q|>.t r tv
def bBF:=fun a b c d e f g i j k l m n o p q r s=>aDM a b g c i|>.f j|>.f k d l|>.f m e n|>.f o p f q|>.f r s ⟨kk,⟨kk,trivial⟩⟩
def aLB(a:LUnit)(b:List aB)(c:Int)(d:List Int):=tT 0 (aLA a b c d)<|gd 5 52 (c< (a.funs.length:Int)) (gX LFun.av 6 a.funs c<|fun e=>ga 10 aY d [e.body]<|gw 6 62 (c+1)<|.W 3 7 [0,1,2,6] (aLA a b (c+1) (d++ [e.body])))<|gl 6 aH b<|.b 2 65 ((b.length:Int) ==0) (gl 6 Node.av a.nodes<|gd 2 69 ((a.nodes.length:Int) >0) (gE 6 4 (bV false))<|.i [rn 13,.ctoL 1 0 true [(nI 3),(nI 0),.nils,.nils]] [hr (some [(nI 3),(nI 0),.nils,.nils]),hr true]<|.i [.lw 4 (jN [(Node.mk 3 0 [] [])])] [.q (p:=([(.agg [(nI 3),(nI 0),.nils,.nils])] :List AV) ≠ []) (by simp),.q (p:=VW [(.agg [(nI 3),(nI 0),.nils,.nils])] (jN [(Node.mk 3 0 [] [])])) (aR2 _ _)]<|gv 0 1 0 (.gl 4 4 0 [(Node.mk 3 0 [] [])].length true)<|.i [.cweak 1 0] []<|.i [.ctoL 1 1 false [(nI 0)]] [hr (some [(nI 0)]),hr true]<|gu 0 5 (jI [0])<|gv 0 1 1 (.gl 5 1 0 [0].length true)<|.i [.cweak 1 1] []<|.W 8 6 [0,1,4,5] (vY a b (([(Node.mk 3 0 [] [])].length:Nat) :Int) [(Node.mk 3 0 [] [])] [0] 0))<|.W 12 4 [0,1,2,3] (vY a b (a.nodes.length:Int) a.nodes d 0)
def bBG:=fun a b c d e f g i j k=>aLB a b c d|>.t f e g i j k ⟨kk,⟨kk,trivial⟩⟩
def bBH:=fun a b c d e f g=>aLB a b c d|>.f e|>.t f|>.t g tv
def bBI:=fun a b c d e f g=>aLB a b c d|>.f e|>.t f|>.f g ⟨kk,⟨kk,trivial⟩⟩
def bBJ:=fun a b c d e f=>aLB a b c d|>.f e|>.f f ⟨kk,⟨kk,trivial⟩⟩
def aHa(e:LUnit)(f:List aB)(g:Int)(b:List Node)(d:List Int)(c:Int):=tT 0 (vY e f g b d c)<|gd 5 79 (c<g) (.i [rn 7,.ans (.ix)] [hA (0≤c),hA (c< (b.length:Int))]<|.y fun a:Node=>gj Node.av 0 b c.toNat a<|gw 9 85 ((-1:Int) -a.n)<|.b 8 89 (a.op==4) (gl 2 aH f<|gd 3 95 (((-1:Int) -a.n) ≥ (f.length:Int)) (gl 2 aH f<|gl 2 aH e.needs<|gw 1 102 ((f.length:Int) + (e.needs.length:Int))<|gd 3 104 (((-1:Int) -a.n) < ((f.length:Int) + (e.needs.length:Int))) (.i [rn 5,.ans (.ix)] [hA (0≤c),hA (c< (b.length:Int))]<|.i [rn 1,.st (Node.av a) (Node.av (Node.mk a.op (-1) a.kids a.pats))] [.a (((b)[c.toNat]?) =some a) (dN (f:=Node.av)),hr (some (Node.av (Node.mk a.op (-1) a.kids a.pats)))]<|.i [.lset 2 (jN (set b c.toNat (Node.mk a.op (-1) a.kids a.pats)))] [.q (p:=(jN b).set (0+c.toNat) (Node.av (Node.mk a.op (-1) a.kids a.pats)) = (jN (set b c.toNat (Node.mk a.op (-1) a.kids a.pats)))) (iF _ _ _ _)]<|.i [.set 76 (aDK b c a)] [.q (p:=(AV.gl 2 4 0 b.length false) = (aDK b c a)) (bD (length_set ..).symm)]<|.i [.set 106 (aDK b c a)] [.q (p:=(AV.gl 2 4 0 b.length false) = (aDK b c a)) (bD (length_set ..).symm)]<|.i [.cset 1 0 (aDK b c a)] [.q (p:=(AV.gl 2 4 0 b.length false) = (aDK b c a)) (bD (length_set ..).symm)]<|gw 4 110 (c+1)<|.W 3 5 [0,1,2,3] (vY e f g (set b c.toNat (Node.mk a.op (-1) a.kids a.pats)) d (c+1)))<|gw 5 110 (c+1)<|.W 3 5 [0,1,2,3] (vY e f g b d (c+1)))<|gw 15 110 (c+1)<|.W 3 5 [0,1,2,3] (vY e f g b d (c+1)))<|gw 21 110 (c+1)<|.W 3 5 [0,1,2,3] (vY e f g b d (c+1)))<|.i [rn 5,.frz 111 2 (jN b)] [hk Node.av b,.q (p:=AV.frzOk 2 4 (jN b) (jN b) (.agg [(.gl 2 4 0 b.length false),(.gl 3 1 0 d.length false),(nI 0),(iC e.cons)])) (by simp [AV.frzOk,AV.frzOkL,List.take_of_length_le])]<|.i [.frz 111 3 (jI d)] [hk aY d,.q (p:=AV.frzOk 3 1 (jI d) (jI d) (.agg [(iN b),(.gl 3 1 0 d.length false),(nI 0),(iC e.cons)])) (by simp [AV.frzOk,AV.frzOkL,List.take_of_length_le])]<|gpI 0 141 [(.agg [(iN b),(iI d),(nI 0),(iC e.cons)])]<|fun a=>gE 4 4 (bV (a==0))
def bBK:=fun d e f g i j k l a b c m n o p q r=>aHa d e f g i j|>.t l a b k c m|>.t n|>.t o p|>.t q a b c r ⟨kk,⟨kk,trivial⟩⟩
def bBL:=fun a b c d e f g i j k l m n o p q r=>aHa a b c d e f|>.t i j k g l m|>.t n|>.t o p|>.f q r ⟨kk,⟨kk,trivial⟩⟩
def bBM:=fun a b c d e f g i j k l m n o p=>aHa a b c d e f|>.t i j k g l m|>.t n|>.f o p ⟨kk,⟨kk,trivial⟩⟩
def aSf:=fun a b c d e f g i j k l m n o=>aHa a b c d e f|>.t i j k g l m|>.f n o ⟨kk,⟨kk,trivial⟩⟩
def aSg:=fun a b c d e f g i j=>aHa a b c d e f|>.f i g j tv
def bGK(a:Bool)(b:Int):TS:=cQ PP 46 [(bV a),(nI b)] [] 0
def bGL(a:aB):TS:=cQ PP 189 [(aH a)] [] 0
def aXN(a:Bool)(b:Int):=tT 0 (bGK a b)<|.b 4 4 a (gQ 6 0 [((.iface 174 (.agg [(nI b)])),false)])<|gE 3 0 (.tup [])
def bBN:=fun a b c=>aXN a b|>.t c tv
def bBO:=fun a b c=>aXN a b|>.f c tv
def bBP (a:aB):=(tT 0 (bGL a)<|gE 10 0 (aH a)) tv
theorem bFG (e:Int) :Pure PP 46 [.bool false,.int .i64 e] (.tup []) :=
 aV (by kernel_rfl) rfl rfl (bBO false e rfl)
theorem bFH (e:Int) :aJ4 PP 46 [.bool true,.int .i64 e] [((.iface 174 (.agg [(.int .i64 e)])),false)] :=
 throws_at (by kernel_rfl) rfl (fun x hx=>by rw [List.mem_singleton.1 hx];rfl) (bBN true e rfl)
theorem aHb (s:aB) :Pure PP 189 [aH s] (aH s) :=aV (by kernel_rfl) rfl rfl (bBP s)
theorem zN (c:Con) :Pure PP 131 [.agg [aH c.name,.int .i64 c.args]] (aH c.name) :=
 dP (s:=bEx c) (by kernel_rfl) (by kernel_rfl) rfl rfl (bBi c)
theorem aOi (u:LUnit)(hl:u.funs.length≤1000) :∀ (t:List LFun) (i:Nat) (acc:List aB),u.funs.drop i=t→acc.length=i→Ends PP 0 (aLw u (i:Int) acc).as (.ret (.ilst 1 (map aH (acc++t.map LFun.name)) false)) (aD [] 0)
 | [],i,acc,h,ha=>by
  have:=bA h;rw [map_nil,append_nil];exact bBh u i acc sd
 | c::t,i,acc,h,ha=>by
  obtain⟨q1,q2,q3⟩ :=aZ h;have hi:= (List.getElem?_eq_some_iff.1 q1).1;refine(bBg u i acc c sd sd sd (by simp;omega) sd).ends ?_;have:=aOi u hl t (i+1) (acc++ [c.name]) q2 (by simp [ha]);rw [append_assoc]at this;exact this
theorem aOj (u:LUnit)(hl:u.funs.length≤1000) :Pure PP 134 [LUnit.av u] (.ilst 1 (map aH (aC u)) false) :=
 dP (s:=bEw u) (by kernel_rfl) (by kernel_rfl) (by simp [AV.keylessL,zG]) (by simp [AV.keyless]) ((bBf u).ends (aOi u hl u.funs 0 [] rfl rfl))
theorem aOk (l:List aB)(s:aB)(hl:l.length<1000000) :∀ (t:List aB) (i:Nat),l.drop i=t→Ends PP 0 (aLz l s (i:Int)).as (.ret (.int .i64 (dX s t i))) (aD [] 0)
 | [],i,h=>by
  have:=bA h;exact bBz l s i sd
 | c ::t,i,h=>by
  obtain⟨q1,q2,q3⟩ :=aZ h;rw [dX];by_cases e:c=s
  · rw [if_pos e];exact bBx l s i c sd sd sd (by rw [eE];simp [e])
  · rw [if_neg e];exact(bBy l s i c sd sd sd (by rw [eE];simp [Ne.symm e]) sd).ends (aOk l s hl t (i+1) q2)
theorem aXO (l:List aB)(s:aB)(hl:l.length<1000000) :Pure PP 135 [.ilst 1 (map aH l) false,aH s] (.int .i64 (dX s l 0)) :=
 aV (by kernel_rfl) rfl rfl ((bBw l s).ends (aOk l s hl l 0 rfl))
theorem aOl (l:List Con)(s:aB)(hl:l.length<1000000) :∀ (t:List Con) (i:Nat),l.drop i=t→Ends PP 0 (aLy l s (i:Int)).as (.ret (.int .i64 (gI s t i))) (aD [] 0)
 | [],i,h=>by
  have:=bA h;exact bBv l s i sd
 | c ::t,i,h=>by
  obtain⟨q1,q2,q3⟩ :=aZ h;rw [gI];by_cases e:c.name=s
  · rw [if_pos e];exact bBt l s i c _ sd sd sd (zN c) (by rw [eE];simp [e])
  · rw [if_neg e];exact(bBu l s i c _ sd sd sd (zN c) (by rw [eE];simp [e]) sd).ends (aOl l s hl t (i+1) q2)
theorem aXP (l:List Con)(s:aB)(hl:l.length<1000000) :Pure PP 130 [.ilst 2 (map Con.av l) false,.func 131 [] [],aH s] (.int .i64 (gI s l 0)) :=
 dP (s:=bEy l s) (by kernel_rfl) (by kernel_rfl) rfl rfl ((bBs l s).ends (aOl l s hl l 0 rfl))
def aXQ (pre:List aB)(m:List (aB×Bool)) :Prop:=∀s,dE s m=if aQ pre s=true then some true else none
theorem aUu {pre:List aB}{m:List (aB×Bool)}(h:aXQ pre m)(s:aB) :aXQ (pre++ [s]) (cB s true m) :=fun k=>by
 rw [qM,h k];by_cases e:k=s
 ·rw [if_pos e,if_pos (by rw [hasS_mem,e];simp)]
 · rw [if_neg e];have: (aQ (pre++ [s]) k=true) = (aQ pre k=true) :=by
    rw [hasS_mem,hasS_mem];simp [e]
   simp only [this]
theorem bEA (l:List aB)(hl:l.length<1000000) :∀ (t:List aB) (i:Nat) (m:List (aB×Bool)),l.drop i=t→aXQ (l.take i) m→Ends PP 0 (aDL l (i:Int) m).as (.ret (.bool (cR (l.take i) t))) (aD [] 0)
 | [],i,m,h,hm=>by
  have:=bA h;exact bBp l i m sd
 | s::t,i,m,h,hm=>by
  obtain⟨q1,q2,q3⟩ :=aZ h;have g:=hm s;rw [cR];cases e:aQ (l.take i) s
  case true=>
   rw [e,if_pos rfl]at g;exact bBn l i m s s true sd sd sd (aHb s) g rfl
  rw [e,if_neg (by simp)]at g;have h1:=bBo l i m s s s sd sd sd (aHb s) g (aHb s) sd;have ih:=bEA l hl t (i+1) (cB s true m) q2 (by rw [aFl q1];exact aUu hm s);rw [aFl q1]at ih;exact h1.ends ih
theorem bEB (l:List aB)(hl:l.length<1000000) :∀ (t:List aB) (i:Nat),l.drop i=t→Ends PP 0 (aLx l (i:Int)).as (.ret (.bool (t.all mJ&&cC l))) (aD [] 0)
 | [],i,h=>by
  have:=bA h;have h2:=bEA l hl l 0 [] rfl (fun s=>by simp [dE,aQ]);exact(bBm l i sd).ends h2
 | s::t,i,h=>by
  obtain⟨q1,q2,q3⟩ :=aZ h;have hn:=aNN s;rw [List.all_cons];cases e:mJ s
  case false=>rw [e]at hn;exact bBk l i s false sd sd sd hn rfl (by simp)
  rw [e]at hn;rw [Bool.true_and];exact(bBl l i s true sd sd sd hn rfl sd).ends (bEB l hl t (i+1) q2)
theorem aHc (l:List aB)(hl:l.length<1000000) :Pure PP 139 [.ilst 1 (map aH l) false] (.bool (gJ l)) :=
 aV (by kernel_rfl) rfl rfl ((bBj l).ends (bEB l hl l 0 rfl))
abbrev aLC (a b:List aB) :AObj:=.cells (putCells .leaf 0 [.ilst 1 (map aH a) false,.ilst 1 (map aH b) false]) 2 [] false
theorem aOm (a b:List aB)(ha:a.length≤1000)(hb:b.length≤1000) :aF2 PP 1 (.enter 133 [.slice 0 0 2 2 1 true]) (aD [(0,aLC a b,false)] 1) (.ret (.ilst 1 (map aH (a++b)) false)) (aD [(0,aLC a b,false)] 1) :=by
 suffices hh:Ends PP 1 (aXK a b).as (.ret (.ilst 1 (map aH (a++b)) false)) (aD [(0,aLC a b,false)] 1)from⟨(aXK a b).as.fr,by kernel_rfl,mp (by kernel_rfl) hh⟩
 have w1:IntKind.i64.wrap ((0:Int) + ((length a:Nat) :Int)) = (0:Int) + ((length a:Nat) :Int) :=by apply wrap64<;>omega
 have w2:IntKind.i64.wrap (((0:Int) + ((length a:Nat) :Int)) + ((length b:Nat) :Int)) = ((0:Int) + ((length a:Nat) :Int)) + ((length b:Nat) :Int) :=by apply wrap64<;>omega
 have w3:IntKind.i64.wrap ((((0:Int) + ((length a:Nat) :Int)) + ((length b:Nat) :Int)) - (0:Int)) = (((0:Int) + ((length a:Nat) :Int)) + ((length b:Nat) :Int)) - (0:Int) :=by apply wrap64<;>omega
 by_cases h:a.length+b.length=0
 · have h1:=bBr a b w1 (decide_eq_false (by omega)) w2 (decide_eq_false (by omega)) w3 (decide_eq_false (by omega)) (by simp;omega) (by simp;omega);rw [nil_append]at h1;exact h1
 ·exact bBq a b w1 (decide_eq_false (by omega)) w2 (decide_eq_false (by omega)) w3 (decide_eq_true (by omega)) (by omega) (by omega) (by omega) (by omega) (by omega) (by simp;omega)
theorem aXR (xs:List Node)(h:xs.length≤1000000) :aCp PP (.enter 140 [.ilst 4 (map Node.av xs) false]) (aD [] 0) (.ret (.gl 0 4 0 (length xs) false)) (aD [(0,.lst 4 (map Node.av xs),true)] 1) :=by
 suffices hh:Ends PP 0 (aXJ xs).as (.ret (.gl 0 4 0 (length xs) false)) (aD [(0,.lst 4 (map Node.av xs),true)] 1)from⟨(aXJ xs).as.fr,by kernel_rfl,mp (by kernel_rfl) hh⟩
 refine(bGH xs).ends ?_;refine aVb (j:=3) (e:=4) (ex:=false) (xs:=map Node.av xs) (by kernel_rfl) (fun hx=>?_) (fun a n c=>?_)
 · have hx:xs= [] :=by simpa using hx
   subst hx;exact mp (by kernel_rfl) (bGI [])
 · have h1:=bGJ xs a n c (by simpa using h);rw [nil_append]at h1;exact mp (by kernel_rfl) h1
theorem jX (l:List aB) :cC l=true↔l.Nodup:=
 ⟨fun h=> (vT l [] h).1,fun h=>vU l [] h (fun _ _ hx=>by cases hx)⟩
theorem aQ2 (a b:List aB)(ha:gJ a=true)(hb:gJ b=true) :gJ (a++b) =b.all (fun s=> !aQ a s) :=by
 simp only [gJ,and_eq_true,jX]at ha hb;have hn: (a++b).all mJ=true:=by rw [List.all_append,ha.1,hb.1];rfl
 rw [gJ,hn,Bool.true_and];rw [Bool.eq_iff_iff,jX,List.nodup_append,List.all_eq_true];constructor
 · intro h s hs;rw [Bool.not_eq_true',Bool.eq_false_iff];intro hh;exact h.2.2 s (hasS_mem.1 hh) s hs rfl
 · intro h;refine⟨ha.2,hb.2,fun x hx y hy e=>?_⟩;have:=h y hy;rw [Bool.not_eq_true',Bool.eq_false_iff]at this;exact this (hasS_mem.2 (e ▸ hx))
def NumU (u:LUnit) :Prop:=∀x∈u.nodes,-9223372036854775808≤x.n∧x.n≤9223372036854775807
theorem aUv {n:Int}(h: -9223372036854775808≤n∧n≤9223372036854775807) :IntKind.i64.wrap ((-1:Int) -n) = (-1:Int) -n:=by apply wrap64<;>omega
theorem aJj (b:Bool) : (checkN b== (0:Int)) =b:=by cases b<;>rfl
section
variable (u :LUnit) (hu:FewU u) (hi:NumU u)
include hu hi
theorem bEC (l3:List Int)(h3:l3=cI u) :∀ (t:List Node) (i:Nat),u.nodes.drop i=t→i≤u.nodes.length→Ends PP 0 (vY u (aC u) ((u.nodes.length:Nat) :Int) (tG (gP u.funs.length u.needs.length) u.nodes i) l3 (i:Int)).as (.ret (.bool (aP (gW u)))) (aD [] 0)
 | [],i,h,hi=>by
  have hd:=bA h;rw [aN2 (by omega),h3];have h1:=aSg u (aC u) ((u.nodes.length:Nat) :Int) (gW u).nodes (gW u).funs i _ sd (aNV (lJ hu));rw [aJj]at h1;exact h1
 | x :: t,i,h,hi2=>by
  obtain⟨q1,q2,q3⟩ :=aZ h;have hi3:= (List.getElem?_eq_some_iff.1 q1).1;have hn:u.nodes.length≤320:=by have:=hu.p;simp only [aJ,and_eq_true,decide_eq_true_eq]at this;exact this.1.1.1.1
  have hf:=hu.f;have hd:=hu.n;have hl: (tG (gP u.funs.length u.needs.length) u.nodes i).length=u.nodes.length:=aGO;have ho: (aC u).length=u.funs.length:=by simp [aC]
  have hg:=aN3 (f:=gP u.funs.length u.needs.length) q1;have w1:=aUv (hi x (mem_of_getElem? q1));have w2:IntKind.i64.wrap (((length (aC u) :Nat) :Int) + ((length u.needs:Nat) :Int)) = ((length (aC u) :Nat) :Int) + ((length u.needs:Nat) :Int) :=by apply wrap64<;>omega
  have ih:=bEC l3 h3 t (i+1) q2 (by omega);by_cases h4:x.op=4
  · by_cases ha: ((length (aC u) :Nat) :Int) ≤ -1-x.n
    · by_cases hb: -1-x.n< ((length (aC u) :Nat) :Int) + ((length u.needs:Nat) :Int)
      · have ef:gP u.funs.length u.needs.length x= ⟨x.op,-1,x.kids,x.pats⟩ :=by unfold gP;rw [if_pos ⟨h4,by omega⟩]
        have h1:=bBK u (aC u) ((u.nodes.length:Nat) :Int) _ l3 i x sd sd (by rw [hl];omega) (by rw [Int.toNat_natCast];exact hg) w1 (by simp [h4]) (decide_eq_true ha) w2 (decide_eq_true hb) sd;rw [Int.toNat_natCast,←ef,aN4 q1]at h1;exact h1.ends ih
      · have ef:gP u.funs.length u.needs.length x=x:=by unfold gP;rw [if_neg (fun g=>by have:=g.2;omega)]
        have h1:=bBL u (aC u) ((u.nodes.length:Nat) :Int) _ l3 i x sd sd (by rw [hl];omega) (by rw [Int.toNat_natCast];exact hg) w1 (by simp [h4]) (decide_eq_true ha) w2 (decide_eq_false hb) sd;rw [tH q1 ef]at h1 hl ⊢;exact h1.ends ih
    · have ef:gP u.funs.length u.needs.length x=x:=by unfold gP;rw [if_neg (fun g=>by have:=g.2;omega)]
      have h1:=bBM u (aC u) ((u.nodes.length:Nat) :Int) _ l3 i x sd sd (by rw [hl];omega) (by rw [Int.toNat_natCast];exact hg) w1 (by simp [h4]) (decide_eq_false ha) sd;rw [tH q1 ef]at h1 hl ⊢;exact h1.ends ih
  · have ef:gP u.funs.length u.needs.length x=x:=by unfold gP;rw [if_neg (fun g=>h4 g.1)]
    have h1:=aSf u (aC u) ((u.nodes.length:Nat) :Int) _ l3 i x sd sd (by rw [hl];omega) (by rw [Int.toNat_natCast];exact hg) w1 (by simp [h4]) sd;rw [tH q1 ef]at h1 hl ⊢;exact h1.ends ih
theorem aXS :Ends PP 0 (vY u (aC u) (((length [(Node.mk 3 0 [] [])]) :Nat) :Int) [(Node.mk 3 0 [] [])] [0] 0).as (.ret (.bool (aP (aA9 u)))) (aD [] 0) :=by
 have h0:=aSf u (aC u) 1 [(Node.mk 3 0 [] [])] [0] 0 ⟨3,0,[],[]⟩ (by decide) (by decide) (by decide) rfl (by decide) (by decide) (by decide);have h1:=aSg u (aC u) 1 (aA9 u).nodes (aA9 u).funs 1 _ (by decide) (aNV (aBF hu));rw [aJj]at h1;exact h0.ends h1
theorem bED (b:Bool)(hb:b=if u.funs.length=0 then decide (u.nodes.length=0) &&aP (aA9 u)else aP (gW u)) :∀ (t:List LFun) (i:Nat) (acc:List Int),u.funs.drop i=t→acc.length=i→acc++t.map LFun.body=cI u→Ends PP 0 (aLA u (aC u) (i:Int) acc).as (.ret (.bool b)) (aD [] 0)
 | [], i,acc,h,ha,e=>by
  have:=bA h;have ho: (aC u).length=u.funs.length:=by simp [aC]
  rw [map_nil,append_nil]at e;by_cases h0:u.funs.length=0
  · rw [if_pos h0]at hb;by_cases h1:u.nodes.length=0
    · rw [decide_eq_true h1,Bool.true_and]at hb;rw [hb];exact(bBI u (aC u) i acc sd (by rw [ho,h0];rfl) (by rw [h1];rfl)).ends (aXS u hu hi)
    · rw [decide_eq_false h1,Bool.false_and]at hb;rw [hb];exact bBH u (aC u) i acc sd (by rw [ho,h0];rfl) (decide_eq_true (by omega))
  · rw [if_neg h0]at hb;rw [hb];have h2:=bEC u hu hi acc e u.nodes 0 rfl (Nat.zero_le _);rw [aI4]at h2;exact(bBJ u (aC u) i acc sd (beq_eq_false_iff_ne.2 (by rw [ho];omega))).ends h2
 | f::t,i,acc,h,ha,e=>by
  obtain⟨q1,q2,q3⟩ :=aZ h;have hf:=hu.f;exact(bBG u (aC u) i acc f sd sd sd (by simp;omega) sd).ends (bED b hb t (i+1) (acc++ [f.body]) q2 (by simp [ha]) (by simpa using e))
theorem aOn :Pure PP 77 [LUnit.av u] (.bool (jJ u)) :=by
 have hf:=hu.f;have hd:=hu.n;refine dP (s:=bEz u) (by kernel_rfl) (by kernel_rfl) (by simp [AV.keylessL,zG]) (by simp [AV.keyless]) ?_;have hnl: (aC u).length=u.funs.length:=by simp [aC]
 have a0:=aOj u (by omega);have a1:=aNN u.name;have a2:=aHc (aC u) (by omega);have a3:=aHc u.needs (by omega);have a4:=aHc (aC u++u.needs) (by simp;omega);have hn:u.nodes.length≤320:=by have:=hu.p;simp only [aJ,and_eq_true,decide_eq_true_eq]at this;exact this.1.1.1.1
 have hc:=aOm (aC u) u.needs (by omega) (by omega)
 have hc':=mW (m:=1) (ks:=[1]) (n2:=2) (n3:=2) (v':=.ilst 1 (map aH (aC u++u.needs)) false) (args':=[.slice 1 0 2 2 1 true])
  (lc:=[(0,aI8 u,false),(1,aLC (aC u) u.needs,false)]) (lc':=[(0,aI8 u,false),(1,aLC (aC u) u.needs,false)])
  hc (by rfl) (by kernel_rfl) (by kernel_rfl) (by rfl) (by rfl) (by kernel_rfl) (by kernel_rfl) trivial (by kernel_rfl) trivial
 have hk:=aCq (ks:=[]) (n2:=3) (args':=[.ilst 4 (map Node.av u.nodes) false])
  (lc:=[(0,aI8 u,false),(1,aLC (aC u) u.needs,false)]) (x:=[(0,aI8 u,false),(1,aLC (aC u) u.needs,false)])
  (aXR u.nodes (by omega)) (by kernel_rfl) (by kernel_rfl) (by kernel_rfl) trivial (by kernel_rfl) (by kernel_rfl) (by kernel_rfl) (by kernel_rfl) ⟨aG _ (fun _=>rfl) _,trivial⟩ (by kernel_rfl)
 unfold jJ;cases e1:mJ u.name
 case false=>rw [e1]at a1;simp only [Bool.false_and];exact bBA u (aC u) false a0 a1 rfl
 rw [e1]at a1;by_cases e2:u.needs.length≤20
 · rw [decide_eq_true e2];cases e3:gJ (aC u)
   case false=>rw [e3]at a2;simp only [Bool.true_and,Bool.false_and,Bool.and_false];exact bBC u (aC u) true false a0 a1 rfl (by simp;omega) a2 rfl
   rw [e3]at a2;cases e4:gJ u.needs
   case false=>rw [e4]at a3;simp only [Bool.true_and,Bool.false_and,Bool.and_false];exact bBD u (aC u) true true false a0 a1 rfl (by simp;omega) a2 rfl a3 rfl
   rw [e4]at a3;rw [aQ2 _ _ e3 e4]at a4;simp only [Bool.true_and];cases e5:u.needs.all (fun s=> !aQ (aC u) s)
   case false=>
    rw [e5]at a4;rw [Bool.false_and];exact bBE u (aC u) true true true false a0 a1 rfl (by simp;omega) a2 rfl a3 rfl (mp (by kernel_rfl) hc') a4 rfl
   rw [e5]at a4;rw [Bool.true_and];exact(bBF u (aC u) true true true true a0 a1 rfl (by simp;omega) a2 rfl a3 rfl (mp (by kernel_rfl) hc') a4 rfl (mp (by kernel_rfl) hk)).ends (bED u hu hi _ rfl u.funs 0 [] rfl rfl rfl)
 · rw [decide_eq_false e2];simp only [Bool.and_false,Bool.false_and];exact bBB u (aC u) true a0 a1 rfl (by simp;omega)
end
end
end Go.Hb
