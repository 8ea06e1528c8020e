/- A machine on abstract values, its soundness, ways, plain laws. -/
import Derived.Test.YtlgoblkihmkmcaaGreatHF
import Derived.Test.YtlgoblkihmkmcaaGreatHG
import Derived.Test.YtlgoblkihmkmcaaGreatHH
import Derived.Test.YtlgoblkihmkmcaaGreatHK
import Derived.Test.YtlgoblkihmkmcaaGreatHJ
set_option linter.defProp false
set_option linter.unusedVariables false
set_option linter.unusedSimpArgs false
set_option linter.unusedSectionVars false
set_option maxRecDepth 100000
set_option maxHeartbeats 4000000
namespace Go.Hb
open AV (frz frzL frzOk frzOkL)
open Bool (and_eq_true)
open List (getElem?_map length map map_map map_set mem_cons_of_mem mem_cons_self set set_set)
open Go.Proofs Tryz
noncomputable section
def toL (p:Prog)(off:Nat) :List Int:=aUi (List.replicate p.nodes.length 0) off (aCq p)
section
variable {p :Prog}
end
theorem aDv :∀ (l pre:List aA),l.Nodup→ (∀x∈l,x∉pre) →cM pre l=true
 | [],_,_,_=>rfl
 | x ::t,pre,hd,h=>by
  have hd:=List.nodup_cons.1 hd;simp only [cM,and_eq_true,Bool.not_eq_true'];refine⟨?_,aDv t (pre++ [x]) hd.2 (fun y hy=>?_)⟩
  · cases e:cA pre x
    case false=>rfl
    exact absurd (hasS_mem.1 e) (h x (mem_cons_self ..))
  · rw [List.mem_append,not_or,List.mem_singleton];exact⟨h y (mem_cons_of_mem _ hy),fun e=>hd.1 (e ▸ hy)⟩
structure Fs (p:Prog) :Prop extends Fm p where
 sm:aW p=true
 fo:bP p=true
theorem Fs.of {p:Prog}(hs:aW p=true)(hf:bP p=true) :Fs p:={aOP hs hf with sm:=hs,fo:=hf}
theorem Fs.head {p:Prog}(h:Fs p) :p.nodes.length≤300∧1≤p.funs.length∧p.funs.length≤p.nodes.length∧0≤p.main∧p.main<p.funs.length∧p.cons.length≤20∧ (∀c∈p.cons,jK c=true) :=by
 have:=h.fo;simp only [bP,and_eq_true,fS,aCe,decide_eq_true_eq]at this;obtain⟨⟨⟨⟨a1,a2⟩,a3⟩,⟨a4,a5⟩,_⟩,_⟩ :=this;simp [bG]at a2 a3;exact⟨a1,by omega,by omega,by omega,by omega,a5,fun c hc=>List.all_eq_true.1 a4 c hc⟩
section
variable {a :Prog} {N:Nat}
end
section
variable {p a:Prog} {off:Nat} {mf mc:List (Int×Int)} {to:List Int}
end
section
variable {p q:Prog}
end
mutual
theorem aRT {cons:List Con}{mc mc' mc2:List (Int×Int)}(h:∀n:Int,0≤n→n<cons.length→mAt mc2 n=mAt mc' (mAt mc n)) :∀q:Pat,fC cons q=true→aKb mc' (aKb mc q) =aKb mc2 q
 | .mk f n s ps,g=>by
  rw [fC,and_eq_true]at g;rw [aKb,aKb,aKb,aCr h ps g.2];by_cases hf:f=6
  · subst hf;have g1:=g.1;unfold fG at g1;simp [bG]at g1;rw [if_pos rfl,if_pos rfl,if_pos rfl,h n g1.1.1.1 (by omega)]
  ·rw [if_neg hf,if_neg hf,if_neg hf]
theorem aCr {cons:List Con}{mc mc' mc2:List (Int×Int)}(h:∀n:Int,0≤n→n<cons.length→mAt mc2 n=mAt mc' (mAt mc n)) :∀ps:List Pat,dO cons ps=true→uX mc' (uX mc ps) =uX mc2 ps
 | [],_=>rfl
 | q::ps,g=>by
  rw [dO,and_eq_true]at g;rw [uX,uX,uX,aRT h q g.1,aCr h ps g.2]
end
theorem aUD {p:Prog}{x:Node}(h:cY p x=true) : (x.op=4→ -(p.funs.length:Int) ≤x.n) ∧ (x.op=14→0≤x.n∧x.n<p.cons.length) ∧dO p.cons x.pats=true:=by
 simp only [cY,pC,and_eq_true]at h;obtain⟨⟨⟨h1,_⟩,h2⟩,_⟩ :=h;refine⟨fun e=>?_,fun e=>?_,aCn fun q hq=>?_⟩
 · rw [e]at h1;simp [fH,bG]at h1;omega
 · rw [e]at h1;simp [fH,bG]at h1;omega
 · have:=List.all_eq_true.1 h2 q hq;simp only [jY,and_eq_true]at this;exact this.2
structure Comp (p:Prog) (mf mc:List (Int×Int)) (to:List Int) (mf' mc':List (Int×Int)) (to':List Int) (mf2 mc2:List (Int×Int)) (to2:List Int) :Prop where
 f0:∀i:Int,0≤i→i<p.funs.length→0≤mAt mf i
 f:∀i:Int,0≤i→i<p.funs.length→mAt mf2 i=mAt mf' (mAt mf i)
 c:∀i:Int,0≤i→i<p.cons.length→mAt mc2 i=mAt mc' (mAt mc i)
 t:∀ (i:Nat) (k:Int),(aCq p)[i]?=some k→aKc to2 k=aKc to' (aKc to k)
theorem Comp.node {p:Prog}{mf mc mf' mc' mf2 mc2:List (Int×Int)}{to to' to2:List Int}(h:Comp p mf mc to mf' mc' to' mf2 mc2 to2)(hp:Fm p){k:Int}(hk:k∈aCq p) :aEZ mf' mc' to' (aEZ mf mc to (nodeAt p k)) =aEZ mf2 mc2 to2 (nodeAt p k) :=by
 have hr:=hp.into k hk;obtain⟨x,hx⟩ :∃x,p.nodes[k.toNat]?=some x:= ⟨_,List.getElem?_eq_getElem (by omega)⟩;rw [aEo hx];obtain⟨h4,h14,hps⟩ :=aUD (hp.node _ x hx).1;unfold aEZ;simp only [Node.mk.injEq,map_map,true_and];refine⟨?_,List.map_congr_left fun c hc=>?_,aCr h.c _ hps⟩
 · unfold bN;by_cases e4:x.op=4
   · rw [if_pos e4,if_pos e4,if_pos e4];by_cases hn:0≤x.n
     ·rw [if_pos hn,if_pos hn,if_pos hn]
     · have:=h4 e4;have h0:=h.f0 (-1-x.n) (by omega) (by omega);have h1:=h.f (-1-x.n) (by omega) (by omega);rw [if_neg hn,if_neg hn,if_neg (by omega),h1];congr 2;omega
   · rw [if_neg e4,if_neg e4,if_neg e4];by_cases e14:x.op=14
     · have:=h14 e14;rw [if_pos e14,if_pos e14,if_pos e14,h.c x.n this.1 this.2]
     ·rw [if_neg e14,if_neg e14,if_neg e14]
 · have:= (hp.fine.node _ _ hx).2.2 c hc;obtain⟨i,hi⟩ :=aM6 hp (k:=c) (by omega) (by omega);exact(h.t i c hi).symm
theorem Laid.slice {a p:Prog}{off:Nat}{mf mc:List (Int×Int)}{to:List Int}(h:Laid a off p mf mc to)(F:Node→Node) : ((List.range (aCq p).length).map fun i=>F (nodeAt a ((off+i:Nat) :Int))) = (aCq p).map fun k=>F (aEZ mf mc to (nodeAt p k)) :=by
 refine List.ext_getElem? (fun i=>?_);rw [getElem?_map,getElem?_map];by_cases hi:i< (aCq p).length
 · have e: (aCq p)[i]?=some (aCq p)[i] :=List.getElem?_eq_getElem hi;rw [List.getElem?_range hi,e];simp only [Option.map_some];rw [aEo (p:=a) (k:= ((off+i:Nat) :Int)) (by rw [Int.toNat_natCast];exact h.node i _ e)]
 ·rw [List.getElem?_eq_none (by simp;omega),List.getElem?_eq_none (by omega)];rfl
section
variable {p q r:Prog}
end
structure PlOk (p:Prog) (n:Nat) :Prop where
 low:30≤n
 big:n≤900000
 kid:∀ (a:Nat) (x:Node) (sz:Int) (i:Nat),(aOB p)[a]?=some sz→p.nodes[a]?=some x→i<x.kids.length→sz+aMB x i≤n
 own:∀ (a:Nat) (x:Node) (sz:Int),(aOB p)[a]?=some sz→p.nodes[a]?=some x→x.op=5∨x.op=27∨x.op=7→sz<n
def KidLe (p:Prog)(b:Int)(P:Nat→Prop) :Prop:=∀ (c:Nat) (x:Node) (s:Int) (i:Nat),P c→ (aOB p)[c]?=some s→p.nodes[c]?=some x→i<x.kids.length→s+aMB x i≤b
theorem KidLe.mono {p:Prog}{b b':Int}{P:Nat→Prop}(h:KidLe p b P)(hb:b≤b') :KidLe p b' P:=fun c x s i a1 a2 a3 a4=>by
 have:=h c x s i a1 a2 a3 a4;omega
theorem Pure.val {P:Program}{f:Nat}{args:List AV}{v v':AV}(h:Pure P f args v)(hv:∀E cv,VR E v cv→VR E v' cv) :Pure P f args v':=fun hp=>by
 obtain⟨g,hg,he⟩ :=h hp;exact⟨g,hg,Ends.val he hv⟩
section
variable {P :Program}
theorem aDw {E E':Emb}(hle:E.le E') :∀ {xs:List AV} {i:Nat} {y:AV} {vs:List Value} {v:Value},VRs E xs vs→vs[i]?=some v→VR E' y v→VRs E' (xs.set i y) vs
 | [],i,y,vs,v,hvs,hv,_=>by simp only [VRs]at hvs;subst hvs;simp at hv
 | a::xs,0,y,vs,v,hvs,hv,hy=>by
  simp only [VRs]at hvs;obtain⟨u,us,rfl,h1,h2⟩ :=hvs;simp at hv;subst hv;simp only [List.set_cons_zero,VRs];exact⟨_,us,rfl,hy,h2.mono hle⟩
 | a::xs,i+1,y,vs,v,hvs,hv,hy=>by
  simp only [VRs]at hvs;obtain⟨u,us,rfl,h1,h2⟩ :=hvs;simp only [List.getElem?_cons_succ]at hv;simp only [List.set_cons_succ,VRs];exact⟨u,us,rfl,h1.mono hle,aDw hle h2 hv hy⟩
theorem aM7 {E:Emb}{c:List AV}{o:Nat}{v:AV}(hc:c[o]?=some v){cv:Value}(h:VR E (.agg c) cv) :∃us w,cv= .agg us.toArray∧VRs E c us∧us[o]?=some w∧VR E v w:=by
 rw [VR]at h;obtain⟨us,rfl,h⟩ :=h;obtain⟨w,h1,h2⟩ :=h.get _ _ hc;exact⟨us,w,rfl,h,h1,h2⟩
theorem aE8 {m:Nat}{fr:AFrame}{cs:List AFrame}{h h1:Hp}{k e i o:Nat}{zs c:List AV}{v v':AV}(hk:h.look k=some (.lst e zs))(hk1:h1.look k=some (.lst e zs))(hi:zs[i]?=some (.agg c))(hc:c[o]?=some v)(ht:m≤h.nb→uK m h h1 v v') :
  LeadsM P m ⟨fr,cs,h⟩ ⟨fr,cs,h1.set k (.lst e (zs.set i (.agg (c.set o v'))))⟩ :=fun hm E cf ccs w base f fs r=>by
 obtain⟨E',hle,r',x',hvv⟩ :=ht hm E w r;have hun:sK (.lst e zs) =false:=by
  cases zs with
  |nil=>simp at hi
  |cons _ _=>rfl
 have hr:Rel E' (h1.set k (.lst e (zs.set i (.agg (c.set o v'))))) w.heap:=by
  refine r'.reobj hk1 hun (fun L hL=>?_) rfl rfl rfl;obtain⟨L0,hE,C,el,vs,o1,o2,o3,o4,o5⟩ :=r.obj _ _ hk hun;have:=hle.1 _ _ hE;rw [hL]at this;cases this;obtain⟨cv,g1,g2⟩ :=o3.get _ _ hi;obtain⟨us,q,rfl,g3,g4,g5⟩ :=aM7 hc g2;refine⟨C,el,vs,o1,o2,aDw hle o3 g1 ?_,o4,o5⟩;rw [VR];exact⟨us,rfl,aDw hle g3 g4 (hvv q g5)⟩
 exact⟨E',cf,ccs,w,Steps.refl _ _,f.mono hle,fs.mono hle,hr,lG x' hk1⟩
def LQ (zs:List AV)(i o:Nat)(v v':AV)(ys:List AV) :Prop:=∃c,zs[i]?=some (.agg c) ∧c[o]?=some v∧ys=zs.set i (.agg (c.set o v'))
theorem aW0 {m:Nat}{s t:TS}{k b e0 e i o n:Nat}{u:Value}{xs zs ys:List AV}(hk:s.as.h.look k=some (.lst e0 zs))(hb:s.as.h.look b=some (.lstv u e xs))(hne:k≠b)(hn:xs.length=n)(hq:LQ zs i o (.val u) (.gl b e 0 n false) ys)
  (ht:t.as= ⟨s.as.fr,s.as.cs,(s.as.h.set b (.lst e xs)).set k (.lst e0 ys)⟩) :LeadsM P m s.as t.as:=by
 subst hn;obtain⟨c,h1,h2,rfl⟩ :=hq;rw [ht];exact aE8 hk (by rw [bK,if_neg hne];exact hk) h1 h2 (aC1 hb)
theorem aZS {m:Nat}{s t:TS}{k e0 e i o:Nat}{zs ys:List AV}(hk:s.as.h.look k=some (.lst e0 zs))(hlt:Nat.blt k s.as.h.nb=true)(hq:LQ zs i o .nils (.gl s.as.h.nb e 0 0 false) ys)
  (ht:t.as= ⟨s.as.fr,s.as.cs,(s.as.h.new (.lst e [])).set k (.lst e0 ys)⟩) :LeadsM P m s.as t.as:=by
 obtain⟨c,h1,h2,rfl⟩ :=hq;rw [ht];rw [dQ]at hlt;have:=of_decide_eq_true hlt;exact aE8 hk (by rw [dE,if_neg (by omega)];exact hk) h1 h2 (aD4 e)
def NQ (zs:List AV)(i o b e n:Nat)(u:Value)(ys:List AV) :Prop:=0<n∧∃c ex,zs[i]?=some (.agg c) ∧c[o]?=some (.gl b e 0 n ex) ∧ys=zs.set i (.agg (c.set o (.val u)))
theorem aOQ {m:Nat}{s1:AS}{k b e0 e i o:Nat}{zs xs:List AV}{ys:Value→List AV}{res:Res}{h':Hp}(hlk:s1.h.look k=some (.lst e0 zs))(hlb:s1.h.look b=some (.lst e xs))(hkb:k≠b)(hnq:∀u,NQ zs i o b e xs.length u (ys u))
  (hk:∀ua un uc,Ends P m ⟨s1.fr,s1.cs,(s1.h.set b (.lstv (.slice ua un uc) e xs)).set k (.lst e0 (ys (.slice ua un uc)))⟩ res h') :Ends P m s1 res h':=by
 obtain⟨hpos,c,ex,hz,hc,_⟩ :=hnq (.slice none 0 0);intro hm E cf ccs w f fs r cl base;have hun:sK (.lst e0 zs) =false:=by
  cases zs with
  |nil=>simp at hz
  |cons _ _=>rfl
 have hunb:sK (.lst e xs) =false:=by
  cases xs with
  |nil=>simp at hpos
  |cons _ _=>rfl
 obtain⟨L0,hE0,C,el,vs,o1,o2,o3,o4,o5⟩ :=r.obj _ _ hlk hun;obtain⟨cv,g1,g2⟩ :=o3.get _ _ hz;obtain⟨us,q,rfl,g3,g4,g5⟩ :=aM7 hc g2;simp only [VR]at g5;rcases g5 with⟨z,_⟩ | ⟨L,a,cap,hE,rfl,a1,_,a3⟩
 ·omega
 · obtain⟨_,c',ex',hz',hc',hys⟩ :=hnq (.slice (some ⟨L.blk,a,none⟩) xs.length cap);rw [hz]at hz';cases hz'
   have r1:Rel E (s1.h.set b (.lstv (.slice (some ⟨L.blk,a,none⟩) xs.length cap) e xs)) w.heap:=r.reobj hlb hunb (fun L' hL'=>by
    obtain⟨C',el',vs',p1,p2,p3,p4,p5⟩ :=r.objL hlb hL';rw [hE]at hL';cases hL';exact⟨C',el',vs',p1,p2,p3,p4,p5,a,cap,rfl,by omega,fun hc=>by have:=a3 hc;exact⟨by omega,this.2⟩⟩) rfl rfl rfl
   have hlk1: (s1.h.set b (.lstv (.slice (some ⟨L.blk,a,none⟩) xs.length cap) e xs)).look k=some (.lst e0 zs) :=by rw [bK,if_neg hkb];exact hlk
   have r2:Rel E ((s1.h.set b (.lstv (.slice (some ⟨L.blk,a,none⟩) xs.length cap) e xs)).set k (.lst e0 (ys (.slice (some ⟨L.blk,a,none⟩) xs.length cap)))) w.heap:=r1.reobj hlk1 hun (fun L' hL'=>by
    rw [hE0]at hL';cases hL';refine⟨C,el,vs,o1,o2,?_,o4,o5⟩;rw [hys];refine aDw (Emb.le.refl E) o3 g1 ?_;rw [VR];exact⟨us,rfl,aDw (Emb.le.refl E) g3 g4 (by simp only [VR])⟩) rfl rfl rfl
   obtain⟨cl',w',E',s1',gg,rr,xx⟩ :=hk (some ⟨L.blk,a,none⟩) xs.length cap hm _ cf ccs w f fs r2 cl base;exact⟨cl',w',E',s1',gg,rr,(lG (lG (ExtM.refl hm) hlb) hlk1).trans xx⟩
theorem aRU {m:Nat}{s:AS}{t:TS}{ks:List Nat}(h2:s.sum (fA m t.nb s.h.nb ks) t=t.want (fA m t.nb s.h.nb ks))(hok:dC m t ks=true)(hkl:iV t.hp) :LeadsM P m s t.as:=by
 simp only [AS.sum,TS.want,Sum.mk.injEq]at h2;obtain⟨a1,a2,a3,a4⟩ :=h2;intro hm E fr ccs w base f fs r;obtain⟨q1,q2⟩ :=kW (l:=t.hp) (nb:=t.nb) (by simpa [dC]using hok) a4 hkl r;exact⟨_,fr,ccs,w,Steps.refl _ _,aFr a1 f,aAR a2 a3 fs,q1,q2⟩
def aZT (P:Program)(m:Nat)(is:List Ins)(s:TS)(k b i o:Nat)(ys:List AV)(u:Value)(is2:List Ins)(t:TS)(ks:List Nat) :Option (Nat×Sum×List Prop) :=
 match yQ P is s.as with
 | some (s1,ps) =>match s1.h.look k,s1.h.look b with
  | some (.lst e0 zs),some (.lst e xs) =>bif Nat.beq k b then none else
   match yQ P is2 ⟨s1.fr,s1.cs,(s1.h.set b (.lstv u e xs)).set k (.lst e0 ys)⟩with
   |some (s3,qs) =>some (s3.h.nb,AS.sum s3 (fA m t.nb s3.h.nb ks) t,NQ zs i o b e xs.length u ys:: (ps++qs))
   |none=>none
  |_,_=>none
 |none=>none
theorem aG4 {m:Nat}{is:List Ins}{s:TS}{t:Value→TS}{k b i o:Nat}{ys:Value→List AV}{is2:Value→List Ins}{ks:List Nat}{n1:Nat}{ps:Value→List Prop}
  (h0:∀u,aZT P m is s k b i o (ys u) u (is2 u) (t u) ks=some (n1,(t u).want (fA m (t u).nb n1 ks),ps u)) (hok:∀u,dC m (t u) ks=true) (hkl:∀u,iV (t u).hp) (hp:∀u,AllP (ps u))
  {res:Res} {h':Hp} (hk:∀ua un uc,Ends P m (t (.slice ua un uc)).as res h') :Ends P m s.as res h':=by
 have h0':=h0 (.slice none 0 0);unfold aZT at h0';split at h0'
 · rename_i s1 qs h1;split at h0'
   · rename_i e0 zs e xs hlk hlb;cases hkb:Nat.beq k b
     case true=>rw [hkb]at h0';cases h0'
     have hkb':k≠b:=fun g=>by subst g;simp at hkb
     have key:∀u,∃s3 qs3,yQ P (is2 u) ⟨s1.fr,s1.cs,(s1.h.set b (.lstv u e xs)).set k (.lst e0 (ys u))⟩ =some (s3,qs3) ∧s3.h.nb=n1∧s3.sum (fA m (t u).nb s3.h.nb ks) (t u) = (t u).want (fA m (t u).nb n1 ks) ∧NQ zs i o b e xs.length u (ys u) :: (qs++qs3) =ps u:=fun u=>by
      have h0u:=h0 u;unfold aZT at h0u;rw [h1]at h0u;simp only [hlk,hlb,hkb,cond]at h0u;split at h0u
      · rename_i s3 qs3 h3;simp only [Option.some.injEq,Prod.mk.injEq]at h0u;exact⟨s3,qs3,h3,h0u.1,h0u.2.1,h0u.2.2⟩
      ·cases h0u
     refine(jA h1 (fun q hq=>?_)).ends (aOQ (i:=i) (o:=o) hlk hlb hkb' (ys:=ys) (fun u=>?_) (fun ua un uc=>?_))
     · obtain⟨s3,qs3,_,_,_,g⟩ :=key (.slice none 0 0);exact(hp (.slice none 0 0)).mem q (by rw [←g];exact mem_cons_of_mem _ (List.mem_append_left _ hq))
     · obtain⟨s3,qs3,_,_,_,g⟩ :=key u;exact(hp u).mem _ (by rw [←g];exact mem_cons_self ..)
     · obtain⟨s3,qs3,g1,g2,g3,g⟩ :=key (.slice ua un uc);subst g2;exact((jA g1 (fun q hq=> (hp (.slice ua un uc)).mem q (by rw [←g];exact mem_cons_of_mem _ (List.mem_append_right _ hq)))).trans (aRU g3 (hok _) (hkl _))).ends (hk ua un uc)
   ·cases h0'
 ·cases h0'
end
inductive KVD where
 |row (l:List ConD)
 |nil
 |val (u:Value)
def KVD.av :KVD→AV
 | .row l=>.ilst 2 (map ConD.av l) false
 | .nil=>.nils
 | .val u=>.val u
structure ODat where
 name:aA
 kv:KVD
def ODat.av (x:ODat) :AV:=.agg [aD x.name,x.kv.av]
def DataD.o (x:DataD) :ODat:= ⟨x.name,.row x.cons⟩
theorem aKP {β:Type}{f:β→AV}{l:List β}{ix T:Nat}{Y:AV}(h:T=ix)(hlt:ix<length l) : (set (map f l) ix Y)[0+T]?=some Y:=by
 subst h;rw [Nat.zero_add,List.getElem?_set_self (by simpa using hlt)]
theorem aUE {β:Type}{f:β→AV}{l:List β}{ix T:Nat}{Y Y':AV}(h:T=ix) : (set (map f l) ix Y).set (0+T) Y'=set (map f l) ix Y':=by
 subst h;rw [Nat.zero_add,set_set]
theorem aYQ {β:Type}{f:β→AV}{l:List β}{ix:Nat}(pre post:List AV){b e n n':Nat}{ex:Bool}{u:Value}{y:β}(hlt:ix<length l)(hn:n'=n)(h0:0<n')(hy:f y= .agg (pre++ .val u::post)) :
  NQ (set (map f l) ix (.agg (pre++ .gl b e 0 n ex::post))) ix pre.length b e n' u (map f (set l ix y)) :=by
 subst hn;refine⟨h0,_,ex,List.getElem?_set_self (by simpa using hlt),by simp,?_⟩;rw [set_set,map_set,hy];simp
theorem aYR {β:Type}{f:β→AV}{l:List β}{ix:Nat}(pre post:List AV){v v':AV}{y:β}(h:l[ix]?=some y)(hy:f y= .agg (pre++v::post)) :
  LQ (map f l) ix pre.length v v' (set (map f l) ix (.agg (pre++v'::post))) :=by
 refine⟨pre++v::post,by rw [getElem?_map,h];simp [hy],by simp,by simp⟩
mutual
def pnP (cs:List Con) :Pat→Pat
 | .mk f n s ps=>.mk f (if f=6 then dX s cs 0 else n) [] (iJ cs ps)
def iJ (cs:List Con) :List Pat→List Pat
 | [] =>[]
 |p::ps=>pnP cs p::iJ cs ps
end
abbrev BHc (fs:List aA)(cs:List Con)(b n:Nat) :AObj:=.cells (putCells .leaf 0 [.ilst 1 (map aD fs) false,.ilst 2 (map Con.av cs) false,.gl b 4 0 n false]) 3 [] false
abbrev BH (fs:List aA)(cs:List Con)(L:List ONode) :List (Nat×AObj×Bool) :=[(0,BHc fs cs 1 (length L),false),(1,OL L,true)]
def bA9 (fs:List aA)(cs:List Con)(env:List aA)(o n:Int)(s:aA) :Int:=
 if o=14 then dX s cs 0 else if o=4 then(if rU env s<0 then IntKind.i64.wrap (-1-rU fs s)else rU env s)else n
mutual
def aW1 (fs:List aA)(cs:List Con) :Term→List aA→Nat→List Node
 | .mk o n s ks ps,env,a=> ⟨o,bA9 fs cs env o n s,(aQA fs cs o s ps ks 0 env (a+1)).1,iJ cs ps⟩ :: (aQA fs cs o s ps ks 0 env (a+1)).2
def aQA (fs:List aA)(cs:List Con)(o:Int)(s:aA)(ps:List Pat) :List Term→Nat→List aA→Nat→List Int×List Node
 | [],_,_,_=> ([],[])
 |t::ts,i,env,a=> (((a:Nat) :Int) :: (aQA fs cs o s ps ts (i+1) env (a+ (aW1 fs cs t (env++cX o s ps i) a).length)).1,aW1 fs cs t (env++cX o s ps i) a++ (aQA fs cs o s ps ts (i+1) env (a+ (aW1 fs cs t (env++cX o s ps i) a).length)).2)
end
def PUS (fs:List aA)(cs:List Con)(t:Term)(env:List aA)(L:List ONode)(ns:List Node) :Prop:=
 nE PP 1 (.enter 67 [.ptr 0 0,Term.av t,.ilst 1 (map aD env) false]) (aG (BH fs cs L) 2) (.ret (.int .i64 ((length L:Nat) :Int))) (aG (BH fs cs (L++map Node.o ns)) 2)
section
variable (fs :List aA) (cs:List Con) (L:List ONode) (o n:Int) (s:aA) (ks:List Term) (ps:List Pat) (env:List aA)
variable (hkl :ks.length≤900) (h15:o=15→ks.length≤ps.length+1) (hps:∀p∈ps,bA p≤1000) (he:env.length≤900000)
 (ih:∀t∈ks,∀ (e:List aA) (M:List ONode),e.length≤env.length+1000→M.length+cJ t≤1000000→PUS fs cs t e M (aW1 fs cs t e M.length))
include hkl h15 hps he ih
end
abbrev yS (q:aA) :AObj:=.cells (putCells .leaf 0 [aD q]) 1 [] false
theorem qG (l:List aA) :AV.keyless (lN 1 aD l) =true:=by simp only [lN,AV.keyless]
theorem aZU {l:List Node}{x:ONode}(h:l.length<1000000) : (map Node.o l++ [x]).length≤1000000:=by simp;omega
theorem aZV (l:List Node)(o n:Int)(P:List Pat) :List.take l.length (List.drop 0 (map Node.av l)) ++ ([.agg [.int .i64 o,.int .i64 n,.nils,.ilst 4 (Pats.av P) false]] :List AV) =map ONode.av (map Node.o l++ [ONode.mk o n KV.nil P]) :=by
 rw [List.map_append,aJZ,List.drop_zero,List.take_of_length_le (by simp)];rfl
theorem aW2 (l:List Node)(x:AV)(y:ONode) :l.length+length ([x] :List AV) = (map Node.o l++ [y]).length:=by simp
theorem bBa (l:List Node)(y:ONode) :map ONode.av (map Node.o l++ [y]) ≠ [] :=by simp
theorem aW3 (l:List Node)(y:ONode)(z:Node) : (map Node.o l++ [y]).length= (l++ [z]).length:=by simp
theorem aW4 (l:List Node)(o n:Int)(P:List Pat) :VW (map ONode.av (map Node.o l++ [ONode.mk o n KV.nil P])) (map Node.av (l++ [Node.mk o n [] P])) :=by
 have h:=aS3 (l:=map Node.o l++ [ONode.mk o n KV.nil P]) (i:=l.length) (y:=ONode.mk o n KV.nil P) (by rw [List.getElem?_append_right (by simp)];simp) rfl;have e: (map Node.o l++ [ONode.mk o n KV.nil P]).set l.length ⟨o,n,.row [],P⟩ =map Node.o (l++ [Node.mk o n [] P]) :=by
  rw [List.set_append_right _ _ (by simp)];simp [Node.o]
 rw [e,aJZ]at h;exact h
theorem aW5 {l:List Node}{j:Nat}{y:Node}(h:l[j]?=some y)(i:Nat)(x:AV) :set (map Node.av l) i x≠ [] :=by
 intro e;have:=congrArg length e;simp at this;subst this;simp at h
theorem aG5 {b e:Nat}{xs ys:List AV}:∀ {l:List AV},(∀x∈l,frzOk b e xs ys x) →frzOkL b e xs ys l
 | [],_=>by simp only [frzOkL]
 | a::l,h=>by
  simp only [frzOkL];exact⟨h a (mem_cons_self ..),aG5 fun x hx=>h x (mem_cons_of_mem _ hx)⟩
theorem aM8 (b:Nat)(ys:List AV) :∀l:List AV,frzL b ys l=map (frz b ys) l
 | [] =>by simp only [frzL,List.map_nil]
 |a::l=>by simp only [frzL,List.map_cons,aM8 b ys l]
theorem aUF (b:Nat)(ys:List AV)(x:Node) :frz b ys (Node.av x) =Node.av x:=by
 simp only [Node.av,frz,frzL]
theorem aUG (l:List Node)(i b:Nat)(o n:Int)(ks:List Int)(P:List Pat)(x:Bool) :frzOkL b 1 (map bM ks) (map bM ks) (set (map Node.av l) i (.agg [.int .i64 o,.int .i64 n,.gl b 1 0 (length ks) x,.ilst 4 (Pats.av P) false])) :=by
 refine aG5 fun y hy=>?_;rcases List.mem_or_eq_of_mem_set hy with h|h
 · obtain⟨z,_,rfl⟩ :=List.mem_map.1 h;simp only [Node.av,frzOk,frzOkL,and_self]
 · subst h;have:=nP bM ks (b:=b) (e:=1) (x:=x);simp only [frzOk]at this;simp only [frzOk,frzOkL,and_true,true_and];exact fun h=> (this h).2
theorem aUH (l:List Node)(i b:Nat)(o n:Int)(ks:List Int)(P:List Pat) :frzL b (map bM ks) (set (map Node.av l) (0+i) (.agg [.int .i64 o,.int .i64 n,.gl b 1 0 (length ks) false,.ilst 4 (Pats.av P) false])) =map Node.av (l.set i (Node.mk o n ks P)) :=by
 rw [Nat.zero_add,aM8,map_set,map_set,map_map];have e1:frz b (map bM ks) (.agg [.int .i64 o,.int .i64 n,.gl b 1 0 (length ks) false,.ilst 4 (Pats.av P) false]) =Node.av (Node.mk o n ks P) :=by
  simp [frz,frzL,Node.av]
 have e2:map (frz b (map bM ks) ∘ Node.av) l=map Node.av l:=List.map_congr_left fun x _=>aUF b _ x;rw [e1,e2]
end
end Go.Hb

set_option linter.defProp false
set_option linter.unusedVariables false
set_option linter.unusedSimpArgs false
set_option linter.unusedSectionVars false
set_option maxRecDepth 100000
set_option maxHeartbeats 4000000
namespace Go.Hb
open AV (ilst keyless keylessL)
open List (append_assoc append_nil length length_append length_cons length_map length_set map map_nil mem_append_left mem_append_right mem_of_getElem? set)
open Pats (av)
open Go.Proofs Tryz
noncomputable section
abbrev aUI (a:Nat)(b:Mod):=oC a [aD b.name,.ilst 2 (map DataD.av b.datas) false,.ilst 15 (FunDs.av b.funs) false]
abbrev aCs (a b:Int)(c:aA)(d:List Pat):AV:=.agg [nI a,nI b,aD c,iP d]
abbrev aKQ (a:List Term):AV:=.ilst 5 (Terms.av a) false
def aYS(a:Mod):TS:=bH PP 85 [.agg [aD a.name,.ilst 2 (map DataD.av a.datas) false,.ilst 15 (FunDs.av a.funs) false]] [] 0
def aG6(a:Mod)(c:Int)(b:List Con):TS:=⟨tf 85 44 [kp 1 0,(2,.nils),(3,.gl 1 2 0 b.length false),(4,nI c)] [kc f85 116,kl f85 116,.inBlock 0,kc f85 15],[],[aUI 0 a,oL 1 2 (jC b)],2⟩
def aKR(a:Mod)(c:Int)(b:List Con)(d:Int):TS:=⟨tf 85 44 [kp 1 0,(2,.nils),(3,.gl 1 2 0 b.length false),(4,nI d),(5,nI c)] [kc f85 7460,kl f85 7460,.inBlock 2,.inBlock 1,kc f85 467,kl f85 116,.inBlock 0,kc f85 15],[],[aUI 0 a,oL 1 2 (jC b)],2⟩
def aYT(a:List Con):TS:=bH PP 87 [iC a] [] 0
def aKS(b:List Con)(c:Int)(a:List aA):TS:=⟨tf 87 20 [(0,iC b),(2,.nils),(3,.gl 0 1 0 a.length false),(4,nI c)] [kc f87 116,kl f87 116,.inBlock 0,kc f87 15],[],[oL 0 1 (map aD a)],1⟩
def aYU(a:List Con)(b c:Int)(d:aA)(e:List Pat):TS:=bH PP 148 [iC a,aCs b c d e] [] 0
def aG7(a:List Con)(b c:Int)(d:aA)(e:List Pat)(f:Int):TS:=⟨tf 148 42 [(0,iC a),kp 3 0,(4,bV false),(6,nI f)] [kc f148 116,kl f148 116,.inBlock 0,kc f148 15],[],[oC 0 [nI b,nI c,aD d,iP e]],1⟩
def aQB(a:List Con)(b c:Int)(d:aA)(e:List Term)(f:List Pat):TS:=bH PP 86 [iC a,.agg [nI b,nI c,aD d,aKQ e,iP f]] [] 0
def aAx(a:List Con)(b c:Int)(d:aA)(e:List Term)(f:List Pat)(g:Int):TS:=⟨tf 86 58 [(0,iC a),kp 3 0,(4,bV false),(6,nI g)] [kc f86 116,kl f86 116,.inBlock 0,kc f86 15],[],[oC 0 [nI b,nI c,aD d,aKQ e,iP f]],1⟩
def aAy(a:List Con)(b c:Int)(d:aA)(e:List Term)(f:List Pat)(g:Int):TS:=⟨tf 86 58 [(0,iC a),kp 3 0,(4,bV false),(7,nI g)] [kc f86 244,kl f86 244,.inBlock 2,kc f86 31],[],[oC 0 [nI b,nI c,aD d,aKQ e,iP f]],1⟩
def aYV(a:List aA)(b:aA):TS:=bH PP 149 [iS a,aD b] [] 0
def aKT(a:List aA)(b:aA)(c:Int):TS:=⟨tf 149 20 [(0,iS a),(1,aD b),(4,nI 0),(5,nI c)] [kc f149 52,kl f149 52,.inBlock 0,kc f149 7],[],[],0⟩
def aQC(a:List Con)(b c:Int)(d:aA)(e:List Pat):TS:=bH PP 151 [iC a,aCs b c d e] [] 0
def aAz(c:List Con)(a d:Int)(e:aA)(f:List Pat)(g i:Int)(b:List Pat):TS:=⟨tf 151 40 [(0,iC c),kp 3 0,kp 4 1,kp 5 2,(6,nI i)] [kc f151 244,kl f151 244,.inBlock 0,kc f151 31],[],[oC 0 [nI a,nI d,aD e,iP f],oC 1 [nI 0,nI 0,.str 0 0,.nils],oC 2 [nI a,nI g,.str 0 0,.gl 3 4 0 b.length false],oL 3 4 (av b)],4⟩
def aYW(b:aA)(c:List Con)(a:List LFun)(d:List aA)(e:List Node):TS:=bH PP 78 [.agg [aD b,iC c,.gl 0 2 0 a.length false,iS d,iN e]] [oL 0 2 (map LFun.av a)] 1
def aKU(c:aA)(d:List Con)(a:List LFun)(e:List aA)(f:List Node)(g:Int)(b:List aA):TS:=⟨tf 78 22 [kp 1 1,(2,.nils),(3,.gl 2 1 0 b.length false),(4,nI g)] [kc f78 116,kl f78 116,.inBlock 0,kc f78 15],[],[oL 0 2 (map LFun.av a),oC 1 [aD c,iC d,.gl 0 2 0 a.length false,iS e,iN f],oL 2 1 (map aD b)],3⟩
def aW6 (a:Mod):=(tT 0 (aYS a)<|.i [rn 16,.nilL 3 2] []<|gu 0 1 (jC ([] :List Con))<|gs 0 3 (.gl 1 2 0 ([] :List Con).length false)<|.W 0 2 [0,1] (aG6 a 0 ([] :List Con))) ⟨kk,trivial⟩
def aUJ(a:Mod)(c:Int)(b:List Con):=tT 0 (aG6 a c b)<|gl 6 DataD.av a.datas<|gd 2 11 (c< (a.datas.length:Int)) (.W 10 2 [0,1] (aKR a 0 b c))<|gz 8 2 1 2 Con.av b false<|gE 0 2 (iC b)
def aUK(b:Mod)(c:Int)(e:List Con)(a:Int):=tT 0 (aKR b c e a)<|gX DataD.av 7 b.datas a<|fun f=>gl 2 ConD.av f.cons<|gd 2 22 (c< (f.cons.length:Int)) (gi DataD.av 9 b.datas a f<|gX ConD.av 3 f.cons c<|fun d=>gm 10 dU d.args<|ga 2 Con.av e [Con.mk d.name (d.args.length:Int)]<|gw 6 24 (c+1)<|.W 3 5 [0,4] (aKR b (c+1) (e++ [Con.mk d.name (d.args.length:Int)]) a))<|gw 6 13 (a+1)<|.W 3 2 [0,1] (aG6 b (a+1) e)
def aW7 (a:List Con):=(tT 0 (aYT a)<|.i [rn 15,.nilL 3 1] []<|gu 0 0 (map aD ([] :List aA))<|gs 0 3 (.gl 0 1 0 ([] :List aA).length false)<|.W 0 1 [0] (aKS a 0 ([] :List aA))) ⟨kk,trivial⟩
def aUL(a:List Con)(b:Int)(c:List aA):=tT 0 (aKS a b c)<|gl 5 Con.av a<|gd 2 8 (b< (a.length:Int)) (gX Con.av 8 a b<|fun d=>ga 3 aD c [d.name]<|gw 6 10 (b+1)<|.W 3 3 [2] (aKS a (b+1) (c++ [d.name])))<|gz 8 2 0 1 aD c false<|gE 0 1 (iS c)
def aKV(b:List Con)(c f:Int)(d:aA)(a:List Pat):=tT 0 (aYU b c f d a)<|.b 12 9 (c==6) (gpI 6 147 [iC b,aD d]<|fun e=>.o (.i [rn 3,.reg (rd 3 (.b 16 true::rd 10 []))] [hA (decide (e<0) =true)]<|gE 6 1 (bV false))<|.y fun g:Con=>.i [rn 3,.reg (rd 3 (.b 16 false::.d::.d::.ans (.idx (Con.av g))::rd 4 [.ans (.len (a.length:Int)),.d,.d]))] [hA (decide (e<0) =false),hA (0≤e),.a (((b)[e.toNat]?) =some g) (fF (f:=Con.av)),hm aF a]<|.b 0 26 (g.args != (a.length:Int)) (gE 6 1 (bV false))<|.W 9 1 [0] (aG7 b c f d a 0))<|.W 9 1 [0] (aG7 b c f d a 0)
def aOR(c:List Con)(d e:Int)(f:aA)(a:List Pat)(b:Int):=tT 0 (aG7 c d e f a b)<|gm 6 aF a<|gd 2 31 (b< (a.length:Int)) (wY 10 a b<|fun g i j k=>cD 1 148 [iC c,aCs g i j k]<|fun l=>.b 2 41 (!l) (gE 6 1 (bV false))<|gw 6 33 (b+1)<|.W 3 1 [0] (aG7 c d e f a (b+1)))<|gE 7 1 (bV true)
def aKW(b:List Con)(c f:Int)(d:aA)(a:List Term)(g:List Pat):=tT 0 (aQB b c f d a g)<|.b 12 10 (c==14) (gpI 6 147 [iC b,aD d]<|fun e=>.o (.i [rn 3,.reg (rd 3 (.b 17 true::rd 10 []))] [hA (decide (e<0) =true)]<|gE 6 1 (bV false))<|.y fun i:Con=>.i [rn 3,.reg (rd 3 (.b 17 false::.d::.d::.ans (.idx (Con.av i))::rd 4 [.ans (.len (a.length:Int)),.d,.d]))] [hA (decide (e<0) =false),hA (0≤e),.a (((b)[e.toNat]?) =some i) (fF (f:=Con.av)),hm dA a]<|.b 0 27 (i.args != (a.length:Int)) (gE 6 1 (bV false))<|.W 9 1 [0] (aAx b c f d a g 0))<|.W 9 1 [0] (aAx b c f d a g 0)
def aOS(c:List Con)(d e:Int)(f:aA)(g:List Term)(a:List Pat)(b:Int):=tT 0 (aAx c d e f g a b)<|gm 6 aF a<|gd 2 32 (b< (a.length:Int)) (wY 10 a b<|fun i j k l=>cD 1 148 [iC c,aCs i j k l]<|fun m=>.b 2 42 (!m) (gE 6 1 (bV false))<|gw 6 34 (b+1)<|.W 3 1 [0] (aAx c d e f g a (b+1)))<|.W 9 1 [0] (aAy c d e f g a 0)
def aOT(c:List Con)(d e:Int)(f:aA)(a:List Term)(g:List Pat)(b:Int):=tT 0 (aAy c d e f a g b)<|gm 6 dA a<|gd 2 47 (b< (a.length:Int)) (aER 10 a b<|fun i j k l m=>cD 1 86 [iC c,.agg [nI i,nI j,aD k,aKQ l,iP m]]<|fun n=>.b 2 57 (!n) (gE 6 1 (bV false))<|gw 6 49 (b+1)<|.W 3 1 [0] (aAy c d e f a g (b+1)))<|gE 7 1 (bV true)
def aW8 (a:List aA)(b:aA):=fun c=>(tT 0 (aYV a b)<|gl 8 aD a<|gw 1 8 ((a.length:Int) -1)<|.W 4 0 [] (aKT a b ((a.length:Int) -1))) c tv
def aOU(c:List aA)(b:aA)(a:Int):=tT 0 (aKT c b a)<|gd 6 10 (a≥0) (gX aD 8 c a<|fun d=>.b 4 18 (bB d.length (aC d) b.length (aC b)) (gE 7 0 (nI a))<|gw 6 12 (a-1)<|.W 3 0 [] (aKT c b (a-1)))<|gE 7 0 (nI (-1))
def aUM(a:List Con)(b c:Int)(d:aA)(e:List Pat):=tT 0 (aQC a b c d e)<|.b 22 14 (b==6) (gpI 5 147 [iC a,aD d]<|fun f=>.i [rn 10,.cnil 2 3 4] []<|gu 0 3 (av ([] :List Pat))<|gv 0 2 3 (.gl 3 4 0 ([] :List Pat).length false)<|.W 0 4 [0,1,2,3] (aAz a b c d e f 0 ([] :List Pat)))<|.i [rn 9,.cnil 2 3 4] []<|gu 0 3 (av ([] :List Pat))<|gv 0 2 3 (.gl 3 4 0 ([] :List Pat).length false)<|.W 0 4 [0,1,2,3] (aAz a b c d e c 0 ([] :List Pat))
def aQD(i:List Con)(j p:Int)(q:aA)(g:List Pat)(k f:Int)(a:List Pat):=tT 0 (aAz i j p q g k f a)<|gm 6 aF g<|gd 2 24 (f< (g.length:Int)) (.y fun l:Int=>.y fun m:Int=>.y fun n:aA=>.y fun o:List Pat=>.y fun b:Int=>.y fun c:Int=>.y fun d:aA=>.y fun e:List Pat=>.i [rn 4,.reg (rd 6 [.ans (.idx (Pat.av (Pat.mk l m n o))),.d,.pure (aCs b c d e),.d,.app (av (a++ [Pat.mk b c d e])) (a++ [Pat.mk b c d e]).length,.d,.d])] [hA (0≤f),.a (((g)[f.toNat]?) =some (Pat.mk l m n o)) (fQ aF),hA (Pure PP 151 [iC i,aCs l m n o] (aCs b c d e)),hB aF a,hA (length (a++ [Pat.mk b c d e]) ≤1000000),hC aF a [Pat.mk b c d e],hE aF a [Pat.mk b c d e],hr (AV.gl 3 4 0 a.length false),hr (AV.gl 3 4 0 a.length false)]<|gw 4 26 (f+1)<|.W 3 6 [0,1,2,5] (aAz i j p q g k (f+1) (a++ [Pat.mk b c d e])))<|gY 8 1 3 3 4 aF dV a false<|gE 0 4 (.agg [nI j,nI k,.str 0 0,iP a])
def aW9 (a:aA)(b:List Con)(c:List LFun)(d:List aA)(e:List Node):=(tT 1 (aYW a b c d e)<|.i [rn 16,.nilL 3 1] []<|gu 0 2 (map aD ([] :List aA))<|gs 0 3 (.gl 2 1 0 ([] :List aA).length false)<|.W 0 3 [1,2] (aKU a b c d e 0 ([] :List aA))) ⟨kk,⟨kk,trivial⟩⟩
def aQE(e:aA)(f:List Con)(b:List LFun)(g:List aA)(i:List Node)(a:Int)(c:List aA):=tT 1 (aKU e f b g i a c)<|gd 9 9 (a< (b.length:Int)) (.i [rn 9,.ans (.ix)] [hA (0≤a),hA (a< (b.length:Int))]<|.y fun d:LFun=>gj LFun.av 1 b a.toNat d<|ga 1 aD c [d.name]<|gw 6 11 (a+1)<|.W 3 5 [1,4] (aKU e f b g i (a+1) (c++ [d.name])))<|.E 8 3 [2] (.gl 1 1 0 c.length false) [oL 0 2 (map LFun.av b),oL 1 1 (map aD c)] 2
theorem aUN (m:Mod)(d:DataD)(j:Nat)(hj:m.datas[j]?=some d)(hj2:j≤1000)(hd:d.cons.length≤1000) :∀ (t:List ConD) (k:Nat) (acc:List Con),d.cons.drop k=t→acc.length+t.length≤500000 →
  LeadsM PP 0 (aKR m (k:Int) acc (j:Int)).as (aG6 m ((j+1:Nat) :Int) (acc++t.map vB)).as
 | [],k,acc,h,ha=>by
  have:=aZ h;rw [map_nil,append_nil];exact aUK m k acc j d sd sd|>.f sd sd ⟨kk,trivial⟩
 | c::t,k,acc,h,ha=>by
  obtain⟨q1,q2,q3⟩ :=aY h;have hk:= (List.getElem?_eq_some_iff.1 q1).1;simp only [length_cons]at ha;have h0:=aUK m k acc j d sd sd|>.t sd sd sd c sd sd (by simp;omega) sd ⟨kk,trivial⟩;have h1:=aUN m d j hj hj2 hd t (k+1) (acc++ [vB c]) q2 (by simp;omega);rw [append_assoc]at h1;exact h0.trans h1
theorem aM9 (m:Mod)(hl:m.datas.length≤100)(hd:∀d∈m.datas,d.cons.length≤1000) :∀ (t:List DataD) (i:Nat) (acc:List Con),m.datas.drop i=t→acc.length≤1000*i →
  Ends PP 0 (aG6 m (i:Int) acc).as (.ret (.ilst 2 (map Con.av (acc++ (t.map fun d=>d.cons.map vB).flatten)) false)) (aG [] 0)
 | [],i,acc,h,ha=>by
  have:=aZ h;rw [map_nil,List.flatten_nil,append_nil];exact aUJ m i acc|>.f sd tv
 | d::t,i,acc,h,ha=>by
  obtain⟨q1,q2,q3⟩ :=aY h;have hi:= (List.getElem?_eq_some_iff.1 q1).1;have hdl:=hd d (mem_of_getElem? q1);have h0:=aUJ m i acc|>.t sd ⟨kk,trivial⟩;have h1:=aUN m d i q1 (by omega) hdl d.cons 0 acc rfl (by omega);have h2:=aM9 m hl hd t (i+1) (acc++d.cons.map vB) q2 (by simp;omega);rw [append_assoc]at h2;exact(h0.trans h1).ends h2
theorem aUO (m:Mod)(hl:m.datas.length≤100)(hd:∀d∈m.datas,d.cons.length≤1000) :Pure PP 85 [Mod.av m] (.ilst 2 (map Con.av (dK m)) false) :=
 bU (s:=aYS m) (by kernel_rfl) (by kernel_rfl) (by simp [keylessL,aEk]) (by simp [keyless]) ((aW6 m).ends (aM9 m hl hd m.datas 0 [] rfl (by simp)))
theorem aNa (l:List Con)(hl:l.length≤500000) :∀ (t:List Con) (i:Nat) (acc:List aA),l.drop i=t→acc.length=i→Ends PP 0 (aKS l (i:Int) acc).as (.ret (.ilst 1 (map aD (acc++t.map Con.name)) false)) (aG [] 0)
 | [],i,acc,h,ha=>by
  have:=aZ h;rw [map_nil,append_nil];exact aUL l i acc|>.f sd tv
 | c::t,i,acc,h,ha=>by
  obtain⟨q1,q2,q3⟩ :=aY h;have hi:= (List.getElem?_eq_some_iff.1 q1).1;refine(aUL l i acc|>.t sd c sd sd (by simp;omega) sd ⟨kk,trivial⟩).ends ?_;have:=aNa l hl t (i+1) (acc++ [c.name]) q2 (by simp [ha]);rw [append_assoc]at this;exact this
theorem aUP (l:List Con)(hl:l.length≤500000) :Pure PP 87 [.ilst 2 (map Con.av l) false] (.ilst 1 (map aD (l.map Con.name)) false) :=
 bU (s:=aYT l) (by kernel_rfl) (by kernel_rfl) (by simp [keylessL,keyless]) (by simp [keyless]) ((aW7 l).ends (aNa l hl l 0 [] rfl rfl))
theorem aQF :∀ {ps:List Pat} {q:Pat},q∈ps→bA q≤aQ ps
 | p::ps,q,h=>by
  simp only [aQ];rcases List.mem_cons.1 h with e|h
  ·subst e;omega
  ·have:=aQF h;omega
theorem aNb (cs:List Con)(f n:Int)(s:aA)(ps:List Pat)(hl:ps.length<1000000)(ih:∀p∈ps,Pure PP 148 [.ilst 2 (map Con.av cs) false,Pat.av p] (.bool (knP cs p))) :∀ (t:List Pat) (i:Nat),ps.drop i=t →
  Ends PP 0 (aG7 cs f n s ps (i:Int)).as (.ret (.bool (aHP cs t))) (aG [] 0)
 | [],i,h=>by
  have:=aZ h;exact aOR cs f n s ps i|>.f sd tv
 | .mk f' n' s' ps'::t,i,h=>by
  obtain⟨g1,g2,g3⟩ :=aY h;have hs:=ih _ (mem_of_getElem? g1);rw [aHP];cases hb:knP cs (.mk f' n' s' ps')
  case true=>
   rw [hb]at hs;rw [Bool.true_and];exact(aOR cs f n s ps i|>.t sd f' n' s' ps' sd sd true hs|>.f rfl sd tv).ends (aNb cs f n s ps hl ih t (i+1) g2)
  rw [hb]at hs;rw [Bool.false_and];exact aOR cs f n s ps i|>.t sd f' n' s' ps' sd sd false hs|>.t rfl tv
mutual
theorem aNc (cs:List Con)(hc:cs.length<1000000) :∀p:Pat,bA p<1000000→Pure PP 148 [.ilst 2 (map Con.av cs) false,Pat.av p] (.bool (knP cs p))
 | .mk f n s ps,hp=>by
  simp only [bA]at hp;have:=dN ps;refine bU (s:=aYU cs f n s ps) (by kernel_rfl) (by kernel_rfl) (by simp [keylessL,keyless,lO]) rfl ?_;have L:=aNb cs f n s ps (by omega) (aQG cs hc ps (by omega)) ps 0 rfl;rw [knP];by_cases h6:f=6
  · rw [if_pos h6];unfold ckn;by_cases h0:0≤dX s cs 0
    · obtain⟨c,hcc⟩ :=aG3 h0;rw [hcc,decide_eq_true h0,Bool.true_and];by_cases ha:c.args= (length ps:Int)
      · simp only [ha,decide_true,Bool.true_and];exact(aKV cs f n s ps|>.t (by simp [h6]) _ (pD cs s hc)|>.2 c (by simp;omega) h0 hcc|>.f (by simp [ha]) tv).ends L
      · simp only [ha,decide_false,Bool.false_and];exact aKV cs f n s ps|>.t (by simp [h6]) _ (pD cs s hc)|>.2 c (by simp;omega) h0 hcc|>.t (by simpa using ha) tv
    · rw [decide_eq_false h0,Bool.false_and,Bool.false_and];exact aKV cs f n s ps|>.t (by simp [h6]) _ (pD cs s hc)|>.1 (by simp;omega) tv
  · rw [if_neg h6,Bool.true_and];exact(aKV cs f n s ps|>.f (by simp [h6]) tv).ends L
theorem aQG (cs:List Con)(hc:cs.length<1000000) :∀ps:List Pat,aQ ps<1000000→∀p∈ps,Pure PP 148 [.ilst 2 (map Con.av cs) false,Pat.av p] (.bool (knP cs p))
 | [],_,p,hp=>by cases hp
 | q::ps,h,p,hp=>by
  simp only [aQ]at h;rcases List.mem_cons.1 hp with e|hp
  ·rw [e];exact aNc cs hc q (by omega)
  ·exact aQG cs hc ps (by omega) p hp
end
def mdH (cs:List Con)(o:Int)(s:aA)(k:Nat)(ps:List Pat) :Bool:= (if o=14 then ckn cs s (k:Int)else true) &&ps.all (knP cs)
mutual
def mdT (cs:List Con) :Term→Bool
 | .mk o _ s ks ps=>mdH cs o s (length ks) ps&&yT cs ks
def yT (cs:List Con) :List Term→Bool
 | [] =>true
 |t::ts=>mdT cs t&&yT cs ts
end
theorem aYX (cs:List Con)(o n:Int)(s:aA)(ks:List Term)(ps:List Pat)(hl:ks.length<1000000)(ih:∀t∈ks,Pure PP 86 [.ilst 2 (map Con.av cs) false,Term.av t] (.bool (mdT cs t))) :∀ (t:List Term) (i:Nat),ks.drop i=t →
  Ends PP 0 (aAy cs o n s ks ps (i:Int)).as (.ret (.bool (yT cs t))) (aG [] 0)
 | [],i,h=>by
  have:=aZ h;exact aOT cs o n s ks ps i|>.f sd tv
 | .mk o' n' s' ks' ps'::t,i,h=>by
  obtain⟨g1,g2,g3⟩ :=aY h;have hs:=ih _ (mem_of_getElem? g1);rw [yT];cases hb:mdT cs (.mk o' n' s' ks' ps')
  case true=>
   rw [hb]at hs;rw [Bool.true_and];exact(aOT cs o n s ks ps i|>.t sd o' n' s' ks' ps' sd sd true hs|>.f rfl sd tv).ends (aYX cs o n s ks ps hl ih t (i+1) g2)
  rw [hb]at hs;rw [Bool.false_and];exact aOT cs o n s ks ps i|>.t sd o' n' s' ks' ps' sd sd false hs|>.t rfl tv
theorem aYY (cs:List Con)(o n:Int)(s:aA)(ks:List Term)(ps:List Pat)(hc:cs.length<1000000)(hl:ps.length<1000000)(hps:∀p∈ps,bA p<1000000)(b:Bool)(hk:Ends PP 0 (aAy cs o n s ks ps 0).as (.ret (.bool b)) (aG [] 0)) :∀ (t:List Pat) (i:Nat),ps.drop i=t →
  Ends PP 0 (aAx cs o n s ks ps (i:Int)).as (.ret (.bool (t.all (knP cs) &&b))) (aG [] 0)
 | [],i,h=>by
  have:=aZ h;exact(aOS cs o n s ks ps i|>.f sd tv).ends hk
 | .mk f' n' s' ps'::t,i,h=>by
  obtain⟨g1,g2,g3⟩ :=aY h;have hs:=aNc cs hc _ (hps _ (mem_of_getElem? g1));rw [List.all_cons];cases hb:knP cs (.mk f' n' s' ps')
  case true=>
   rw [hb]at hs;rw [Bool.true_and];exact(aOS cs o n s ks ps i|>.t sd f' n' s' ps' sd sd true hs|>.f rfl sd tv).ends (aYY cs o n s ks ps hc hl hps b hk t (i+1) g2)
  rw [hb]at hs;rw [Bool.false_and,Bool.false_and];exact aOS cs o n s ks ps i|>.t sd f' n' s' ps' sd sd false hs|>.t rfl tv
mutual
theorem aNd (cs:List Con)(hc:cs.length<1000000) :∀t:Term,aCh t<1000000→Pure PP 86 [.ilst 2 (map Con.av cs) false,Term.av t] (.bool (mdT cs t))
 | .mk o n s ks ps,ht=>by
  rw [aCh]at ht;have hk:=uV ks;have hp:=dN ps;refine bU (s:=aQB cs o n s ks ps) (by kernel_rfl) (by kernel_rfl) (by simp [keylessL,keyless,jX]) rfl ?_;have L1:=aYX cs o n s ks ps (by omega) (aQH cs hc ks (by omega)) ks 0 rfl;have L:=aYY cs o n s ks ps hc (by omega) (fun p hp=>by have:=aQF hp;omega) _ L1 ps 0 rfl;rw [mdT,mdH];by_cases h14:o=14
  · rw [if_pos h14];unfold ckn;by_cases h0:0≤dX s cs 0
    · obtain⟨c,hcc⟩ :=aG3 h0;rw [hcc,decide_eq_true h0,Bool.true_and];by_cases ha:c.args= (length ks:Int)
      · simp only [ha,decide_true,Bool.true_and];exact(aKW cs o n s ks ps|>.t (by simp [h14]) _ (pD cs s hc)|>.2 c (by simp;omega) h0 hcc|>.f (by simp [ha]) tv).ends L
      · simp only [ha,decide_false,Bool.false_and];exact aKW cs o n s ks ps|>.t (by simp [h14]) _ (pD cs s hc)|>.2 c (by simp;omega) h0 hcc|>.t (by simpa using ha) tv
    · rw [decide_eq_false h0,Bool.false_and,Bool.false_and,Bool.false_and];exact aKW cs o n s ks ps|>.t (by simp [h14]) _ (pD cs s hc)|>.1 (by simp;omega) tv
  · rw [if_neg h14,Bool.true_and];exact(aKW cs o n s ks ps|>.f (by simp [h14]) tv).ends L
theorem aQH (cs:List Con)(hc:cs.length<1000000) :∀ts:List Term,pW ts<1000000→∀t∈ts,Pure PP 86 [.ilst 2 (map Con.av cs) false,Term.av t] (.bool (mdT cs t))
 | [],_,p,hp=>by cases hp
 | u::ts,h,t,ht=>by
  rw [pW]at h;rcases List.mem_cons.1 ht with e|ht
  ·rw [e];exact aNd cs hc u (by omega)
  ·exact aQH cs hc ts (by omega) t ht
end
theorem aNe (l:List aA)(s:aA) :∀ (i:Nat),i≤l.length→i≤1000000→Ends PP 0 (aKT l s ((i:Int) -1)).as (.ret (.int .i64 (nU l s i))) (aG [] 0)
 |0,_,_=>aOU l s _|>.f (by simp) tv
 | i +1,hi,hb=>by
  obtain⟨y,hy⟩ :∃y,l[i]?=some y:= ⟨_,List.getElem?_eq_getElem (by omega)⟩;have e: ((i+1:Nat) :Int) -1= (i:Int) :=by omega
  rw [e,nU];by_cases h:y=s
  · subst h;rw [if_pos hy];exact aOU l y i|>.t (by simp) y (by omega) (by rw [Int.toNat_natCast];exact hy)|>.t (by rw [fR];simp) tv
  · rw [if_neg (by rw [hy];simpa using h)];exact(aOU l s i|>.t (by simp) y (by omega) (by rw [Int.toNat_natCast];exact hy)|>.f (by rw [fR];simpa using h) (by apply wrap64<;>omega) tv).ends (aNe l s i (by omega) (by omega))
theorem aUQ (l:List aA)(s:aA)(hl:l.length≤1000000) :Pure PP 149 [.ilst 1 (map aD l) false,aD s] (.int .i64 (rU l s)) :=
 bU (s:=aYV l s) (by kernel_rfl) (by kernel_rfl) (by simp [keylessL,keyless,aD]) rfl ((aW8 l s (by apply wrap64<;>omega)).ends (aNe l s l.length (Nat.le_refl _) hl))
theorem aIS (cs:List Con)(f n:Int)(s:aA)(ps:List Pat)(v:Int)(hl:ps.length<1000000)(ih:∀p∈ps,Pure PP 151 [.ilst 2 (map Con.av cs) false,Pat.av p] (Pat.av (pnP cs p))) :∀ (t:List Pat) (i:Nat) (acc:List Pat),ps.drop i=t→acc.length+t.length<1000000 →
  Ends PP 0 (aAz cs f n s ps v (i:Int) acc).as (.ret (.agg [.int .i64 f,.int .i64 v,.str 0 0,.ilst 4 (av (acc++iJ cs t)) false])) (aG [] 0)
 | [],i,acc,h,_=>by
  have:=aZ h;rw [iJ,append_nil];exact aQD cs f n s ps v i acc|>.f sd tv
 | .mk f' n' s' ps'::t,i,acc,h,hb=>by
  obtain⟨g1,g2,g3⟩ :=aY h;have hi:= (List.getElem?_eq_some_iff.1 g1).1;simp only [length_cons]at hb;have hs:=ih _ (mem_of_getElem? g1);rw [pnP]at hs;have h1:=aQD cs f n s ps v i acc|>.t sd f' n' s' ps' f' (if f'=6 then dX s' cs 0 else n') [] (iJ cs ps') sd sd hs (by simp;omega) sd ⟨dV,trivial⟩;rw [iJ,show acc++pnP cs (.mk f' n' s' ps') ::iJ cs t= (acc++ [pnP cs (.mk f' n' s' ps')]) ++iJ cs t by simp,pnP];exact h1.ends (aIS cs f n s ps v hl ih t (i+1) _ g2 (by simp;omega))
mutual
theorem aIT (cs:List Con)(hc:cs.length<1000000) :∀p:Pat,bA p<1000000→Pure PP 151 [.ilst 2 (map Con.av cs) false,Pat.av p] (Pat.av (pnP cs p))
 | .mk f n s ps,hp=>by
  simp only [bA]at hp;have:=dN ps;refine bU (s:=aQC cs f n s ps) (by kernel_rfl) (by kernel_rfl) (by simp [keylessL,keyless,lO]) (lO _) ?_;rw [pnP];have L:=fun v=>aIS cs f n s ps v (by omega) (aNf cs hc ps (by omega)) ps 0 [] rfl (by simp;omega);by_cases h6:f=6
  · rw [if_pos h6];exact(aUM cs f n s ps|>.t (by simp [h6]) _ (pD cs s hc) ⟨dV,trivial⟩).ends (L _)
  · rw [if_neg h6];exact(aUM cs f n s ps|>.f (by simp [h6]) ⟨dV,trivial⟩).ends (L _)
theorem aNf (cs:List Con)(hc:cs.length<1000000) :∀ps:List Pat,aQ ps<1000000→∀p∈ps,Pure PP 151 [.ilst 2 (map Con.av cs) false,Pat.av p] (Pat.av (pnP cs p))
 | [],_,p,hp=>by cases hp
 | q::ps,h,p,hp=>by
  simp only [aQ]at h;rcases List.mem_cons.1 hp with e|hp
  ·rw [e];exact aIT cs hc q (by omega)
  ·exact aNf cs hc ps (by omega) p hp
end
abbrev fO (l:List LFun) :AObj:=.lst 2 (map LFun.av l)
theorem jV (l:List LFun) : (fO l).kl:=aI _ (fun _=>rfl) _
theorem aNg (nm:aA)(cs:List Con)(fns:List LFun)(nd:List aA)(us:List Node)(hl:fns.length≤1000) :∀ (t:List LFun) (i:Nat) (acc:List aA),fns.drop i=t→acc.length=i →
  Ends PP 1 (aKU nm cs fns nd us (i:Int) acc).as (.ret (.gl 1 1 0 (length (acc++t.map LFun.name)) false)) (aG [(0,fO fns,true),(1,.lst 1 (map aD (acc++t.map LFun.name)),true)] 2)
 | [],i,acc,h,ha=>by
  have:=aZ h;rw [map_nil,append_nil];exact aQE nm cs fns nd us i acc|>.f sd ⟨kk,⟨kk,trivial⟩⟩
 | c::t,i,acc,h,ha=>by
  obtain⟨q1,q2,q3⟩ :=aY h;have hi:= (List.getElem?_eq_some_iff.1 q1).1;refine(aQE nm cs fns nd us i acc|>.t sd sd sd c sd (by simp;omega) sd ⟨kk,⟨kk,trivial⟩⟩).ends ?_;have:=aNg nm cs fns nd us hl t (i+1) (acc++ [c.name]) q2 (by simp [ha]);rw [append_assoc]at this;exact this
theorem aNh (nm:aA)(cs:List Con)(fns:List LFun)(nd:List aA)(us:List Node)(hl:fns.length≤1000) :
  nE PP 1 (.enter 78 [.agg [aD nm,.ilst 2 (map Con.av cs) false,.gl 0 2 0 (length fns) false,.ilst 1 (map aD nd) false,.ilst 4 (map Node.av us) false]]) (aG [(0,fO fns,true)] 1)
   (.ret (.gl 1 1 0 (length (fns.map LFun.name)) false)) (aG [(0,fO fns,true),(1,.lst 1 (map aD (fns.map LFun.name)),true)] 2) :=
 ⟨(aYW nm cs fns nd us).as.fr,by kernel_rfl,Eq.mp (by kernel_rfl) ((aW9 nm cs fns nd us).ends (aNg nm cs fns nd us hl fns 0 [] rfl rfl))⟩
theorem aEp {s x:aA}{l:List aA}:cA (x::l) s= (decide (x=s) ||cA l s) :=rfl
abbrev aQI (u:LUnit) :AObj:=.cells (putCells .leaf 0 [aD u.name,.ilst 2 (map Con.av u.cons) false,.ilst 2 (map LFun.av u.funs) false,.ilst 1 (map aD u.needs) false,.ilst 4 (map Node.av u.nodes) false]) 5 [] false
section
variable {P :Program}
theorem Spec.pan0 {c:AIn}{h h':Hp}{ch:List (AV×Bool)}(s:Spec P c h (.pan ch) h') :aXX P c h ch h':=by
 obtain⟨g,hg,he⟩ :=s;refine⟨g,hg,fun E w G r f _ cl base=>?_⟩;obtain⟨cl',w',E',s1,⟨ps,rfl,g2⟩,r2,x2⟩ :=he (Nat.le_refl _) E G [] w f rfl r cl base;exact⟨ps,w',E',s1,g2,r2,x2.toExt r⟩
theorem aUR {rs:List Rec}{k:Nat}(h0:∀r∈rs,r.1=k→Spec P r.2.1 r.2.2.1 (.ret r.2.2.2.1) r.2.2.2.2) :aCV P (yO rs) k:=fun c h v h' e=>by
 unfold yO at e;split at e
 · rename_i r hr;split at e
   · rename_i hc;obtain⟨rfl,rfl⟩ :=hc;have h1:=List.find?_some hr;have:=h0 r (List.mem_of_find?_eq_some hr) (Nat.eq_of_beq_eq_true h1);simp only [Option.some.injEq]at e;rw [e]at this;exact this.sound
   ·cases e
 ·cases e
theorem aBQ {call:bX}{nt:Nat}{l:List Oper}:∀ {p1 p2:List Plan} {r r1 r2:RS},fL P call nt l p1 r=some r1→fL P call nt l p2 r1=some r2→fL P call nt l (p1++p2) r=some r2
 | [],_,r,r1,r2,h1,h2=>by simp only [fL,Option.some.injEq]at h1;subst h1;exact h2
 | p ::p1,p2,r,r1,r2,h1,h2=>by
  simp only [fL]at h1;split at h1
  · rename_i r' hr;simp only [List.cons_append,fL,hr];exact aBQ h1 h2
  ·cases h1
def vF (P:Program)(nt:Nat)(ops:Array Oper)(tm:T AV)(h:Hp)(e:Nat)(is1:List RIns)(v:AV)(h2:Hp)(is2:List RIns)(os:List (Option Ans))(ch:List (AV×Bool))(h':Hp) :Option (List Prop) :=
 let pl:=eC ops
 bif pl.ok then
  match iD P nt pl.ops is1 (pl.plans.take e) {tm,h:={h with nb:=h.nb+pl.fresh},stages:=[],s:=0,pend:=[],next:=h.nb,again:=[]},pl.plans.drop e with
  | some (r1,ps1,rs1),p::pl2=>match cF r1.tm pl.ops p.o,p.kd with
   | some true,.eff=>match kN P (aO r1.h r1.s r1.pend) r1.tm p.o with
    | some (.call c) =>match jE r1.tm nt p.o.dst v with
     | some tm2=>match iD P nt pl.ops is2 pl2 {r1 with tm:=tm2,h:=h2,stages:=r1.h::r1.stages,s:=Nat.succ r1.s} with
      | some (r3,ps3,rs3) =>bif aB6 (keysOf (rs1++ (r1.s,c,aO r1.h r1.s r1.pend,v,h2) ::rs3))then
        some (ps1++ (ps3++ (sW P (r3.h::r3.stages) r3.s r3.again os++ [Spec P c (aO r1.h r1.s r1.pend) (.pan ch) h'])))else none
      |none=>none
     |none=>none
    |_=>none
   |_,_=>none
  |_,_=>none
 else none
theorem aG8 {α:Type}{t:T α}:∀ {js:List Nat} {k:Nat} {v:α},(k,v) ∈yP t js→uB k js=true
 | [],_,_,h=>by cases h
 | j ::js,k,v,h=>by
  rw [oY];simp only [yP]at h;split at h
  · rcases List.mem_cons.1 h with e|h
    ·cases e;exact List.mem_cons_self ..
    ·exact List.mem_cons_of_mem _ ((oY _ _).1 (aG8 h))
  ·exact List.mem_cons_of_mem _ ((oY _ _).1 (aG8 h))
theorem aDx {s:AS}{id:Nat}{ops:Array Oper}{k:List AItem}(hm:s.fr.mode= .run)(htd:s.fr.todo= .code (.region id ops true) ::k){e:Nat}{is1:List RIns}{v:AV}{h2:Hp}{is2:List RIns}{os:List (Option Ans)}{ch:List (AV×Bool)}{h':Hp}{ps:List Prop}
  (h0:vF P s.fr.nt ops s.fr.tm s.h e is1 v h2 is2 os ch h'=some ps) (hp:∀p∈ps,p) {E:Emb} {fr:Frame} {w:World} (f:FR E s.fr fr) (rl:Rel E s.h w.heap) (cs:List Frame) :
  ∃ E' w' tmps' is' pp ck,IRs E k ck∧Steps P (lone fr cs w) (lone ((rf fr.fn tmps' (.inRegion ops is'::ck) fr.defers fr.kind fr.roundOf).raise pp) cs w') ∧CR E' ch pp∧Rel E' h' w'.heap∧Ext E s.h w E' h' w' ∧
   ∀tm1:T AV,(∀t a,tm1.at t=some a→s.fr.tm.at t=some a∧∀n,n<ops.toList.length→nC ops.toList n≠some t) →TR E' tm1 s.fr.nt tmps':=by
 unfold vF at h0;simp only at h0;cases hok: (eC ops).ok
 case false=>rw [hok]at h0;cases h0
 rw [hok]at h0;simp only [cond]at h0;split at h0
 · rename_i r1 ps1 rs1 p pl2 hx1 hdr;split at h0
   · rename_i hw hk;split at h0
     · rename_i c ha;split at h0
       · rename_i tm2 htm2;split at h0
         · rename_i r3 ps3 rs3 hx3;cases hn:aB6 (keysOf (rs1++ (r1.s,c,aO r1.h r1.s r1.pend,v,h2) ::rs3))
           case false=>rw [hn]at h0;cases h0
           rw [hn]at h0;simp only at h0;cases h0;have q1:∀q∈ps1,q:=fun q hq=>hp q (mem_append_left _ hq);have q3:∀q∈ps3,q:=fun q hq=>hp q (mem_append_right _ (mem_append_left _ hq));have q4:∀q∈sW P (r3.h::r3.stages) r3.s r3.again os,q:=fun q hq=>hp q (mem_append_right _ (mem_append_right _ (mem_append_left _ hq)));have q5:Spec P c (aO r1.h r1.s r1.pend) (.pan ch) h':=hp _ (mem_append_right _ (mem_append_right _ (mem_append_right _ (List.mem_singleton_self _))));have hor:=aD7 hn;have hst1:=kV (call:=yO (rs1++ (r1.s,c,aO r1.h r1.s r1.pend,v,h2) ::rs3)) hx1 q1 (fun x hx=>hor x (mem_append_left _ hx));have hst3:=kV (call:=yO (rs1++ (r1.s,c,aO r1.h r1.s r1.pend,v,h2) ::rs3)) hx3 q3 (fun x hx=>hor x (mem_append_right _ (List.mem_cons_of_mem _ hx)));have hrec:=hor _ (mem_append_right _ (List.mem_cons_self ..));simp only at hrec;have hst2:kO P (yO (rs1++ (r1.s,c,aO r1.h r1.s r1.pend,v,h2) ::rs3)) s.fr.nt (eC ops).ops p r1=some {r1 with tm:=tm2,h:=h2,stages:=r1.h::r1.stages,s:=Nat.succ r1.s}:=by
            simp only [kO,hw,hk,ha,hrec,htm2]
           have hrr:fL P (yO (rs1++ (r1.s,c,aO r1.h r1.s r1.pend,v,h2) ::rs3)) s.fr.nt (eC ops).ops (eC ops).plans {tm:=s.fr.tm,h:={s.h with nb:=s.h.nb+ (eC ops).fresh},stages:=[],s:=0,pend:=[],next:=s.h.nb,again:=[]}=some r3:=by
            rw [←List.take_append_drop e (eC ops).plans,hdr];exact aBQ hst1 (by simp only [fL,hst2];exact hst3)
           have hck:sR P (r3.h::r3.stages) r3.s r3.again:=qD q4;have hpe: (eC ops).plans[e]?=some p:=by
            have:=List.getElem?_drop (xs:= (eC ops).plans) (i:=e) (j:=0);rw [hdr,Nat.add_zero]at this;simpa using this.symm
           have hel:e<ops.toList.length:=by
            have hlen: (eC ops).plans.length=ops.toList.length:=mM _ _ _ _;have:= (List.getElem?_eq_some_iff.1 hpe).1;omega
           have hpo:p=rB ops.toList e ops.toList[e] :=by
            have h9:=zS (lD ops.toList []) (gU ops.toList 0) ops.toList 0 e;rw [List.getElem?_eq_getElem hel,Option.map_some,Nat.zero_add]at h9;have h8: (eC ops).plans[e]?=some (rB ops.toList e ops.toList[e]) :=h9;rw [hpe]at h8;cases h8;rfl
           have hspec:∀k,k≠r1.s→aCV P (yO (rs1++ (r1.s,c,aO r1.h r1.s r1.pend,v,h2) ::rs3)) k:=fun k hk=>aUR fun x hx ex=>by
            rcases List.mem_append.1 hx with g|g
            ·exact mO hx1 q1 x g
            · rcases List.mem_cons.1 g with rfl|g
              ·exact absurd ex.symm hk
              ·exact mO hx3 q3 x g
           obtain⟨afr,cs0,h⟩ :=s;simp only at hm htd hrr hst1 f rl ⊢;have e0:=f.run hm;have ef:fr.fn=afr.fn:=f.fn;generalize fr.fn=fn at e0 ef ⊢;generalize fr.tmps=tmps at e0;generalize fr.todo=todo at e0;generalize fr.defers=ds at e0 ⊢;generalize fr.kind=kd at e0 ⊢;generalize fr.roundOf=ro at e0 ⊢;subst e0;have ft:=f.todo;simp only [htd]at ft;obtain⟨i,ck,e1,i1,i2⟩ :=ft.cons_inv;subst e1;simp only [IR]at i1;subst i1;obtain⟨E',w',tmps',is',pp,s1,c1,r1',x1,x2⟩ :=aFe (o:=ops.toList[e]) hok hrr hck hst1 (List.getElem?_eq_getElem hel) (by rw [hpo]at hk;exact hk) hspec (by rw [hpo]at hw;exact hw) (by rw [hpo]at ha;exact ha) q5.pan0 rl f.tm id fn ds kd ro ck cs;exact⟨E',w',tmps',is',pp,ck,i2,s1,c1,r1',x1,x2⟩
         ·cases h0
       ·cases h0
     ·cases h0
   ·cases h0
 ·cases h0
theorem aKY {m:Nat}{s:AS}{id:Nat}{ops:Array Oper}{k:List AItem}(hm:s.fr.mode= .run)(hcs:s.cs= [])(hd:s.fr.defers= []){fd:Func}(hfd:P.funcs[s.fr.fn]?=some fd)(htd:s.fr.todo= .code (.region id ops true) ::k){e:Nat}{is1:List RIns}{v:AV}{h2:Hp}{is2:List RIns}{os:List (Option Ans)}{ch:List (AV×Bool)}{h':Hp}{ps:List Prop}
  (h0:vF P s.fr.nt ops s.fr.tm s.h e is1 v h2 is2 os ch h'=some ps) (hp:∀p∈ps,p) :Ends P m s (.pan ch) h':=by
 intro hm0 E fr ccs w f fs rl cl base;rw [hcs]at fs;obtain rfl:=fs.nil_inv;obtain⟨E',w',tmps',is',pp,ck,_,s1,c1,r1',x1,_⟩ :=aDx hm htd h0 hp f rl (cl::base);have ed:fr.defers= [] :=by
  have:=f.defers;rw [hd]at this;simpa only [DRs]using this
 rw [ed]at s1;exact⟨cl.raise pp,w',E',s1.trans (.one (rA (chain:=pp) rfl rfl (fd:=fd) (by show P.funcs[fr.fn]?=_;rw [f.fn];exact hfd))),⟨pp,rfl,c1⟩,r1',x1.toM hm0⟩
def aEq :List Oper→List Nat→Bool
 | [],_=>true
 | o::os,js=> (match o.dst with
  |some t=> !uB t js
  |none=>true) &&aEq os js
theorem aIU {js:List Nat}{t:Nat}(ht:uB t js=true) :∀ {os:List Oper},aEq os js=true→∀n,n<os.length→nC os n≠some t
 | [],_,n,h,_=>by simp at h
 | o::os,h0,n,hn,e=>by
  simp only [aEq,Bool.and_eq_true]at h0;cases n with
  | zero=>
   simp only [nC,List.getElem?_cons_zero,Option.bind]at e;rw [e]at h0;simp only at h0;rw [ht]at h0;exact absurd h0.1 (by simp)
  | succ n=>
   exact aIU ht h0.2 n (by simpa using hn) (by simpa [nC]using e)
theorem aHR {m:Nat}{s:AS}{id:Nat}{ops:Array Oper}{k:List AItem}(hm:s.fr.mode= .run)(htd:s.fr.todo= .code (.region id ops true) ::k){e:Nat}{is1:List RIns}{v:AV}{h2:Hp}{is2:List RIns}{os:List (Option Ans)}{ch:List (AV×Bool)}{h':Hp}{ps:List Prop}
  (h0:vF P s.fr.nt ops s.fr.tm s.h e is1 v h2 is2 os ch h'=some ps) (hp:∀p∈ps,p) (js:List Nat) (hj:aEq ops.toList js=true) :LeadsM P m s ⟨{s.fr with tm:=aFg (yP s.fr.tm js),todo:=.junk::k,mode:=.pan ch},s.cs,h'⟩ :=by
 intro hm0 E fr ccs w base f fs rl;obtain⟨E',w',tmps',is',pp,ck,ik,s1,c1,r1',x1,x2⟩ :=aDx hm htd h0 hp f rl (ccs++base);have hle:=x1.le;refine⟨E',_,ccs,w',s1,?_,fs.mono hle,r1',x1.toM hm0⟩;have f0:FR E' {s.fr with tm:=aFg (yP s.fr.tm js),todo:=.junk::k} (rf fr.fn tmps' (.inRegion ops is'::ck) fr.defers fr.kind fr.roundOf) :=by
  refine⟨f.fn,x2 _ (fun t a ht=>?_),IRs.cons ⟨_,_,rfl⟩ (ik.mono hle),f.defers.mono hle,by rw [hm];rfl,f.kind,f.round.mono hle⟩;have hk:=aC2 ht;exact⟨qP hk,fun n hn=>aIU (aG8 hk) hj n hn⟩
 have:=sS f0 c1;unfold AFrame.raise at this;simp only [hm]at this;exact this
def bBb (P:Program)(m:Nat)(is:List Ins)(s:TS)(e:Nat)(is1:List RIns)(v:AV)(h2:Hp)(is2:List RIns)(os:List (Option Ans))(ch:List (AV×Bool))(h':Hp)(hp:List (Nat×AObj×Bool))(nb:Nat)(ks:List Nat) :Option (Nat×List (AV×Bool) ×List (Option AObj) ×List Prop) :=
 match yQ P is s.as with
 | some (s1,ps) =>match s1.cs,s1.fr.defers,s1.fr.mode,s1.fr.todo,P.funcs[s1.fr.fn]? with
  | [],[],.run,.code (.region _ ops true) ::_,some _=>match vF P s1.fr.nt ops s1.fr.tm s1.h e is1 v h2 is2 os ch h' with
   |some qs=>some (h'.nb,ch,sB h' (fA m nb h'.nb ks) hp,ps++qs)
   |none=>none
  |_,_,_,_,_=>none
 |none=>none
theorem aOV {m:Nat}{is:List Ins}{s:TS}{e:Nat}{is1:List RIns}{v:AV}{h2:Hp}{is2:List RIns}{os:List (Option Ans)}{ch:List (AV×Bool)}{h':Hp}{hp:List (Nat×AObj×Bool)}{nb:Nat}{ks:List Nat}{n1:Nat}{ps:List Prop}
  (h0:bBb P m is s e is1 v h2 is2 os ch h' hp nb ks=some (n1,aPy (fA m nb n1 ks) ch,jB (fA m nb n1 ks) hp,ps))
  (hok:dC m ⟨⟨0,0,[],[],[],.run,.normal,none⟩,[],hp,nb⟩ ks=true) (hkl:iV hp) (hps:AllP ps) :Ends P m s.as (.pan ch) (aG hp nb) :=by
 unfold bBb at h0;split at h0
 · rename_i s1 qs h1;split at h0
   · rename_i id ops k fd hcs hd hm htd hfd;split at h0
     · rename_i qs2 hx;simp only [Option.some.injEq,Prod.mk.injEq]at h0;obtain⟨rfl,h3,h4,rfl⟩ :=h0;refine(jA h1 (fun p hpp=>hps.mem p (mem_append_left _ hpp))).ends ?_;intro hm0 E fr ccs w f fs r cl base;obtain⟨cl',w',E',g1,⟨ps',rfl,g2⟩,g3,g4⟩ :=aKY (m:=m) hm hcs hd hfd htd hx (fun p hpp=>hps.mem p (mem_append_right _ hpp)) hm0 E fr ccs w f fs r cl base;obtain⟨q1,q2⟩ :=kW hok h4 hkl g3;rw [h3]at g2;exact⟨_,w',_,g1,⟨ps',rfl,aJO g2⟩,q1,g4.trans q2⟩
     ·cases h0
   ·cases h0
 ·cases h0
def aYZ (P:Program)(s:AS)(e:Nat)(is1:List RIns)(v:AV)(h2:Hp)(is2:List RIns)(os:List (Option Ans))(ch:List (AV×Bool))(h':Hp)(js:List Nat) :Option (AS×List Prop) :=
 match s.fr.mode,s.fr.todo with
 | .run,.code (.region _ ops true) ::k=>bif aEq ops.toList js then(match vF P s.fr.nt ops s.fr.tm s.h e is1 v h2 is2 os ch h' with
   |some qs=>some (⟨{s.fr with tm:=aFg (yP s.fr.tm js),todo:=.junk::k,mode:=.pan ch},s.cs,h'⟩,qs)
   |none=>none)else none
 |_,_=>none
theorem aAA {m:Nat}{s s':AS}{e:Nat}{is1:List RIns}{v:AV}{h2:Hp}{is2:List RIns}{os:List (Option Ans)}{ch:List (AV×Bool)}{h':Hp}{js:List Nat}{ps:List Prop}(h0:aYZ P s e is1 v h2 is2 os ch h' js=some (s',ps))(hps:AllP ps) :LeadsM P m s s':=by
 unfold aYZ at h0;split at h0
 · rename_i id ops k hm htd;cases hj:aEq ops.toList js
   case false=>rw [hj]at h0;cases h0
   rw [hj]at h0;simp only [cond]at h0;split at h0
   · rename_i qs hx;cases h0;exact aHR hm htd hx (fun p hp=>hps.mem p hp) js hj
   ·cases h0
 ·cases h0
end
abbrev MC (fr:List Node)(fs cs:List Int)(b n:Nat) :AObj:=.cells (putCells .leaf 0 [.ilst 4 (map Node.av fr) false,.gl b 4 0 n false,.ilst 1 (map bM fs) false,.ilst 1 (map bM cs) false]) 4 [] false
abbrev MHp (fr:List Node)(fs cs:List Int)(L:List ONode) :List (Nat×AObj×Bool) :=[(0,MC fr fs cs 1 (length L),false),(1,OL L,true)]
section
variable (fr :List Node) (fs cs:List Int) (L:List ONode)
end
def MNS (p:Prog)(fs cs:List Int)(at0:Int)(L:List ONode)(ns:List Node) :Prop:=
 nE PP 1 (.enter 136 [.ptr 0 0,.int .i64 at0]) (aG (MHp p.nodes fs cs L) 2) (.ret (.int .i64 ((length L:Nat) :Int))) (aG (MHp p.nodes fs cs (L++map Node.o ns)) 2)
section
variable (p :Prog) (fs cs:List Int) (L:List ONode) (at0:Int)
variable (k :Nat) (ih:∀ (M:List ONode) (c:Int) (ns:List Node),aJ4 p fs cs k M.length c=some ns→MNS p fs cs c M ns) (x:Node) (v:Int) (P:List Pat) (hk:x.kids.length<1000000)
include ih hk
end
theorem aE9 (s:aA) :∀ (l:List aA) (i:Nat),dB s l i= -1∨ ((i:Int) ≤dB s l i∧dB s l i<i+l.length∧l[(dB s l i).toNat-i]?=some s)
 | [],i=>.inl rfl
 | x ::l,i=>by
  rw [dB];by_cases e:x=s
  · rw [if_pos e];exact .inr ⟨by omega,by simp;omega,by simp [e]⟩
  · rw [if_neg e];rcases aE9 s l (i+1)with h| ⟨h1,h2,h3⟩
    ·exact .inl h
    · refine .inr ⟨by omega,by simp;omega,?_⟩;rw [show(dB s l (i+1)).toNat-i= ((dB s l (i+1)).toNat- (i+1)) +1 by omega];simpa using h3
def bCN (T ls:List aA)(s:aA) :Int:=if dB s T 0<0 then(T.length:Int) +dB s ls 0 else dB s T 0
def bBc (T ls:List aA)(u:LUnit) :List Int:= (aR u++u.needs).map (bCN T ls)
def aZW (cs:List Con)(u:LUnit) :List Int:=u.cons.map (fun c=>dX c.name cs 0)
def aZX (T ls:List aA)(cs:List Con) :List LFun→List Node→List LUnit→Option (List LFun×List Node)
 |fs,ns,[] =>some (fs,ns)
 | fs,ns,u::l=>match aTh (aJ4 (vC u) (bBc T ls u) (aZW cs u) u.nodes.length) ns.length (lH u)with
  |some (ks,r) =>aZX T ls cs (fs++List.zipWith LFun.mk (aR u) ks) (ns++r) l
  |none=>none
section
variable (nm :aA) (cs:List Con) (ls:List aA) (l:List LUnit) (T:List aA) (hT:T.length≤1000) (hls:ls.length≤1000) (hcs:cs.length≤1000)
include hT hls in
include hcs in
include hT hls hcs in
end
theorem aA1 (s:aA)(l:List aA)(i:Nat) : -1≤dB s l i∧dB s l i<i+l.length:=by
 rcases aE9 s l i with h|h
 ·omega
 ·omega
def aBR (own nd env:List aA)(s:aA) :Int×List aA:=
 if 0≤rU env s then(rU env s,[])
 else if cA own s=true then(-1-dB s own 0,[])
 else if cA nd s=true then(-1- (own.length:Int) -dB s nd 0,[])
 else(-1- (own.length:Int) - (nd.length:Int),[s])
def mC (own:List aA)(cs:List Con)(nd env:List aA)(o n:Int)(s:aA) :Int×List aA:=
 if o=4 then aBR own nd env s else if o=14 then(dX s cs 0,[])else(n,[])
mutual
def uT (own:List aA)(cs:List Con) :Term→List aA→List aA→Nat→List aA×List Node
 | .mk o n s ks ps,env,nd,a=>
  ((mC own cs nd env o n s).2++ (vX own cs o s ps ks 0 env (nd++ (mC own cs nd env o n s).2) (a+1)).1,
   ⟨o,(mC own cs nd env o n s).1,(vX own cs o s ps ks 0 env (nd++ (mC own cs nd env o n s).2) (a+1)).2.1,iJ cs ps⟩ :: (vX own cs o s ps ks 0 env (nd++ (mC own cs nd env o n s).2) (a+1)).2.2)
def vX (own:List aA)(cs:List Con)(o:Int)(s:aA)(ps:List Pat) :List Term→Nat→List aA→List aA→Nat→List aA×List Int×List Node
 | [],_,_,_,_=> ([],[],[])
 | t::ts,i,env,nd,a=>
  ((uT own cs t (env++cX o s ps i) nd a).1++ (vX own cs o s ps ts (i+1) env (nd++ (uT own cs t (env++cX o s ps i) nd a).1) (a+ (uT own cs t (env++cX o s ps i) nd a).2.length)).1,
   ((a:Nat) :Int) :: (vX own cs o s ps ts (i+1) env (nd++ (uT own cs t (env++cX o s ps i) nd a).1) (a+ (uT own cs t (env++cX o s ps i) nd a).2.length)).2.1,
   (uT own cs t (env++cX o s ps i) nd a).2++ (vX own cs o s ps ts (i+1) env (nd++ (uT own cs t (env++cX o s ps i) nd a).1) (a+ (uT own cs t (env++cX o s ps i) nd a).2.length)).2.2)
end
mutual
theorem aCt (own:List aA)(cs:List Con) :∀ (t:Term) (env nd:List aA) (a:Nat),(uT own cs t env nd a).2.length=cJ t
 | .mk o n s ks ps,env,nd,a=>by
  rw [uT,cJ];simp only [length_cons];rw [aQJ own cs o s ps ks]
theorem aQJ (own:List aA)(cs:List Con)(o:Int)(s:aA)(ps:List Pat) :∀ (ts:List Term) (i:Nat) (env nd:List aA) (a:Nat),(vX own cs o s ps ts i env nd a).2.2.length=cC ts
 | [],_,_,_,_=>by rw [vX,cC];rfl
 | t::ts,i,env,nd,a=>by
  rw [vX,cC];simp only [length_append];rw [aQJ own cs o s ps ts,aCt own cs t]
end
theorem aEr (own:List aA)(cs:List Con)(nd env:List aA)(o n:Int)(s:aA) : (mC own cs nd env o n s).2.length≤1:=by
 unfold mC aBR;split
 · split
   ·simp
   · split
     ·simp
     ·split<;>simp
 ·split<;>simp
mutual
theorem aG9 (own:List aA)(cs:List Con) :∀ (t:Term) (env nd:List aA) (a:Nat),(uT own cs t env nd a).1.length≤cJ t
 | .mk o n s ks ps,env,nd,a=>by
  rw [uT,cJ];simp only [length_append];have:=aEr own cs nd env o n s;have:=aUS own cs o s ps ks 0 env (nd++ (mC own cs nd env o n s).2) (a+1);omega
theorem aUS (own:List aA)(cs:List Con)(o:Int)(s:aA)(ps:List Pat) :∀ (ts:List Term) (i:Nat) (env nd:List aA) (a:Nat),(vX own cs o s ps ts i env nd a).1.length≤cC ts
 | [],_,_,_,_=>by rw [vX];simp
 | t::ts,i,env,nd,a=>by
  rw [vX,cC];simp only [length_append];have h1:=aG9 own cs t (env++cX o s ps i) nd a;have h2:=aUS own cs o s ps ts (i+1) env (nd++ (uT own cs t (env++cX o s ps i) nd a).1) (a+ (uT own cs t (env++cX o s ps i) nd a).2.length);omega
end
abbrev aKZ:AV:=.agg [.str 0 0,.nils,.nils,.nils,.nils]
abbrev aK0 (a:Mod):AV:=.ilst 2 (map DataD.av a.datas) false
abbrev aK1 (a:Mod):AV:=.ilst 15 (FunDs.av a.funs) false
abbrev aUT (a:Mod)(b:List Con)(c:List LFun)(d:Int)(e:LFun)(f:List Node)(g:List aA)(h:List Node):=aG [oC 0 [aD a.name,aK0 a,aK1 a],oC 1 [.str 0 0,.nils,.nils,.nils,.nils],oC 2 [aD a.name,iC b,.gl 3 2 0 (set c d.toNat (LFun.mk e.name (f.length:Int))).length false,iS g,iN f],oL 3 2 (map LFun.av (set c d.toNat (LFun.mk e.name (f.length:Int)))),oL 5 4 (jN (f++h))] 6
abbrev aUU (a:List LFun)(b:aA)(c:List Con)(d:List aA)(e:List Node)(f g:Int)(h:aA)(i:List Term)(j:List Pat)(k:List Node):=aG [oL 0 2 (map LFun.av a),oC 1 [aD b,iC c,.gl 0 2 0 a.length false,iS d,iN e],oC 2 [nI f,nI g,aD h,.ilst 5 (Terms.av i) false,iP j],oC 3 [.str 0 0,.nils,.nils,.nils,.nils],oL 6 4 (jN (e++k))] 7
abbrev aUV (a b:List Node)(c:Node):AV:=.gl 4 4 0 (set a ((b.length:Int).toNat) (Node.mk c.op c.n (c.kids++ [(a.length:Int)]) c.pats)).length false
abbrev aOW (a:Mod):AV:=.agg [aD a.name,aK0 a,aK1 a]
abbrev aHa (a:Nat)(b:Mod):=oC a [aD b.name,aK0 b,aK1 b]
abbrev aK2 (a:Node)(b:List Node):AV:=.agg [nI a.op,nI a.n,.gl 7 1 0 (a.kids++ [(b.length:Int)]).length false,iP a.pats]
abbrev aAB (a:List LFun)(b:Int)(c:LFun)(d:List Node):AV:=.gl 3 2 0 (set a b.toNat (LFun.mk c.name (d.length:Int))).length false
abbrev aHb (a b:Int)(c:aA)(d:List Term)(e:List Pat):AV:=.agg [nI a,nI b,aD c,.ilst 5 (Terms.av d) false,iP e]
abbrev aEs (a:Nat)(b c:Int)(d:aA)(e:List Term)(f:List Pat):=oC a [nI b,nI c,aD d,.ilst 5 (Terms.av e) false,iP f]
abbrev aDy (a:Nat)(b:aA)(c:List Con)(d:List LFun)(e:List aA)(f:List Node):=oC a [aD b,iC c,.gl 0 2 0 d.length false,iS e,iN f]
abbrev aK3:AV:=.tup [aKZ,nI 7]
abbrev aQK:AV:=.tup [aKZ,nI 3]
abbrev lI (a:Nat):=oC a [.str 0 0,.nils,.nils,.nils,.nils]
abbrev tH:AV:=.gl 6 4 0 ([] :List Pat).length false
abbrev aA2 (a:List Term):AV:=.ilst 5 (Terms.av a) false
abbrev kM (a:Nat)(b:List LFun):=oL a 2 (map LFun.av b)
abbrev mZ (a:List LFun):AV:=.gl 0 2 0 a.length false
abbrev aDz (a:List LFun):AV:=.gl 3 2 0 a.length false
def oR(b:aA)(c:List Con)(a:List LFun)(d:List aA)(e:List Node)(f g:Int)(i:aA)(j:List Term)(k:List Pat)(l:List aA):TS:=bH PP 88 [.agg [aD b,iC c,mZ a,iS d,iN e],aHb f g i j k,iS l] [kM 0 a] 1
def iH(d:aA)(e:List Con)(a:List LFun)(p:List aA)(f:List Node)(b g:Int)(i:aA)(j:List Term)(k:List Pat)(l:List aA)(m:Int)(n:List aA)(o:Int)(c:List Pat):TS:=⟨tf 88 146 [(2,iS l),kp 3 1,kp 4 2,kp 6 3,kp 7 4,(9,nI o)] [kc f88 1012,kl f88 1012,.inBlock 0,kc f88 127],[],[kM 0 a,aDy 1 d e a n f,aEs 2 b g i j k,lI 3,oC 4 [nI b,nI m,.nils,.gl 5 4 0 c.length false],oL 5 4 (av c)],6⟩
def aAC(c:aA)(d:List Con)(a:List LFun)(o:List aA)(e:List Node)(f g:Int)(i:aA)(j:List Term)(k:List Pat)(l m:List aA)(b:List Node)(n:Int):TS:=⟨tf 88 146 [(2,iS l),kp 3 1,kp 4 2,kp 6 3,(10,nI (e.length:Int)),(11,nI n)] [kc f88 8180,kl f88 8180,.inBlock 2,kc f88 1023],[],[kM 0 a,oC 1 [aD c,iC d,mZ a,iS m,.gl 4 4 0 b.length false],aEs 2 f g i j k,lI 3,oL 4 4 (jN b)],5⟩
def aNi(b:aA)(c:List Con)(a:List LFun)(o:List aA)(d:List Node)(e f:Int)(g:aA)(i:List Term)(j:List Pat)(k l:List aA)(m:List Node)(n:Int):TS:=⟨tf 88 146 [(2,iS k),kp 3 1,kp 4 2,kp 6 3,(10,nI (d.length:Int)),(11,nI n)] [kc f88 130889,.inBlock 3,kc f88 32723,kl f88 8180,.inBlock 2,kc f88 1023],[],[kM 0 a,aDy 1 b c a l m,aEs 2 e f g i j,lI 3],4⟩
def aK4(a:Mod):TS:=bH PP 18 [aOW a] [] 0
def vG(a:Mod)(c:List Con)(d:Int)(b:List LFun):TS:=⟨tf 18 119 [kp 1 0,kp 2 1,(3,nI 0),kp 4 2,(5,nI d)] [kc f18 244,kl f18 244,.inBlock 0,kc f18 31],[],[aHa 0 a,lI 1,oC 2 [aD a.name,iC c,aDz b,.nils,.nils],kM 3 b],4⟩
def aAD(a:Mod)(c:List Con)(b:List LFun)(d:Int)(e:List aA)(f:List Node):TS:=⟨tf 18 119 [kp 1 0,kp 2 1,(3,nI 0),kp 4 2,(6,nI d)] [kc f18 1012,kl f18 1012,.inBlock 2,kc f18 127],[],[aHa 0 a,lI 1,oC 2 [aD a.name,iC c,aDz b,iS e,iN f],kM 3 b],4⟩
def aAE(b:Mod)(c:List Con)(a:List LFun)(d:List aA)(e:List Node)(f:Int):TS:=⟨tf 18 119 [kp 2 0,(3,nI 0),kp 4 1,(7,nI f)] [kc f18 2036,kl f18 2036,.inBlock 4,kc f18 255],[],[lI 0,oC 1 [aD b.name,iC c,.gl 2 2 0 a.length false,iS d,iN e],kM 2 a],3⟩
def aEt(g:aA)(d:List Con)(e:List LFun)(a:List aA)(i:List Node)(c f:Int)(b:aA)(j:List Term)(k:List Pat)(m:List aA):=tT 1 (oR g d e a i c f b j k m)<|.y fun l:List aA=>gk 19 (.enter 78 [.agg [aD g,iC d,mZ e,iS a,iN i]]) [kM 0 e,aDy 1 g d e a i,aEs 2 c f b j k,lI 3,oC 4 [nI c,nI f,.nils,.nils]] 5 (.gl 5 1 0 l.length false) [kM 0 e,aDy 1 g d e a i,aEs 2 c f b j k,lI 3,oC 4 [nI c,nI f,.nils,.nils],oL 5 1 (map aD l)] 6<|gz 4 8 5 1 aD l false<|.b 5 21 (c==4) (gpI 6 149 [iS m,aD b]<|fun o=>gd 9 30 (o<0) (cD 3 64 [iS l,aD b]<|fun q=>.b 2 35 q (gpI 5 150 [iS l,aD b]<|fun p=>gw 1 40 ((-1:Int) -p)<|.b 10 71 (c==14) (gpI 6 147 [iC d,aD b]<|fun n=>.i [rn 10,.cnil 4 3 4] []<|gu 0 6 (av ([] :List Pat))<|gv 0 4 3 tH<|.W 0 7 [1,2,3,4,6] (iH g d e a i c f b j k m n a 0 ([] :List Pat)))<|.i [rn 9,.cnil 4 3 4] []<|gu 0 6 (av ([] :List Pat))<|gv 0 4 3 tH<|.W 0 7 [1,2,3,4,6] (iH g d e a i c f b j k m ((-1:Int) -p) a 0 ([] :List Pat)))<|gd 7 44 (o<0) (cD 8 64 [iS a,aD b]<|fun p=>.b 2 50 (!p) (.i [rn 1,.reg (.d::.d::.app (map aD a) a.length::rd 3 [.app (map aD (a++ [b])) (a++ [b]).length,.d,.d])] [hA (length a≤1000000),hr (map aD a),.q (p:=length (map aD a) =length a) (length_map ..),hb aD a,hA (length (a++ [b]) ≤1000000),hc aD a [b],he aD a [b],hr (aD b),hr (aD b)]<|gy 0 1 3 8 1 aD (a++ [b]) false<|gl 2 aD l<|gw 1 61 ((-1:Int) - (l.length:Int))<|gpI 4 150 [iS (a++ [b]),aD b]<|fun n=>gw 1 67 (((-1:Int) - (l.length:Int)) -n)<|.b 10 71 (c==14) (gpI 6 147 [iC d,aD b]<|fun r=>.i [rn 10,.cnil 4 3 4] []<|gu 0 9 (av ([] :List Pat))<|gv 0 4 3 (.gl 9 4 0 ([] :List Pat).length false)<|.W 0 10 [1,2,3,4,9] (iH g d e a i c f b j k m r (a++ [b]) 0 ([] :List Pat)))<|.i [rn 9,.cnil 4 3 4] []<|gu 0 9 (av ([] :List Pat))<|gv 0 4 3 (.gl 9 4 0 ([] :List Pat).length false)<|.W 0 10 [1,2,3,4,9] (iH g d e a i c f b j k m (((-1:Int) - (l.length:Int)) -n) (a++ [b]) 0 ([] :List Pat)))<|gl 4 aD l<|gw 1 61 ((-1:Int) - (l.length:Int))<|gpI 4 150 [iS a,aD b]<|fun n=>gw 1 67 (((-1:Int) - (l.length:Int)) -n)<|.b 10 71 (c==14) (gpI 6 147 [iC d,aD b]<|fun r=>.i [rn 10,.cnil 4 3 4] []<|gu 0 6 (av ([] :List Pat))<|gv 0 4 3 tH<|.W 0 7 [1,2,3,4,6] (iH g d e a i c f b j k m r a 0 ([] :List Pat)))<|.i [rn 9,.cnil 4 3 4] []<|gu 0 6 (av ([] :List Pat))<|gv 0 4 3 tH<|.W 0 7 [1,2,3,4,6] (iH g d e a i c f b j k m (((-1:Int) - (l.length:Int)) -n) a 0 ([] :List Pat))) .x)<|gd 13 44 (o<0) .x<|.b 9 71 (c==14) (gpI 6 147 [iC d,aD b]<|fun q=>.i [rn 10,.cnil 4 3 4] []<|gu 0 6 (av ([] :List Pat))<|gv 0 4 3 tH<|.W 0 7 [1,2,3,4,6] (iH g d e a i c f b j k m q a 0 ([] :List Pat)))<|.i [rn 9,.cnil 4 3 4] []<|gu 0 6 (av ([] :List Pat))<|gv 0 4 3 tH<|.W 0 7 [1,2,3,4,6] (iH g d e a i c f b j k m o a 0 ([] :List Pat)))<|.b 9 71 (c==14) (gpI 6 147 [iC d,aD b]<|fun o=>.i [rn 10,.cnil 4 3 4] []<|gu 0 6 (av ([] :List Pat))<|gv 0 4 3 tH<|.W 0 7 [1,2,3,4,6] (iH g d e a i c f b j k m o a 0 ([] :List Pat)))<|.i [rn 9,.cnil 4 3 4] []<|gu 0 6 (av ([] :List Pat))<|gv 0 4 3 tH<|.W 0 7 [1,2,3,4,6] (iH g d e a i c f b j k m f a 0 ([] :List Pat))
def aUW(m:aA)(l:List Con)(n:List LFun)(o:List aA)(a:List Node)(c p:Int)(q:aA)(r:List Term)(j:List Pat)(s:List aA)(d:Int)(t:List aA)(k:Int)(b:List Pat):=tT 1 (iH m l n o a c p q r j s d t k b)<|gm 6 aF j<|gd 2 82 (k< (j.length:Int)) (.y fun u:Int=>.y fun v:Int=>.y fun w:aA=>.y fun x:List Pat=>.y fun e:Int=>.y fun f:Int=>.y fun g:aA=>.y fun i:List Pat=>.i [rn 4,.reg (rd 7 [.ans (.idx (Pat.av (Pat.mk u v w x))),.d,.pure (.agg [nI e,nI f,aD g,iP i]),.d,.app (av (b++ [Pat.mk e f g i])) (b++ [Pat.mk e f g i]).length,.d,.d])] [hA (0≤k),.a (((j)[k.toNat]?) =some (Pat.mk u v w x)) (fQ aF),hA (Pure PP 151 [iC l,.agg [nI u,nI v,aD w,iP x]] (.agg [nI e,nI f,aD g,iP i])),hB aF b,hA (length (b++ [Pat.mk e f g i]) ≤1000000),hC aF b [Pat.mk e f g i],hE aF b [Pat.mk e f g i],hr (AV.gl 5 4 0 b.length false),hr (AV.gl 5 4 0 b.length false)]<|gw 4 84 (k+1)<|.W 3 8 [1,2,3,4,7] (iH m l n o a c p q r j s d t (k+1) (b++ [Pat.mk e f g i])))<|gY 3 4 3 5 4 aF dV b false<|gl 3 Node.av a<|.i [rn 3,.reg [.d,.d,.app (jN a) a.length,.d,.d,.app (map ONode.av (map Node.o a++ [ONode.mk c d KV.nil b])) (map Node.o a++ [ONode.mk c d KV.nil b]).length,.d,.d]] [hA (length a≤1000000),hr (jN a),.q (p:=length (jN a) =length a) (length_map ..),hb Node.av a,.a (length a<1000000) (p':=length (map Node.o a++ [ONode.mk c d KV.nil b]) ≤1000000) aZU,.q (p:=List.take a.length (List.drop 0 (jN a)) ++ ([.agg [nI c,nI d,.nils,iP b]] :List AV) = (map ONode.av (map Node.o a++ [ONode.mk c d KV.nil b]))) (aZV _ _ _ _),.q (p:=a.length+length ([.agg [nI c,nI d,.nils,iP b]] :List AV) =length (map Node.o a++ [ONode.mk c d KV.nil b])) (aW2 _ _ _),hr (AV.agg [nI c,nI d,.nils,iP b]),hr (AV.agg [nI c,nI d,.nils,iP b])]<|.i [.lw 8 (jN (a++ [Node.mk c d [] b]))] [.q (p:=(map ONode.av (map Node.o a++ [ONode.mk c d KV.nil b])) ≠ []) (bBa _ _),.q (p:=VW (map ONode.av (map Node.o a++ [ONode.mk c d KV.nil b])) (jN (a++ [Node.mk c d [] b]))) (aW4 _ _ _ _)]<|.i [.cset 1 4 (.gl 8 4 0 (a++ [Node.mk c d [] b]).length false)] [.q (p:=(AV.gl 8 4 0 (map Node.o a++ [ONode.mk c d KV.nil b]).length false) = (.gl 8 4 0 (a++ [Node.mk c d [] b]).length false)) (dH (aW3 _ _ _))]<|.W 7 9 [1,2,3,8] (aAC m l n o a c p q r j s t (a++ [Node.mk c d [] b]) 0)
def aUX(f:aA)(g:List Con)(d:List LFun)(k:List aA)(c:List Node)(l m:Int)(n:aA)(e:List Term)(o:List Pat)(p i:List aA)(b:List Node)(j:Int):=tT 1 (aAC f g d k c l m n e o p i b j)<|gm 6 dA e<|gd 2 112 (j< (e.length:Int)) (.y fun a:Node=>.i [rn 5,.reg (rd 6 (.ans (.ix)::.d::.ans (.idx (Node.av a))::.app (jI a.kids) a.kids.length::rd 4 [.app (jI (a.kids++ [(b.length:Int)])) (a.kids++ [(b.length:Int)]).length,.ans (.ix),.d,.st (Node.av a) (aK2 a b)])),.lfrz 4 7 (jI (a.kids++ [(b.length:Int)]))] [hA (0≤ (c.length:Int)),hA ((c.length:Int) < (b.length:Int)),.a (((b)[(c.length:Int).toNat]?) =some a) (jQ (f:=Node.av)),hA (length a.kids≤1000000),hr (jI a.kids),.q (p:=length (jI a.kids) =length a.kids) (length_map ..),hb bM a.kids,hA (length (a.kids++ [(b.length:Int)]) ≤1000000),hc bM a.kids [(b.length:Int)],he bM a.kids [(b.length:Int)],hA (0≤ (c.length:Int)),hA ((c.length:Int) < (b.length:Int)),.a (((b)[(c.length:Int).toNat]?) =some a) (jQ (f:=Node.av)),hr (some (AV.agg [nI a.op,nI a.n,AV.gl 7 1 0 (a.kids++ [(b.length:Int)]).length false,ilst 4 (av a.pats) false])),hr (nI (b.length:Int)),hr (nI (b.length:Int)),hr (AV.gl 4 4 0 b.length false),hr (AV.gl 4 4 0 b.length false),hr (AV.gl 4 4 0 b.length false),hr (AV.gl 4 4 0 b.length false),hr (AV.gl 4 4 0 b.length false),.a (((b)[(c.length:Int).toNat]?) =some a) (p':=(set (jN b) (0+ (c.length:Int).toNat) (aK2 a b)) ≠ []) (fun h=>(aW5 h _ _)),hk bM (a.kids++ [(b.length:Int)]),.q (p:=AV.frzOkL 7 1 (jI (a.kids++ [(b.length:Int)])) (jI (a.kids++ [(b.length:Int)])) (set (jN b) (0+ (c.length:Int).toNat) (aK2 a b))) (aUG _ _ _ _ _ _ _ _)]<|.i [.lset 4 (jN (set b ((c.length:Int).toNat) (Node.mk a.op a.n (a.kids++ [(b.length:Int)]) a.pats)))] [.q (p:=AV.frzL 7 (jI (a.kids++ [(b.length:Int)])) (set (jN b) (0+ (c.length:Int).toNat) (aK2 a b)) = (jN (set b ((c.length:Int).toNat) (Node.mk a.op a.n (a.kids++ [(b.length:Int)]) a.pats)))) (aUH _ _ _ _ _ _ _)]<|.i [.cset 1 4 (aUV b c a)] [.q (p:=(AV.gl 4 4 0 b.length false) = (aUV b c a)) (dH ((length_set ..).symm))]<|gy 0 1 4 4 4 Node.av (set b ((c.length:Int).toNat) (Node.mk a.op a.n (a.kids++ [(b.length:Int)]) a.pats)) false<|.W 0 8 [1,2,3] (aNi f g d k c l m n e o p i (set b ((c.length:Int).toNat) (Node.mk a.op a.n (a.kids++ [(b.length:Int)]) a.pats)) j))<|.E 8 5 [4] (.agg [aD f,iC g,mZ d,iS i,.gl 1 4 0 b.length false]) [kM 0 d,oL 1 4 (jN b)] 2
def aRV:=fun d e f g i j k l m n o p q r s t b c a u v=>aUX d e f g i j k l m n o p q r|>.t t s b c a u v b c a a ⟨kk,trivial⟩
def aRW (e:aA)(f:List Con)(b:List LFun)(v:List aA)(w:List Node)(o p:Int)(q:aA)(d:List Term)(r:List Pat)(a g:List aA)(c:List Node)(t:Int):=fun j k l m n i u s x y z A B C D=>(tT 1 (aNi e f b v w o p q d r a g c t)<|.y fun j:Int=>.y fun k:Int=>.y fun l:aA=>.y fun m:List Term=>.y fun n:List Pat=>.y fun i:List aA=>.y fun u:List aA=>.y fun s:List Node=>.i [.reg (rd 4 [.ans (.idx (Term.av (Term.mk j k l m n))),.d,.d,.app (map aD a) a.length,.d,.d,.pure (iS i),.app (map aD (a++i)) (a++i).length,.call (.agg [aD e,iC f,mZ b,iS (g++u),.gl 6 4 0 (c++s).length false]) (aUU b e f g c o p q d r s),.d])] [hA (0≤t),.a (((d)[t.toNat]?) =some (Term.mk j k l m n)) (fQ dA),hA (length a≤1000000),hr (map aD a),.q (p:=length (map aD a) =length a) (length_map ..),hA (Pure PP 128 [aHb o p q d r,nI t] (iS i)),hb aD a,hA (length (a++i) ≤1000000),hc aD a i,he aD a i,hA (Spec PP (.enter 88 [.agg [aD e,iC f,mZ b,iS g,iN c],aHb j k l m n,.gl 5 1 0 (a++i).length false]) (aG [kM 0 b,aDy 1 e f b g c,aEs 2 o p q d r,lI 3,oL 5 1 (map aD (a++i))] 6) (.ret (.agg [aD e,iC f,mZ b,iS (g++u),.gl 6 4 0 (c++s).length false])) (aUU b e f g c o p q d r s)),hr (AV.agg [nI o,nI p,aD q,aA2 d,iP r]),hr (AV.agg [nI o,nI p,aD q,aA2 d,iP r]),hr (AV.agg [nI j,nI k,aD l,aA2 m,iP n]),hr (AV.agg [nI j,nI k,aD l,aA2 m,iP n]),hr (AV.agg [nI j,nI k,aD l,aA2 m,iP n]),hr (AV.agg [nI j,nI k,aD l,aA2 m,iP n]),hr (ilst 5 (Terms.av d) false),hr (ilst 5 (Terms.av d) false),hr (ilst 5 (Terms.av d) false),hr (ilst 5 (Terms.av d) false),hr (AV.agg [aD e,iC f,mZ b,iS g,iN c]),hr (AV.agg [aD e,iC f,mZ b,iS g,iN c]),hr (AV.agg [aD e,iC f,mZ b,iS g,iN c]),hr (AV.agg [aD e,iC f,mZ b,iS g,iN c])]<|gw 4 114 (t+1)<|.W 3 7 [1,2,3,6] (aAC e f b v w o p q d r a (g++u) (c++s) (t+1))) j k l m n i u s x y z A B C D ⟨kk,⟨kk,trivial⟩⟩
def aUY(a:Mod):=tT 0 (aK4 a)<|cD 10 8 [aOW a]<|fun c=>.b 2 10 (!c) (gE 8 2 (.tup [aKZ,nI 2]))<|.y fun b:List Con=>.i [rn 3,.reg (rd 3 (.pure (iC b)::rd 3 []))] [hA (Pure PP 85 [aOW a] (iC b)),hr (aD a.name),hr (aD a.name)]<|.i [rn 7,.cnil 2 2 2] []<|gu 0 3 (map LFun.av ([] :List LFun))<|gv 0 2 2 (.gl 3 2 0 ([] :List LFun).length false)<|.W 0 4 [0,1,2,3] (vG a b 0 ([] :List LFun))
def aHc(a:Mod)(d:List Con)(e:Int)(b:List LFun):=tT 0 (vG a d e b)<|gm 6 cN a.funs<|gd 2 21 (e< (a.funs.length:Int)) (.y fun c:aA=>.y fun l:aA=>.y fun m:Int=>.y fun n:Int=>.y fun o:aA=>.y fun p:List Typ=>.y fun q:Int=>.y fun r:Int=>.y fun s:aA=>.y fun t:List Typ=>.y fun f:Int=>.y fun g:Int=>.y fun i:aA=>.y fun j:List Term=>.y fun k:List Pat=>.y fun v:Bool=>.i [rn 5,.reg (rd 5 (.ans (.idx (FunD.av (FunD.mk c l (Typ.mk m n o p) (Typ.mk q r s t) (Term.mk f g i j k))))::rd 4 [.app (map LFun.av (b++ [LFun.mk c 0])) (b++ [LFun.mk c 0]).length,.d,.d])),rn 1,.reg (rd 5 [.ans (.idx (FunD.av (FunD.mk c l (Typ.mk m n o p) (Typ.mk q r s t) (Term.mk f g i j k)))),.d,.d,.pure (bV v),.d])] [hA (0≤e),.a (((a.funs)[e.toNat]?) =some (FunD.mk c l (Typ.mk m n o p) (Typ.mk q r s t) (Term.mk f g i j k))) (fQ cN),hb LFun.av b,hA (length (b++ [LFun.mk c 0]) ≤1000000),hc LFun.av b [LFun.mk c 0],he LFun.av b [LFun.mk c 0],hA (0≤e),.a (((a.funs)[e.toNat]?) =some (FunD.mk c l (Typ.mk m n o p) (Typ.mk q r s t) (Term.mk f g i j k))) (fQ cN),hA (Pure PP 86 [iC d,aHb f g i j k] (bV v))]<|.b 0 45 (!v) (gE 8 6 aK3)<|gw 6 23 (e+1)<|.W 3 6 [0,1,2,5] (vG a d (e+1) (b++ [LFun.mk c 0])))<|.i [rn 4,.cnilI 2 3 1] []<|.i [.cweak 2 3] []<|.i [.cnilI 2 4 4] []<|.i [.cweak 2 4] []<|.y fun u:List aA=>gk 2 (.enter 78 [.agg [aD a.name,iC d,aDz b,iS ([] :List aA),iN ([] :List Node)]]) [aHa 0 a,lI 1,oC 2 [aD a.name,iC d,aDz b,iS ([] :List aA),iN ([] :List Node)],kM 3 b] 4 (.gl 4 1 0 u.length false) [aHa 0 a,lI 1,oC 2 [aD a.name,iC d,aDz b,iS ([] :List aA),iN ([] :List Node)],kM 3 b,oL 4 1 (map aD u)] 5<|gz 0 48 4 1 aD u false<|cD 0 62 [iS u]<|fun x=>.b 2 51 (!x) (gE 15 5 aK3)<|.y fun w:List aA=>gp 2 87 [iC d] (iS w)<|cD 0 62 [iS w]<|fun y=>.b 3 57 (!y) (gE 8 5 aK3)<|.W 9 5 [0,1,2,3] (aAD a d b 0 ([] :List aA) ([] :List Node))
def aUZ(d:Mod)(f:List Con)(c:List LFun)(b:Int)(g:List aA)(a:List Node):=tT 0 (aAD d f c b g a)<|gm 6 cN d.funs<|gd 2 63 (b< (d.funs.length:Int)) (gl 11 Node.av a<|.i [.ans (.ix)] [hA (0≤b),hA (b< (c.length:Int))]<|.y fun e:LFun=>.i [rn 1,.st (LFun.av e) (LFun.av (LFun.mk e.name (a.length:Int)))] [.a (((c)[b.toNat]?) =some e) (jQ (f:=LFun.av)),hr (some (LFun.av (LFun.mk e.name (a.length:Int))))]<|.i [.lset 3 (map LFun.av (set c b.toNat (LFun.mk e.name (a.length:Int))))] [.q (p:=(map LFun.av c).set (0+b.toNat) (LFun.av (LFun.mk e.name (a.length:Int))) = (map LFun.av (set c b.toNat (LFun.mk e.name (a.length:Int))))) (pA _ _ _ _)]<|.i [.set 67 (aAB c b e a)] [.q (p:=(AV.gl 3 2 0 c.length false) = (aAB c b e a)) (dH (length_set ..).symm)]<|.i [.cset 2 2 (aAB c b e a)] [.q (p:=(AV.gl 3 2 0 c.length false) = (aAB c b e a)) (dH (length_set ..).symm)]<|.y fun p:aA=>.y fun j:aA=>.y fun q:Int=>.y fun r:Int=>.y fun s:aA=>.y fun t:List Typ=>.y fun u:Int=>.y fun v:Int=>.y fun w:aA=>.y fun x:List Typ=>.y fun k:Int=>.y fun l:Int=>.y fun m:aA=>.y fun n:List Term=>.y fun o:List Pat=>.y fun y:List aA=>.y fun i:List Node=>.i [rn 1,.reg (rd 4 (.ans (.idx (FunD.av (FunD.mk p j (Typ.mk q r s t) (Typ.mk u v w x) (Term.mk k l m n o))))::rd 5 (.ans (.idx (FunD.av (FunD.mk p j (Typ.mk q r s t) (Typ.mk u v w x) (Term.mk k l m n o))))::rd 3 [.call (.agg [aD d.name,iC f,aAB c b e a,iS (g++y),.gl 5 4 0 (a++i).length false]) (aUT d f c b e a g i),.d])))] [hA (0≤b),.a (((d.funs)[b.toNat]?) =some (FunD.mk p j (Typ.mk q r s t) (Typ.mk u v w x) (Term.mk k l m n o))) (fQ cN),hA (0≤b),.a (((d.funs)[b.toNat]?) =some (FunD.mk p j (Typ.mk q r s t) (Typ.mk u v w x) (Term.mk k l m n o))) (fQ cN),hA (Spec PP (.enter 88 [.agg [aD d.name,iC f,aAB c b e a,iS g,iN a],aHb k l m n o,.slice 4 0 1 1 1 true]) (aG [aHa 0 d,lI 1,oC 2 [aD d.name,iC f,aAB c b e a,iS g,iN a],oL 3 2 (map LFun.av (set c b.toNat (LFun.mk e.name (a.length:Int)))),oC 4 [aD j]] 5) (.ret (.agg [aD d.name,iC f,aAB c b e a,iS (g++y),.gl 5 4 0 (a++i).length false])) (aUT d f c b e a g i))]<|gy 1 2 4 5 4 Node.av (a++i) false<|gw 3 65 (b+1)<|.W 3 6 [0,1,2,3] (aAD d f (set c b.toNat (LFun.mk e.name (a.length:Int))) (b+1) (g++y) (a++i)))<|.W 9 4 [1,2,3] (aAE d f c g a 0)
def aHd(e:Mod)(f:List Con)(d:List LFun)(c:List aA)(a:List Node)(b:Int):=tT 0 (aAE e f d c a b)<|gl 6 Node.av a<|gd 2 93 (b< (a.length:Int)) (gX Node.av 9 a b<|fun g=>.b 4 103 (g.op==4) (gi Node.av 3 a b g<|gd 5 111 (g.n≥30) (gE 8 3 aQK)<|gw 6 95 (b+1)<|.W 3 3 [0,1,2] (aAE e f d c a (b+1)))<|gw 15 95 (b+1)<|.W 3 3 [0,1,2] (aAE e f d c a (b+1)))<|gl 7 aD c<|gd 2 116 ((c.length:Int) >20) (gE 8 3 aQK)<|gy 3 1 2 2 2 LFun.av d false<|gE 6 3 (.tup [.agg [aD e.name,iC f,.ilst 2 (map LFun.av d) false,iS c,iN a],nI 0])
def bCO (x:Node) :Prop:=x.kids.length≤10∧aQ x.pats≤120
structure MovN (p:Prog) (F C:List Int) (i:Nat) (x:Node) :Prop where
 kl:x.kids.length≤10
 kids:∀k∈x.kids,(i:Int) <k∧k<p.nodes.length
 ps:aQ x.pats≤120
 n:∃n',mN F C x.op x.n=some n'
 pats:∃ps',aEX C x.pats=some ps'∧aQ ps'=aQ x.pats
structure GoodU (u:LUnit) :Prop where
 few:FewU u
 formed:xP u=true
theorem GoodU.small {u:LUnit}(h:GoodU u) :u.nodes.length≤320∧u.cons.length≤25:=by
 have:=h.few.p;simp only [aW,Bool.and_eq_true,decide_eq_true_eq]at this;exact⟨this.1.1.1.1,this.1.1.2⟩
theorem GoodU.cases {u:LUnit}(h:GoodU u) : (u.funs= [] ∧u.nodes= []) ∨ (u.funs≠ [] ∧bP (aDu u) =true) :=by
 have hf:=h.formed;unfold xP at hf;simp only [Bool.and_eq_true]at hf;have h2:=hf.2;split at h2
 · rename_i h0;simp only [Bool.and_eq_true,decide_eq_true_eq]at h2;exact .inl ⟨List.eq_nil_of_length_eq_zero h0,List.eq_nil_of_length_eq_zero h2.1⟩
 · rename_i h0;exact .inr ⟨fun e=>h0 (by rw [e];rfl),h2⟩
def aY0 :List LUnit→Nat
 | [] =>0
 |u::l=>u.nodes.length+aY0 l
def aDA :LUnit:= ⟨[],[],[],[],[]⟩
def aXa (ls:List aA)(cs:List Con)(l:List LUnit) :List LFun×List Node:= (aZX (bA8 l) ls cs [] [] l).getD ([],[])
structure PutOk (ls:List aA) (cs:List Con) (l:List LUnit) :Prop where
 eq:aZX (bA8 l) ls cs [] [] l=some (aXa ls cs l)
 len: (aXa ls cs l).2.length=aY0 l
 fit:∀x∈ (aXa ls cs l).2,bCO x
 funs: (aXa ls cs l).1.length≤300
end
end Go.Hb
