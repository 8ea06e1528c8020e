/- A machine on abstract values, its soundness, ways, plain laws. -/
import Derived.Test.YtfaikcecgpcimaaGreatHF
import Derived.Test.YtfaikcecgpcimaaGreatHG
import Derived.Test.YtfaikcecgpcimaaGreatHH
import Derived.Test.YtfaikcecgpcimaaGreatHL
set_option linter.defProp false
set_option linter.unusedVariables false
set_option linter.unusedSimpArgs false
set_option linter.unusedSectionVars false
set_option maxRecDepth 100000
set_option maxHeartbeats 4000000
namespace Go.Hb
open List (getElem?_map length map mem_append_left mem_append_right mem_cons_of_mem mem_cons_self set set_set)
open Go.Proofs Tryz
noncomputable section
mutual
theorem aSg {cons:List Con}{mc mc' mc2:List (Int×Int)}(h:∀n:Int,0≤n→n<cons.length→lQ mc2 n=lQ mc' (lQ mc n)) :∀q:Pat,dE cons q=true→zG mc' (zG mc q) =zG mc2 q
 | .mk f n s ps,g=>by
  rw [dE,Bool.and_eq_true]at g;rw [zG,zG,zG,uJ h ps g.2];by_cases hf:f=6
  · subst hf;have g1:=g.1;unfold dH at g1;simp [cT]at g1;rw [if_pos rfl,if_pos rfl,if_pos rfl,h n g1.1.1.1 (by omega)]
  ·rw [if_neg hf,if_neg hf,if_neg hf]
theorem uJ {cons:List Con}{mc mc' mc2:List (Int×Int)}(h:∀n:Int,0≤n→n<cons.length→lQ mc2 n=lQ mc' (lQ mc n)) :∀ps:List Pat,bW cons ps=true→fZ mc' (fZ mc ps) =fZ mc2 ps
 | [],_=>rfl
 | q::ps,g=>by
  rw [bW,Bool.and_eq_true]at g;rw [fZ,fZ,fZ,aSg h q g.1,uJ h ps g.2]
end
theorem aVg {p:Prog}{x:Node}(h:bH p x=true) : (x.op=4→ -(p.funs.length:Int) ≤x.n) ∧ (x.op=14→0≤x.n∧x.n<p.cons.length) ∧bW p.cons x.pats=true:=by
 simp only [bH,eP,Bool.and_eq_true]at h;obtain⟨⟨⟨h1,_⟩,h2⟩,_⟩ :=h;refine⟨fun e=>?_,fun e=>?_,kC fun q hq=>?_⟩
 · rw [e]at h1;simp [bI,cT]at h1;omega
 · rw [e]at h1;simp [bI,cT]at h1;omega
 · have:=List.all_eq_true.1 h2 q hq;simp only [iD,Bool.and_eq_true]at this;exact this.2
structure Comp (p:Prog) (mf mc:List (Int×Int)) (to:List Int) (mf' mc':List (Int×Int)) (to':List Int) (mf2 mc2:List (Int×Int)) (to2:List Int) :Prop where
 f0:∀i:Int,0≤i→i<p.funs.length→0≤lQ mf i
 f:∀i:Int,0≤i→i<p.funs.length→lQ mf2 i=lQ mf' (lQ mf i)
 c:∀i:Int,0≤i→i<p.cons.length→lQ mc2 i=lQ mc' (lQ mc i)
 t:∀ (i:Nat) (k:Int),(dX p)[i]?=some k→fB to2 k=fB to' (fB to k)
theorem Comp.node {p:Prog}{mf mc mf' mc' mf2 mc2:List (Int×Int)}{to to' to2:List Int}(h:Comp p mf mc to mf' mc' to' mf2 mc2 to2)(hp:Fm p){k:Int}(hk:k∈dX p) :dV mf' mc' to' (dV mf mc to (nodeAt p k)) =dV mf2 mc2 to2 (nodeAt p k) :=by
 have hr:=hp.into k hk;obtain⟨x,hx⟩ :∃x,p.nodes[k.toNat]?=some x:= ⟨_,List.getElem?_eq_getElem (by omega)⟩;rw [eV hx];obtain⟨h4,h14,hps⟩ :=aVg (hp.node _ x hx).1;unfold dV;simp only [Node.mk.injEq,List.map_map,true_and];refine⟨?_,List.map_congr_left fun c hc=>?_,uJ h.c _ hps⟩
 · unfold bN;by_cases e4:x.op=4
   · rw [if_pos e4,if_pos e4,if_pos e4];by_cases hn:0≤x.n
     ·rw [if_pos hn,if_pos hn,if_pos hn]
     · have:=h4 e4;have h0:=h.f0 (-1-x.n) (by omega) (by omega);have h1:=h.f (-1-x.n) (by omega) (by omega);rw [if_neg hn,if_neg hn,if_neg (by omega),h1];congr 2;omega
   · rw [if_neg e4,if_neg e4,if_neg e4];by_cases e14:x.op=14
     · have:=h14 e14;rw [if_pos e14,if_pos e14,if_pos e14,h.c x.n this.1 this.2]
     ·rw [if_neg e14,if_neg e14,if_neg e14]
 · have:= (hp.fine.node _ _ hx).2.2 c hc;obtain⟨i,hi⟩ :=aMl hp (k:=c) (by omega) (by omega);exact(h.t i c hi).symm
theorem Laid.slice {a p:Prog}{off:Nat}{mf mc:List (Int×Int)}{to:List Int}(h:Laid a off p mf mc to)(F:Node→Node) : ((List.range (dX p).length).map fun i=>F (nodeAt a ((off+i:Nat) :Int))) = (dX p).map fun k=>F (dV mf mc to (nodeAt p k)) :=by
 refine List.ext_getElem? (fun i=>?_);rw [getElem?_map,getElem?_map];by_cases hi:i< (dX p).length
 · have e: (dX p)[i]?=some (dX p)[i] :=List.getElem?_eq_getElem hi;rw [List.getElem?_range hi,e];simp only [Option.map_some];rw [eV (p:=a) (k:= ((off+i:Nat) :Int)) (by rw [Int.toNat_natCast];exact h.node i _ e)]
 ·rw [List.getElem?_eq_none (by simp;omega),List.getElem?_eq_none (by omega)];rfl
section
variable {p q r:Prog}
end
structure PlOk (p:Prog) (n:Nat) :Prop where
 low:30≤n
 big:n≤900000
 kid:∀ (a:Nat) (x:Node) (sz:Int) (i:Nat),(aOL p)[a]?=some sz→p.nodes[a]?=some x→i<x.kids.length→sz+aL5 x i≤n
 own:∀ (a:Nat) (x:Node) (sz:Int),(aOL p)[a]?=some sz→p.nodes[a]?=some x→x.op=5∨x.op=27∨x.op=7→sz<n
def KidLe (p:Prog)(b:Int)(P:Nat→Prop) :Prop:=∀ (c:Nat) (x:Node) (s:Int) (i:Nat),P c→ (aOL p)[c]?=some s→p.nodes[c]?=some x→i<x.kids.length→s+aL5 x i≤b
theorem KidLe.mono {p:Prog}{b b':Int}{P:Nat→Prop}(h:KidLe p b P)(hb:b≤b') :KidLe p b' P:=fun c x s i a1 a2 a3 a4=>by
 have:=h c x s i a1 a2 a3 a4;omega
theorem Pure.val {P:Program}{f:Nat}{args:List AV}{v v':AV}(h:Pure P f args v)(hv:∀E cv,VR E v cv→VR E v' cv) :Pure P f args v':=fun hp=>by
 obtain⟨g,hg,he⟩ :=h hp;exact⟨g,hg,Ends.val he hv⟩
section
variable {P :Program}
theorem aB2 {E E':Emb}(hle:E.le E') :∀ {xs:List AV} {i:Nat} {y:AV} {vs:List Value} {v:Value},VRs E xs vs→vs[i]?=some v→VR E' y v→VRs E' (xs.set i y) vs
 | [],i,y,vs,v,hvs,hv,_=>by simp only [VRs]at hvs;subst hvs;simp at hv
 | a::xs,0,y,vs,v,hvs,hv,hy=>by
  simp only [VRs]at hvs;obtain⟨u,us,rfl,h1,h2⟩ :=hvs;simp at hv;subst hv;simp only [List.set_cons_zero,VRs];exact⟨_,us,rfl,hy,h2.mono hle⟩
 | a::xs,i+1,y,vs,v,hvs,hv,hy=>by
  simp only [VRs]at hvs;obtain⟨u,us,rfl,h1,h2⟩ :=hvs;simp only [List.getElem?_cons_succ]at hv;simp only [List.set_cons_succ,VRs];exact⟨u,us,rfl,h1.mono hle,aB2 hle h2 hv hy⟩
theorem aMq {E:Emb}{c:List AV}{o:Nat}{v:AV}(hc:c[o]?=some v){cv:Value}(h:VR E (.agg c) cv) :∃us w,cv= .agg us.toArray∧VRs E c us∧us[o]?=some w∧VR E v w:=by
 rw [VR]at h;obtain⟨us,rfl,h⟩ :=h;obtain⟨w,h1,h2⟩ :=h.get _ _ hc;exact⟨us,w,rfl,h,h1,h2⟩
theorem aDI {m:Nat}{fr:AFrame}{cs:List AFrame}{h h1:Hp}{k e i o:Nat}{zs c:List AV}{v v':AV}(hk:h.look k=some (.lst e zs))(hk1:h1.look k=some (.lst e zs))(hi:zs[i]?=some (.agg c))(hc:c[o]?=some v)(ht:m≤h.nb→wX m h h1 v v') :
  LeadsM P m ⟨fr,cs,h⟩ ⟨fr,cs,h1.set k (.lst e (zs.set i (.agg (c.set o v'))))⟩ :=fun hm E cf ccs w base f fs r=>by
 obtain⟨E',hle,r',x',hvv⟩ :=ht hm E w r;have hun:pV (.lst e zs) =false:=by
  cases zs with
  |nil=>simp at hi
  |cons _ _=>rfl
 have hr:Rel E' (h1.set k (.lst e (zs.set i (.agg (c.set o v'))))) w.heap:=by
  refine r'.reobj hk1 hun (fun L hL=>?_) rfl rfl rfl;obtain⟨L0,hE,C,el,vs,o1,o2,o3,o4,o5⟩ :=r.obj _ _ hk hun;have:=hle.1 _ _ hE;rw [hL]at this;cases this;obtain⟨cv,g1,g2⟩ :=o3.get _ _ hi;obtain⟨us,q,rfl,g3,g4,g5⟩ :=aMq hc g2;refine⟨C,el,vs,o1,o2,aB2 hle o3 g1 ?_,o4,o5⟩;rw [VR];exact⟨us,rfl,aB2 hle g3 g4 (hvv q g5)⟩
 exact⟨E',cf,ccs,w,Steps.refl _ _,f.mono hle,fs.mono hle,hr,mL x' hk1⟩
def LQ (zs:List AV)(i o:Nat)(v v':AV)(ys:List AV) :Prop:=∃c,zs[i]?=some (.agg c) ∧c[o]?=some v∧ys=zs.set i (.agg (c.set o v'))
theorem aYT {m:Nat}{s t:TS}{k b e0 e i o n:Nat}{u:Value}{xs zs ys:List AV}(hk:s.as.h.look k=some (.lst e0 zs))(hb:s.as.h.look b=some (.lstv u e xs))(hne:k≠b)(hn:xs.length=n)(hq:LQ zs i o (.val u) (.gl b e 0 n false) ys)
  (ht:t.as= ⟨s.as.fr,s.as.cs,(s.as.h.set b (.lst e xs)).set k (.lst e0 ys)⟩) :LeadsM P m s.as t.as:=by
 subst hn;obtain⟨c,h1,h2,rfl⟩ :=hq;rw [ht];exact aDI hk (by rw [bD,if_neg hne];exact hk) h1 h2 (aBA hb)
theorem bDn {m:Nat}{s t:TS}{k e0 e i o:Nat}{zs ys:List AV}(hk:s.as.h.look k=some (.lst e0 zs))(hlt:Nat.blt k s.as.h.nb=true)(hq:LQ zs i o .nils (.gl s.as.h.nb e 0 0 false) ys)
  (ht:t.as= ⟨s.as.fr,s.as.cs,(s.as.h.new (.lst e [])).set k (.lst e0 ys)⟩) :LeadsM P m s.as t.as:=by
 obtain⟨c,h1,h2,rfl⟩ :=hq;rw [ht];rw [dB]at hlt;have:=of_decide_eq_true hlt;exact aDI hk (by rw [cP,if_neg (by omega)];exact hk) h1 h2 (aCw e)
def NQ (zs:List AV)(i o b e n:Nat)(u:Value)(ys:List AV) :Prop:=0<n∧∃c ex,zs[i]?=some (.agg c) ∧c[o]?=some (.gl b e 0 n ex) ∧ys=zs.set i (.agg (c.set o (.val u)))
theorem aOY {m:Nat}{s1:AS}{k b e0 e i o:Nat}{zs xs:List AV}{ys:Value→List AV}{res:Res}{h':Hp}(hlk:s1.h.look k=some (.lst e0 zs))(hlb:s1.h.look b=some (.lst e xs))(hkb:k≠b)(hnq:∀u,NQ zs i o b e xs.length u (ys u))
  (hk:∀ua un uc,Ends P m ⟨s1.fr,s1.cs,(s1.h.set b (.lstv (.slice ua un uc) e xs)).set k (.lst e0 (ys (.slice ua un uc)))⟩ res h') :Ends P m s1 res h':=by
 obtain⟨hpos,c,ex,hz,hc,_⟩ :=hnq (.slice none 0 0);intro hm E cf ccs w f fs r cl base;have hun:pV (.lst e0 zs) =false:=by
  cases zs with
  |nil=>simp at hz
  |cons _ _=>rfl
 have hunb:pV (.lst e xs) =false:=by
  cases xs with
  |nil=>simp at hpos
  |cons _ _=>rfl
 obtain⟨L0,hE0,C,el,vs,o1,o2,o3,o4,o5⟩ :=r.obj _ _ hlk hun;obtain⟨cv,g1,g2⟩ :=o3.get _ _ hz;obtain⟨us,q,rfl,g3,g4,g5⟩ :=aMq hc g2;simp only [VR]at g5;rcases g5 with⟨z,_⟩ | ⟨L,a,cap,hE,rfl,a1,_,a3⟩
 ·omega
 · obtain⟨_,c',ex',hz',hc',hys⟩ :=hnq (.slice (some ⟨L.blk,a,none⟩) xs.length cap);rw [hz]at hz';cases hz'
   have r1:Rel E (s1.h.set b (.lstv (.slice (some ⟨L.blk,a,none⟩) xs.length cap) e xs)) w.heap:=r.reobj hlb hunb (fun L' hL'=>by
    obtain⟨C',el',vs',p1,p2,p3,p4,p5⟩ :=r.objL hlb hL';rw [hE]at hL';cases hL';exact⟨C',el',vs',p1,p2,p3,p4,p5,a,cap,rfl,by omega,fun hc=>by have:=a3 hc;exact⟨by omega,this.2⟩⟩) rfl rfl rfl
   have hlk1: (s1.h.set b (.lstv (.slice (some ⟨L.blk,a,none⟩) xs.length cap) e xs)).look k=some (.lst e0 zs) :=by rw [bD,if_neg hkb];exact hlk
   have r2:Rel E ((s1.h.set b (.lstv (.slice (some ⟨L.blk,a,none⟩) xs.length cap) e xs)).set k (.lst e0 (ys (.slice (some ⟨L.blk,a,none⟩) xs.length cap)))) w.heap:=r1.reobj hlk1 hun (fun L' hL'=>by
    rw [hE0]at hL';cases hL';refine⟨C,el,vs,o1,o2,?_,o4,o5⟩;rw [hys];refine aB2 (Emb.le.refl E) o3 g1 ?_;rw [VR];exact⟨us,rfl,aB2 (Emb.le.refl E) g3 g4 (by simp only [VR])⟩) rfl rfl rfl
   obtain⟨cl',w',E',s1',gg,rr,xx⟩ :=hk (some ⟨L.blk,a,none⟩) xs.length cap hm _ cf ccs w f fs r2 cl base;exact⟨cl',w',E',s1',gg,rr,(mL (mL (ExtM.refl hm) hlb) hlk1).trans xx⟩
theorem aSh {m:Nat}{s:AS}{t:TS}{ks:List Nat}(h2:s.sum (eO m t.nb s.h.nb ks) t=t.want (eO m t.nb s.h.nb ks))(hok:dD m t ks=true)(hkl:iY t.hp) :LeadsM P m s t.as:=by
 simp only [AS.sum,TS.want,Sum.mk.injEq]at h2;obtain⟨a1,a2,a3,a4⟩ :=h2;intro hm E fr ccs w base f fs r;obtain⟨q1,q2⟩ :=jR (l:=t.hp) (nb:=t.nb) (by simpa [dD]using hok) a4 hkl r;exact⟨_,fr,ccs,w,Steps.refl _ _,aD3 a1 f,yR a2 a3 fs,q1,q2⟩
def bDo (P:Program)(m:Nat)(is:List Ins)(s:TS)(k b i o:Nat)(ys:List AV)(u:Value)(is2:List Ins)(t:TS)(ks:List Nat) :Option (Nat×Sum×List Prop) :=
 match vK P is s.as with
 | some (s1,ps) =>match s1.h.look k,s1.h.look b with
  | some (.lst e0 zs),some (.lst e xs) =>bif Nat.beq k b then none else
   match vK P is2 ⟨s1.fr,s1.cs,(s1.h.set b (.lstv u e xs)).set k (.lst e0 ys)⟩with
   |some (s3,qs) =>some (s3.h.nb,AS.sum s3 (eO m t.nb s3.h.nb ks) t,NQ zs i o b e xs.length u ys:: (ps++qs))
   |none=>none
  |_,_=>none
 |none=>none
theorem aFN {m:Nat}{is:List Ins}{s:TS}{t:Value→TS}{k b i o:Nat}{ys:Value→List AV}{is2:Value→List Ins}{ks:List Nat}{n1:Nat}{ps:Value→List Prop}
  (h0:∀u,bDo P m is s k b i o (ys u) u (is2 u) (t u) ks=some (n1,(t u).want (eO m (t u).nb n1 ks),ps u)) (hok:∀u,dD m (t u) ks=true) (hkl:∀u,iY (t u).hp) (hp:∀u,AllP (ps u))
  {res:Res} {h':Hp} (hk:∀ua un uc,Ends P m (t (.slice ua un uc)).as res h') :Ends P m s.as res h':=by
 have h0':=h0 (.slice none 0 0);unfold bDo at h0';split at h0'
 · rename_i s1 qs h1;split at h0'
   · rename_i e0 zs e xs hlk hlb;cases hkb:Nat.beq k b with
     |true=>rw [hkb]at h0';cases h0'
     | false=>
      have hkb':k≠b:=fun g=>by subst g;simp at hkb
      have key:∀u,∃s3 qs3,vK P (is2 u) ⟨s1.fr,s1.cs,(s1.h.set b (.lstv u e xs)).set k (.lst e0 (ys u))⟩ =some (s3,qs3) ∧s3.h.nb=n1∧s3.sum (eO m (t u).nb s3.h.nb ks) (t u) = (t u).want (eO m (t u).nb n1 ks) ∧NQ zs i o b e xs.length u (ys u) :: (qs++qs3) =ps u:=fun u=>by
       have h0u:=h0 u;unfold bDo at h0u;rw [h1]at h0u;simp only [hlk,hlb,hkb,cond]at h0u;split at h0u
       · rename_i s3 qs3 h3;simp only [Option.some.injEq,Prod.mk.injEq]at h0u;exact⟨s3,qs3,h3,h0u.1,h0u.2.1,h0u.2.2⟩
       ·cases h0u
      refine(fU h1 (fun q hq=>?_)).ends (aOY (i:=i) (o:=o) hlk hlb hkb' (ys:=ys) (fun u=>?_) (fun ua un uc=>?_))
      · obtain⟨s3,qs3,_,_,_,g⟩ :=key (.slice none 0 0);exact(hp (.slice none 0 0)).mem q (by rw [←g];exact mem_cons_of_mem _ (mem_append_left _ hq))
      · obtain⟨s3,qs3,_,_,_,g⟩ :=key u;exact(hp u).mem _ (by rw [←g];exact mem_cons_self ..)
      · obtain⟨s3,qs3,g1,g2,g3,g⟩ :=key (.slice ua un uc);subst g2;exact((fU g1 (fun q hq=> (hp (.slice ua un uc)).mem q (by rw [←g];exact mem_cons_of_mem _ (mem_append_right _ hq)))).trans (aSh g3 (hok _) (hkl _))).ends (hk ua un uc)
   ·cases h0'
 ·cases h0'
end
inductive KVD where
 |row (l:List ConD)
 |nil
 |val (u:Value)
def KVD.av :KVD→AV
 | .row l=>.ilst 2 (map ConD.av l) false
 | .nil=>.nils
 | .val u=>.val u
structure ODat where
 name:aB
 kv:KVD
def ODat.av (x:ODat) :AV:=.agg [aA x.name,x.kv.av]
def DataD.o (x:DataD) :ODat:= ⟨x.name,.row x.cons⟩
theorem aJK {β:Type}{f:β→AV}{l:List β}{ix T:Nat}{Y:AV}(h:T=ix)(hlt:ix<length l) : (set (map f l) ix Y)[0+T]?=some Y:=by
 subst h;rw [Nat.zero_add,List.getElem?_set_self (by simpa using hlt)]
theorem aVh {β:Type}{f:β→AV}{l:List β}{ix T:Nat}{Y Y':AV}(h:T=ix) : (set (map f l) ix Y).set (0+T) Y'=set (map f l) ix Y':=by
 subst h;rw [Nat.zero_add,set_set]
theorem bCh {β:Type}{f:β→AV}{l:List β}{ix:Nat}(pre post:List AV){b e n n':Nat}{ex:Bool}{u:Value}{y:β}(hlt:ix<length l)(hn:n'=n)(h0:0<n')(hy:f y= .agg (pre++ .val u::post)) :
  NQ (set (map f l) ix (.agg (pre++ .gl b e 0 n ex::post))) ix pre.length b e n' u (map f (set l ix y)) :=by
 subst hn;refine⟨h0,_,ex,List.getElem?_set_self (by simpa using hlt),by simp,?_⟩;rw [set_set,List.map_set,hy];simp
theorem bCi {β:Type}{f:β→AV}{l:List β}{ix:Nat}(pre post:List AV){v v':AV}{y:β}(h:l[ix]?=some y)(hy:f y= .agg (pre++v::post)) :
  LQ (map f l) ix pre.length v v' (set (map f l) ix (.agg (pre++v'::post))) :=by
 refine⟨pre++v::post,by rw [getElem?_map,h];simp [hy],by simp,by simp⟩
mutual
def pnP (cs:List Con) :Pat→Pat
 | .mk f n s ps=>.mk f (if f=6 then gU s cs 0 else n) [] (bDp cs ps)
def bDp (cs:List Con) :List Pat→List Pat
 | [] =>[]
 |p::ps=>pnP cs p::bDp cs ps
end
abbrev BHc (fs:List aB)(cs:List Con)(b n:Nat) :AObj:=.cells (putCells .leaf 0 [.ilst 1 (map aA fs) false,.ilst 2 (map Con.av cs) false,.gl b 4 0 n false]) 3 [] false
abbrev BH (fs:List aB)(cs:List Con)(L:List ONode) :List (Nat×AObj×Bool) :=[(0,BHc fs cs 1 (length L),false),(1,OL L,true)]
theorem bCj (p:Pat) :aBG (.ret (Pat.av p)) :=pD p
def bEl (fs:List aB)(cs:List Con)(env:List aB)(o n:Int)(s:aB) :Int:=
 if o=14 then gU s cs 0 else if o=4 then(if aOP env s<0 then IntKind.i64.wrap (-1-aOP fs s)else aOP env s)else n
mutual
def aYU (fs:List aB)(cs:List Con) :Term→List aB→Nat→List Node
 | .mk o n s ks ps,env,a=> ⟨o,bEl fs cs env o n s,(aP8 fs cs o s ps ks 0 env (a+1)).1,bDp cs ps⟩ :: (aP8 fs cs o s ps ks 0 env (a+1)).2
def aP8 (fs:List aB)(cs:List Con)(o:Int)(s:aB)(ps:List Pat) :List Term→Nat→List aB→Nat→List Int×List Node
 | [],_,_,_=> ([],[])
 |t::ts,i,env,a=> (((a:Nat) :Int) :: (aP8 fs cs o s ps ts (i+1) env (a+ (aYU fs cs t (env++aOQ o s ps i) a).length)).1,aYU fs cs t (env++aOQ o s ps i) a++ (aP8 fs cs o s ps ts (i+1) env (a+ (aYU fs cs t (env++aOQ o s ps i) a).length)).2)
end
def PUS (fs:List aB)(cs:List Con)(t:Term)(env:List aB)(L:List ONode)(ns:List Node) :Prop:=
 vL PP 1 (.enter 114 [.ptr 0 0,Term.av t,.ilst 1 (map aA env) false]) (aD (BH fs cs L) 2) (.ret (.int .i64 ((length L:Nat) :Int))) (aD (BH fs cs (L++map Node.o ns)) 2)
section
variable (fs :List aB) (cs:List Con) (L:List ONode) (o n:Int) (s:aB) (ks:List Term) (ps:List Pat) (env:List aB)
variable (hkl :ks.length≤900) (h15:o=15→ks.length≤ps.length+1) (hps:∀p∈ps,cU p≤1000) (he:env.length≤900000)
 (ih:∀t∈ks,∀ (e:List aB) (M:List ONode),e.length≤env.length+1000→M.length+bBZ t≤1000000→PUS fs cs t e M (aYU fs cs t e M.length))
include hkl h15 hps he ih
end
section
variable {P :Program}
theorem Spec.pan0 {c:AIn}{h h':Hp}{ch:List (AV×Bool)}(s:Spec P c h (.pan ch) h') :bBT P c h ch h':=by
 obtain⟨g,hg,he⟩ :=s;refine⟨g,hg,fun E w G r f _ cl base=>?_⟩;obtain⟨cl',w',E',s1,⟨ps,rfl,g2⟩,r2,x2⟩ :=he (Nat.le_refl _) E G [] w f rfl r cl base;exact⟨ps,w',E',s1,g2,r2,x2.toExt r⟩
theorem aVi {rs:List Rec}{k:Nat}(h0:∀r∈rs,r.1=k→Spec P r.2.1 r.2.2.1 (.ret r.2.2.2.1) r.2.2.2.2) :aBt P (vI rs) k:=fun c h v h' e=>by
 unfold vI at e;split at e
 · rename_i r hr;split at e
   · rename_i hc;obtain⟨rfl,rfl⟩ :=hc;have h1:=List.find?_some hr;have:=h0 r (List.mem_of_find?_eq_some hr) (Nat.eq_of_beq_eq_true h1);simp only [Option.some.injEq]at e;rw [e]at this;exact this.sound
   ·cases e
 ·cases e
theorem aAu {call:bM}{nt:Nat}{l:List Oper}:∀ {p1 p2:List Plan} {r r1 r2:RS},eJ P call nt l p1 r=some r1→eJ P call nt l p2 r1=some r2→eJ P call nt l (p1++p2) r=some r2
 | [],_,r,r1,r2,h1,h2=>by simp only [eJ,Option.some.injEq]at h1;subst h1;exact h2
 | p ::p1,p2,r,r1,r2,h1,h2=>by
  simp only [eJ]at h1;split at h1
  · rename_i r' hr;simp only [List.cons_append,eJ,hr];exact aAu h1 h2
  ·cases h1
def rV (P:Program)(nt:Nat)(ops:Array Oper)(tm:T AV)(h:Hp)(e:Nat)(is1:List RIns)(v:AV)(h2:Hp)(is2:List RIns)(os:List (Option Ans))(ch:List (AV×Bool))(h':Hp) :Option (List Prop) :=
 let pl:=dL ops
 bif pl.ok then
  match fS P nt pl.ops is1 (pl.plans.take e) {tm,h:={h with nb:=h.nb+pl.fresh},stages:=[],s:=0,pend:=[],next:=h.nb,again:=[]},pl.plans.drop e with
  | some (r1,ps1,rs1),p::pl2=>match bT r1.tm pl.ops p.o,p.kd with
   | some true,.eff=>match jK P (aN r1.h r1.s r1.pend) r1.tm p.o with
    | some (.call c) =>match hJ r1.tm nt p.o.dst v with
     | some tm2=>match fS P nt pl.ops is2 pl2 {r1 with tm:=tm2,h:=h2,stages:=r1.h::r1.stages,s:=Nat.succ r1.s} with
      | some (r3,ps3,rs3) =>bif aAK (keysOf (rs1++ (r1.s,c,aN r1.h r1.s r1.pend,v,h2) ::rs3))then
        some (ps1++ (ps3++ (qH P (r3.h::r3.stages) r3.s r3.again os++ [Spec P c (aN r1.h r1.s r1.pend) (.pan ch) h'])))else none
      |none=>none
     |none=>none
    |_=>none
   |_,_=>none
  |_,_=>none
 else none
theorem aFO {α:Type}{t:T α}:∀ {js:List Nat} {k:Nat} {v:α},(k,v) ∈vJ t js→rA k js=true
 | [],_,_,h=>by cases h
 | j ::js,k,v,h=>by
  rw [mU];simp only [vJ]at h;split at h
  · rcases List.mem_cons.1 h with e|h
    ·cases e;exact mem_cons_self ..
    ·exact mem_cons_of_mem _ ((mU _ _).1 (aFO h))
  ·exact mem_cons_of_mem _ ((mU _ _).1 (aFO h))
theorem aB3 {s:AS}{id:Nat}{ops:Array Oper}{k:List AItem}(hm:s.fr.mode= .run)(htd:s.fr.todo= .code (.region id ops true) ::k){e:Nat}{is1:List RIns}{v:AV}{h2:Hp}{is2:List RIns}{os:List (Option Ans)}{ch:List (AV×Bool)}{h':Hp}{ps:List Prop}
  (h0:rV P s.fr.nt ops s.fr.tm s.h e is1 v h2 is2 os ch h'=some ps) (hp:∀p∈ps,p) {E:Emb} {fr:Frame} {w:World} (f:FR E s.fr fr) (rl:Rel E s.h w.heap) (cs:List Frame) :
  ∃ E' w' tmps' is' pp ck,IRs E k ck∧Steps P (lone fr cs w) (lone ((rf fr.fn tmps' (.inRegion ops is'::ck) fr.defers fr.kind fr.roundOf).raise pp) cs w') ∧CR E' ch pp∧Rel E' h' w'.heap∧Ext E s.h w E' h' w' ∧
   ∀tm1:T AV,(∀t a,tm1.at t=some a→s.fr.tm.at t=some a∧∀n,n<ops.toList.length→lN ops.toList n≠some t) →TR E' tm1 s.fr.nt tmps':=by
 unfold rV at h0;simp only at h0;cases hok: (dL ops).ok with
 |false=>rw [hok]at h0;cases h0
 | true =>
  rw [hok]at h0;simp only [cond]at h0;split at h0
  · rename_i r1 ps1 rs1 p pl2 hx1 hdr;split at h0
    · rename_i hw hk;split at h0
      · rename_i c ha;split at h0
        · rename_i tm2 htm2;split at h0
          · rename_i r3 ps3 rs3 hx3;cases hn:aAK (keysOf (rs1++ (r1.s,c,aN r1.h r1.s r1.pend,v,h2) ::rs3))with
            |false=>rw [hn]at h0;cases h0
            | true=>
             rw [hn]at h0;simp only at h0;cases h0;have q1:∀q∈ps1,q:=fun q hq=>hp q (mem_append_left _ hq);have q3:∀q∈ps3,q:=fun q hq=>hp q (mem_append_right _ (mem_append_left _ hq));have q4:∀q∈qH P (r3.h::r3.stages) r3.s r3.again os,q:=fun q hq=>hp q (mem_append_right _ (mem_append_right _ (mem_append_left _ hq)));have q5:Spec P c (aN r1.h r1.s r1.pend) (.pan ch) h':=hp _ (mem_append_right _ (mem_append_right _ (mem_append_right _ (List.mem_singleton_self _))));have hor:=aCB hn;have hst1:=jQ (call:=vI (rs1++ (r1.s,c,aN r1.h r1.s r1.pend,v,h2) ::rs3)) hx1 q1 (fun x hx=>hor x (mem_append_left _ hx));have hst3:=jQ (call:=vI (rs1++ (r1.s,c,aN r1.h r1.s r1.pend,v,h2) ::rs3)) hx3 q3 (fun x hx=>hor x (mem_append_right _ (mem_cons_of_mem _ hx)));have hrec:=hor _ (mem_append_right _ (mem_cons_self ..));simp only at hrec;have hst2:jL P (vI (rs1++ (r1.s,c,aN r1.h r1.s r1.pend,v,h2) ::rs3)) s.fr.nt (dL ops).ops p r1=some {r1 with tm:=tm2,h:=h2,stages:=r1.h::r1.stages,s:=Nat.succ r1.s}:=by
              simp only [jL,hw,hk,ha,hrec,htm2]
             have hrr:eJ P (vI (rs1++ (r1.s,c,aN r1.h r1.s r1.pend,v,h2) ::rs3)) s.fr.nt (dL ops).ops (dL ops).plans {tm:=s.fr.tm,h:={s.h with nb:=s.h.nb+ (dL ops).fresh},stages:=[],s:=0,pend:=[],next:=s.h.nb,again:=[]}=some r3:=by
              rw [←List.take_append_drop e (dL ops).plans,hdr];exact aAu hst1 (by simp only [eJ,hst2];exact hst3)
             have hck:qB P (r3.h::r3.stages) r3.s r3.again:=nS q4;have hpe: (dL ops).plans[e]?=some p:=by
              have:=List.getElem?_drop (xs:= (dL ops).plans) (i:=e) (j:=0);rw [hdr,Nat.add_zero]at this;simpa using this.symm
             have hel:e<ops.toList.length:=by
              have hlen: (dL ops).plans.length=ops.toList.length:=kZ _ _ _ _;have:= (List.getElem?_eq_some_iff.1 hpe).1;omega
             have hpo:p=oY ops.toList e ops.toList[e] :=by
              have h9:=wO (jT ops.toList []) (fE ops.toList 0) ops.toList 0 e;rw [List.getElem?_eq_getElem hel,Option.map_some,Nat.zero_add]at h9;have h8: (dL ops).plans[e]?=some (oY ops.toList e ops.toList[e]) :=h9;rw [hpe]at h8;cases h8;rfl
             have hspec:∀k,k≠r1.s→aBt P (vI (rs1++ (r1.s,c,aN r1.h r1.s r1.pend,v,h2) ::rs3)) k:=fun k hk=>aVi fun x hx ex=>by
              rcases List.mem_append.1 hx with g|g
              ·exact lA hx1 q1 x g
              · rcases List.mem_cons.1 g with rfl|g
                ·exact absurd ex.symm hk
                ·exact lA hx3 q3 x g
             obtain⟨afr,cs0,h⟩ :=s;simp only at hm htd hrr hst1 f rl ⊢;have e0:=f.run hm;have ef:fr.fn=afr.fn:=f.fn;generalize fr.fn=fn at e0 ef ⊢;generalize fr.tmps=tmps at e0;generalize fr.todo=todo at e0;generalize fr.defers=ds at e0 ⊢;generalize fr.kind=kd at e0 ⊢;generalize fr.roundOf=ro at e0 ⊢;subst e0;have ft:=f.todo;simp only [htd]at ft;obtain⟨i,ck,e1,i1,i2⟩ :=ft.cons_inv;subst e1;simp only [IR]at i1;subst i1;obtain⟨E',w',tmps',is',pp,s1,c1,r1',x1,x2⟩ :=aDQ (o:=ops.toList[e]) hok hrr hck hst1 (List.getElem?_eq_getElem hel) (by rw [hpo]at hk;exact hk) hspec (by rw [hpo]at hw;exact hw) (by rw [hpo]at ha;exact ha) q5.pan0 rl f.tm id fn ds kd ro ck cs;exact⟨E',w',tmps',is',pp,ck,i2,s1,c1,r1',x1,x2⟩
          ·cases h0
        ·cases h0
      ·cases h0
    ·cases h0
  ·cases h0
theorem aJL {m:Nat}{s:AS}{id:Nat}{ops:Array Oper}{k:List AItem}(hm:s.fr.mode= .run)(hcs:s.cs= [])(hd:s.fr.defers= []){fd:Func}(hfd:P.funcs[s.fr.fn]?=some fd)(htd:s.fr.todo= .code (.region id ops true) ::k){e:Nat}{is1:List RIns}{v:AV}{h2:Hp}{is2:List RIns}{os:List (Option Ans)}{ch:List (AV×Bool)}{h':Hp}{ps:List Prop}
  (h0:rV P s.fr.nt ops s.fr.tm s.h e is1 v h2 is2 os ch h'=some ps) (hp:∀p∈ps,p) :Ends P m s (.pan ch) h':=by
 intro hm0 E fr ccs w f fs rl cl base;rw [hcs]at fs;obtain rfl:=fs.nil_inv;obtain⟨E',w',tmps',is',pp,ck,_,s1,c1,r1',x1,_⟩ :=aB3 hm htd h0 hp f rl (cl::base);have ed:fr.defers= [] :=by
  have:=f.defers;rw [hd]at this;simpa only [DRs]using this
 rw [ed]at s1;exact⟨cl.raise pp,w',E',s1.trans (.one (oW (chain:=pp) rfl rfl (fd:=fd) (by show P.funcs[fr.fn]?=_;rw [f.fn];exact hfd))),⟨pp,rfl,c1⟩,r1',x1.toM hm0⟩
def aCV :List Oper→List Nat→Bool
 | [],_=>true
 | o::os,js=> (match o.dst with
  |some t=> !rA t js
  |none=>true) &&aCV os js
theorem aHF {js:List Nat}{t:Nat}(ht:rA t js=true) :∀ {os:List Oper},aCV os js=true→∀n,n<os.length→lN os n≠some t
 | [],_,n,h,_=>by simp at h
 | o::os,h0,n,hn,e=>by
  simp only [aCV,Bool.and_eq_true]at h0;cases n with
  | zero=>
   simp only [lN,List.getElem?_cons_zero,Option.bind]at e;rw [e]at h0;simp only at h0;rw [ht]at h0;exact absurd h0.1 (by simp)
  | succ n=>
   exact aHF ht h0.2 n (by simpa using hn) (by simpa [lN]using e)
theorem aGD {m:Nat}{s:AS}{id:Nat}{ops:Array Oper}{k:List AItem}(hm:s.fr.mode= .run)(htd:s.fr.todo= .code (.region id ops true) ::k){e:Nat}{is1:List RIns}{v:AV}{h2:Hp}{is2:List RIns}{os:List (Option Ans)}{ch:List (AV×Bool)}{h':Hp}{ps:List Prop}
  (h0:rV P s.fr.nt ops s.fr.tm s.h e is1 v h2 is2 os ch h'=some ps) (hp:∀p∈ps,p) (js:List Nat) (hj:aCV ops.toList js=true) :LeadsM P m s ⟨{s.fr with tm:=aDS (vJ s.fr.tm js),todo:=.junk::k,mode:=.pan ch},s.cs,h'⟩ :=by
 intro hm0 E fr ccs w base f fs rl;obtain⟨E',w',tmps',is',pp,ck,ik,s1,c1,r1',x1,x2⟩ :=aB3 hm htd h0 hp f rl (ccs++base);have hle:=x1.le;refine⟨E',_,ccs,w',s1,?_,fs.mono hle,r1',x1.toM hm0⟩;have f0:FR E' {s.fr with tm:=aDS (vJ s.fr.tm js),todo:=.junk::k} (rf fr.fn tmps' (.inRegion ops is'::ck) fr.defers fr.kind fr.roundOf) :=by
  refine⟨f.fn,x2 _ (fun t a ht=>?_),IRs.cons ⟨_,_,rfl⟩ (ik.mono hle),f.defers.mono hle,by rw [hm];rfl,f.kind,f.round.mono hle⟩;have hk:=aBB ht;exact⟨oG hk,fun n hn=>aHF (aFO hk) hj n hn⟩
 have:=qD f0 c1;unfold AFrame.raise at this;simp only [hm]at this;exact this
def bEm (P:Program)(m:Nat)(is:List Ins)(s:TS)(e:Nat)(is1:List RIns)(v:AV)(h2:Hp)(is2:List RIns)(os:List (Option Ans))(ch:List (AV×Bool))(h':Hp)(hp:List (Nat×AObj×Bool))(nb:Nat)(ks:List Nat) :Option (Nat×List (AV×Bool) ×List (Option AObj) ×List Prop) :=
 match vK P is s.as with
 | some (s1,ps) =>match s1.cs,s1.fr.defers,s1.fr.mode,s1.fr.todo,P.funcs[s1.fr.fn]? with
  | [],[],.run,.code (.region _ ops true) ::_,some _=>match rV P s1.fr.nt ops s1.fr.tm s1.h e is1 v h2 is2 os ch h' with
   |some qs=>some (h'.nb,ch,vN h' (eO m nb h'.nb ks) hp,ps++qs)
   |none=>none
  |_,_,_,_,_=>none
 |none=>none
theorem aOZ {m:Nat}{is:List Ins}{s:TS}{e:Nat}{is1:List RIns}{v:AV}{h2:Hp}{is2:List RIns}{os:List (Option Ans)}{ch:List (AV×Bool)}{h':Hp}{hp:List (Nat×AObj×Bool)}{nb:Nat}{ks:List Nat}{n1:Nat}{ps:List Prop}
  (h0:bEm P m is s e is1 v h2 is2 os ch h' hp nb ks=some (n1,aPM (eO m nb n1 ks) ch,jM (eO m nb n1 ks) hp,ps))
  (hok:dD m ⟨⟨0,0,[],[],[],.run,.normal,none⟩,[],hp,nb⟩ ks=true) (hkl:iY hp) (hps:AllP ps) :Ends P m s.as (.pan ch) (aD hp nb) :=by
 unfold bEm at h0;split at h0
 · rename_i s1 qs h1;split at h0
   · rename_i id ops k fd hcs hd hm htd hfd;split at h0
     · rename_i qs2 hx;simp only [Option.some.injEq,Prod.mk.injEq]at h0;obtain⟨rfl,h3,h4,rfl⟩ :=h0;refine(fU h1 (fun p hpp=>hps.mem p (mem_append_left _ hpp))).ends ?_;intro hm0 E fr ccs w f fs r cl base;obtain⟨cl',w',E',g1,⟨ps',rfl,g2⟩,g3,g4⟩ :=aJL (m:=m) hm hcs hd hfd htd hx (fun p hpp=>hps.mem p (mem_append_right _ hpp)) hm0 E fr ccs w f fs r cl base;obtain⟨q1,q2⟩ :=jR hok h4 hkl g3;rw [h3]at g2;exact⟨_,w',_,g1,⟨ps',rfl,aIK g2⟩,q1,g4.trans q2⟩
     ·cases h0
   ·cases h0
 ·cases h0
def bCk (P:Program)(s:AS)(e:Nat)(is1:List RIns)(v:AV)(h2:Hp)(is2:List RIns)(os:List (Option Ans))(ch:List (AV×Bool))(h':Hp)(js:List Nat) :Option (AS×List Prop) :=
 match s.fr.mode,s.fr.todo with
 | .run,.code (.region _ ops true) ::k=>bif aCV ops.toList js then(match rV P s.fr.nt ops s.fr.tm s.h e is1 v h2 is2 os ch h' with
   |some qs=>some (⟨{s.fr with tm:=aDS (vJ s.fr.tm js),todo:=.junk::k,mode:=.pan ch},s.cs,h'⟩,qs)
   |none=>none)else none
 |_,_=>none
theorem aMr {m:Nat}{s s':AS}{e:Nat}{is1:List RIns}{v:AV}{h2:Hp}{is2:List RIns}{os:List (Option Ans)}{ch:List (AV×Bool)}{h':Hp}{js:List Nat}{ps:List Prop}(h0:bCk P s e is1 v h2 is2 os ch h' js=some (s',ps))(hps:AllP ps) :LeadsM P m s s':=by
 unfold bCk at h0;split at h0
 · rename_i id ops k hm htd;cases hj:aCV ops.toList js with
   |false=>rw [hj]at h0;cases h0
   | true=>
    rw [hj]at h0;simp only [cond]at h0;split at h0
    · rename_i qs hx;cases h0;exact aGD hm htd hx (fun p hp=>hps.mem p hp) js hj
    ·cases h0
 ·cases h0
end
end
end Go.Hb
