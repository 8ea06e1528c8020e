/-
  OWN WORK (V138, V139, V20f, V140, H50, H47, V141, H52, V146, V147, H53, V148): a machine on abstract values, its soundness, ways through the text (the ways WRITTEN BY A PROGRAM), plain laws.
-/
import Derived.Test.YtabmpnmmkeieiaaGreatHF
import Derived.Test.YtabmpnmmkeieiaaGreatHG
import Derived.Test.YtabmpnmmkeieiaaGreatHH
import Derived.Test.YtabmpnmmkeieiaaGreatHK
import Derived.Test.YtabmpnmmkeieiaaGreatHL
import Derived.Test.YtabmpnmmkeieiaaGreatHM
set_option linter.defProp false
set_option linter.unusedVariables false
set_option linter.unusedSimpArgs false
set_option linter.unusedSectionVars false
set_option maxRecDepth 100000
namespace Go.Hb
open Go.Proofs
set_option maxHeartbeats 4000000
noncomputable section
end
end Go.Hb
namespace Go.Hb
open Go.Proofs
set_option maxHeartbeats 4000000
noncomputable section
theorem Pure.val {P:Program}{f:Nat}{args:List AV}{v v':AV}(h:Pure P f args v)(hv:∀E cv,VR E v cv→VR E v' cv) :Pure P f args v':=fun hp=>by
 obtain⟨g,hg,he⟩ :=h hp;exact⟨g,hg,Ends.val he hv⟩
end
end Go.Hb
namespace Go.Hb
open Go.Proofs
variable {P :Program}
noncomputable section
theorem aAq {E E':Emb}(hle:E.le E') :∀ {xs:List AV} {i:Nat} {y:AV} {vs:List Value} {v:Value},VRs E xs vs→vs[i]?=some v→VR E' y v→VRs E' (xs.set i y) vs
 | [],i,y,vs,v,hvs,hv,_=>by simp only [VRs]at hvs;subst hvs;simp at hv
 | a::xs,0,y,vs,v,hvs,hv,hy=>by
  simp only [VRs]at hvs;obtain⟨u,us,rfl,h1,h2⟩ :=hvs;simp at hv;subst hv;simp only [List.set_cons_zero,VRs];exact⟨_,us,rfl,hy,h2.mono hle⟩
 | a::xs,i+1,y,vs,v,hvs,hv,hy=>by
  simp only [VRs]at hvs;obtain⟨u,us,rfl,h1,h2⟩ :=hvs;simp only [List.getElem?_cons_succ]at hv;simp only [List.set_cons_succ,VRs];exact⟨u,us,rfl,h1.mono hle,aAq hle h2 hv hy⟩
theorem aIm {E:Emb}{c:List AV}{o:Nat}{v:AV}(hc:c[o]?=some v){cv:Value}(h:VR E (.agg c) cv) :∃us w,cv= .agg us.toArray∧VRs E c us∧us[o]?=some w∧VR E v w:=by
 rw [VR]at h;obtain⟨us,rfl,h⟩ :=h;obtain⟨w,h1,h2⟩ :=h.get _ _ hc;exact⟨us,w,rfl,h,h1,h2⟩
theorem aBF {m:Nat}{fr:AFrame}{cs:List AFrame}{h h1:Hp}{k e i o:Nat}{zs c:List AV}{v v':AV}(hk:h.look k=some (.lst e zs))(hk1:h1.look k=some (.lst e zs))(hi:zs[i]?=some (.agg c))(hc:c[o]?=some v)(ht:m≤h.nb→wR m h h1 v v') :
  LeadsM P m ⟨fr,cs,h⟩ ⟨fr,cs,h1.set k (.lst e (zs.set i (.agg (c.set o v'))))⟩ :=fun hm E cf ccs w base f fs r=>by
 obtain⟨E',hle,r',x',hvv⟩ :=ht hm E w r;have hun:qI (.lst e zs) =false:=by
  cases zs with
  |nil=>simp at hi
  |cons _ _=>rfl
 have hr:Rel E' (h1.set k (.lst e (zs.set i (.agg (c.set o v'))))) w.heap:=by
  refine r'.reobj hk1 hun (fun L hL=>?_) rfl rfl rfl;obtain⟨L0,hE,C,el,vs,o1,o2,o3,o4,o5⟩ :=r.obj _ _ hk hun;have:=hle.1 _ _ hE;rw [hL]at this;cases this;obtain⟨cv,g1,g2⟩ :=o3.get _ _ hi;obtain⟨us,q,rfl,g3,g4,g5⟩ :=aIm hc g2;refine⟨C,el,vs,o1,o2,aAq hle o3 g1 ?_,o4,o5⟩;rw [VR];exact⟨us,rfl,aAq hle g3 g4 (hvv q g5)⟩
 exact⟨E',cf,ccs,w,Steps.refl _ _,f.mono hle,fs.mono hle,hr,nE x' hk1⟩
def LQ (zs:List AV)(i o:Nat)(v v':AV)(ys:List AV) :Prop:=∃c,zs[i]?=some (.agg c) ∧c[o]?=some v∧ys=zs.set i (.agg (c.set o v'))
theorem aLz {m:Nat}{s t:TS}{k b e0 e i o n:Nat}{u:Value}{xs zs ys:List AV}(hk:s.as.h.look k=some (.lst e0 zs))(hb:s.as.h.look b=some (.lstv u e xs))(hne:k≠b)(hn:xs.length=n)(hq:LQ zs i o (.val u) (.gl b e 0 n false) ys)
  (ht:t.as= ⟨s.as.fr,s.as.cs,(s.as.h.set b (.lst e xs)).set k (.lst e0 ys)⟩) :LeadsM P m s.as t.as:=by
 subst hn;obtain⟨c,h1,h2,rfl⟩ :=hq;rw [ht];exact aBF hk (by rw [bB,if_neg hne];exact hk) h1 h2 (zS hb)
theorem aSF {m:Nat}{s t:TS}{k e0 e i o:Nat}{zs ys:List AV}(hk:s.as.h.look k=some (.lst e0 zs))(hlt:Nat.blt k s.as.h.nb=true)(hq:LQ zs i o .nils (.gl s.as.h.nb e 0 0 false) ys)
  (ht:t.as= ⟨s.as.fr,s.as.cs,(s.as.h.new (.lst e [])).set k (.lst e0 ys)⟩) :LeadsM P m s.as t.as:=by
 obtain⟨c,h1,h2,rfl⟩ :=hq;rw [ht];rw [cV]at hlt;have:=of_decide_eq_true hlt;exact aBF hk (by rw [cL,if_neg (by omega)];exact hk) h1 h2 (aAH e)
def NQ (zs:List AV)(i o b e n:Nat)(u:Value)(ys:List AV) :Prop:=0<n∧∃c ex,zs[i]?=some (.agg c) ∧c[o]?=some (.gl b e 0 n ex) ∧ys=zs.set i (.agg (c.set o (.val u)))
theorem aKb {m:Nat}{s1:AS}{k b e0 e i o:Nat}{zs xs:List AV}{ys:Value→List AV}{res:Res}{h':Hp}(hlk:s1.h.look k=some (.lst e0 zs))(hlb:s1.h.look b=some (.lst e xs))(hkb:k≠b)(hnq:∀u,NQ zs i o b e xs.length u (ys u))
  (hk:∀ua un uc,Ends P m ⟨s1.fr,s1.cs,(s1.h.set b (.lstv (.slice ua un uc) e xs)).set k (.lst e0 (ys (.slice ua un uc)))⟩ res h') :Ends P m s1 res h':=by
 obtain⟨hpos,c,ex,hz,hc,_⟩ :=hnq (.slice none 0 0);intro hm E cf ccs w f fs r cl base;have hun:qI (.lst e0 zs) =false:=by
  cases zs with
  |nil=>simp at hz
  |cons _ _=>rfl
 have hunb:qI (.lst e xs) =false:=by
  cases xs with
  |nil=>simp at hpos
  |cons _ _=>rfl
 obtain⟨L0,hE0,C,el,vs,o1,o2,o3,o4,o5⟩ :=r.obj _ _ hlk hun;obtain⟨cv,g1,g2⟩ :=o3.get _ _ hz;obtain⟨us,q,rfl,g3,g4,g5⟩ :=aIm hc g2;simp only [VR]at g5;rcases g5 with⟨z,_⟩ | ⟨L,a,cap,hE,rfl,a1,_,a3⟩
 ·omega
 · obtain⟨_,c',ex',hz',hc',hys⟩ :=hnq (.slice (some ⟨L.blk,a,none⟩) xs.length cap);rw [hz]at hz';cases hz'
   have r1:Rel E (s1.h.set b (.lstv (.slice (some ⟨L.blk,a,none⟩) xs.length cap) e xs)) w.heap:=r.reobj hlb hunb (fun L' hL'=>by
    obtain⟨C',el',vs',p1,p2,p3,p4,p5⟩ :=r.objL hlb hL';rw [hE]at hL';cases hL';exact⟨C',el',vs',p1,p2,p3,p4,p5,a,cap,rfl,by omega,fun hc=>by have:=a3 hc;exact⟨by omega,this.2⟩⟩) rfl rfl rfl
   have hlk1: (s1.h.set b (.lstv (.slice (some ⟨L.blk,a,none⟩) xs.length cap) e xs)).look k=some (.lst e0 zs) :=by rw [bB,if_neg hkb];exact hlk
   have r2:Rel E ((s1.h.set b (.lstv (.slice (some ⟨L.blk,a,none⟩) xs.length cap) e xs)).set k (.lst e0 (ys (.slice (some ⟨L.blk,a,none⟩) xs.length cap)))) w.heap:=r1.reobj hlk1 hun (fun L' hL'=>by
    rw [hE0]at hL';cases hL';refine⟨C,el,vs,o1,o2,?_,o4,o5⟩;rw [hys];refine aAq (Emb.le.refl E) o3 g1 ?_;rw [VR];exact⟨us,rfl,aAq (Emb.le.refl E) g3 g4 (by simp only [VR])⟩) rfl rfl rfl
   obtain⟨cl',w',E',s1',gg,rr,xx⟩ :=hk (some ⟨L.blk,a,none⟩) xs.length cap hm _ cf ccs w f fs r2 cl base;exact⟨cl',w',E',s1',gg,rr,(nE (nE (ExtM.refl hm) hlb) hlk1).trans xx⟩
theorem aMW {m:Nat}{s:AS}{t:TS}{ks:List Nat}(h2:s.sum (dM m t.nb s.h.nb ks) t=t.want (dM m t.nb s.h.nb ks))(hok:cY m t ks=true)(hkl:fM t.hp) :LeadsM P m s t.as:=by
 simp only [AS.sum,TS.want,Sum.mk.injEq]at h2;obtain⟨a1,a2,a3,a4⟩ :=h2;intro hm E fr ccs w base f fs r;obtain⟨q1,q2⟩ :=kO (l:=t.hp) (nb:=t.nb) (by simpa [cY]using hok) a4 hkl r;exact⟨_,fr,ccs,w,Steps.refl _ _,aB0 a1 f,vM a2 a3 fs,q1,q2⟩
def bEn (P:Program)(m:Nat)(is:List Ins)(s:TS)(k b i o:Nat)(ys:List AV)(u:Value)(is2:List Ins)(t:TS)(ks:List Nat) :Option (Nat×Sum×List Prop) :=
 match uL P is s.as with
 | some (s1,ps) =>match s1.h.look k,s1.h.look b with
  | some (.lst e0 zs),some (.lst e xs) =>bif Nat.beq k b then none else
   match uL P is2 ⟨s1.fr,s1.cs,(s1.h.set b (.lstv u e xs)).set k (.lst e0 ys)⟩with
   |some (s3,qs) =>some (s3.h.nb,AS.sum s3 (dM m t.nb s3.h.nb ks) t,NQ zs i o b e xs.length u ys:: (ps++qs))
   |none=>none
  |_,_=>none
 |none=>none
theorem sG {m:Nat}{is:List Ins}{s:TS}{t:Value→TS}{k b i o:Nat}{ys:Value→List AV}{is2:Value→List Ins}{ks:List Nat}{n1:Nat}{ps:Value→List Prop}
  (h0:∀u,bEn P m is s k b i o (ys u) u (is2 u) (t u) ks=some (n1,(t u).want (dM m (t u).nb n1 ks),ps u)) (hok:∀u,cY m (t u) ks=true) (hkl:∀u,fM (t u).hp) (hp:∀u,AllP (ps u))
  {res:Res} {h':Hp} (hk:∀ua un uc,Ends P m (t (.slice ua un uc)).as res h') :Ends P m s.as res h':=by
 have h0':=h0 (.slice none 0 0);unfold bEn at h0';split at h0'
 · rename_i s1 qs h1;split at h0'
   · rename_i e0 zs e xs hlk hlb;cases hkb:Nat.beq k b with
     |true=>rw [hkb]at h0';cases h0'
     | false=>
      have hkb':k≠b:=fun g=>by subst g;simp at hkb
      have key:∀u,∃s3 qs3,uL P (is2 u) ⟨s1.fr,s1.cs,(s1.h.set b (.lstv u e xs)).set k (.lst e0 (ys u))⟩ =some (s3,qs3) ∧s3.h.nb=n1∧s3.sum (dM m (t u).nb s3.h.nb ks) (t u) = (t u).want (dM m (t u).nb n1 ks) ∧NQ zs i o b e xs.length u (ys u) :: (qs++qs3) =ps u:=fun u=>by
       have h0u:=h0 u;unfold bEn at h0u;rw [h1]at h0u;simp only [hlk,hlb,hkb,cond]at h0u;split at h0u
       · rename_i s3 qs3 h3;simp only [Option.some.injEq,Prod.mk.injEq]at h0u;exact⟨s3,qs3,h3,h0u.1,h0u.2.1,h0u.2.2⟩
       ·cases h0u
      refine(iG h1 (fun q hq=>?_)).ends (aKb (i:=i) (o:=o) hlk hlb hkb' (ys:=ys) (fun u=>?_) (fun ua un uc=>?_))
      · obtain⟨s3,qs3,_,_,_,g⟩ :=key (.slice none 0 0);exact(hp (.slice none 0 0)).mem q (by rw [←g];exact List.mem_cons_of_mem _ (List.mem_append_left _ hq))
      · obtain⟨s3,qs3,_,_,_,g⟩ :=key u;exact(hp u).mem _ (by rw [←g];exact List.mem_cons_self ..)
      · obtain⟨s3,qs3,g1,g2,g3,g⟩ :=key (.slice ua un uc);subst g2;exact((iG g1 (fun q hq=> (hp (.slice ua un uc)).mem q (by rw [←g];exact List.mem_cons_of_mem _ (List.mem_append_right _ hq)))).trans (aMW g3 (hok _) (hkl _))).ends (hk ua un uc)
   ·cases h0'
 ·cases h0'
end
end Go.Hb
namespace Go.Hb
open Go.Proofs
noncomputable section
inductive KVD where
 |row (l:List ConD)
 |nil
 |val (u:Value)
def KVD.av :KVD→AV
 | .row l=>.ilst 2 (List.map ConD.av l) false
 | .nil=>.nils
 | .val u=>.val u
structure ODat where
 name:aC
 kv:KVD
def ODat.av (x:ODat) :AV:=.agg [aA x.name,x.kv.av]
def DataD.o (x:DataD) :ODat:= ⟨x.name,.row x.cons⟩
theorem vD {β:Type}{f:β→AV}{l:List β}{ix T:Nat}{Y:AV}(h:T=ix)(hlt:ix<List.length l) : (List.set (List.map f l) ix Y)[0+T]?=some Y:=by
 subst h;rw [Nat.zero_add,List.getElem?_set_self (by simpa using hlt)]
theorem aGs {β:Type}{f:β→AV}{l:List β}{ix T:Nat}{Y Y':AV}(h:T=ix) : (List.set (List.map f l) ix Y).set (0+T) Y'=List.set (List.map f l) ix Y':=by
 subst h;rw [Nat.zero_add,List.set_set]
theorem aLA {β:Type}{f:β→AV}{l:List β}{ix:Nat}(pre post:List AV){b e n n':Nat}{ex:Bool}{u:Value}{y:β}(hlt:ix<List.length l)(hn:n'=n)(h0:0<n')(hy:f y= .agg (pre++ .val u::post)) :
  NQ (List.set (List.map f l) ix (.agg (pre++ .gl b e 0 n ex::post))) ix pre.length b e n' u (List.map f (List.set l ix y)) :=by
 subst hn;refine⟨h0,_,ex,List.getElem?_set_self (by simpa using hlt),by simp,?_⟩;rw [List.set_set,List.map_set,hy];simp
theorem aLB {β:Type}{f:β→AV}{l:List β}{ix:Nat}(pre post:List AV){v v':AV}{y:β}(h:l[ix]?=some y)(hy:f y= .agg (pre++v::post)) :
  LQ (List.map f l) ix pre.length v v' (List.set (List.map f l) ix (.agg (pre++v'::post))) :=by
 refine⟨pre++v::post,by rw [List.getElem?_map,h];simp [hy],by simp,by simp⟩
def bCW (P:Program)(t:TypeId)(X:AV)(lo hi mx:Option AV)(V:AV) :Prop:=
 ∃l u m,eJ lo=some l∧eJ hi=some u∧eJ mx=some m∧ (mP P t X l u m=some V∨ (mP P t X l u m=none∧tC P t X l u m=some V))
end
end Go.Hb
namespace Go.Hb
open Go.Proofs
noncomputable section
open Go.Proofs Tryz
end
end Go.Hb
namespace Go.Hb
open Go.Proofs
noncomputable section
open Go.Proofs Tryz
end
end Go.Hb
namespace Go.Hb
open Go.Proofs
set_option maxHeartbeats 4000000
noncomputable section
end
end Go.Hb
namespace Go.Hb
open Go.Proofs
noncomputable section
open Go.Proofs Tryz
def aSG(b:List aC)(c:List Con)(a:List ONode)(d e:Int)(f:aC)(g:List Pat):TS:=bF PP 117 [(.ptr 0 0),(.agg [(nI d),(nI e),(aA f),(iP g)])] [oC 0 [(iS b),(iC c),(.gl 1 4 0 a.length false)],oL 1 4 (List.map ONode.av a)] 2
def aDt(d:List aC)(e:List Con)(a:List ONode)(b f:Int)(g:aC)(i:List Pat)(j k:Int)(c:List Pat):TS:=⟨(tf 117 43 [kp 0 0,kp 3 2,kp 4 3,kp 5 4,(6,(nI k))] [kc f117 244,kl f117 244,.inBlock 0,kc f117 31]),[],[oC 0 [(iS d),(iC e),(.gl 1 4 0 a.length false)],oL 1 4 (List.map ONode.av a),oC 2 [(nI b),(nI f),(aA g),(iP i)],oC 3 [(nI 0),(nI 0),(.str 0 0),.nils],oC 4 [(nI b),(nI j),(.str 0 0),(.gl 5 4 0 c.length false)],oL 5 4 (Pats.av c)],6⟩
def aSH(d:List aC)(e:List Con)(a:List ONode)(b f:Int)(g:aC)(i:List Pat)(j k:Int)(c:List Pat):TS:=⟨(tf 117 43 [kp 0 0,kp 3 2,kp 4 3,kp 5 4,(6,(nI k))] [kc f117 1956,.inBlock 1,kc f117 979,kl f117 244,.inBlock 0,kc f117 31]),[],[oC 0 [(iS d),(iC e),(.gl 1 4 0 a.length false)],oL 1 4 (List.map ONode.av a),oC 2 [(nI b),(nI f),(aA g),(iP i)],oC 3 [(nI 0),(nI 0),(.str 0 0),.nils],oC 4 [(nI b),(nI j),(.str 0 0),(.gl 5 4 0 c.length false)],oL 5 4 (Pats.av c)],6⟩
def aEO(b:List aC)(c:List Con)(a:List ONode)(d e:Int)(f:aC)(g:List Term)(i:List Pat)(j:List aC):TS:=bF PP 54 [(.ptr 0 0),(.agg [(nI d),(nI e),(aA f),(.ilst 5 (Terms.av g) false),(iP i)]),(iS j)] [oC 0 [(iS b),(iC c),(.gl 1 4 0 a.length false)],oL 1 4 (List.map ONode.av a)] 2
def sH(d:List aC)(e:List Con)(a:List ONode)(b f:Int)(g:aC)(i:List Term)(j:List Pat)(k:List aC)(l m:Int)(c:List Pat):TS:=⟨(tf 54 120 [kp 0 0,(2,(iS k)),kp 4 1,(6,(nI 0)),(7,(nI (a.length:Int))),kp 8 2,(9,(nI m))] [kc f54 1012,kl f54 1012,.inBlock 0,kc f54 127]),[],[oC 0 [(iS d),(iC e),(.gl 3 4 0 a.length false)],oC 1 [(nI b),(nI f),(aA g),(.ilst 5 (Terms.av i) false),(iP j)],oC 2 [(nI b),(nI l),.nils,(.gl 4 4 0 c.length false)],oL 3 4 (List.map ONode.av a),oL 4 4 (Pats.av c)],5⟩
def aGt(b:List aC)(c:List Con)(d:List ONode)(e f:Int)(g:aC)(i:List Term)(j:List Pat)(k:List aC)(a:List ONode):TS:=⟨(tf 54 120 [kp 0 0,(2,(iS k)),kp 4 1,(6,(nI 0)),(7,(nI (d.length:Int))),(10,(nI 0))] [kc f54 4084,kl f54 4084,.inBlock 2,kc f54 511]),[],[oC 0 [(iS b),(iC c),(.gl 2 4 0 a.length false)],oC 1 [(nI e),(nI f),(aA g),(.ilst 5 (Terms.av i) false),(iP j)],oL 2 4 (List.map ONode.av a)],3⟩
def aSI(b:List aC)(c:List Con)(d:List ONode)(e f:Int)(g:aC)(i:List Term)(j:List Pat)(k:List aC)(l:Int)(a:List ONode):TS:=⟨(tf 54 120 [kp 0 0,(2,(iS k)),kp 4 1,(6,(nI 0)),(7,(nI (d.length:Int))),(10,(nI 0)),(11,(nI l))] [kc f54 65353,.inBlock 3,kc f54 16339,kl f54 4084,.inBlock 2,kc f54 511]),[],[oC 0 [(iS b),(iC c),(.gl 2 4 0 a.length false)],oC 1 [(nI e),(nI f),(aA g),(.ilst 5 (Terms.av i) false),(iP j)],oL 2 4 (List.map ONode.av a)],3⟩
def aLC(b:List aC)(c:List Con)(d:List ONode)(e f:Int)(g:aC)(i:List Term)(j:List Pat)(k:List aC)(l:Int)(a:List ONode)(m:Nat)(n o:Int)(p:List Pat):TS:=⟨(tf 54 120 [kp 0 0,(2,(iS k)),kp 4 1,(6,(nI 0)),(7,(nI (d.length:Int))),(10,(nI 0)),(11,(nI l))] [kc f54 65353,.inBlock 3,kc f54 16339,kl f54 4084,.inBlock 2,kc f54 511]),[],[oC 0 [(iS b),(iC c),(.gl 2 4 0 a.length false)],oC 1 [(nI e),(nI f),(aA g),(.ilst 5 (Terms.av i) false),(iP j)],(2,(.lst 4 (List.set (List.map ONode.av a) m (.agg [(nI n),(nI o),(.gl 3 1 0 ([] :List Int).length false),(iP p)]))),false),oL 3 1 (jI ([] :List Int))],4⟩
def aA6(b:List aC)(c:List Con)(d:List ONode)(e f:Int)(g:aC)(i:List Term)(j:List Pat)(k:List aC)(a:List ONode)(l:List Int)(m:Value)(n:Int):TS:=⟨(tf 54 120 [kp 0 0,(2,(iS k)),kp 4 1,(6,(nI 0)),(7,(nI (d.length:Int))),(10,(nI n))] [kc f54 4084,kl f54 4084,.inBlock 2,kc f54 511]),[],[oC 0 [(iS b),(iC c),(.gl 2 4 0 a.length false)],oC 1 [(nI e),(nI f),(aA g),(.ilst 5 (Terms.av i) false),(iP j)],oL 2 4 (List.map ONode.av a),(3,(.lstv m 1 (jI l)),true)],4⟩
def aSJ(b:List aC)(c:List Con)(d:List ONode)(e f:Int)(g:aC)(i:List Term)(j:List Pat)(k:List aC)(l:Int)(a:List ONode)(m:List Int)(n:Value)(o:Int):TS:=⟨(tf 54 120 [kp 0 0,(2,(iS k)),kp 4 1,(6,(nI 0)),(7,(nI (d.length:Int))),(10,(nI o)),(11,(nI l))] [kc f54 65353,.inBlock 3,kc f54 16339,kl f54 4084,.inBlock 2,kc f54 511]),[],[oC 0 [(iS b),(iC c),(.gl 2 4 0 a.length false)],oC 1 [(nI e),(nI f),(aA g),(.ilst 5 (Terms.av i) false),(iP j)],oL 2 4 (List.map ONode.av a),(3,(.lstv n 1 (jI m)),true)],4⟩
def aLD(c:List aC)(d:List Con)(e:List ONode)(f g:Int)(i:aC)(j:List Term)(k:List Pat)(l:List aC)(m:Int)(a:List ONode)(b:List Int)(n:Int)(o:Nat)(p q:Int)(r:List Pat):TS:=⟨(tf 54 120 [kp 0 0,(2,(iS l)),kp 4 1,(6,(nI 0)),(7,(nI (e.length:Int))),(10,(nI n)),(11,(nI m))] [kc f54 65353,.inBlock 3,kc f54 16339,kl f54 4084,.inBlock 2,kc f54 511]),[],[oC 0 [(iS c),(iC d),(.gl 2 4 0 a.length false)],oC 1 [(nI f),(nI g),(aA i),(.ilst 5 (Terms.av j) false),(iP k)],(2,(.lst 4 (List.set (List.map ONode.av a) o (.agg [(nI p),(nI q),(.gl 3 1 0 b.length false),(iP r)]))),false),oL 3 1 (jI b)],4⟩
def bCX(e:List aC)(a:List Con)(f:List ONode)(b c:Int)(d:aC)(g:List Pat):=tT 2 (aSG e a f b c d g)<|.b 22 14 (b==6) (.y fun i:Int=>.i [rn 1,.reg (rd 6 [.pure (nI i),.d,.d])] [hA (Pure PP 113 [(iC a),(aA d)] (nI i))]<|.i [rn 7,.cnil 4 3 4] []<|gu 0 5 (Pats.av ([] :List Pat))<|gv 0 4 3 (.gl 5 4 0 ([] :List Pat).length false)<|.W 0 6 [2,3,4,5] (aDt e a f b c d g i 0 ([] :List Pat)))<|.i [rn 9,.cnil 4 3 4] []<|gu 0 5 (Pats.av ([] :List Pat))<|gv 0 4 3 (.gl 5 4 0 ([] :List Pat).length false)<|.W 0 6 [2,3,4,5] (aDt e a f b c d g c 0 ([] :List Pat))
def bAm:=fun a b c d e f g i j k=>bCX a b c d e f g|>.t j i k ⟨(aL _ (fun _=>bH _) _),⟨cC,trivial⟩⟩
def bAn:=fun a b c d e f g i=>bCX a b c d e f g|>.f i ⟨(aL _ (fun _=>bH _) _),⟨cC,trivial⟩⟩
def bCY(d:List aC)(e:List Con)(a:List ONode)(f j:Int)(k:aC)(b:List Pat)(g i:Int)(c:List Pat):=tT 2 (aDt d e a f j k b g i c)<|gm 6 aH b<|gd 2 27 (i< (b.length:Int)) (.W 4 6 [2,3,4,5] (aSH d e a f j k b g i c))<|gY 8 3 3 5 4 aH cC c false<|.E 0 6 [] (.agg [(nI f),(nI g),(.str 0 0),(iP c)]) [oC 0 [(iS d),(iC e),(.gl 1 4 0 a.length false)],oL 1 4 (List.map ONode.av a)] 2
def bAo:=fun a b c d e f g i j k l=>bCY a b c d e f g i j k|>.t l ⟨(aL _ (fun _=>bH _) _),⟨cC,trivial⟩⟩
def bAp:=fun a b c d e f g i j k l=>bCY a b c d e f g i j k|>.f l ⟨(aL _ (fun _=>bH _) _),trivial⟩
def bAq (j:List aC)(k:List Con)(f:List ONode)(g l:Int)(m:aC)(i:List Pat)(n o:Int)(a:List Pat):=fun p q r s b c d e t u v w x=>(tT 2 (aSH j k f g l m i n o a)<|.y fun p:Int=>.y fun q:Int=>.y fun r:aC=>.y fun s:List Pat=>.y fun b:Int=>.y fun c:Int=>.y fun d:aC=>.y fun e:List Pat=>.i [.reg (rd 6 [.ans (.idx (Pat.av (Pat.mk p q r s))),.d,.call (.agg [(nI b),(nI c),(aA d),(iP e)]) (aG [oC 0 [(iS j),(iC k),(.gl 1 4 0 f.length false)],oL 1 4 (List.map ONode.av f),oC 2 [(nI g),(nI l),(aA m),(iP i)],oC 3 [(nI 0),(nI 0),(.str 0 0),.nils],oC 4 [(nI g),(nI n),(.str 0 0),(.gl 5 4 0 a.length false)],oL 5 4 (Pats.av a)] 7),.d,.app (Pats.av (a++ [(Pat.mk b c d e)])) (a++ [(Pat.mk b c d e)]).length,.d,.d])] [hA (0≤o),.a (((i)[o.toNat]?) =some (Pat.mk p q r s)) (cS aH),hA (Spec PP (.enter 117 [(.ptr 0 0),(.agg [(nI p),(nI q),(aA r),(iP s)])]) (aG [oC 0 [(iS j),(iC k),(.gl 1 4 0 f.length false)],oL 1 4 (List.map ONode.av f),oC 2 [(nI g),(nI l),(aA m),(iP i)],oC 3 [(nI 0),(nI 0),(.str 0 0),.nils],oC 4 [(nI g),(nI n),(.str 0 0),(.gl 5 4 0 a.length false)],oL 5 4 (Pats.av a)] 7) (.ret (.agg [(nI b),(nI c),(aA d),(iP e)])) (aG [oC 0 [(iS j),(iC k),(.gl 1 4 0 f.length false)],oL 1 4 (List.map ONode.av f),oC 2 [(nI g),(nI l),(aA m),(iP i)],oC 3 [(nI 0),(nI 0),(.str 0 0),.nils],oC 4 [(nI g),(nI n),(.str 0 0),(.gl 5 4 0 a.length false)],oL 5 4 (Pats.av a)] 7)),hB aH a,hA (List.length (a++ [(Pat.mk b c d e)]) ≤1000000),hC aH a [(Pat.mk b c d e)],hE aH a [(Pat.mk b c d e)],hr (AV.gl 5 4 0 a.length false),hr (AV.gl 5 4 0 a.length false)]<|gw 4 29 (o+1)<|.W 3 8 [2,3,4,7] (aDt j k f g l m i n (o+1) (a++ [(Pat.mk b c d e)]))) p q r s b c d e t u v w x ⟨(aL _ (fun _=>bH _) _),⟨cC,trivial⟩⟩
def aLE(d:List aC)(c:List Con)(g:List ONode)(b e:Int)(a:aC)(i:List Term)(j:List Pat)(f:List aC):=tT 1 (aEO d c g b e a i j f)<|.b 31 24 (b==4) (gpI 6 53 [(iS f),(aA a)]<|fun l=>gd 9 32 (l<0) (.y fun k:Int=>.i [rn 1,.reg (rd 6 (.pure (nI k)::rd 3 []))] [hA (Pure PP 53 [(iS d),(aA a)] (nI k))]<|.b 7 44 (b==14) (.y fun m:Int=>.i [rn 1,.reg (rd 6 [.pure (nI m),.d,.d])] [hA (Pure PP 113 [(iC c),(aA a)] (nI m))]<|.i [rn 7,.cnil 3 3 4] []<|gu 0 4 (Pats.av ([] :List Pat))<|gv 0 3 3 (.gl 4 4 0 ([] :List Pat).length false)<|.W 0 5 [2,3,1,4] (sH d c g b e a i j f m 0 ([] :List Pat)))<|.i [rn 9,.cnil 3 3 4] []<|gu 0 4 (Pats.av ([] :List Pat))<|gv 0 3 3 (.gl 4 4 0 ([] :List Pat).length false)<|.W 0 5 [2,3,1,4] (sH d c g b e a i j f (IntKind.i64.wrap ((-1:Int) -k)) 0 ([] :List Pat)))<|.b 9 44 (b==14) (.y fun k:Int=>.i [rn 1,.reg (rd 6 [.pure (nI k),.d,.d])] [hA (Pure PP 113 [(iC c),(aA a)] (nI k))]<|.i [rn 7,.cnil 3 3 4] []<|gu 0 4 (Pats.av ([] :List Pat))<|gv 0 3 3 (.gl 4 4 0 ([] :List Pat).length false)<|.W 0 5 [2,3,1,4] (sH d c g b e a i j f k 0 ([] :List Pat)))<|.i [rn 9,.cnil 3 3 4] []<|gu 0 4 (Pats.av ([] :List Pat))<|gv 0 3 3 (.gl 4 4 0 ([] :List Pat).length false)<|.W 0 5 [2,3,1,4] (sH d c g b e a i j f l 0 ([] :List Pat)))<|.b 9 44 (b==14) (.y fun l:Int=>.i [rn 1,.reg (rd 6 [.pure (nI l),.d,.d])] [hA (Pure PP 113 [(iC c),(aA a)] (nI l))]<|.i [rn 7,.cnil 3 3 4] []<|gu 0 4 (Pats.av ([] :List Pat))<|gv 0 3 3 (.gl 4 4 0 ([] :List Pat).length false)<|.W 0 5 [2,3,1,4] (sH d c g b e a i j f l 0 ([] :List Pat)))<|.i [rn 9,.cnil 3 3 4] []<|gu 0 4 (Pats.av ([] :List Pat))<|gv 0 3 3 (.gl 4 4 0 ([] :List Pat).length false)<|.W 0 5 [2,3,1,4] (sH d c g b e a i j f e 0 ([] :List Pat))
def bAr:=fun a b c d e f g i j k l m n o p q=>aLE a b c d e f g i j|>.t m k n|>.t o l p|>.f q ⟨(aL _ (fun _=>bH _) _),⟨cC,trivial⟩⟩
def bAs:=fun a b c d e f g i j k l m n o=>aLE a b c d e f g i j|>.t l k m|>.f n|>.f o ⟨(aL _ (fun _=>bH _) _),⟨cC,trivial⟩⟩
def bAt:=fun a b c d e f g i j k l m n=>aLE a b c d e f g i j|>.f l|>.t m k n ⟨(aL _ (fun _=>bH _) _),⟨cC,trivial⟩⟩
def bAu:=fun a b c d e f g i j k l=>aLE a b c d e f g i j|>.f k|>.f l ⟨(aL _ (fun _=>bH _) _),⟨cC,trivial⟩⟩
def bCZ(k:List aC)(l:List Con)(b:List ONode)(c m:Int)(n:aC)(o:List Term)(e:List Pat)(q:List aC)(d p:Int)(a:List Pat):=tT 1 (sH k l b c m n o e q d p a)<|gm 6 aH e<|gd 2 57 (p< (e.length:Int)) (.y fun r:Int=>.y fun s:Int=>.y fun t:aC=>.y fun u:List Pat=>.y fun f:Int=>.y fun g:Int=>.y fun i:aC=>.y fun j:List Pat=>.i [rn 4,.reg (rd 6 [.ans (.idx (Pat.av (Pat.mk r s t u))),.d,.call (.agg [(nI f),(nI g),(aA i),(iP j)]) (aG [oC 0 [(iS k),(iC l),(.gl 3 4 0 b.length false)],oC 1 [(nI c),(nI m),(aA n),(.ilst 5 (Terms.av o) false),(iP e)],oC 2 [(nI c),(nI d),.nils,(.gl 4 4 0 a.length false)],oL 3 4 (List.map ONode.av b),oL 4 4 (Pats.av a)] 6),.d,.app (Pats.av (a++ [(Pat.mk f g i j)])) (a++ [(Pat.mk f g i j)]).length,.d,.d])] [hA (0≤p),.a (((e)[p.toNat]?) =some (Pat.mk r s t u)) (cS aH),hA (Spec PP (.enter 117 [(.ptr 0 0),(.agg [(nI r),(nI s),(aA t),(iP u)])]) (aG [oC 0 [(iS k),(iC l),(.gl 3 4 0 b.length false)],oC 1 [(nI c),(nI m),(aA n),(.ilst 5 (Terms.av o) false),(iP e)],oC 2 [(nI c),(nI d),.nils,(.gl 4 4 0 a.length false)],oL 3 4 (List.map ONode.av b),oL 4 4 (Pats.av a)] 6) (.ret (.agg [(nI f),(nI g),(aA i),(iP j)])) (aG [oC 0 [(iS k),(iC l),(.gl 3 4 0 b.length false)],oC 1 [(nI c),(nI m),(aA n),(.ilst 5 (Terms.av o) false),(iP e)],oC 2 [(nI c),(nI d),.nils,(.gl 4 4 0 a.length false)],oL 3 4 (List.map ONode.av b),oL 4 4 (Pats.av a)] 6)),hB aH a,hA (List.length (a++ [(Pat.mk f g i j)]) ≤1000000),hC aH a [(Pat.mk f g i j)],hE aH a [(Pat.mk f g i j)],hr (AV.gl 4 4 0 a.length false),hr (AV.gl 4 4 0 a.length false)]<|gw 4 59 (p+1)<|.W 3 7 [1,2,3,6] (sH k l b c m n o e q d (p+1) (a++ [(Pat.mk f g i j)])))<|gY 3 2 3 4 4 aH cC a false<|.i [.reg (rd 7 (.app (List.map ONode.av (b++ [(ONode.mk c d KV.nil a)])) (b++ [(ONode.mk c d KV.nil a)]).length::rd 3 []))] [hb ONode.av b,hA (List.length (b++ [(ONode.mk c d KV.nil a)]) ≤1000000),hc ONode.av b [(ONode.mk c d KV.nil a)],he ONode.av b [(ONode.mk c d KV.nil a)]]<|.W 7 7 [1,6] (aGt k l b c m n o e q (b++ [(ONode.mk c d KV.nil a)]))
def bAv:=fun a b c d e f g i j k l m n o p q r s t u v w x y z A=>bCZ a b c d e f g i j k l m|>.t v n o p q r s t u w x y z A ⟨(aL _ (fun _=>bH _) _),⟨cC,trivial⟩⟩
def bAw:=fun a b c d e f g i j k l m n o=>bCZ a b c d e f g i j k l m|>.f n o ⟨(aL _ (fun _=>bH _) _),trivial⟩
def bC0(e:List aC)(f:List Con)(d:List ONode)(g i:Int)(j:aC)(c:List Term)(k:List Pat)(r:List aC)(a:List ONode):=tT 1 (aGt e f d g i j c k r a)<|gm 6 bG c<|gd 2 86 (0< (c.length:Int)) (.y fun l:Int=>.y fun m:Int=>.y fun n:aC=>.y fun o:List Term=>.y fun p:List Pat=>.y fun s:List aC=>.y fun t:List aC=>.y fun q:List Node=>.i [rn 5,.reg (rd 4 (.ans (.idx (Term.av (Term.mk l m n o p)))::rd 4 [.pure (iS s),.pure (iS t),.call (nI (a.length:Int)) (aG [oC 0 [(iS e),(iC f),(.gl 3 4 0 (a++List.map Node.o q).length false)],oC 1 [(nI g),(nI i),(aA j),(.ilst 5 (Terms.av c) false),(iP k)],oL 3 4 (List.map ONode.av (a++List.map Node.o q))] 4),.d]))] [hA (0≤ (0:Int)),.a (((c)[(0:Int).toNat]?) =some (Term.mk l m n o p)) (cS bG),hA (Pure PP 116 [(.agg [(nI g),(nI i),(aA j),(.ilst 5 (Terms.av c) false),(iP k)]),(nI 0)] (iS s)),hA (Pure PP 115 [(iS r),(iS s)] (iS t)),hA (Spec PP (.enter 54 [(.ptr 0 0),(.agg [(nI l),(nI m),(aA n),(.ilst 5 (Terms.av o) false),(iP p)]),(iS t)]) (aG [oC 0 [(iS e),(iC f),(.gl 2 4 0 a.length false)],oC 1 [(nI g),(nI i),(aA j),(.ilst 5 (Terms.av c) false),(iP k)],oL 2 4 (List.map ONode.av a)] 3) (.ret (nI (a.length:Int))) (aG [oC 0 [(iS e),(iC f),(.gl 3 4 0 (a++List.map Node.o q).length false)],oC 1 [(nI g),(nI i),(aA j),(.ilst 5 (Terms.av c) false),(iP k)],oL 3 4 (List.map ONode.av (a++List.map Node.o q))] 4)),hr (AV.agg [(nI l),(nI m),(aA n),(.ilst 5 (Terms.av o) false),(iP p)]),hr (AV.agg [(nI l),(nI m),(aA n),(.ilst 5 (Terms.av o) false),(iP p)]),hr (AV.agg [(nI l),(nI m),(aA n),(.ilst 5 (Terms.av o) false),(iP p)]),hr (AV.ilst 5 (Terms.av c) false),hr (AV.ilst 5 (Terms.av c) false),hr (AV.ilst 5 (Terms.av c) false)]<|.W 0 4 [1,3] (aSI e f d g i j c k r (a.length:Int) (a++List.map Node.o q)))<|.y fun b:ONode=>.i [rn 8,.lw 2 (List.map ONode.av (List.set a d.length (ONode.mk b.op b.n (KV.row []) b.pats)))] [.a (a[d.length]?=some b) (p':=(List.map ONode.av a) ≠ []) aFJ,.a (a[d.length]?=some b∧b.kv=KV.nil) (p':=VW (List.map ONode.av a) (List.map ONode.av (List.set a d.length (ONode.mk b.op b.n (KV.row []) b.pats)))) fun⟨ha,hb⟩=>(aNP ha hb)]<|.i [.cset 0 2 (.gl 2 4 0 (List.set a d.length (ONode.mk b.op b.n (KV.row []) b.pats)).length false)] [.q (p:=(AV.gl 2 4 0 a.length false) = (.gl 2 4 0 (List.set a d.length (ONode.mk b.op b.n (KV.row []) b.pats)).length false)) (gR (List.length_set ..).symm)]<|.E 0 3 [2] (nI ((d.length:Nat) :Int)) [oC 0 [(iS e),(iC f),(.gl 1 4 0 (List.set a d.length (ONode.mk b.op b.n (KV.row []) b.pats)).length false)],oL 1 4 (List.map ONode.av (List.set a d.length (ONode.mk b.op b.n (KV.row []) b.pats)))] 2
def bAx:=fun a b c d e f g i j k l m n o p q r s t u v w x y=>bC0 a b c d e f g i j k|>.t t l m n o p q r s u v w x y ⟨(aL _ (fun _=>bH _) _),trivial⟩
def bAy:=fun b c d e f g i j k l m n a o=>bC0 b c d e f g i j k l|>.f n m a ⟨a,o⟩ ⟨(aL _ (fun _=>bH _) _),trivial⟩
def bC1(g:List aC)(i:List Con)(e:List ONode)(j k:Int)(l:aC)(d:List Term)(m:List Pat)(u:List aC)(a:List ONode)(c:List Int)(f:Value)(n:Int):=tT 1 (aA6 g i e j k l d m u a c f n)<|gm 6 bG d<|gd 2 86 (n< (d.length:Int)) (.y fun o:Int=>.y fun p:Int=>.y fun q:aC=>.y fun r:List Term=>.y fun s:List Pat=>.y fun v:List aC=>.y fun w:List aC=>.y fun t:List Node=>.i [rn 5,.reg (rd 4 (.ans (.idx (Term.av (Term.mk o p q r s)))::rd 4 [.pure (iS v),.pure (iS w),.call (nI (a.length:Int)) (aG [oC 0 [(iS g),(iC i),(.gl 4 4 0 (a++List.map Node.o t).length false)],oC 1 [(nI j),(nI k),(aA l),(.ilst 5 (Terms.av d) false),(iP m)],(3,(.lstv f 1 (jI c)),true),oL 4 4 (List.map ONode.av (a++List.map Node.o t))] 5),.d]))] [hA (0≤n),.a (((d)[n.toNat]?) =some (Term.mk o p q r s)) (cS bG),hA (Pure PP 116 [(.agg [(nI j),(nI k),(aA l),(.ilst 5 (Terms.av d) false),(iP m)]),(nI n)] (iS v)),hA (Pure PP 115 [(iS u),(iS v)] (iS w)),hA (Spec PP (.enter 54 [(.ptr 0 0),(.agg [(nI o),(nI p),(aA q),(.ilst 5 (Terms.av r) false),(iP s)]),(iS w)]) (aG [oC 0 [(iS g),(iC i),(.gl 2 4 0 a.length false)],oC 1 [(nI j),(nI k),(aA l),(.ilst 5 (Terms.av d) false),(iP m)],oL 2 4 (List.map ONode.av a),(3,(.lstv f 1 (jI c)),true)] 4) (.ret (nI (a.length:Int))) (aG [oC 0 [(iS g),(iC i),(.gl 4 4 0 (a++List.map Node.o t).length false)],oC 1 [(nI j),(nI k),(aA l),(.ilst 5 (Terms.av d) false),(iP m)],(3,(.lstv f 1 (jI c)),true),oL 4 4 (List.map ONode.av (a++List.map Node.o t))] 5)),hr (AV.agg [(nI o),(nI p),(aA q),(.ilst 5 (Terms.av r) false),(iP s)]),hr (AV.agg [(nI o),(nI p),(aA q),(.ilst 5 (Terms.av r) false),(iP s)]),hr (AV.agg [(nI o),(nI p),(aA q),(.ilst 5 (Terms.av r) false),(iP s)]),hr (AV.ilst 5 (Terms.av d) false),hr (AV.ilst 5 (Terms.av d) false),hr (AV.ilst 5 (Terms.av d) false)]<|.W 0 5 [1,4,3] (aSJ g i e j k l d m u (a.length:Int) (a++List.map Node.o t) c f n))<|.y fun b:ONode=>.i [rn 8,.vfrz 3 2 (List.map ONode.av (List.set a e.length (ONode.mk b.op b.n (KV.row c) b.pats)))] [.a (a[e.length]?=some b) (p':=(List.map ONode.av a) ≠ []) aFJ,hk aO c,.a (a[e.length]?=some b∧b.kv=KV.val f) (p':=VQ f 1 (jI c) (List.map ONode.av a) (List.map ONode.av (List.set a e.length (ONode.mk b.op b.n (KV.row c) b.pats)))) fun⟨ha,hb⟩=>(aNQ ha hb)]<|.i [.cset 0 2 (.gl 2 4 0 (List.set a e.length (ONode.mk b.op b.n (KV.row c) b.pats)).length false)] [.q (p:=(AV.gl 2 4 0 a.length false) = (.gl 2 4 0 (List.set a e.length (ONode.mk b.op b.n (KV.row c) b.pats)).length false)) (gR (List.length_set ..).symm)]<|.E 0 4 [2] (nI (e.length:Int)) [oC 0 [(iS g),(iC i),(.gl 1 4 0 (List.set a e.length (ONode.mk b.op b.n (KV.row c) b.pats)).length false)],oL 1 4 (List.map ONode.av (List.set a e.length (ONode.mk b.op b.n (KV.row c) b.pats)))] 2
def bAz:=fun a b c d e f g i j k l m n o p q r s t u v w x y z A B=>bC1 a b c d e f g i j k l m n|>.t w o p q r s t u v x y z A B ⟨(aL _ (fun _=>bH _) _),⟨kk,trivial⟩⟩
def bAA:=fun b c d e f g i j k l m n o p q a r=>bC1 b c d e f g i j k l m n o|>.f q p a ⟨a,r⟩ ⟨(aL _ (fun _=>bH _) _),trivial⟩
theorem bAB (fs:List aC)(cs:List Con)(L:List ONode)(t_op t_n:Int)(t_text:aC)(t_kids:List Term)(t_pats:List Pat)(env:List aC)(kid11:Int)(l2:List ONode)(ix:Nat)(w_op w_n:Int)(w_pats:List Pat)(h0:0≤ ((L.length:Nat) :Int))(h1: ((L.length:Nat) :Int) < ((l2.length:Nat) :Int))(h2: ((L.length:Nat) :Int).toNat=ix)(h3:ix<List.length l2)(h4:List.length (([] :List Int) ++ [kid11]) ≤1000000){res:Res}{h':Hp}(hk:∀ua un uc,Ends PP 1 (let u:=Value.slice ua un uc; (aA6 fs cs L t_op t_n t_text t_kids t_pats env (List.set l2 ix (ONode.mk w_op w_n (KV.val u) w_pats)) (([] :List Int) ++ [kid11]) u 1)).as res h') :
  Ends PP 1 (aLC fs cs L t_op t_n t_text t_kids t_pats env kid11 l2 ix w_op w_n w_pats).as res h':=
 sG (n1:=6) (t:=fun u=> (aA6 fs cs L t_op t_n t_text t_kids t_pats env (List.set l2 ix (ONode.mk w_op w_n (KV.val u) w_pats)) (([] :List Int) ++ [kid11]) u 1)) (k:=2) (b:=5) (i:=ix) (o:=2) (ys:=fun u=> (List.map ONode.av (List.set l2 ix (ONode.mk w_op w_n (KV.val u) w_pats)))) (ks:=[1,2,5]) (ps:=fun u=>[NQ (List.set (List.map ONode.av l2) ix (.agg [(nI w_op),(nI w_n),(.gl 5 1 0 (([] :List Int) ++ [kid11]).length false),(iP w_pats)])) ix 2 5 1 (jI (([] :List Int) ++ [kid11])).length u (List.map ONode.av (List.set l2 ix (ONode.mk w_op w_n (KV.val u) w_pats))),0≤ ((L.length:Nat) :Int),((L.length:Nat) :Int) < ((l2.length:Nat) :Int),(List.set (List.map ONode.av l2) ix (.agg [(nI w_op),(nI w_n),(.gl 3 1 0 ([] :List Int).length false),(iP w_pats)]))[(0+ ((L.length:Nat) :Int).toNat)]?=some (.agg [(nI w_op),(nI w_n),(.gl 3 1 0 ([] :List Int).length false),(iP w_pats)]),0+ ([] :List Int).length≤List.length (jI ([] :List Int)),List.length (([] :List Int) ++ [kid11]) ≤1000000,List.take ([] :List Int).length (List.drop 0 (jI ([] :List Int))) ++ (jI [kid11]) = (jI (([] :List Int) ++ [kid11])),([] :List Int).length+List.length (jI [kid11]) =List.length (([] :List Int) ++ [kid11]),0≤ ((L.length:Nat) :Int),((L.length:Nat) :Int) < ((l2.length:Nat) :Int),(List.set (List.map ONode.av l2) ix (.agg [(nI w_op),(nI w_n),(.gl 3 1 0 ([] :List Int).length false),(iP w_pats)]))[(0+ ((L.length:Nat) :Int).toNat)]?=some (.agg [(nI w_op),(nI w_n),(.gl 3 1 0 ([] :List Int).length false),(iP w_pats)]),lM (.agg [(nI w_op),(nI w_n),(.gl 3 1 0 ([] :List Int).length false),(iP w_pats)]) 2 [(.gl 5 1 0 (([] :List Int) ++ [kid11]).length false)] =some (.agg [(nI w_op),(nI w_n),(.gl 5 1 0 (([] :List Int) ++ [kid11]).length false),(iP w_pats)]),(AV.gl 2 4 0 l2.length false) = (AV.gl 2 4 0 l2.length false),(AV.gl 2 4 0 l2.length false) = (AV.gl 2 4 0 l2.length false),(List.set (List.map ONode.av l2) ix (.agg [(nI w_op),(nI w_n),(.gl 3 1 0 ([] :List Int).length false),(iP w_pats)])).set (0+ ((L.length:Nat) :Int).toNat) (.agg [(nI w_op),(nI w_n),(.gl 5 1 0 (([] :List Int) ++ [kid11]).length false),(iP w_pats)]) = (List.set (List.map ONode.av l2) ix (.agg [(nI w_op),(nI w_n),(.gl 5 1 0 (([] :List Int) ++ [kid11]).length false),(iP w_pats)])),(AV.gl 2 4 0 l2.length false) = (.gl 2 4 0 (List.set l2 ix (ONode.mk w_op w_n (KV.val u) w_pats)).length false),(AV.gl 2 4 0 l2.length false) = (.gl 2 4 0 (List.set l2 ix (ONode.mk w_op w_n (KV.val u) w_pats)).length false),(AV.gl 2 4 0 l2.length false) = (.gl 2 4 0 (List.set l2 ix (ONode.mk w_op w_n (KV.val u) w_pats)).length false)]) (is:=[.reg [.d,.d,.d,.d,.d,.d,.d,.d,.d,.d,.ans (.ix),.d,.ans (.idx (.agg [(nI w_op),(nI w_n),(.gl 3 1 0 ([] :List Int).length false),(iP w_pats)])),.d,.d,.app (jI (([] :List Int) ++ [kid11])) (([] :List Int) ++ [kid11]).length,.ans (.ix),.d,.st (.agg [(nI w_op),(nI w_n),(.gl 3 1 0 ([] :List Int).length false),(iP w_pats)]) (.agg [(nI w_op),(nI w_n),(.gl 5 1 0 (([] :List Int) ++ [kid11]).length false),(iP w_pats)])],.lset 2 (List.set (List.map ONode.av l2) ix (.agg [(nI w_op),(nI w_n),(.gl 5 1 0 (([] :List Int) ++ [kid11]).length false),(iP w_pats)])),.run 1]) (is2:=fun u=>[.set 104 (.gl 2 4 0 (List.set l2 ix (ONode.mk w_op w_n (KV.val u) w_pats)).length false),.set 109 (.gl 2 4 0 (List.set l2 ix (ONode.mk w_op w_n (KV.val u) w_pats)).length false),.cset 0 2 (.gl 2 4 0 (List.set l2 ix (ONode.mk w_op w_n (KV.val u) w_pats)).length false),.run 6]) (fun u=>by kernel_rfl) (fun u=>by kernel_rfl) (fun u=> ⟨(aL _ (fun _=>bH _) _),⟨(aL _ (fun _=>rfl) _),trivial⟩⟩) (fun u=> ⟨(aLA [(nI w_op),(nI w_n)] [(iP w_pats)] h3 (List.length_map ..) (by simp) rfl),h0,h1,(vD h2 h3),(aAP _ _),h4,(aAQ _ _ _),(aAR _ _ _),h0,h1,(vD h2 h3),rfl,rfl,rfl,(aGs h2),(gR (List.length_set ..).symm),(gR (List.length_set ..).symm),(gR (List.length_set ..).symm)⟩) hk
theorem bAC (fs:List aC)(cs:List Con)(L:List ONode)(t_op t_n:Int)(t_text:aC)(t_kids:List Term)(t_pats:List Pat)(env:List aC)(kid11:Int)(l2:List ONode)(k3:List Int)(i10:Int)(ix:Nat)(w_op w_n:Int)(w_pats:List Pat)(h0:0≤ ((L.length:Nat) :Int))(h1: ((L.length:Nat) :Int) < ((l2.length:Nat) :Int))(h2: ((L.length:Nat) :Int).toNat=ix)(h3:ix<List.length l2)(h4:List.length (k3++ [kid11]) ≤1000000)(h5: (IntKind.i64.wrap (i10+ (1:Int))) = (i10+ (1:Int))){res:Res}{h':Hp}(hk:∀ua un uc,Ends PP 1 (let u:=Value.slice ua un uc; (aA6 fs cs L t_op t_n t_text t_kids t_pats env (List.set l2 ix (ONode.mk w_op w_n (KV.val u) w_pats)) (k3++ [kid11]) u (i10+ (1:Int)))).as res h') :
  Ends PP 1 (aLD fs cs L t_op t_n t_text t_kids t_pats env kid11 l2 k3 i10 ix w_op w_n w_pats).as res h':=
 sG (n1:=6) (t:=fun u=> (aA6 fs cs L t_op t_n t_text t_kids t_pats env (List.set l2 ix (ONode.mk w_op w_n (KV.val u) w_pats)) (k3++ [kid11]) u (i10+ (1:Int)))) (k:=2) (b:=5) (i:=ix) (o:=2) (ys:=fun u=> (List.map ONode.av (List.set l2 ix (ONode.mk w_op w_n (KV.val u) w_pats)))) (ks:=[1,2,5]) (ps:=fun u=>[NQ (List.set (List.map ONode.av l2) ix (.agg [(nI w_op),(nI w_n),(.gl 5 1 0 (k3++ [kid11]).length false),(iP w_pats)])) ix 2 5 1 (jI (k3++ [kid11])).length u (List.map ONode.av (List.set l2 ix (ONode.mk w_op w_n (KV.val u) w_pats))),0≤ ((L.length:Nat) :Int),((L.length:Nat) :Int) < ((l2.length:Nat) :Int),(List.set (List.map ONode.av l2) ix (.agg [(nI w_op),(nI w_n),(.gl 3 1 0 k3.length false),(iP w_pats)]))[(0+ ((L.length:Nat) :Int).toNat)]?=some (.agg [(nI w_op),(nI w_n),(.gl 3 1 0 k3.length false),(iP w_pats)]),0+k3.length≤List.length (jI k3),List.length (k3++ [kid11]) ≤1000000,List.take k3.length (List.drop 0 (jI k3)) ++ (jI [kid11]) = (jI (k3++ [kid11])),k3.length+List.length (jI [kid11]) =List.length (k3++ [kid11]),0≤ ((L.length:Nat) :Int),((L.length:Nat) :Int) < ((l2.length:Nat) :Int),(List.set (List.map ONode.av l2) ix (.agg [(nI w_op),(nI w_n),(.gl 3 1 0 k3.length false),(iP w_pats)]))[(0+ ((L.length:Nat) :Int).toNat)]?=some (.agg [(nI w_op),(nI w_n),(.gl 3 1 0 k3.length false),(iP w_pats)]),lM (.agg [(nI w_op),(nI w_n),(.gl 3 1 0 k3.length false),(iP w_pats)]) 2 [(.gl 5 1 0 (k3++ [kid11]).length false)] =some (.agg [(nI w_op),(nI w_n),(.gl 5 1 0 (k3++ [kid11]).length false),(iP w_pats)]),(AV.gl 2 4 0 l2.length false) = (AV.gl 2 4 0 l2.length false),(AV.gl 2 4 0 l2.length false) = (AV.gl 2 4 0 l2.length false),(List.set (List.map ONode.av l2) ix (.agg [(nI w_op),(nI w_n),(.gl 3 1 0 k3.length false),(iP w_pats)])).set (0+ ((L.length:Nat) :Int).toNat) (.agg [(nI w_op),(nI w_n),(.gl 5 1 0 (k3++ [kid11]).length false),(iP w_pats)]) = (List.set (List.map ONode.av l2) ix (.agg [(nI w_op),(nI w_n),(.gl 5 1 0 (k3++ [kid11]).length false),(iP w_pats)])),(AV.gl 2 4 0 l2.length false) = (.gl 2 4 0 (List.set l2 ix (ONode.mk w_op w_n (KV.val u) w_pats)).length false),(AV.gl 2 4 0 l2.length false) = (.gl 2 4 0 (List.set l2 ix (ONode.mk w_op w_n (KV.val u) w_pats)).length false),(AV.gl 2 4 0 l2.length false) = (.gl 2 4 0 (List.set l2 ix (ONode.mk w_op w_n (KV.val u) w_pats)).length false),(nI (IntKind.i64.wrap (i10+ (1:Int)))) = (nI (i10+ (1:Int)))]) (is:=[.reg [.d,.d,.d,.d,.d,.d,.d,.d,.d,.d,.ans (.ix),.d,.ans (.idx (.agg [(nI w_op),(nI w_n),(.gl 3 1 0 k3.length false),(iP w_pats)])),.d,.d,.app (jI (k3++ [kid11])) (k3++ [kid11]).length,.ans (.ix),.d,.st (.agg [(nI w_op),(nI w_n),(.gl 3 1 0 k3.length false),(iP w_pats)]) (.agg [(nI w_op),(nI w_n),(.gl 5 1 0 (k3++ [kid11]).length false),(iP w_pats)])],.lset 2 (List.set (List.map ONode.av l2) ix (.agg [(nI w_op),(nI w_n),(.gl 5 1 0 (k3++ [kid11]).length false),(iP w_pats)])),.run 1]) (is2:=fun u=>[.set 104 (.gl 2 4 0 (List.set l2 ix (ONode.mk w_op w_n (KV.val u) w_pats)).length false),.set 109 (.gl 2 4 0 (List.set l2 ix (ONode.mk w_op w_n (KV.val u) w_pats)).length false),.cset 0 2 (.gl 2 4 0 (List.set l2 ix (ONode.mk w_op w_n (KV.val u) w_pats)).length false),.run 3,.set 88 (nI (i10+ (1:Int))),.run 3]) (fun u=>by kernel_rfl) (fun u=>by kernel_rfl) (fun u=> ⟨(aL _ (fun _=>bH _) _),⟨(aL _ (fun _=>rfl) _),trivial⟩⟩) (fun u=> ⟨(aLA [(nI w_op),(nI w_n)] [(iP w_pats)] h3 (List.length_map ..) (by simp) rfl),h0,h1,(vD h2 h3),(aAP _ _),h4,(aAQ _ _ _),(aAR _ _ _),h0,h1,(vD h2 h3),rfl,rfl,rfl,(aGs h2),(gR (List.length_set ..).symm),(gR (List.length_set ..).symm),(gR (List.length_set ..).symm),(congrArg (AV.int .i64) h5)⟩) hk
end
end Go.Hb
namespace Go.Hb
open Go.Proofs
set_option maxHeartbeats 4000000
noncomputable section
mutual
def pnP (cs:List Con) :Pat→Pat
 | .mk f n s ps=>.mk f (if f=6 then dY s cs 0 else n) [] (oU cs ps)
def oU (cs:List Con) :List Pat→List Pat
 | [] =>[]
 |p::ps=>pnP cs p::oU cs ps
end
abbrev BHc (fs:List aC)(cs:List Con)(b n:Nat) :AObj:=.cells (putCells .leaf 0 [.ilst 1 (List.map aA fs) false,.ilst 2 (List.map Con.av cs) false,.gl b 4 0 n false]) 3 [] false
abbrev BH (fs:List aC)(cs:List Con)(L:List ONode) :List (Nat×AObj×Bool) :=[(0,BHc fs cs 1 (List.length L),false),(1,OL L,true)]
def PNS (fs:List aC)(cs:List Con)(L:List ONode)(p:Pat) :Prop:=Spec PP (.enter 117 [.ptr 0 0,Pat.av p]) (aG (BH fs cs L) 2) (.ret (Pat.av (pnP cs p))) (aG (BH fs cs L) 2)
theorem bC2 (p:Pat) :sP (.ret (Pat.av p)) :=eE p
theorem aDu (fs:List aC)(cs:List Con)(L:List ONode)(f n:Int)(s:aC)(ps:List Pat)(v:Int)(hpl:ps.length<1000000)(ih:∀p∈ps,PNS fs cs L p) :∀ (t:List Pat) (i:Nat) (acc:List Pat),ps.drop i=t→acc.length+t.length<1000000 →
  Ends PP 2 (aDt fs cs L f n s ps v (i:Int) acc).as (.ret (.agg [.int .i64 f,.int .i64 v,.str 0 0,.ilst 4 (Pats.av (acc++oU cs t)) false])) (aG (BH fs cs L) 2)
 | [],i,acc,h,_=>by
  have:=bA h;rw [oU,List.append_nil];exact bAp fs cs L f n s ps v i acc sd
 | .mk f' n' s' ps'::t,i,acc,h,hb=>by
  obtain⟨g1,g2,g3⟩ :=aZ h;have hi:= (List.getElem?_eq_some_iff.1 g1).1;simp only [List.length_cons]at hb;have hs:=ih _ (List.mem_of_getElem? g1);unfold PNS at hs
  have hs':=cI (ks:=[0,1]) (n2:=7) (args':=[.ptr 0 0,Pat.av (.mk f' n' s' ps')])
   (lc:=[(0,BHc fs cs 1 (List.length L),false),(1,OL L,true),(2,.cells (putCells .leaf 0 [.int .i64 f,.int .i64 n,aA s,.ilst 4 (Pats.av ps) false]) 4 [] false,false),(3,.cells (putCells .leaf 0 [.int .i64 0,.int .i64 0,.str 0 0,.nils]) 4 [] false,false),(4,.cells (putCells .leaf 0 [.int .i64 f,.int .i64 v,.str 0 0,.gl 5 4 0 (List.length acc) false]) 4 [] false,false),(5,.lst 4 (Pats.av acc),true)])
   (lc':=[(0,BHc fs cs 1 (List.length L),false),(1,OL L,true),(2,.cells (putCells .leaf 0 [.int .i64 f,.int .i64 n,aA s,.ilst 4 (Pats.av ps) false]) 4 [] false,false),(3,.cells (putCells .leaf 0 [.int .i64 0,.int .i64 0,.str 0 0,.nils]) 4 [] false,false),(4,.cells (putCells .leaf 0 [.int .i64 f,.int .i64 v,.str 0 0,.gl 5 4 0 (List.length acc) false]) 4 [] false,false),(5,.lst 4 (Pats.av acc),true)])
   hs (by kernel_rfl) (bC2 _) (by kernel_rfl) (by kernel_rfl) ⟨oJ L,trivial⟩ (by kernel_rfl) ⟨oJ L,trivial⟩ (by kernel_rfl) (by kernel_rfl) (by kernel_rfl) (by kernel_rfl) (by kernel_rfl) (by kernel_rfl) (by kernel_rfl) (by kernel_rfl)
  have h0:=bAo fs cs L f n s ps v i acc sd;have h1:=bAq fs cs L f n s ps v i acc f' n' s' ps' f' (if f'=6 then dY s' cs 0 else n') [] (oU cs ps') sd sd hs' (by simp;omega) sd;rw [oU,show acc++pnP cs (.mk f' n' s' ps') ::oU cs t= (acc++ [pnP cs (.mk f' n' s' ps')]) ++oU cs t by simp,pnP];exact(h0.trans h1).ends (aDu fs cs L f n s ps v hpl ih t (i+1) _ g2 (by simp;omega))
mutual
theorem aIn (fs:List aC)(cs:List Con)(L:List ONode)(hc:cs.length<1000000) :∀p:Pat,aQ p<1000000→PNS fs cs L p
 | .mk f n s ps,hp=>by
  simp only [aQ]at hp;have:=bK ps;refine⟨(aSG fs cs L f n s ps).as.fr,by kernel_rfl,?_⟩;have E:Ends PP 2 (aSG fs cs L f n s ps).as (.ret (Pat.av (pnP cs (.mk f n s ps)))) (aG (BH fs cs L) 2) :=by
   rw [pnP];by_cases h6:f=6
   · rw [if_pos h6];exact(bAm fs cs L f n s ps _ (by simp [h6]) (mL cs s hc)).ends (aDu fs cs L f n s ps _ (by omega) (aGu fs cs L hc ps (by omega)) ps 0 [] rfl (by simp;omega))
   · rw [if_neg h6];exact(bAn fs cs L f n s ps (by simp [h6])).ends (aDu fs cs L f n s ps _ (by omega) (aGu fs cs L hc ps (by omega)) ps 0 [] rfl (by simp;omega))
  exact Eq.mp (by kernel_rfl) E
theorem aGu (fs:List aC)(cs:List Con)(L:List ONode)(hc:cs.length<1000000) :∀ps:List Pat,aM ps<1000000→∀p∈ps,PNS fs cs L p
 | [],_,p,hp=>by cases hp
 | q::ps,h,p,hp=>by
  simp only [aM]at h;rcases List.mem_cons.1 hp with e|hp
  ·rw [e];exact aIn fs cs L hc q (by omega)
  ·exact aGu fs cs L hc ps (by omega) p hp
end
def aLH (fs:List aC)(cs:List Con)(env:List aC)(o n:Int)(s:aC) :Int:=
 if o=14 then dY s cs 0 else if o=4 then(if dR env s<0 then IntKind.i64.wrap (-1-dR fs s)else dR env s)else n
mutual
def oW (fs:List aC)(cs:List Con) :Term→List aC→Nat→List Node
 | .mk o n s ks ps,env,a=> ⟨o,aLH fs cs env o n s,(gB fs cs o s ps ks 0 env (a+1)).1,oU cs ps⟩ :: (gB fs cs o s ps ks 0 env (a+1)).2
def gB (fs:List aC)(cs:List Con)(o:Int)(s:aC)(ps:List Pat) :List Term→Nat→List aC→Nat→List Int×List Node
 | [],_,_,_=> ([],[])
 |t::ts,i,env,a=> (((a:Nat) :Int) :: (gB fs cs o s ps ts (i+1) env (a+ (oW fs cs t (env++bZ o s ps i) a).length)).1,oW fs cs t (env++bZ o s ps i) a++ (gB fs cs o s ps ts (i+1) env (a+ (oW fs cs t (env++bZ o s ps i) a).length)).2)
end
mutual
theorem qX (fs:List aC)(cs:List Con) :∀ (t:Term) (env:List aC) (a:Nat),(oW fs cs t env a).length=bX t
 | .mk o n s ks ps,env,a=>by rw [oW,bX,List.length_cons,aEP fs cs o s ps ks 0 env (a+1)]
theorem aEP (fs:List aC)(cs:List Con)(o:Int)(s:aC)(ps:List Pat) :∀ (ts:List Term) (i:Nat) (env:List aC) (a:Nat),(gB fs cs o s ps ts i env a).2.length=bO ts
 | [],i,env,a=>by rw [gB,bO];rfl
 | t::ts,i,env,a=>by
  rw [gB,bO,List.length_append,qX fs cs t _ _,aEP fs cs o s ps ts _ _ _]
end
def PUS (fs:List aC)(cs:List Con)(t:Term)(env:List aC)(L:List ONode)(ns:List Node) :Prop:=
 qQ PP 1 (.enter 54 [.ptr 0 0,Term.av t,.ilst 1 (List.map aA env) false]) (aG (BH fs cs L) 2) (.ret (.int .i64 ((List.length L:Nat) :Int))) (aG (BH fs cs (L++List.map Node.o ns)) 2)
def aSK (fs:List aC)(cs:List Con)(L:List ONode)(s:TS)(ns:List Node) :Prop:=Ends PP 1 s.as (.ret (.int .i64 ((List.length L:Nat) :Int))) (aG (BH fs cs (L++List.map Node.o ns)) 2)
section
variable (fs :List aC) (cs:List Con) (L:List ONode) (o n:Int) (s:aC) (ks:List Term) (ps:List Pat) (env:List aC)
theorem aIo (v:Int)(hps:∀p∈ps,PNS fs cs L p)(hl:L.length≤999999)(hpl:ps.length<1000000) :∀ (t:List Pat) (i:Nat) (acc:List Pat),ps.drop i=t→acc.length=i →
  LeadsM PP 1 (sH fs cs L o n s ks ps env v (i:Int) acc).as (aGt fs cs L o n s ks ps env (L++ [⟨o,v,.nil,acc++oU cs t⟩])).as
 | [],i,acc,h,ha=>by
  have:=bA h;rw [oU,List.append_nil];exact bAw fs cs L o n s ks ps env v i acc sd (by simp;omega)
 | .mk f' n' s' ps'::t,i,acc,h,ha=>by
  obtain⟨g1,g2,g3⟩ :=aZ h;have hi:= (List.getElem?_eq_some_iff.1 g1).1;have hs:=hps _ (List.mem_of_getElem? g1);unfold PNS at hs
  have hs':=cI (ks:=[0,3]) (n2:=6) (args':=[.ptr 0 0,Pat.av (.mk f' n' s' ps')])
   (lc:=[(0,BHc fs cs 3 (List.length L),false),(1,eI o n s ks ps,false),(2,.cells (putCells .leaf 0 [.int .i64 o,.int .i64 v,.nils,.gl 4 4 0 (List.length acc) false]) 4 [] false,false),(3,OL L,true),(4,.lst 4 (Pats.av acc),true)])
   (lc':=[(0,BHc fs cs 3 (List.length L),false),(1,eI o n s ks ps,false),(2,.cells (putCells .leaf 0 [.int .i64 o,.int .i64 v,.nils,.gl 4 4 0 (List.length acc) false]) 4 [] false,false),(3,OL L,true),(4,.lst 4 (Pats.av acc),true)])
   hs (by kernel_rfl) (bC2 _) (by kernel_rfl) (by kernel_rfl) ⟨oJ L,trivial⟩ (by kernel_rfl) ⟨oJ L,trivial⟩ (by kernel_rfl) (by kernel_rfl) (by kernel_rfl) (by kernel_rfl) (by kernel_rfl) (by kernel_rfl) (by kernel_rfl) (by kernel_rfl)
  have h1:=bAv fs cs L o n s ks ps env v i acc f' n' s' ps' f' (if f'=6 then dY s' cs 0 else n') [] (oU cs ps') sd sd sd hs' (by simp;omega) sd;rw [oU,show acc++pnP cs (.mk f' n' s' ps') ::oU cs t= (acc++ [pnP cs (.mk f' n' s' ps')]) ++oU cs t by simp,pnP];exact h1.trans (aIo v hps hl hpl t (i+1) _ g2 (by simp [ha]))
theorem aMX (kid:Int)(l:List ONode){ix:Nat}{a b:Int}{P:List Pat}(h:l[ix]?=some ⟨a,b,.nil,P⟩) :LeadsM PP 1 (aSI fs cs L o n s ks ps env kid l).as (aLC fs cs L o n s ks ps env kid l ix a b P).as:=
 aSF (k:=2) (e0:=4) (e:=1) (by kernel_rfl) (by kernel_rfl) (aLB (f:=ONode.av) [.int .i64 a,.int .i64 b] [.ilst 4 (Pats.av P) false] h rfl) (by kernel_rfl)
theorem aMY (kid:Int)(l:List ONode)(k3:List Int)(u:Value)(i:Int){ix:Nat}{a b:Int}{P:List Pat}(h:l[ix]?=some ⟨a,b,.val u,P⟩) :LeadsM PP 1 (aSJ fs cs L o n s ks ps env kid l k3 u i).as (aLD fs cs L o n s ks ps env kid l k3 i ix a b P).as:=
 aLz (k:=2) (b:=3) (e0:=4) (e:=1) (u:=u) (xs:=List.map aO k3) (n:=List.length k3) (by kernel_rfl) (by kernel_rfl) (by decide) (List.length_map ..) (aLB (f:=ONode.av) [.int .i64 a,.int .i64 b] [.ilst 4 (Pats.av P) false] h rfl) (by kernel_rfl)
variable (hkl :ks.length≤900) (h15:o=15→ks.length≤ps.length+1) (hps:∀p∈ps,aQ p≤1000) (he:env.length≤900000)
 (ih:∀t∈ks,∀ (e:List aC) (M:List ONode),e.length≤env.length+1000→M.length+bX t≤1000000→PUS fs cs t e M (oW fs cs t e M.length))
include hkl h15 hps he ih
theorem aIp (v:Int)(P:List Pat) :∀ (ts:List Term) (i:Nat) (u:Value) (r0:List Node) (k3:List Int),ks.drop i=ts→k3.length=i→L.length+1+r0.length+bO ts≤1000000 →
  aSK fs cs L (aA6 fs cs L o n s ks ps env (L++ ⟨o,v,.val u,P⟩ ::List.map Node.o r0) k3 u (i:Int)) (⟨o,v,k3++ (gB fs cs o s ps ts i env (L.length+1+r0.length)).1,P⟩ :: (r0++ (gB fs cs o s ps ts i env (L.length+1+r0.length)).2))
 | [],i,u,r0,k3,h,hk,_=>by
  have:=bA h;have h1:=bAA fs cs L o n s ks ps env (L++ ⟨o,v,.val u,P⟩ ::List.map Node.o r0) k3 u i ⟨o,v,.val u,P⟩ sd (mE ..) rfl;rw [mF]at h1;rw [gB];simp only [List.append_nil];exact h1
 | .mk o' n' s' ks' ps'::ts,i,u,r0,k3,h,hk,hb=>by
  obtain⟨g1,g2,g3⟩ :=aZ h;have hi:= (List.getElem?_eq_some_iff.1 g1).1;simp only [bO]at hb;have hbl:=qV hps o s i;have hb1:=aDm o n s ks ps i (by omega) (fun h=>by have:=h15 h;omega) hps;have hw:=aDl env (bZ o s ps i) (by omega);have hlen: (L++ (⟨o,v,.val u,P⟩ :ONode) ::List.map Node.o r0).length=L.length+1+r0.length:=by simp;omega
  have hs:=ih _ (List.mem_of_getElem? g1) (env++bZ o s ps i) (L++ ⟨o,v,.val u,P⟩ ::List.map Node.o r0) (by simp;omega) (by rw [hlen];omega);rw [hlen]at hs;rw [gB];have hns:=qX fs cs (.mk o' n' s' ks' ps') (env++bZ o s ps i) (L.length+1+r0.length);generalize oW fs cs (.mk o' n' s' ks' ps') (env++bZ o s ps i) (L.length+1+r0.length) =ns at hs hns ⊢;unfold PUS at hs
  have hs':=fE (m:=1) (ks:=[0,2]) (n2:=4) (n3:=5) (v':=.int .i64 ((List.length (L++ (⟨o,v,.val u,P⟩ :ONode) ::List.map Node.o r0) :Nat) :Int)) (args':=[.ptr 0 0,Term.av (.mk o' n' s' ks' ps'),.ilst 1 (List.map aA (env++bZ o s ps i)) false])
   (lc:=[(0,BHc fs cs 2 (List.length (L++ (⟨o,v,.val u,P⟩ :ONode) ::List.map Node.o r0)),false),(1,eI o n s ks ps,false),(2,OL (L++ ⟨o,v,.val u,P⟩ ::List.map Node.o r0),true),(3,.lstv u 1 (List.map aO k3),true)])
   (lc':=[(0,BHc fs cs 4 (List.length ((L++ (⟨o,v,.val u,P⟩ :ONode) ::List.map Node.o r0) ++List.map Node.o ns)),false),(1,eI o n s ks ps,false),(3,.lstv u 1 (List.map aO k3),true),(4,OL ((L++ ⟨o,v,.val u,P⟩ ::List.map Node.o r0) ++List.map Node.o ns),true)])
   hs (by rfl) (by rfl) (by kernel_rfl) (by rfl) (by rfl) (by kernel_rfl) (by kernel_rfl) ⟨oJ _,trivial⟩ (by kernel_rfl) ⟨oJ _,trivial⟩ (by kernel_rfl) (by kernel_rfl) (by kernel_rfl) (by kernel_rfl) (by kernel_rfl) (by kernel_rfl) (by kernel_rfl)
  have h0:=bAz fs cs L o n s ks ps env (L++ ⟨o,v,.val u,P⟩ ::List.map Node.o r0) k3 u i o' n' s' ks' ps' _ _ ns sd sd sd hb1 hw hs';have e2: (L++ (⟨o,v,.val u,P⟩ :ONode) ::List.map Node.o r0) ++List.map Node.o ns=L++ ⟨o,v,.val u,P⟩ ::List.map Node.o (r0++ns) :=by simp
  rw [e2,hlen]at h0;refine(h0.trans (aMY fs cs L o n s ks ps env _ _ k3 u i (mE L _ _))).ends ?_;refine bAC fs cs L o n s ks ps env _ _ k3 i (List.length L) o v P (by omega) (by simp;omega) (by omega) (by simp) (by simp;omega) sd (fun ua un uc=>?_);have:=aIp v P ts (i+1) (.slice ua un uc) (r0++ns) (k3++ [((L.length+1+r0.length:Nat) :Int)]) g2 (by simp [hk]) (by simp;omega);dsimp only;rw [mF];rw [List.length_append,←Nat.add_assoc]at this;simp only [List.append_assoc,List.singleton_append]at this ⊢;exact this
theorem aSL (v:Int)(P:List Pat)(hb:L.length+1+bO ks≤1000000) :
  aSK fs cs L (aGt fs cs L o n s ks ps env (L++ [⟨o,v,.nil,P⟩])) (⟨o,v,(gB fs cs o s ps ks 0 env (L.length+1)).1,P⟩ :: (gB fs cs o s ps ks 0 env (L.length+1)).2) :=by
 cases hks:ks with
 | nil=>
  subst hks;have h1:=bAy fs cs L o n s [] ps env (L++ [⟨o,v,.nil,P⟩]) ⟨o,v,.nil,P⟩ (by simp) (mE ..) rfl;rw [mF]at h1;rw [gB];exact h1
 | cons t ts=>
  obtain⟨o',n',s',ks',ps'⟩ :=t;have g1:ks[0]?=some (.mk o' n' s' ks' ps') :=by rw [hks];rfl
  rw [←hks];have hbl:=qV hps o s 0;have hb1:=aDm o n s ks ps 0 (by omega) (fun h=>by have:=h15 h;omega) hps;have hw:=aDl env (bZ o s ps 0) (by omega);have hlen: (L++ [(⟨o,v,.nil,P⟩ :ONode)]).length=L.length+1:=by simp
  have hb0:bX (.mk o' n' s' ks' ps') +bO ts=bO ks:=by rw [hks,bO]
  have hs:=ih _ (List.mem_of_getElem? g1) (env++bZ o s ps 0) (L++ [⟨o,v,.nil,P⟩]) (by simp;omega) (by rw [hlen];omega);rw [hlen]at hs;have ep:gB fs cs o s ps ks 0 env (L.length+1) =gB fs cs o s ps (.mk o' n' s' ks' ps'::ts) 0 env (L.length+1) :=by rw [hks]
  rw [ep,gB];have hns:=qX fs cs (.mk o' n' s' ks' ps') (env++bZ o s ps 0) (L.length+1);generalize oW fs cs (.mk o' n' s' ks' ps') (env++bZ o s ps 0) (L.length+1) =ns at hs hns ⊢;unfold PUS at hs
  have hs':=fE (m:=1) (ks:=[0,2]) (n2:=3) (n3:=4) (v':=.int .i64 ((List.length (L++ [(⟨o,v,.nil,P⟩ :ONode)]) :Nat) :Int)) (args':=[.ptr 0 0,Term.av (.mk o' n' s' ks' ps'),.ilst 1 (List.map aA (env++bZ o s ps 0)) false])
   (lc:=[(0,BHc fs cs 2 (List.length (L++ [(⟨o,v,.nil,P⟩ :ONode)])),false),(1,eI o n s ks ps,false),(2,OL (L++ [⟨o,v,.nil,P⟩]),true)])
   (lc':=[(0,BHc fs cs 3 (List.length ((L++ [(⟨o,v,.nil,P⟩ :ONode)]) ++List.map Node.o ns)),false),(1,eI o n s ks ps,false),(3,OL ((L++ [⟨o,v,.nil,P⟩]) ++List.map Node.o ns),true)])
   hs (by rfl) (by rfl) (by kernel_rfl) (by rfl) (by rfl) (by kernel_rfl) (by kernel_rfl) ⟨oJ _,trivial⟩ (by kernel_rfl) ⟨oJ _,trivial⟩ (by kernel_rfl) (by kernel_rfl) (by kernel_rfl) (by kernel_rfl) (by kernel_rfl) (by kernel_rfl) (by kernel_rfl)
  have h0:=bAx fs cs L o n s ks ps env (L++ [(⟨o,v,.nil,P⟩ :ONode)]) o' n' s' ks' ps' _ _ ns (by rw [hks];simp) (by omega) (by simpa using g1) hb1 hw hs';have e2: (L++ [(⟨o,v,.nil,P⟩ :ONode)]) ++List.map Node.o ns=L++ ⟨o,v,.nil,P⟩ ::List.map Node.o ns:=by simp
  rw [e2,hlen]at h0;refine(h0.trans (aMX fs cs L o n s ks ps env _ _ (mE L _ _))).ends ?_;refine bAB fs cs L o n s ks ps env _ _ (List.length L) o v P (by omega) (by simp;omega) (by omega) (by simp) (by simp) (fun ua un uc=>?_);have:=aIp fs cs L o n s ks ps env hkl h15 hps he ih v P ts 1 (.slice ua un uc) ns [((L.length+1:Nat) :Int)] (by rw [hks];rfl) rfl (by omega);dsimp only;rw [mF];exact this
end
end
end Go.Hb
namespace Go.Hb
open Go.Proofs
set_option maxHeartbeats 4000000
noncomputable section
mutual
theorem aIq (fs:List aC)(cs:List Con)(hc:cs.length<1000000)(hf:fs.length≤1000000) :∀ (t:Term) (env:List aC) (L:List ONode),bX t≤900→tsm t=true→hR t=true→env.length+1000*dX t≤900000→L.length+bX t≤1000000→PUS fs cs t env L (oW fs cs t env L.length)
 | .mk o n s ks ps,env,L,hz,hs,hF,he,hL=>by
  simp only [bX]at hz hL;simp only [dX]at he;have hkl:=lL ks;rw [tsm]at hs;simp only [Bool.and_eq_true,decide_eq_true_eq]at hs;obtain⟨⟨⟨_,hpl⟩,hsp⟩,hsk⟩ :=hs;rw [hR]at hF;simp only [Bool.and_eq_true]at hF;obtain⟨⟨hH,_⟩,hFk⟩ :=hF
  have hps:∀p∈ps,aQ p≤1000:=fun p hp=>by
   have:=List.all_eq_true.1 hsp p hp;simp only [jL,Bool.and_eq_true,decide_eq_true_eq]at this;omega
  have hPN:∀p∈ps,PNS fs cs L p:=fun p hp=>aIn fs cs L hc p (by have:=hps p hp;omega);have E :aSK fs cs L (aEO fs cs L o n s ks ps env) (oW fs cs (.mk o n s ks ps) env L.length) :=by
   rw [oW];have K:=aSL fs cs L o n s ks ps env (by omega) (fun h=>by have:=aGn hH h;omega) hps (by omega) (fun t ht e M h1 h2=>aLI fs cs hc hf ks (by omega) hsk hFk t ht e M (by omega) h2) (aLH fs cs env o n s) (oU cs ps) (by omega);refine LeadsM.ends ?_ K;have A:=fun v=>aIo fs cs L o n s ks ps env v hPN (by omega) (by omega) ps 0 [] rfl rfl;unfold aLH;by_cases h14:o=14
   · rw [if_pos h14];exact(bAt fs cs L o n s ks ps env _ (by simp [h14]) (by simp [h14]) (mL cs s hc)).trans (A _)
   · rw [if_neg h14];by_cases h4:o=4
     · rw [if_pos h4];have hp1:=aDk env s (by omega);by_cases hn:dR env s<0
       · rw [if_pos hn];exact(bAr fs cs L o n s ks ps env _ _ (by simp [h4]) hp1 (by simp [hn]) (aDk fs s hf) (by simp [h14])).trans (A _)
       · rw [if_neg hn];exact(bAs fs cs L o n s ks ps env _ (by simp [h4]) hp1 (by simp;omega) (by simp [h14])).trans (A _)
     · rw [if_neg h4];exact(bAu fs cs L o n s ks ps env (by simp [h4]) (by simp [h14])).trans (A _)
  exact⟨(aEO fs cs L o n s ks ps env).as.fr,by kernel_rfl,Eq.mp (by kernel_rfl) E⟩
theorem aLI (fs:List aC)(cs:List Con)(hc:cs.length<1000000)(hf:fs.length≤1000000) :∀ (ts:List Term),bO ts≤900→xZ ts=true→jM ts=true→∀t∈ts,∀ (env:List aC) (L:List ONode),env.length+1000*dK ts≤900000→L.length+bX t≤1000000→PUS fs cs t env L (oW fs cs t env L.length)
 | [],_,_,_,t,ht=>by cases ht
 | u::ts,hz,hs,hF,t,ht=>by
  simp only [bO]at hz;rw [xZ,Bool.and_eq_true]at hs;rw [jM,Bool.and_eq_true]at hF;rcases List.mem_cons.1 ht with e|ht
  ·rw [e];exact fun env L he hL=>aIq fs cs hc hf u env L (by omega) hs.1 hF.1 (by simp only [dK]at he;omega) hL
  ·exact fun env L he hL=>aLI fs cs hc hf ts (by omega) hs.2 hF.2 t ht env L (by simp only [dK]at he;omega) hL
end
abbrev qY (q:aC) :AObj:=.cells (putCells .leaf 0 [aA q]) 1 [] false
theorem bAD (fs:List aC)(cs:List Con)(o n:Int)(s:aC)(ks:List Term)(ps:List Pat)(q:aC) :
  LeadsM PP 1 (bF PP 52 [.ptr 0 0,Term.av (.mk o n s ks ps),.slice 1 0 1 1 1 true] [(0,BC fs cs,false),(1,qY q,false)] 2).as (aEK fs cs o n s ks ps [q]).as:=
 vN (n1:=2) (ks:=[]) (ps:=[getCells (putCells .leaf 0 [aA q]) 0 (1*1) =some [aA q],cP [aA q] =true,[aA q] =List.map aA [q],AV.keylessL (List.map aA [q]) =true,AV.frzOk 1 1 (List.map aA [q]) (List.map aA [q]) (.gl 1 1 0 (List.length [q]) false)])
  (is:=[.toL 2 false [aA q],.lset 1 (List.map aA [q]),.weak 2,.frz 2 1 (List.map aA [q])]) (by kernel_rfl) (by kernel_rfl) trivial ⟨rfl,rfl,rfl,rfl,qR _ _⟩
theorem bAE {fs:List aC}{cs:List Con}{t:Term}{q:aC}(h:KTS fs cs t [q]) :qQ PP 1 (.enter 52 [.ptr 0 0,Term.av t,.slice 1 0 1 1 1 true]) (aG [(0,BC fs cs,false),(1,qY q,false)] 2) (.ret (.bool (knT fs cs t [q]))) (aG [(0,BC fs cs,false)] 1) :=by
 obtain⟨o,n,s,ks,ps⟩ :=t;obtain⟨g,hg,he⟩ :=h;have e:some g=some (aEK fs cs o n s ks ps [q]).as.fr:=hg.symm.trans (by kernel_rfl);cases e;refine⟨(bF PP 52 [.ptr 0 0,Term.av (.mk o n s ks ps),.slice 1 0 1 1 1 true] [(0,BC fs cs,false),(1,qY q,false)] 2).as.fr,by kernel_rfl,?_⟩;have he2:Ends PP 1 (aEK fs cs o n s ks ps [q]).as (.ret (.bool (knT fs cs (.mk o n s ks ps) [q]))) (aG [(0,BC fs cs,false)] 1) :=Eq.mp (by kernel_rfl) he;exact Eq.mp (by kernel_rfl) ((bAD fs cs o n s ks ps q).ends he2)
theorem bAF (fs:List aC)(cs:List Con)(L:List ONode)(o n:Int)(s:aC)(ks:List Term)(ps:List Pat)(q:aC) :
  LeadsM PP 1 (bF PP 54 [.ptr 0 0,Term.av (.mk o n s ks ps),.slice 2 0 1 1 1 true] [(0,BHc fs cs 1 (List.length L),false),(1,OL L,true),(2,qY q,false)] 3).as (aEO fs cs L o n s ks ps [q]).as:=
 vN (n1:=3) (ks:=[1]) (ps:=[getCells (putCells .leaf 0 [aA q]) 0 (1*1) =some [aA q],cP [aA q] =true,[aA q] =List.map aA [q],AV.keylessL (List.map aA [q]) =true,AV.frzOk 2 1 (List.map aA [q]) (List.map aA [q]) (.gl 2 1 0 (List.length [q]) false)])
  (is:=[.toL 2 false [aA q],.lset 2 (List.map aA [q]),.weak 2,.frz 2 2 (List.map aA [q])]) (by kernel_rfl) (by kernel_rfl) ⟨oJ L,trivial⟩ ⟨rfl,rfl,rfl,rfl,qR _ _⟩
theorem bAG {fs:List aC}{cs:List Con}{t:Term}{q:aC}{L:List ONode}{ns:List Node}(h:PUS fs cs t [q] L ns) :qQ PP 1 (.enter 54 [.ptr 0 0,Term.av t,.slice 2 0 1 1 1 true]) (aG [(0,BHc fs cs 1 (List.length L),false),(1,OL L,true),(2,qY q,false)] 3) (.ret (.int .i64 ((List.length L:Nat) :Int))) (aG (BH fs cs (L++List.map Node.o ns)) 2) :=by
 obtain⟨o,n,s,ks,ps⟩ :=t;obtain⟨g,hg,he⟩ :=h;have e:some g=some (aEO fs cs L o n s ks ps [q]).as.fr:=hg.symm.trans (by kernel_rfl);cases e;refine⟨(bF PP 54 [.ptr 0 0,Term.av (.mk o n s ks ps),.slice 2 0 1 1 1 true] [(0,BHc fs cs 1 (List.length L),false),(1,OL L,true),(2,qY q,false)] 3).as.fr,by kernel_rfl,?_⟩;have he2:Ends PP 1 (aEO fs cs L o n s ks ps [q]).as (.ret (.int .i64 ((List.length L:Nat) :Int))) (aG (BH fs cs (L++List.map Node.o ns)) 2) :=Eq.mp (by kernel_rfl) he;exact Eq.mp (by kernel_rfl) ((bAF fs cs L o n s ks ps q).ends he2)
theorem aEQ {l:List ONode}{m:List Node}(h:l=List.map Node.o m) :List.map ONode.av l=List.map Node.av m:=by
 subst h;rw [List.map_map];rfl
end
end Go.Hb
namespace Go.Hb
open Go.Proofs
noncomputable section
open Go.Proofs Tryz
def aSM(a:Mod):TS:=bF PP 11 [(.agg [(aA a.name),(.ilst 2 (List.map DataD.av a.datas) false),(.ilst 15 (FunDs.av a.funs) false)])] [] 0
def aGv(a:Mod)(b:List aC)(c:List Con)(d:Int):TS:=⟨(tf 11 139 [kp 1 0,kp 2 1,(3,(nI 0)),kp 4 2,(5,(nI d))] [kc f11 500,kl f11 500,.inBlock 0,kc f11 63]),[],[oC 0 [(aA a.name),(.ilst 2 (List.map DataD.av a.datas) false),(.ilst 15 (FunDs.av a.funs) false)],oC 1 [.nils,.nils,(nI 0),.nils],oC 2 [(iS b),(iC c),.nils]],3⟩
def aDv(a:Mod)(e:List aC)(b:List Con)(f g:Int)(c:List ONode)(d:List Int):TS:=⟨(tf 11 139 [kp 1 0,kp 2 1,(3,(nI 0)),kp 4 2,kp 6 3,(7,(nI g))] [kc f11 2036,kl f11 2036,.inBlock 2,kc f11 255]),[],[oC 0 [(aA a.name),(.ilst 2 (List.map DataD.av a.datas) false),(.ilst 15 (FunDs.av a.funs) false)],oC 1 [.nils,.nils,(nI 0),.nils],oC 2 [(iS e),(iC b),(.gl 4 4 0 c.length false)],oC 3 [.nils,(.gl 5 1 0 d.length false),(nI f),(iC b)],oL 4 4 (List.map ONode.av c),oL 5 1 (jI d)],6⟩
def aSN(a:Mod)(e:List aC)(b:List Con)(f g:Int)(c:List ONode)(d:List Int):TS:=⟨(tf 11 139 [kp 1 0,kp 2 1,(3,(nI 0)),kp 4 2,kp 6 3,(7,(nI g))] [kc f11 32585,.inBlock 3,kc f11 8147,kl f11 2036,.inBlock 2,kc f11 255]),[],[oC 0 [(aA a.name),(.ilst 2 (List.map DataD.av a.datas) false),(.ilst 15 (FunDs.av a.funs) false)],oC 1 [.nils,.nils,(nI 0),.nils],oC 2 [(iS e),(iC b),(.gl 4 4 0 c.length false)],oC 3 [.nils,(.gl 5 1 0 d.length false),(nI f),(iC b)],oL 4 4 (List.map ONode.av c),oL 5 1 (jI d)],6⟩
def aA7(f:Mod)(a:List Node)(b:Int)(c:List Con)(d:Int)(e:List Int):TS:=⟨(tf 11 139 [kp 2 0,(3,(nI 0)),kp 6 1,(8,(nI d))] [kc f11 8180,kl f11 8180,.inBlock 4,kc f11 1023]),[],[oC 0 [.nils,.nils,(nI 0),.nils],oC 1 [(iN a),(iI e),(nI b),(iC c)]],2⟩
def aIr(a:Mod):=tT 0 (aSM a)<|dG 10 14 [(.agg [(aA a.name),(.ilst 2 (List.map DataD.av a.datas) false),(.ilst 15 (FunDs.av a.funs) false)])]<|fun e=>.b 2 11 (!e) (.i [rn 8,.cnilI 1 0 4] []<|.i [.cnilI 1 1 1] []<|.i [.cnilI 1 3 2] []<|gE 0 2 (.tup [(.agg [(.ilst 4 (jN ([] :List Node)) true),(.ilst 1 (jI ([] :List Int)) true),(nI 0),(.ilst 2 (jC ([] :List Con)) true)]),(nI 2)]))<|.y fun b:List aC=>.y fun c:List Con=>.i [rn 3,.reg (.d::.pure (iS b)::.d::.pure (iC c)::rd 3 [])] [hA (Pure PP 47 [(.agg [(aA a.name),(.ilst 2 (List.map DataD.av a.datas) false),(.ilst 15 (FunDs.av a.funs) false)])] (iS b)),hA (Pure PP 48 [(.agg [(aA a.name),(.ilst 2 (List.map DataD.av a.datas) false),(.ilst 15 (FunDs.av a.funs) false)])] (iC c)),hr (AV.agg [(aA a.name),(.ilst 2 (List.map DataD.av a.datas) false),(.ilst 15 (FunDs.av a.funs) false)]),hr (AV.agg [(aA a.name),(.ilst 2 (List.map DataD.av a.datas) false),(.ilst 15 (FunDs.av a.funs) false)])]<|dG 7 49 [(iS b)]<|fun f=>.b 2 25 (!f) (.i [rn 25,.cnilI 1 0 4] []<|.i [.cnilI 1 1 1] []<|.i [.cnilI 1 3 2] []<|gE 0 3 (.tup [(.agg [(.ilst 4 (jN ([] :List Node)) true),(.ilst 1 (jI ([] :List Int)) true),(nI 0),(.ilst 2 (jC ([] :List Con)) true)]),(nI 7)]))<|.y fun d:List aC=>gp 4 50 [(iC c)] (iS d)<|dG 0 49 [(iS d)]<|fun g=>.b 3 34 (!g) (.i [rn 16,.cnilI 1 0 4] []<|.i [.cnilI 1 1 1] []<|.i [.cnilI 1 3 2] []<|gE 0 3 (.tup [(.agg [(.ilst 4 (jN ([] :List Node)) true),(.ilst 1 (jI ([] :List Int)) true),(nI 0),(.ilst 2 (jC ([] :List Con)) true)]),(nI 7)]))<|dG 4 51 [(iS b),(.str 4 1852399981)]<|fun i=>.b 3 41 (!i) (.i [rn 8,.cnilI 1 0 4] []<|.i [.cnilI 1 1 1] []<|.i [.cnilI 1 3 2] []<|gE 0 3 (.tup [(.agg [(.ilst 4 (jN ([] :List Node)) true),(.ilst 1 (jI ([] :List Int)) true),(nI 0),(.ilst 2 (jC ([] :List Con)) true)]),(nI 7)]))<|.W 9 3 [0,1,2] (aGv a b c 0)
def bAH:=fun a b c d=>aIr a b c|>.t d tv
def bAI:=fun a b c d e f g i j k l=>aIr a b f|>.f g c d i j e k|>.t l tv
def bAJ:=fun a b c d e f g i j k l m n o p q=>aIr a b i|>.f j c d k l e m|>.f n f o g p|>.t q tv
def bAK:=fun a b c d e f g i j k l m n o p q r s t=>aIr a b j|>.f k c d l m e n|>.f o f p g q|>.f r i s|>.t t tv
def bAL:=fun a b c d e f g i j k l m n o p q r s t=>aIr a b j|>.f k c d l m e n|>.f o f p g q|>.f r i s|>.f t tv
def aSO(a:Mod)(d:List aC)(b:List Con)(c:Int):=tT 0 (aGv a d b c)<|gm 6 cD a.funs<|gd 2 47 (c< (a.funs.length:Int)) (.y fun l:aC=>.y fun e:aC=>.y fun m:Int=>.y fun n:Int=>.y fun o:aC=>.y fun p:List Typ=>.y fun q:Int=>.y fun r:Int=>.y fun s:aC=>.y fun t:List Typ=>.y fun f:Int=>.y fun g:Int=>.y fun i:aC=>.y fun j:List Term=>.y fun k:List Pat=>.y fun u:Bool=>.i [rn 5,.reg (rd 4 (.ans (.idx (FunD.av (FunD.mk l e (Typ.mk m n o p) (Typ.mk q r s t) (Term.mk f g i j k))))::rd 5 (.ans (.idx (FunD.av (FunD.mk l e (Typ.mk m n o p) (Typ.mk q r s t) (Term.mk f g i j k))))::rd 3 [.call (bV u) (aG [oC 0 [(aA a.name),(.ilst 2 (List.map DataD.av a.datas) false),(.ilst 15 (FunDs.av a.funs) false)],oC 1 [.nils,.nils,(nI 0),.nils],oC 2 [(iS d),(iC b),.nils]] 4),.d])))] [hA (0≤c),.a (((a.funs)[c.toNat]?) =some (FunD.mk l e (Typ.mk m n o p) (Typ.mk q r s t) (Term.mk f g i j k))) (cS cD),hA (0≤c),.a (((a.funs)[c.toNat]?) =some (FunD.mk l e (Typ.mk m n o p) (Typ.mk q r s t) (Term.mk f g i j k))) (cS cD),hA (Spec PP (.enter 52 [(.ptr 2 0),(.agg [(nI f),(nI g),(aA i),(.ilst 5 (Terms.av j) false),(iP k)]),(.slice 3 0 1 1 1 true)]) (aG [oC 0 [(aA a.name),(.ilst 2 (List.map DataD.av a.datas) false),(.ilst 15 (FunDs.av a.funs) false)],oC 1 [.nils,.nils,(nI 0),.nils],oC 2 [(iS d),(iC b),.nils],oC 3 [(aA e)]] 4) (.ret (bV u)) (aG [oC 0 [(aA a.name),(.ilst 2 (List.map DataD.av a.datas) false),(.ilst 15 (FunDs.av a.funs) false)],oC 1 [.nils,.nils,(nI 0),.nils],oC 2 [(iS d),(iC b),.nils]] 4))]<|.b 0 65 (!u) (.i [rn 8,.cnilI 1 0 4] []<|.i [.cnilI 1 1 1] []<|.i [.cnilI 1 3 2] []<|gE 0 4 (.tup [(.agg [(.ilst 4 (jN ([] :List Node)) true),(.ilst 1 (jI ([] :List Int)) true),(nI 0),(.ilst 2 (jC ([] :List Con)) true)]),(nI 7)]))<|gw 6 49 (c+1)<|.W 3 4 [0,1,2] (aGv a d b (c+1)))<|.y fun v:Int=>.i [rn 3,.reg (rd 4 (.pure (nI v)::rd 7 []))] [hA (Pure PP 53 [(iS d),(.str 4 1852399981)] (nI v)),hr (AV.ilst 2 (jC b) false),hr (AV.ilst 2 (jC b) false)]<|.i [rn 7,.cnil 2 2 4] []<|gu 0 4 (List.map ONode.av ([] :List ONode))<|gv 0 2 2 (.gl 4 4 0 ([] :List ONode).length false)<|.i [.cnil 3 1 1] []<|gu 0 5 (jI ([] :List Int))<|gv 0 3 1 (.gl 5 1 0 ([] :List Int).length false)<|.W 0 6 [0,1,2,3,4,5] (aDv a d b v 0 ([] :List ONode) ([] :List Int))
def bAM:=fun c d e f g i j k l m n o p q r s t u v w x a b y z=>aSO c d e f|>.t x g i j k l m n o p q r s t u v w a b a b y|>.t z tv
def bAN:=fun c d e f g i j k l m n o p q r s t u v w x a b y z A=>aSO c d e f|>.t x g i j k l m n o p q r s t u v w a b a b y|>.f z A tv
def bAO:=fun a b c d e f g=>aSO a b c d|>.f f e g ⟨(aL _ (fun _=>bH _) _),⟨kk,trivial⟩⟩
def bC3(d:Mod)(i:List aC)(e:List Con)(f g:Int)(a:List ONode)(b:List Int):=tT 0 (aDv d i e f g a b)<|gm 6 cD d.funs<|gd 2 81 (g< (d.funs.length:Int)) (.i [rn 5,.reg (rd 8 [.app (jI (b++ [(a.length:Int)])) (b++ [(a.length:Int)]).length,.d,.d])] [hb aO b,hA (List.length (b++ [(a.length:Int)]) ≤1000000),hc aO b [(a.length:Int)],he aO b [(a.length:Int)]]<|.W 0 8 [0,1,2,3,4,7] (aSN d i e f g a (b++ [(a.length:Int)])))<|.y fun c:List Node=>.i [rn 3,.lset 4 (jN c)] [.a (a=List.map Node.o c) (p':=(List.map ONode.av a) = (jN c)) aEQ]<|.i [.cset 2 2 (.gl 4 4 0 c.length false)] [.a (c.length=a.length) (p':=(AV.gl 4 4 0 a.length false) = (.gl 4 4 0 c.length false)) (fun h=>(gR h.symm))]<|gy 0 2 2 4 4 Node.av c false<|gy 0 3 1 5 1 aO b false<|.W 15 6 [1,3] (aA7 d c f e 0 b)
def bAP:=fun a b c d e f g i j=>bC3 a b c d e f g|>.t i j ⟨(aL _ (fun _=>bH _) _),⟨kk,trivial⟩⟩
def bAQ:=fun a b c d e f g i j k l=>bC3 a b c d e f g|>.f j i k l tv
def bAR (a:Mod)(w:List aC)(c:List Con)(x e:Int)(b:List ONode)(d:List Int):=fun n f o p q r s t u v g i j k l m y z A B=>(tT 0 (aSN a w c x e b d)<|.y fun n:aC=>.y fun f:aC=>.y fun o:Int=>.y fun p:Int=>.y fun q:aC=>.y fun r:List Typ=>.y fun s:Int=>.y fun t:Int=>.y fun u:aC=>.y fun v:List Typ=>.y fun g:Int=>.y fun i:Int=>.y fun j:aC=>.y fun k:List Term=>.y fun l:List Pat=>.y fun m:List Node=>.i [.reg (rd 4 (.ans (.idx (FunD.av (FunD.mk n f (Typ.mk o p q r) (Typ.mk s t u v) (Term.mk g i j k l))))::rd 5 (.ans (.idx (FunD.av (FunD.mk n f (Typ.mk o p q r) (Typ.mk s t u v) (Term.mk g i j k l))))::rd 3 [.call (nI (b.length:Int)) (aG [oC 0 [(aA a.name),(.ilst 2 (List.map DataD.av a.datas) false),(.ilst 15 (FunDs.av a.funs) false)],oC 1 [.nils,.nils,(nI 0),.nils],oC 2 [(iS w),(iC c),(.gl 7 4 0 (b++List.map Node.o m).length false)],oC 3 [.nils,(.gl 5 1 0 d.length false),(nI x),(iC c)],oL 5 1 (jI d),oL 7 4 (List.map ONode.av (b++List.map Node.o m))] 8)])))] [hA (0≤e),.a (((a.funs)[e.toNat]?) =some (FunD.mk n f (Typ.mk o p q r) (Typ.mk s t u v) (Term.mk g i j k l))) (cS cD),hA (0≤e),.a (((a.funs)[e.toNat]?) =some (FunD.mk n f (Typ.mk o p q r) (Typ.mk s t u v) (Term.mk g i j k l))) (cS cD),hA (Spec PP (.enter 54 [(.ptr 2 0),(.agg [(nI g),(nI i),(aA j),(.ilst 5 (Terms.av k) false),(iP l)]),(.slice 6 0 1 1 1 true)]) (aG [oC 0 [(aA a.name),(.ilst 2 (List.map DataD.av a.datas) false),(.ilst 15 (FunDs.av a.funs) false)],oC 1 [.nils,.nils,(nI 0),.nils],oC 2 [(iS w),(iC c),(.gl 4 4 0 b.length false)],oC 3 [.nils,(.gl 5 1 0 d.length false),(nI x),(iC c)],oL 4 4 (List.map ONode.av b),oL 5 1 (jI d),oC 6 [(aA f)]] 7) (.ret (nI (b.length:Int))) (aG [oC 0 [(aA a.name),(.ilst 2 (List.map DataD.av a.datas) false),(.ilst 15 (FunDs.av a.funs) false)],oC 1 [.nils,.nils,(nI 0),.nils],oC 2 [(iS w),(iC c),(.gl 7 4 0 (b++List.map Node.o m).length false)],oC 3 [.nils,(.gl 5 1 0 d.length false),(nI x),(iC c)],oL 5 1 (jI d),oL 7 4 (List.map ONode.av (b++List.map Node.o m))] 8))]<|gw 4 83 (e+1)<|.W 3 8 [0,1,2,3,7,5] (aDv a w c x (e+1) (b++List.map Node.o m) d)) n f o p q r s t u v g i j k l m y z y z A B ⟨(aL _ (fun _=>bH _) _),⟨kk,trivial⟩⟩
def aLJ(f:Mod)(a:List Node)(c:Int)(d:List Con)(b:Int)(e:List Int):=tT 0 (aA7 f a c d b e)<|gl 6 Node.av a<|gd 2 118 (b< (a.length:Int)) (gX Node.av 9 a b<|fun g=>.b 4 128 (g.op==4) (gi Node.av 3 a b g<|gd 5 136 (g.n≥30) (.i [rn 8,.cnilI 0 0 4] []<|.i [.cnilI 0 1 1] []<|.i [.cnilI 0 3 2] []<|gE 0 2 (.tup [(.agg [(.ilst 4 (jN ([] :List Node)) true),(.ilst 1 (jI ([] :List Int)) true),(nI 0),(.ilst 2 (jC ([] :List Con)) true)]),(nI 3)]))<|gw 6 120 (b+1)<|.W 3 2 [0,1] (aA7 f a c d (b+1) e))<|gw 15 120 (b+1)<|.W 3 2 [0,1] (aA7 f a c d (b+1) e))<|gE 9 2 (.tup [(.agg [(iN a),(iI e),(nI c),(iC d)]),(nI 0)])
def bAS:=fun c d e f g i j k a b l m=>aLJ c d e f g i|>.t k j a b|>.t l a b|>.t m tv
def bAT:=fun c d e f g i j k a b l m n=>aLJ c d e f g i|>.t k j a b|>.t l a b|>.f m n tv
def bAU:=fun a b c d e f g i j k l m=>aLJ a b c d e f|>.t i g j k|>.f l m tv
def bAV:=fun a b c d e f g=>aLJ a b c d e f|>.f g tv
end
end Go.Hb
namespace Go.Hb
open Go.Proofs
set_option maxHeartbeats 4000000
noncomputable section
def FunD.par :FunD→aC
 | .mk _ p _ _ _=>p
def FunD.bod :FunD→Term
 | .mk _ _ _ _ b=>b
def qZ (fs:List aC)(cs:List Con) :List FunD→Nat→List Int×List Node
 | [],_=> ([],[])
 |f::t,a=> (((a:Nat) :Int) :: (qZ fs cs t (a+ (oW fs cs f.bod [f.par] a).length)).1,oW fs cs f.bod [f.par] a++ (qZ fs cs t (a+ (oW fs cs f.bod [f.par] a).length)).2)
abbrev rA (m:Mod) :List aC:=m.funs.map FunD.nm
def knM (m:Mod)(l:List FunD) :Bool:=l.all fun f=>knT (rA m) (fA m) f.bod [f.par]
def okM (m:Mod) :Bool:=eK (rA m) &&eK ((fA m).map Con.name) &&eZ (rA m) jD&&knM m m.funs
def aAr (m:Mod) :Prog:= ⟨(qZ (rA m) (fA m) m.funs 0).2,(qZ (rA m) (fA m) m.funs 0).1,dR (rA m) jD,fA m⟩
def ZPr :Prog:= ⟨[],[],0,[]⟩
def nA (l:List Node) :Bool:=l.any fun x=>decide (x.op=4) &&decide (30≤x.n)
def aAs (m:Mod) :Prog×Int:=
 if sT m=true then(if okM m=true then(if nA (aAr m).nodes=true then(ZPr,3)else(aAr m,0))else(ZPr,7))else(ZPr,2)
abbrev ZPA :AV:=.agg [.ilst 4 (List.map Node.av ([] :List Node)) true,.ilst 1 (List.map aO ([] :List Int)) true,.int .i64 0,.ilst 2 (List.map Con.av ([] :List Con)) true]
theorem bFK {E:Emb}{x:AV}{cv:Value}(h:VR E (.tup [ZPA,x]) cv) :VR E (.tup [Prog.av ZPr,x]) cv:=by
 rw [VR]at h;obtain⟨us,rfl,h⟩ :=h;obtain⟨u,us1,rfl,g1,g2⟩ :=h.cons_inv;rw [VR];refine⟨_,rfl,VRs.cons ?_ g2⟩;rw [VR]at g1;obtain⟨bs,rfl,g1⟩ :=g1;obtain⟨a0,bs,rfl,k0,g1⟩ :=g1.cons_inv;obtain⟨a1,bs,rfl,k1,g1⟩ :=g1.cons_inv;obtain⟨a2,bs,rfl,k2,g1⟩ :=g1.cons_inv;obtain⟨a3,bs,rfl,k3,g1⟩ :=g1.cons_inv;show VR E (.agg [.ilst 4 (List.map Node.av ([] :List Node)) false,.ilst 1 (List.map aO ([] :List Int)) false,.int .i64 0,.ilst 2 (List.map Con.av ([] :List Con)) false]) _;rw [VR];exact⟨_,rfl,VRs.cons (yG k0) (VRs.cons (yG k1) (VRs.cons k2 (VRs.cons (yG k3) g1)))⟩
def aAt (s:TS)(r:Prog×Int) :Prop:=Ends PP 0 s.as (.ret (.tup [Prog.av r.1,.int .i64 r.2])) (aG [] 0)
theorem wV {s:TS}{e:Int}(h:Ends PP 0 s.as (.ret (.tup [ZPA,.int .i64 e])) (aG [] 0)) :aAt s (ZPr,e) :=Ends.val h (fun _ _=>bFK)
section
variable (m :Mod) (fs:List aC) (cs:List Con)
theorem aIs (nl:List Node)(v:Int)(l:List Int)(hl:nl.length≤1000000) :∀ (t:List Node) (i:Nat),nl.drop i=t →
  aAt (aA7 m nl v cs (i:Int) l) (if nA t=true then(ZPr,3)else(⟨nl,l,v,cs⟩,0))
 | [],i,h=>by
  have:=bA h;exact bAV m nl v cs i l sd
 | x ::t,i,h=>by
  obtain⟨g1,g2,g3⟩ :=aZ h;have ih:=aIs nl v l hl t (i+1) g2;by_cases h4:x.op=4
  · by_cases hn:30≤x.n
    · have e:nA (x::t) =true:=by simp [nA,h4,hn]
      rw [if_pos e];exact wV (bAS m nl v cs i l x sd sd sd (by simp [h4]) (by simp;omega))
    · have e:nA (x::t) =nA t:=by simp [nA,hn]
      rw [e];exact LeadsM.ends (bAT m nl v cs i l x sd sd sd (by simp [h4]) (by simp;omega) sd) ih
  · have e:nA (x::t) =nA t:=by simp [nA,h4]
    rw [e];exact LeadsM.ends (bAU m nl v cs i l x sd sd sd (by simp [h4]) sd) ih
abbrev aBG :AObj:=.cells (putCells .leaf 0 [aA m.name,.ilst 2 (List.map DataD.av m.datas) false,.ilst 15 (FunDs.av m.funs) false]) 3 [] false
abbrev sU :AObj:=.cells (putCells .leaf 0 [.nils,.nils,.int .i64 0,.nils]) 4 [] false
abbrev bC4 (cs:List Con)(v:Int)(n:Nat) :AObj:=.cells (putCells .leaf 0 [.nils,.gl 5 1 0 n false,.int .i64 v,.ilst 2 (List.map Con.av cs) false]) 4 [] false
theorem aLK (v:Int)(hf:m.funs.length≤1000)(hp:∀f∈m.funs,∀L:List ONode,L.length≤900000→PUS fs cs f.bod [f.par] L (oW fs cs f.bod [f.par] L.length))(hz:∀f∈m.funs,bX f.bod≤900){r:Prog×Int}:∀ (t:List FunD) (i:Nat) (L:List Node) (l:List Int),m.funs.drop i=t→L.length≤900*i→l.length=i →
  aAt (aA7 m (L++ (qZ fs cs t L.length).2) v cs 0 (l++ (qZ fs cs t L.length).1)) r→aAt (aDv m fs cs v (i:Int) (List.map Node.o L) l) r
 | [],i,L,l,h,hL,hl,hk=>by
  have:=bA h;rw [qZ,List.append_nil,List.append_nil]at hk;exact LeadsM.ends (bAQ m fs cs v i (List.map Node.o L) l L sd rfl (by simp)) hk
 | f::t,i,L,l,h,hL,hl,hk=>by
  obtain⟨g1,g2,g3⟩ :=aZ h;have hi:= (List.getElem?_eq_some_iff.1 g1).1;have hm:=List.mem_of_getElem? g1;have hps:=hp f hm (List.map Node.o L) (by simp;omega);have hzz:=hz f hm;obtain⟨nm,par,⟨f0,f1,f2,f3⟩,⟨k0,k1,k2,k3⟩,⟨b0,b1,b2,b3,b4⟩⟩ :=f;simp only [FunD.bod,FunD.par,List.length_map]at hps hzz;rw [qZ]at hk;simp only [FunD.bod,FunD.par]at hk;have hns:=qX fs cs (.mk b0 b1 b2 b3 b4) [par] L.length;generalize oW fs cs (.mk b0 b1 b2 b3 b4) [par] L.length=ns at hps hk hns;have hs:=bAG hps
  have hs':=fE (m:=1) (ks:=[2,4,6]) (n2:=7) (n3:=8) (v':=.int .i64 ((List.length (List.map Node.o L) :Nat) :Int)) (args':=[.ptr 2 0,Term.av (.mk b0 b1 b2 b3 b4),.slice 6 0 1 1 1 true])
   (lc:=[(0,aBG m,false),(1,sU,false),(2,BHc fs cs 4 (List.length (List.map Node.o L)),false),(3,bC4 cs v (List.length (l++ [((List.length (List.map Node.o L) :Nat) :Int)])),false),(4,OL (List.map Node.o L),true),(5,.lst 1 (List.map aO (l++ [((List.length (List.map Node.o L) :Nat) :Int)])),true),(6,qY par,false)])
   (lc':=[(0,aBG m,false),(1,sU,false),(2,BHc fs cs 7 (List.length (List.map Node.o L++List.map Node.o ns)),false),(3,bC4 cs v (List.length (l++ [((List.length (List.map Node.o L) :Nat) :Int)])),false),(5,.lst 1 (List.map aO (l++ [((List.length (List.map Node.o L) :Nat) :Int)])),true),(7,OL (List.map Node.o L++List.map Node.o ns),true)])
   hs (by rfl) (by rfl) (by kernel_rfl) (by rfl) (by rfl) (by kernel_rfl) (by kernel_rfl) ⟨oJ _,trivial⟩ (by kernel_rfl) ⟨oJ _,trivial⟩ (by kernel_rfl) (by kernel_rfl) (by kernel_rfl) (by kernel_rfl) (by kernel_rfl) (by kernel_rfl) (by kernel_rfl)
  have h0:=bAP m fs cs v i (List.map Node.o L) l sd (by simp;omega);have h1:=bAR m fs cs v i (List.map Node.o L) (l++ [((List.length (List.map Node.o L) :Nat) :Int)]) nm par f0 f1 f2 f3 k0 k1 k2 k3 b0 b1 b2 b3 b4 ns sd sd hs' sd;refine LeadsM.ends (h0.trans h1) ?_;rw [←List.map_append,List.length_map];have:=aLK v hf hp hz (r:=r) t (i+1) (L++ns) (l++ [((L.length:Nat) :Int)]) g2 (by simp;omega) (by simp [hl]) (by rw [List.length_append];simpa using hk);exact this
theorem aSP (hf:m.funs.length≤1000)(hp:∀f∈m.funs,KTS fs cs f.bod [f.par])(hfs:fs.length≤1000000){r:Prog×Int}:∀ (t:List FunD) (i:Nat),m.funs.drop i=t →
  ((t.all fun f=>knT fs cs f.bod [f.par]) =true→aAt (aDv m fs cs (dR fs jD) 0 [] []) r) → ((t.all fun f=>knT fs cs f.bod [f.par]) =false→r= (ZPr,7)) →aAt (aGv m fs cs (i:Int)) r
 | [],i,h,h1,_=>by
  have:=bA h;exact LeadsM.ends (bAO m fs cs i _ sd (aDk fs jD hfs)) (h1 rfl)
 | f::t,i,h,h1,h2=>by
  obtain⟨g1,g2,g3⟩ :=aZ h;have hi:= (List.getElem?_eq_some_iff.1 g1).1;have hps:=hp f (List.mem_of_getElem? g1);obtain⟨nm,par,⟨f0,f1,f2,f3⟩,⟨k0,k1,k2,k3⟩,⟨b0,b1,b2,b3,b4⟩⟩ :=f;simp only [FunD.bod,FunD.par]at hps;rw [List.all_cons]at h1 h2;simp only [FunD.bod,FunD.par]at h1 h2;have hs:=bAE hps;generalize knT fs cs (.mk b0 b1 b2 b3 b4) [par] =kb at hs h1 h2
  have hs':=fE (m:=1) (ks:=[2,3]) (n2:=4) (n3:=4) (v':=.bool kb) (args':=[.ptr 2 0,Term.av (.mk b0 b1 b2 b3 b4),.slice 3 0 1 1 1 true])
   (lc:=[(0,aBG m,false),(1,sU,false),(2,BC fs cs,false),(3,qY par,false)])
   (lc':=[(0,aBG m,false),(1,sU,false),(2,BC fs cs,false)])
   hs (by rfl) (by rfl) (by kernel_rfl) (by rfl) (by rfl) (by kernel_rfl) (by kernel_rfl) trivial (by kernel_rfl) trivial (by kernel_rfl) (by kernel_rfl) (by kernel_rfl) (by kernel_rfl) (by kernel_rfl) (by kernel_rfl) (by kernel_rfl)
  cases kb with
  | false=>
   rw [h2 rfl];exact wV (bAM m fs cs i nm par f0 f1 f2 f3 k0 k1 k2 k3 b0 b1 b2 b3 b4 false sd sd sd hs' rfl)
  | true=>
   rw [Bool.true_and]at h1 h2;exact LeadsM.ends (bAN m fs cs i nm par f0 f1 f2 f3 k0 k1 k2 k3 b0 b1 b2 b3 b4 true sd sd sd hs' rfl sd) (aSP hf hp hfs t (i+1) g2 h1 h2)
end
end
end Go.Hb
