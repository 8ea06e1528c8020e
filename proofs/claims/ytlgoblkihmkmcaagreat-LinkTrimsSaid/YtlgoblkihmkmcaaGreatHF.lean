/- A machine on abstract values, its soundness, ways, plain laws. -/
import Derived.Test.YtlgoblkihmkmcaaGreatHD
import Derived.Test.YtlgoblkihmkmcaaGreatHE
import Derived.KernelRfl
import Derived.Test.YtlgoblkihmkmcaaGreatProg
import Derived.WalkKit
import Derived.OpenShut
import Derived.ChangeArms
set_option linter.defProp false
set_option linter.unusedVariables false
set_option linter.unusedSimpArgs false
set_option linter.unusedSectionVars false
set_option maxRecDepth 100000
namespace Go.Hb
open AV (frzOk int keyless keylessL ren renL)
open Bool (and_eq_true)
open List (drop getElem?_eq_getElem getElem_mem length length_cons length_map map_cons mem_cons_of_mem mem_cons_self range range' replicate set take)
open Nat (beq ble ble_eq blt div le_refl lt_or_ge mod pow sub_zero zero_add zero_le)
open Option (getD_none getD_some)
open Go.Proofs Tryz
noncomputable section
section
variable {P :Program}
def aPq (P:Program)(s:AS) :Option (List (AV×Bool) ×Hp) :=
 match s.fr.mode,s.fr.defers,s.cs,P.funcs[s.fr.fn]? with
 | .pan ch,[],[],some _=>some (ch,s.h)
 |_,_,_,_=>none
theorem aMv {m:Nat}{s:AS}{ch:List (AV×Bool)}{h':Hp}(h0:aPq P s=some (ch,h')) :Ends P m s (.pan ch) h':=fun hm E fr ccs w f fs r cl base=>by
 unfold aPq at h0;split at h0
 · rename_i ch' fd hmo hd hcs hfn;cases h0;have fm:=f.mode;rw [hmo]at fm;simp only [MR]at fm;obtain⟨ps,fm,hcr⟩ :=fm;have fdd:=f.defers;rw [hd]at fdd;rw [hcs]at fs;rw [fs.nil_inv];exact⟨_,w,E,.one (qC fm fdd.nil_inv (by rw [f.fn];exact hfn)),⟨ps,rfl,hcr⟩,r,ExtM.refl hm⟩
 ·cases h0
def aRK (τ:Nat→Nat)(ch:List (AV×Bool)) :List (AV×Bool) :=ch.map fun p=> (ren τ p.1,p.2)
def start (P:Program)(f:Nat)(args:List AV) :TS:=
 match P.funcs[f]? with
 | some fn=>match fn.body with
  |some c=> ⟨⟨f,max fn.ntmps args.length,(range args.length).zip args,[.code c],[],.run,.normal,none⟩,[],[],0⟩
  |none=> ⟨⟨f,0,[],[],[],.run,.normal,none⟩,[],[],0⟩
 |none=> ⟨⟨f,0,[],[],[],.run,.normal,none⟩,[],[],0⟩
theorem aF0 {E:Emb}{h:Hp}{w:World}(r:Rel E h w.heap) :Rel E.p ⟨.leaf,0⟩ w.heap:=
 ⟨fun b o e=>by simp [Hp.look,T.at_leaf]at e,fun b b' o o' L L' e=>by simp [Hp.look,T.at_leaf]at e,fun _ _=>rfl,r.imm,fun b o L e=>by simp [Hp.look,T.at_leaf]at e,fun b o e=>by simp [Hp.look,T.at_leaf]at e⟩
theorem aMw :aD [] 0= ⟨.leaf,0⟩ :=rfl
theorem aCm {args:List AV}{k:Nat}{v:AV}(h: (k,v) ∈ (range args.length).zip args) :args[k]?=some v:=by
 obtain⟨i,hi⟩ :=List.mem_iff_getElem?.1 h;rw [List.getElem?_zip_eq_some]at hi;obtain⟨h1,h2⟩ :=hi;obtain⟨hlt,he⟩ :=List.getElem?_eq_some_iff.1 h1;rw [List.getElem_range]at he;subst he;exact h2
theorem aF1 {E E':Emb}{h:Hp}{w w':World}(r:Rel E h w.heap)(r':Rel E' ⟨.leaf,0⟩ w'.heap)(x:ExtM 0 E.p ⟨.leaf,0⟩ w E' ⟨.leaf,0⟩ w') :
  Rel ⟨E.loc,E'.imm⟩ h w'.heap∧ExtM h.nb E h w ⟨E.loc,E'.imm⟩ h w':=by
 have hno:∀ {b o},¬ (⟨.leaf,0⟩ :Hp).look b=some o:=fun {b o} e=>by simp [Hp.look,T.at_leaf]at e
 have keep:∀i,i<w.heap.size→w'.heap[i]?=w.heap[i]?:=fun i hi=>x.keep i hi (fun b o L e=>absurd e hno);have hle:E.le ⟨E.loc,E'.imm⟩ := ⟨fun _ _ e=>e,x.imm⟩
 have immo:∀k C,E'.imm k=some C→k<w.heap.size→E.imm k=some C:=fun k C e hk=>by
  rcases x.immo k C e hk with g| ⟨b,o,L,g,_⟩
  ·exact g
  ·exact absurd g hno
 refine⟨⟨fun b o e=>?_,r.kin,r.fresh,r'.imm,fun b o L e k=>?_,r.keys⟩,⟨fun _ _=>rfl,x.imm,x.size,fun i hi _=>keep i hi,fun b o L e k _=> ⟨b,o,L,e,k,rfl⟩,le_refl _,x.os,x.tape,x.output,x.froz,fun k C e hk=>.inl (immo k C e hk),fun b o e _=> ⟨o,e⟩⟩⟩
 · rcases r.obj0 b o e with u| ⟨L,g1,g2⟩
   ·exact .inl u
   ·exact .inr ⟨L,g1,(g2.mono hle).heap (keep _ g2.lt)⟩
 · cases hi:E'.imm L.blk with
   |none=>rfl
   | some C=>
    have:=immo _ C hi (r.lt e k);rw [r.apart b o L e k]at this;cases this
theorem pure_of {f : Nat} {args : List AV} {v : AV} {fn:Func}{c:Code}(hf:P.funcs[f]?=some fn)(hc:fn.body=some c)(hk:keylessL args=true)(hv:keyless v=true)(he:Ends P 0 (start P f args).as (.ret v) (aD [] 0)) :Pure P f args v:=fun h=>by
 have hg:eD P h (.enter f args) =some ⟨f,dB .leaf 0 args,max fn.ntmps args.length,[.code c],[],.run,.normal,none⟩ :=by simp [eD,cJ,hf,hc]
 refine⟨_,hg,fun hm E fr ccs w fr' fs r cl base=>?_⟩;simp only at fs;rw [fs.nil_inv];have f1:FR E.p (start P f args).as.fr fr:=by
  have e1: (start P f args).as.fr= ⟨f,mkT ((range args.length).zip args),max fn.ntmps args.length,[.code c],[],.run,.normal,none⟩ :=by simp [start,hf,hc,TS.as,TF.fr]
  rw [e1];refine⟨fr'.fn,⟨fr'.tm.1,fun t a e=>?_⟩,?_,?_,fr'.mode,fr'.kind,?_⟩
  · have h1:=aCm (yQ e);have hlt:= (List.getElem?_eq_some_iff.1 h1).1;have h2: (dB .leaf 0 args).at t=some a:=by
     unfold dB;rw [cD,if_pos hlt];exact h1
    obtain⟨cv,g1,g2⟩ :=fr'.tm.2 t a h2;exact⟨cv,g1,eG (keylessL_mem.1 hk a (List.mem_of_getElem? h1)) g2⟩
  · have:=fr'.todo;simpa [IRs,IR]using this
  · have:=fr'.defers;simpa [DRs]using this
  · have:=fr'.round;simpa [RR]using this
 have e2 : (start P f args).as.cs = [] := by unfold start;split; · split<;>rfl
                                             ·rfl
 have e3 : (start P f args).as.h = ⟨.leaf, 0⟩ := by unfold start;split; · split<;>rfl
                                                    ·rfl
 obtain⟨cl',w',E',g1,⟨cv,rfl,g2⟩,g3,g4⟩ :=he (zero_le _) E.p fr [] w f1 (by rw [e2];rfl) (by rw [e3];exact aF0 r) cl base;rw [e3]at g4;obtain⟨q1,q2⟩ :=aF1 r g3 g4;exact⟨_,w',_,g1,⟨cv,rfl,VR.of_p (E:= ⟨E.loc,E'.imm⟩) (show VR (Emb.p ⟨E.loc,E'.imm⟩) v cv from eG (E:=E') hv g2)⟩,q1,q2⟩
def cQ (P:Program)(f:Nat)(args:List AV)(hp:List (Nat×AObj×Bool))(nb:Nat) :TS:={(start P f args)with hp:=hp,nb:=nb}
def sE :List (Nat×AObj×Bool) →List (Option AObj)
 | [] =>[]
 |p::r=>some p.2.1::sE r
theorem lY {l:List (Nat×AObj×Bool)}{nb b:Nat}{o:AObj}(e: (aD l nb).look b=some o) :∃f,(b,o,f) ∈l:=by
 have: (b,o) ∈l.map fun p=> (p.1,p.2.1) :=yQ e;obtain⟨⟨pb,po,pf⟩,hp,hpe⟩ :=List.mem_map.1 this;cases hpe;exact⟨pf,hp⟩
theorem yS {o:AObj}(h:o.kl) :dD o= [] :=by cases o<;>first|rfl|exact h.elim
def aFc (nb nb':Nat) :List (Nat×AObj×Bool) →Bool
 | [] =>true
 |p::r=>ble nb p.1&&blt p.1 nb'&&p.2.2&&aFc nb nb' r
theorem aEt {nb nb':Nat}:∀ {l:List (Nat×AObj×Bool)},aFc nb nb' l=true→∀p∈l,nb≤p.1∧p.1<nb'∧p.2.2=true
 | q::r,h,p,hp=>by
  simp only [aFc,and_eq_true,dC,jH,decide_eq_true_eq]at h;rcases List.mem_cons.1 hp with rfl|hp
  ·exact⟨h.1.1.1,h.1.1.2,h.1.2⟩
  ·exact aEt h.2 p hp
def aVh (n2:Nat)(l:List (Nat×AObj×Bool)) :List (Nat×AObj×Bool) :=l.map fun p=> (p.1+n2,p.2.1,p.2.2)
def aCn (ks:List Nat) :List (Nat×AObj×Bool) →Bool
 | [] =>true
 |p::r=> !(xK p.1 ks) &&aCn ks r
theorem aCo {ks:List Nat}:∀ {l:List (Nat×AObj×Bool)},aCn ks l=true→∀p∈l,p.1∉ks
 | q ::r,h,p,hp=>by
  simp only [aCn,and_eq_true,Bool.not_eq_true']at h;rcases List.mem_cons.1 hp with rfl|hp
  · intro hm;rw [(yR _ _).2 hm]at h;cases h.1
  ·exact aCo h.2 p hp
theorem aDq {τ:Nat→Nat}{h h':Hp}{f:Nat}{args args':List AV}{g:AFrame}(hg:eD P h (.enter f args) =some g)(ha:renL τ args=args') :
  ∃g',eD P h' (.enter f args') =some g'∧∀ {E:Emb} {fr:Frame},FR E g' fr→FR (E.ren τ) g fr:=by
 have hlen:∀ (l:List AV),(renL τ l).length=l.length:=by
  intro l
  induction l with
  |nil=>rfl
  |cons x l ih=>simp [renL,ih]
 have hget:∀ (l:List AV) (i:Nat) (x:AV),l[i]?=some x→ (renL τ l)[i]?=some (ren τ x) :=by
  intro l
  induction l with
  |nil=>intro i x hx;simp at hx
  | cons y l ih=>
   intro i x hx;cases i with
   |zero=>simp at hx;subst hx;simp [renL]
   |succ i=>simp only [renL,List.getElem?_cons_succ]at hx ⊢;exact ih i x hx
 subst ha;simp only [eD,cJ]at hg ⊢;split at hg
 · rename_i fn hfn;split at hg
   · rename_i c hc;cases hg;refine⟨_,rfl,fun {E fr} fr'=>?_⟩;refine⟨fr'.fn,⟨by have:=fr'.tm.1;rw [hlen]at this;exact this,fun t a e=>?_⟩,?_,?_,fr'.mode,fr'.kind,?_⟩
     · have ht:t<args.length∧args[t]?=some a:=by
        have e': (dB .leaf 0 args).at t=some a:=e;unfold dB at e';rw [cD]at e';split at e'
        ·rename_i hlt;exact⟨hlt,e'⟩
        ·cases e'
       obtain⟨cv,g1,g2⟩ :=fr'.tm.2 t (ren τ a) (by
        show(dB .leaf 0 (renL τ args)).at t=_;unfold dB;rw [cD,if_pos (by rw [hlen];exact ht.1)];exact hget args t a ht.2)
       exact⟨cv,g1,(fO τ E a cv).1 g2⟩
     ·have:=fr'.todo;simpa [IRs,IR]using this
     ·have:=fr'.defers;simpa [DRs]using this
     ·have:=fr'.round;simpa [RR]using this
   ·cases hg
 ·cases hg
def aCp (P:Program)(c:AIn)(h:Hp)(res:Res)(h':Hp) :Prop:=∃g,eD P h c=some g∧Ends P 0 ⟨g,[],h⟩ res h'
theorem aCq {f:Nat}{args args':List AV}{v:AV}{l l' lc x:List (Nat×AObj×Bool)}{nb nb' n2:Nat}{ks:List Nat}
  (h0:aCp P (.enter f args) (aD l nb) (.ret v) (aD l' nb')) (hargs:renL (eY 0 nb n2 ks) args=args')
  (hin:dR 0 ⟨⟨0,0,[],[],[],.run,.normal,none⟩,[],l,nb⟩ ks=true) (hl:uZ (aD lc n2) (eY 0 nb n2 ks) l=jQ (eY 0 nb n2 ks) l) (hkl:jR l)
  (hx:iE n2 lc=true) (hxs:sE x= (x.map fun p=> (aD lc n2).look p.1)) (hxk:aCn ks x=true)
  (hnew:aFc 0 nb' l'=true) (hkl':jR l') (hll:sE l'= (l'.map fun p=> (aD l' nb').look p.1)) :
  Spec P (.enter f args') (aD lc n2) (.ret (ren (fun b=>b+n2) v)) (aD (aVh n2 l'++x) (nb'+n2)) :=by
 obtain⟨g,hg,he⟩ :=h0;obtain⟨g',hg',hfr⟩ :=aDq (h':=aD lc n2) hg hargs;refine⟨g',hg',?_⟩;intro _ E fr ccs w fr' fs r cl base;have allH_get:∀ {k:Hp} {l:List (Nat×AObj×Bool)},sE l= (l.map fun p=>k.look p.1) →∀p∈l,k.look p.1=some p.2.1:=by
  intro k l
  induction l with
  |nil=>intro _ p hp;cases hp
  | cons q l ih=>
   intro h p hp;simp only [sE,map_cons,List.cons.injEq]at h;rcases List.mem_cons.1 hp with rfl|hp
   ·exact h.1.symm
   ·exact ih h.2 p hp
 have hlenks:ks.length=nb:=by
  simp only [dR,and_eq_true]at hin;have:=Nat.eq_of_beq_eq_true hin.1.1.1.2;simpa using this
 have hkeys:∀ {b o},(aD l nb).look b=some o→b<nb∧eY 0 nb n2 ks b∈ks∧∃o1,(aD lc n2).look (eY 0 nb n2 ks b) =some o1:=fun {b o} e=>by
  obtain⟨fl,hm⟩ :=lY e;have hb:b<nb:=by
   simp only [dR,and_eq_true]at hin;exact(dK hin.2 _ hm).1
  refine⟨hb,?_,_,mR hl _ hm⟩;rw [rK (zero_le b) hb];rw [sub_zero,List.getD_eq_getElem?_getD,getElem?_eq_getElem (by omega)];exact getElem_mem ..
 have nool:∀ {b o},(aD lc n2).look b=some o→b<n2∧dD o= [] :=fun {b o} e=>by
  obtain⟨fl,hm⟩ :=lY e;exact dK hx _ hm
 have apart:∀ {b b' o o' L L'},(aD lc n2).look b=some o→ (aD lc n2).look b'=some o'→E b=some L→E b'=some L'→b≠b'→L.blk≠L'.blk:=fun {b b' o o' L L'} e e' k k' hne hbl=>by
  have:=r.kin b b' o o' L L' e e' k k' hbl hne;unfold Kin at this;rw [(nool e).2,(nool e').2]at this;rcases this with⟨g,_⟩ | ⟨g,_⟩ <;>simp at g
 obtain⟨rL,_⟩ :=nV (h:=aD lc n2) hin hl hkl r;have frL:=hfr fr';rw [fs.nil_inv];obtain⟨cl',w',EL,s1,⟨cv,rfl,g2⟩,r2,x2⟩ :=he (zero_le _) (E.ren (eY 0 nb n2 ks)) fr [] w frL rfl rL cl base
 let E':Emb:= ⟨fun b=>if b<n2 then E b else EL (b-n2),EL.imm⟩
 have e1:∀ {b},b<n2→E' b=E b:=fun {b} hb=>if_pos hb;have e2:∀ {b},n2≤b→E' b=EL (b-n2) :=fun {b} hb=>if_neg (by omega);have hEE:E.le E':= ⟨fun b L e=>by rw [e1 (r.nb_gt e)];exact e,fun k C e=>x2.imm k C e⟩;have hsig:EL.le (E'.ren (fun b=>b+n2)) :=by
  refine⟨fun b L e=>?_,fun _ _ e=>e⟩;show E' (b+n2) =some L;rw [e2 (by omega),show b+n2-n2=b by omega];exact e
 have hlook:∀ {b o},(aD (aVh n2 l'++x) (nb'+n2)).look b=some o→ (n2≤b∧b<nb'+n2∧ (aD l' nb').look (b-n2) =some o∧o.kl) ∨ (b∉ks∧b<n2∧ (aD lc n2).look b=some o) :=fun {b o} e=>by
  obtain⟨fl,hm⟩ :=lY e;rcases List.mem_append.1 hm with hm|hm
  · obtain⟨⟨pb,po,pf⟩,hp,hpe⟩ :=List.mem_map.1 hm;cases hpe;obtain⟨q1,q2,q3⟩ :=aEt hnew _ hp;simp only at q1 q2 q3;subst q3;refine .inl ⟨by omega,by omega,?_,lI hkl' pb po hp⟩;rw [show pb+n2-n2=pb by omega];exact allH_get hll _ hp
  · have q:=allH_get hxs _ hm;exact .inr ⟨aCo hxk _ hm,(nool q).1,q⟩
 have away:∀ {b o L},b∉ks→ (aD lc n2).look b=some o→E b=some L→∀b1 o1 L1,(aD l nb).look b1=some o1→ (E.ren (eY 0 nb n2 ks)) b1=some L1→L1.blk≠L.blk:=fun {b o L} hb e k b1 o1 L1 e1' k1=>by
  obtain⟨_,hin1,o2,e2'⟩ :=hkeys e1';exact apart e2' e k1 k (fun h=>hb (h ▸ hin1))
 have mixed:∀ {b b' o o' L L'},b'∉ks→ (aD l' nb').look (b-n2) =some o→ (aD lc n2).look b'=some o'→EL (b-n2) =some L→E b'=some L'→L.blk≠L'.blk:=fun {b b' o o' L L'} h2 e e' k k' hbl=>by
  have hlt:L.blk<w.heap.size:=by rw [hbl];exact r.lt e' k'
  obtain⟨b1,o1,L1,a1,a2,a3⟩ :=x2.own _ o L e k hlt;exact away h2 e' k' b1 o1 L1 a1 a2 (a3.trans hbl)
 have hnb2: (aD lc n2).nb=n2:=rfl
 refine⟨_,w',E',s1,⟨cv,rfl,(fO _ E' v cv).2 (g2.mono hsig)⟩,⟨fun b o e=>?_,fun b b' o o' L L' e e' k k' hbl hne=>?_,fun b hb=>?_,r2.imm,fun b o L e k=>?_,fun b o e=>?_⟩,
  ⟨fun b hb=>e1 hb,hEE.2,x2.size,fun i hi hn=>?_,fun b' o' L' e k hlt=>?_,?_,x2.os,x2.tape,x2.output,x2.froz,fun k C e hk=>?_,fun b o e hb=>?_⟩⟩
 · rcases hlook e with⟨q1,q2,q3,q4⟩ | ⟨q1,q2,q3⟩
   · rcases r2.obj0 _ o q3 with⟨u1,u2⟩ | ⟨L,k1,k2⟩
     ·exact .inl ⟨u1,by rw [e2 q1];exact u2⟩
     ·exact .inr ⟨L,by rw [e2 q1];exact k1,aRF (E:=EL) (E':=E') rfl q4 k2⟩
   · rcases r.obj0 b o q3 with⟨u1,u2⟩ | ⟨L,k1,k2⟩
     ·exact .inl ⟨u1,by rw [e1 q2];exact u2⟩
     ·exact .inr ⟨L,by rw [e1 q2];exact k1,(k2.mono hEE).heap (x2.keep _ k2.lt (away q1 q3 k1))⟩
 · rcases hlook e with⟨q1,q2,q3,q4⟩ | ⟨q1,q2,q3⟩
   · rw [e2 q1]at k;rcases hlook e' with⟨p1,p2,p3,p4⟩ | ⟨p1,p2,p3⟩
     · rw [e2 p1]at k';exact absurd (r2.kin (b-n2) (b'-n2) o o' L L' q3 p3 k k' hbl (by omega)) (by unfold Kin;rw [yS q4,yS p4];simp)
     · rw [e1 p2]at k';exact absurd hbl (mixed p1 q3 p3 k k')
   · rw [e1 q2]at k;rcases hlook e' with⟨p1,p2,p3,p4⟩ | ⟨p1,p2,p3⟩
     · rw [e2 p1]at k';exact absurd hbl.symm (mixed q1 p3 q3 k' k)
     · rw [e1 p2]at k';exact r.kin b b' o o' L L' q3 p3 k k' hbl hne
 · have hb:nb'+n2≤b:=hb;rw [e2 (by omega)];exact r2.fresh _ (by show nb'≤_;omega)
 · show EL.imm L.blk=none;rcases hlook e with⟨q1,q2,q3,q4⟩ | ⟨q1,q2,q3⟩
   · rw [e2 q1]at k;exact r2.apart _ o L q3 k
   · rw [e1 q2]at k;cases hi:EL.imm L.blk with
     |none=>rfl
     | some C=>
      rcases x2.immo _ C hi (r.lt q3 k)with a| ⟨b1,o1,L1,a1,a2,a3⟩
      · have:=r.apart b o L q3 k;rw [show(E.ren (eY 0 nb n2 ks)).imm=E.imm from rfl]at a;rw [this]at a;cases a
      ·exact absurd a3 (away q1 q3 k b1 o1 L1 a1 a2)
 · rcases hlook e with⟨q1,q2,_⟩ | ⟨q1,q2,_⟩
   ·exact q2
   ·show b<nb'+n2;omega
 · refine x2.keep i hi (fun b o L e k=>?_);obtain⟨_,_,o1,e1'⟩ :=hkeys e;exact hn _ o1 L e1' k
 · rcases hlook e with⟨q1,q2,q3,q4⟩ | ⟨q1,q2,q3⟩
   · rw [e2 q1]at k;obtain⟨b1,o1,L1,a1,a2,a3⟩ :=x2.own _ o' L' q3 k hlt;obtain⟨_,_,o2,e2'⟩ :=hkeys a1;exact⟨_,o2,L1,e2',a2,a3⟩
   · rw [e1 q2]at k;exact⟨b',o',L',q3,k,rfl⟩
 ·show n2≤nb'+n2;omega
 · rcases x2.immo k C e hk with a| ⟨b1,o1,L1,a1,a2,a3⟩
   ·exact .inl a
   · obtain⟨_,_,o2,e2'⟩ :=hkeys a1;exact .inr ⟨_,o2,L1,e2',a2,a3⟩
 · have hb:b<n2:=hb;rcases hlook e with⟨q1,_⟩ | ⟨_,_,q3⟩
   ·omega
   ·exact⟨o,q3⟩
theorem aMx {τ:Nat→Nat}{E:Emb}:∀ {es:List (AV×AV×Nat)} {us:List MapEntry},ERs (E.ren τ) es us→ERs E (es.map fun p=> (ren τ p.1,ren τ p.2.1,p.2.2)) us
 | [],_,r=>by simpa [ERs]using r
 | e::es,_,r=>by
  simp only [ERs]at r;simp only [map_cons,ERs];obtain⟨u,us',h1,h2,h3,h4,h5⟩ :=r;exact⟨u,us',h1,(fO τ E _ _).2 h2,(fO τ E _ _).2 h3,h4,aMx h5⟩
def plainO :AObj→Bool
 | .cells .. | .map .. | .mapx .. | .lst .. | .loop .. | .defd .. =>true
 |_=>false
theorem aRL {τ:Nat→Nat}{E:Emb}{H:Array Obj}{L:Loc}{o:AObj}(hp:plainO o=true)(r:OR (E.ren τ) H L o) :OR E H L (o.ren τ) :=by
 cases o with
 | cells t n ol sup=>
  obtain⟨C,el,h1,h2,h3⟩ :=r;refine⟨C,el,h1,h2,fun i a e=>?_⟩;rw [aFb]at e;cases ht:t.at i with
  |none=>rw [ht]at e;cases e
  | some a0=>
   rw [ht]at e;cases e;obtain⟨g1,v,g2,g3⟩ :=h3 i a0 ht;exact⟨g1,v,g2,(fO τ E a0 v).2 g3⟩
 |map es c=>obtain⟨ES,h1,h2⟩ :=r;exact⟨ES,h1,aMx h2⟩
 | mapx es c k v=>
  obtain⟨ES,h1,h2,h3⟩ :=r;refine⟨ES,h1,?_,h3⟩;obtain⟨us,vs,e1,e2,e3⟩ :=ERs.split h2;rw [e1];refine ERs.join (h3 (E.ren τ) E us rfl e2) ?_;simp only [ERs]at e3 ⊢;obtain⟨u,us',q1,q2,q3,q4,q5⟩ :=e3;exact⟨u,us',q1,(fO τ E _ _).2 q2,(fO τ E _ _).2 q3,q4,q5⟩
 |lst e xs=>obtain⟨C,el,vs,h1,h2,h3,h4⟩ :=r;exact⟨C,el,vs,h1,h2,(nM τ E xs vs).2 h3,h4⟩
 |defd t=>exact r
 | loop st pe fn tm nt ps aS bd df=>
  obtain⟨tmps,Ld,h1,h2,h3⟩ :=r;refine⟨tmps,Ld,h1,h2,h3.1,fun t a e=>?_⟩;rw [aFb]at e;cases ht:tm.at t with
  |none=>rw [ht]at e;cases e
  | some a0=>
   rw [ht]at e;cases e;obtain⟨cv,g1,g2⟩ :=h3.2 t a0 ht;exact⟨cv,g1,(fO τ E a0 cv).2 g2⟩
 |_=>cases hp
def yT :List (Nat×AObj×Bool) →Bool
 | [] =>true
 |p::r=> (p.2.2||plainO p.2.1) &&yT r
theorem aBt :∀ {l:List (Nat×AObj×Bool)},yT l=true→∀p∈l,p.2.2=true∨plainO p.2.1=true
 | q::r,h,p,hp=>by
  simp only [yT,and_eq_true,Bool.or_eq_true]at h;rcases List.mem_cons.1 hp with rfl|hp
  ·exact h.1
  ·exact aBt h.2 p hp
def namesT (τ:Nat→Nat) :List (Nat×AObj×Bool) →List Nat
 | [] =>[]
 |p::r=>τ p.1::namesT τ r
theorem aBu {τ:Nat→Nat}{b:Nat}:∀ {l:List (Nat×AObj×Bool)},b∈namesT τ l→∃p∈l,τ p.1=b
 | q ::r,h=>by
  rcases List.mem_cons.1 h with e|h
  ·exact⟨q,mem_cons_self ..,e.symm⟩
  · obtain⟨p,hp,e⟩ :=aBu h;exact⟨p,mem_cons_of_mem _ hp,e⟩
def aEu (names ks:List Nat)(h1:Hp) :List (Nat×AObj×Bool) →List (Option AObj)
 | [] =>[]
 |p::r=> (bif xK p.1 names then some p.2.1 else bif xK p.1 ks then none else h1.look p.1) ::aEu names ks h1 r
theorem aDr {names ks:List Nat}{h1:Hp}:∀ {l:List (Nat×AObj×Bool)},aEu names ks h1 l=sE l→∀p∈l,p.1∈names∨ (p.1∉ks∧h1.look p.1=some p.2.1)
 | q ::r,h,p,hp=>by
  simp only [aEu,sE,List.cons.injEq]at h;rcases List.mem_cons.1 hp with rfl|hp
  · cases hm:xK p.1 names
    case true=>exact .inl ((yR _ _).1 hm)
    have h1:=h.1;rw [hm]at h1;simp only [cond]at h1;cases hk:xK p.1 ks
    case true=>rw [hk]at h1;cases h1
    rw [hk]at h1;exact .inr ⟨fun hh=>by(rw [(yR _ _).2 hh]at hk;cases hk),h1⟩
  ·exact aDr h.2 p hp
theorem aBv :∀ {E:Emb} {ch:List (AV×Bool)} {ps:List PanicEntry},(∀x∈ch,keyless x.1=true) →CR E ch ps→CR E.p ch ps
 |_,[],_,_,r=>by simpa [CR]using r
 | _,a::l,_,k,r=>by
  simp only [CR]at r ⊢;obtain⟨v,ps,h1,h2,h3⟩ :=r;exact⟨v,ps,h1,eG (k a (mem_cons_self ..)) h2,aBv (fun x hx=>k x (mem_cons_of_mem _ hx)) h3⟩
theorem CR.of_p {E:Emb}:∀ {ch:List (AV×Bool)} {ps:List PanicEntry},CR E.p ch ps→CR E ch ps
 | [],_,r=>by simpa [CR]using r
 | a::l,_,r=>by
  simp only [CR]at r ⊢;obtain⟨v,ps,h1,h2,h3⟩ :=r;exact⟨v,ps,h1,h2.of_p,h3.of_p⟩
def aCr :Res→Prop
 | .ret v=>keyless v=true
 | .pan ch=>∀x∈ch,keyless x.1=true
theorem bGa {EL:Emb}{loc:Nat→Option Loc}{cl cl':Frame}:∀ {res:Res},aCr res→Got EL cl res cl'→Got ⟨loc,EL.imm⟩ cl res cl'
 | .ret v,hv,⟨cv,e,g⟩ => ⟨cv,e,VR.of_p (E:= ⟨loc,EL.imm⟩) (show VR (Emb.p ⟨loc,EL.imm⟩) v cv from eG (E:=EL) hv g)⟩
 | .pan ch,hv,⟨ps,e,g⟩ => ⟨ps,e,CR.of_p (E:= ⟨loc,EL.imm⟩) (show CR (Emb.p ⟨loc,EL.imm⟩) ch ps from aBv (E:=EL) hv g)⟩
theorem aCs {f:Nat}{args args':List AV}{res:Res}{l l' lc lc':List (Nat×AObj×Bool)}{nb n2:Nat}{ks:List Nat}
  (h0:Spec P (.enter f args) (aD l nb) res (aD l' nb)) (hargs:renL (eY 0 nb n2 ks) args=args') (hv:aCr res)
  (hin:dR 0 ⟨⟨0,0,[],[],[],.run,.normal,none⟩,[],l,nb⟩ ks=true) (hl:uZ (aD lc n2) (eY 0 nb n2 ks) l=jQ (eY 0 nb n2 ks) l) (hkl:jR l)
  (hl':uZ (aD lc' n2) (eY 0 nb n2 ks) l'=jQ (eY 0 nb n2 ks) l') (hkl':jR l') (hpl:yT l'=true:=by kernel_rfl) (hk':iE nb l'=true:=by kernel_rfl)
  (hx:iE n2 lc=true:=by kernel_rfl) (hx':iE n2 lc'=true:=by kernel_rfl) (hks:aIA 0 ks=true:=by kernel_rfl) (hlt:ks.all (fun k=>blt k n2) =true:=by kernel_rfl) (hout:aEu (namesT (eY 0 nb n2 ks) l') ks (aD lc n2) lc'=sE lc':=by kernel_rfl) (hll:sE l'= (l'.map fun p=> (aD l' nb).look p.1) :=by kernel_rfl) :
  Spec P (.enter f args') (aD lc n2) res (aD lc' n2) :=by
 obtain⟨g,hg,he⟩ :=h0;obtain⟨g',hg',hfr⟩ :=aDq (h':=aD lc n2) hg hargs;refine⟨g',hg',?_⟩;intro _ E fr ccs w fr' fs r cl base;have allH_get:∀ {k:Hp} {l:List (Nat×AObj×Bool)},sE l= (l.map fun p=>k.look p.1) →∀p∈l,k.look p.1=some p.2.1:=by
  intro k l
  induction l with
  |nil=>intro _ p hp;cases hp
  | cons q l ih=>
   intro h p hp;simp only [sE,map_cons,List.cons.injEq]at h;rcases List.mem_cons.1 hp with rfl|hp
   ·exact h.1.symm
   ·exact ih h.2 p hp
 have hlenks:ks.length=nb:=by
  simp only [dR,and_eq_true]at hin;have:=Nat.eq_of_beq_eq_true hin.1.1.1.2;simpa using this
 have hnd:nodup ks=true:=by
  simp only [dR,and_eq_true]at hin;exact hin.1.1.2
 have tin:∀ {b},b<nb→eY 0 nb n2 ks b∈ks:=fun {b} hb=>by
  rw [rK (zero_le b) hb,sub_zero,List.getD_eq_getElem?_getD,getElem?_eq_getElem (by omega)];exact getElem_mem ..
 have tinj:∀ {b b'},b<nb→b'<nb→eY 0 nb n2 ks b=eY 0 nb n2 ks b'→b=b':=fun {b b'} h1 h2 e=>by
  rw [rK (zero_le b) h1,rK (zero_le b') h2,sub_zero,sub_zero]at e;exact aDn hnd b b' (by omega) (by omega) e
 have hkeys:∀ {b o},(aD l nb).look b=some o→b<nb∧∃o1,(aD lc n2).look (eY 0 nb n2 ks b) =some o1:=fun {b o} e=>by
  obtain⟨fl,hm⟩ :=lY e;have hb:b<nb:=by
   simp only [dR,and_eq_true]at hin;exact(dK hin.2 _ hm).1
  exact⟨hb,_,mR hl _ hm⟩
 have nool:∀ {b o},(aD lc n2).look b=some o→b<n2∧dD o= [] :=fun {b o} e=>by
  obtain⟨fl,hm⟩ :=lY e;exact dK hx _ hm
 have apart:∀ {b b' o o' L L'},(aD lc n2).look b=some o→ (aD lc n2).look b'=some o'→E b=some L→E b'=some L'→b≠b'→L.blk≠L'.blk:=fun {b b' o o' L L'} e e' k k' hne hbl=>by
  have:=r.kin b b' o o' L L' e e' k k' hbl hne;unfold Kin at this;rw [(nool e).2,(nool e').2]at this;rcases this with⟨g,_⟩ | ⟨g,_⟩ <;>simp at g
 obtain⟨rL,_⟩ :=nV (h:=aD lc n2) hin hl hkl r;have frL:=hfr fr';rw [fs.nil_inv];obtain⟨cl',w',EL,s1,g2,r2,x2⟩ :=he (le_refl _) (E.ren (eY 0 nb n2 ks)) fr [] w frL rfl rL cl base;have hnb: (aD l nb).nb=nb:=rfl;rw [hnb]at x2;have eL:∀ {b},b<nb→EL b=E (eY 0 nb n2 ks b) :=fun {b} hb=>x2.low b hb;have eLhi:∀ {b},nb≤b→EL b=none:=fun {b} hb=>r2.fresh b hb
 let E1:Emb:= ⟨E.loc,EL.imm⟩
 have hELE:EL.le (E1.ren (eY 0 nb n2 ks)) :=by
  refine⟨fun b L e=>?_,fun _ _ e=>e⟩;rcases lt_or_ge b nb with hb|hb
  ·rw [eL hb]at e;exact e
  ·rw [eLhi hb]at e;cases e
 have hEE:E.le E1:= ⟨fun _ _ e=>e,fun k C e=>x2.imm k C e⟩
 have hlook:∀ {b o},(aD lc' n2).look b=some o→b<n2∧dD o= [] ∧ ((∃i q f,i<nb∧eY 0 nb n2 ks i=b∧ (aD l' nb).look i=some q∧o= (bif f then q else q.ren (eY 0 nb n2 ks)) ∧ (f=true→q.kl) ∧ (f=true∨plainO q=true)) ∨ (b∉ks∧ (aD lc n2).look b=some o)) :=fun {b o} e=>by
  obtain⟨fl,hm⟩ :=lY e;refine⟨(dK hx' _ hm).1,(dK hx' _ hm).2,?_⟩;rcases aDr hout _ hm with hn|hn
  · obtain⟨⟨i,q,f⟩,hp,ht⟩ :=aBu hn;have hi:= (dK hk' _ hp).1;have hw:=mR hl' _ hp;simp only at ht hw hi;rw [ht,e]at hw;cases hw;exact .inl ⟨i,q,f,hi,ht,allH_get hll _ hp,rfl,fun hf=>by subst hf;exact lI hkl' i q hp,aBt hpl _ hp⟩
  ·exact .inr hn
 have away:∀ {b o L},b∉ks→ (aD lc n2).look b=some o→E b=some L→∀b1 o1 L1,(aD l nb).look b1=some o1→ (E.ren (eY 0 nb n2 ks)) b1=some L1→L1.blk≠L.blk:=fun {b o L} hb e k b1 o1 L1 e1' k1=>by
  obtain⟨hb1,o2,e2'⟩ :=hkeys e1';exact apart e2' e k1 k (fun h=>hb (h ▸ tin hb1))
 have mixed:∀ {i b' q o' L L'},i<nb→b'∉ks→ (aD l' nb).look i=some q→ (aD lc n2).look b'=some o'→E (eY 0 nb n2 ks i) =some L→E b'=some L'→L.blk≠L'.blk:=fun {i b' q o' L L'} h1 h2 e e' k k' hbl=>by
  have hlt:L.blk<w.heap.size:=by rw [hbl];exact r.lt e' k'
  obtain⟨b1,o1,L1,a1,a2,a3⟩ :=x2.own i q L e (by rw [eL h1];exact k) hlt;exact away h2 e' k' b1 o1 L1 a1 a2 (a3.trans hbl)
 refine⟨_,w',E1,s1,?_,⟨fun b o e=>?_,fun b b' o o' L L' e e' k k' hbl hne=>?_,fun b hb=>r.fresh b hb,r2.imm,fun b o L e k=>?_,fun b o e=> (hlook e).1⟩,
  ⟨fun _ _=>rfl,hEE.2,x2.size,fun i hi hn=>?_,fun b' o' L' e k hlt=>?_,le_refl _,x2.os,x2.tape,x2.output,x2.froz,fun k C e hk=>?_,fun b o e hb=>?_⟩⟩
 ·exact bGa hv g2
 · obtain ⟨hb,_,h⟩ :=hlook e;rcases h with⟨i,q,f,hi,ht,hq,ho,hf,hpo⟩ | ⟨hb',hq⟩
   · subst ht;rcases r2.obj0 i q hq with⟨u1,u2⟩ | ⟨L,k1,k2⟩
     · rw [eL hi]at u2;refine .inl ⟨?_,u2⟩;rw [ho];cases f with
       |true=>exact u1
       | false=>cases q with
        | lst e xs=>cases xs with
         |nil=>rfl
         |cons x xs=>cases u1
        |_=>cases u1
     · rw [eL hi]at k1;refine .inr ⟨L,k1,?_⟩;rw [ho];cases f
       case true=>exact aRF (E:=EL) (E':=E1) rfl (hf rfl) k2
       rcases hpo with hh|hh
       ·cases hh
       ·exact aRL hh (k2.mono hELE)
   · rcases r.obj0 b o hq with u| ⟨L,k1,k2⟩
     ·exact .inl u
     ·exact .inr ⟨L,k1,(k2.mono hEE).heap (x2.keep _ k2.lt (away hb' hq k1))⟩
 · obtain⟨hb,hol,h⟩ :=hlook e;obtain⟨hb',hol',h'⟩ :=hlook e'
   have hkin:∀ {o:AObj} {f:Bool} {q:AObj},o= (bif f then q else q.ren (eY 0 nb n2 ks)) → (f=true→q.kl) → (f=true∨plainO q=true) →dD o= [] →dD q= [] :=fun {o f q} ho hf hpo hol=>by
    cases f
    case true=>subst ho;exact hol
    subst ho;cases q with
    | cells t n ol sup=>
     have:ol.map (eY 0 nb n2 ks) = [] :=hol;exact List.map_eq_nil_iff.1 this
    |_=>rfl
   rcases h with⟨i,q,f,hi,ht,hq,ho,hf,hpo⟩ | ⟨hn,hq⟩
   · rcases h' with⟨i',q',f',hi',ht',hq',ho',hf',hpo'⟩ | ⟨hn',hq'⟩
     · subst ht ht';have:=r2.kin i i' q q' L L' hq hq' (by rw [eL hi];exact k) (by rw [eL hi'];exact k') hbl (fun e=>hne (by rw [e]));unfold Kin at this;rw [hkin ho hf hpo hol,hkin ho' hf' hpo' hol']at this;rcases this with⟨g,_⟩ | ⟨g,_⟩ <;>simp at g
     · subst ht;exact absurd hbl (mixed hi hn' hq hq' k k')
   · rcases h' with⟨i',q',f',hi',ht',hq',ho',hf',hpo'⟩ | ⟨hn',hq'⟩
     · subst ht';exact absurd hbl.symm (mixed hi' hn hq' hq k' k)
     ·exact r.kin b b' o o' L L' hq hq' k k' hbl hne
 · obtain⟨hb,_,h⟩ :=hlook e;show EL.imm L.blk=none;rcases h with⟨i,q,f,hi,ht,hq,ho,hf,hpo⟩ | ⟨hn,hq⟩
   · subst ht;exact r2.apart i q L hq (by rw [eL hi];exact k)
   · cases hi:EL.imm L.blk with
     |none=>rfl
     | some C=>
      rcases x2.immo _ C hi (r.lt hq k)with a| ⟨b1,o1,L1,a1,a2,a3⟩
      · have:=r.apart b o L hq k;rw [show(E.ren (eY 0 nb n2 ks)).imm=E.imm from rfl]at a;rw [this]at a;cases a
      ·exact absurd a3 (away hn hq k b1 o1 L1 a1 a2)
 · refine x2.keep i hi (fun b o L e k=>?_);obtain⟨hb,o1,e1'⟩ :=hkeys e;exact hn _ o1 L e1' k
 · obtain⟨hb,_,h⟩ :=hlook e;rcases h with⟨i,q,f,hi,ht,hq,ho,hf,hpo⟩ | ⟨hn,hq⟩
   · subst ht;obtain⟨b1,o1,L1,a1,a2,a3⟩ :=x2.own i q L' hq (by rw [eL hi];exact k) hlt;obtain⟨_,o2,e2'⟩ :=hkeys a1;exact⟨_,o2,L1,e2',a2,a3⟩
   ·exact⟨b',o',L',hq,k,rfl⟩
 · rcases x2.immo k C e hk with a| ⟨b1,o1,L1,a1,a2,a3⟩
   ·exact .inl a
   · obtain⟨_,o2,e2'⟩ :=hkeys a1;exact .inr ⟨_,o2,L1,e2',a2,a3⟩
 · obtain⟨_,_,h⟩ :=hlook e;rcases h with⟨i,q,f,hi,ht,hq,ho,hf,hpo⟩ | ⟨hn,hq⟩
   · subst ht;obtain⟨o0,e0⟩ :=x2.keys i q hq hi;exact(hkeys e0).2
   ·exact⟨o,hq⟩
theorem aZo {f:Nat}{args args':List AV}{v:AV}{l l' lc lc':List (Nat×AObj×Bool)}{nb n2:Nat}{ks:List Nat}
  (h0:Spec P (.enter f args) (aD l nb) (.ret v) (aD l' nb)) (hargs:renL (eY 0 nb n2 ks) args=args') (hv:keyless v=true)
  (hin:dR 0 ⟨⟨0,0,[],[],[],.run,.normal,none⟩,[],l,nb⟩ ks=true) (hl:uZ (aD lc n2) (eY 0 nb n2 ks) l=jQ (eY 0 nb n2 ks) l) (hkl:jR l)
  (hl':uZ (aD lc' n2) (eY 0 nb n2 ks) l'=jQ (eY 0 nb n2 ks) l') (hkl':jR l') (hpl:yT l'=true:=by kernel_rfl) (hk':iE nb l'=true:=by kernel_rfl)
  (hx:iE n2 lc=true:=by kernel_rfl) (hx':iE n2 lc'=true:=by kernel_rfl) (hks:aIA 0 ks=true:=by kernel_rfl) (hlt:ks.all (fun k=>blt k n2) =true:=by kernel_rfl) (hout:aEu (namesT (eY 0 nb n2 ks) l') ks (aD lc n2) lc'=sE lc':=by kernel_rfl) (hll:sE l'= (l'.map fun p=> (aD l' nb).look p.1) :=by kernel_rfl) :
  Spec P (.enter f args') (aD lc n2) (.ret v) (aD lc' n2) :=
 aCs h0 hargs hv hin hl hkl hl' hkl' hpl hk' hx hx' hks hlt hout hll
def aF2 (P:Program)(m:Nat)(c:AIn)(h:Hp)(res:Res)(h':Hp) :Prop:=∃g,eD P h c=some g∧Ends P m ⟨g,[],h⟩ res h'
def qH (m n2:Nat)(ks:List Nat)(b:Nat) :Nat:=bif blt b m then ks.getD b 0 else b-m+n2
theorem aSP {f:Nat}{args args':List AV}{res res':Res}{l l' lc lc':List (Nat×AObj×Bool)}{m nb nb' n2:Nat}{ks:List Nat}
  (h0:aF2 P m (.enter f args) (aD l nb) res (aD l' nb')) (hres:∀ {EL:Emb} {loc:Nat→Option Loc} {cl cl':Frame},EL.le ((⟨loc,EL.imm⟩ :Emb).ren (qH m n2 ks)) →Got EL cl res cl'→Got ⟨loc,EL.imm⟩ cl res' cl') (hargs:renL (eY 0 nb n2 ks) args=args') (hm:ble m nb=true) (hm':ble m nb'=true)
  (hin:dR 0 ⟨⟨0,0,[],[],[],.run,.normal,none⟩,[],l,nb⟩ ks=true) (hl:uZ (aD lc n2) (eY 0 nb n2 ks) l=jQ (eY 0 nb n2 ks) l) (hkl:jR l)
  (hl':uZ (aD lc' (nb'-m+n2)) (qH m n2 ks) l'=jQ (qH m n2 ks) l') (hkl':jR l') (hpl:yT l'=true) (hk':iE nb' l'=true)
  (hx:iE n2 lc=true) (hx':iE (nb'-m+n2) lc'=true) (hlt:ks.all (fun k=>blt k n2) =true) (hout:aEu (namesT (qH m n2 ks) l') ks (aD lc n2) lc'=sE lc') (hll:sE l'= (l'.map fun p=> (aD l' nb').look p.1)) :
  Spec P (.enter f args') (aD lc n2) res' (aD lc' (nb'-m+n2)) :=by
 obtain⟨g,hg,he⟩ :=h0;obtain⟨g',hg',hfr⟩ :=aDq (h':=aD lc n2) hg hargs;refine⟨g',hg',?_⟩;intro _ E fr ccs w fr' fs r cl base;have hm:=Nat.le_of_ble_eq_true hm;have hm':=Nat.le_of_ble_eq_true hm';have allH_get:∀ {k:Hp} {l:List (Nat×AObj×Bool)},sE l= (l.map fun p=>k.look p.1) →∀p∈l,k.look p.1=some p.2.1:=by
  intro k l
  induction l with
  |nil=>intro _ p hp;cases hp
  | cons q l ih=>
   intro h p hp;simp only [sE,map_cons,List.cons.injEq]at h;rcases List.mem_cons.1 hp with rfl|hp
   ·exact h.1.symm
   ·exact ih h.2 p hp
 have hlenks:ks.length=nb:=by
  simp only [dR,and_eq_true]at hin;have:=Nat.eq_of_beq_eq_true hin.1.1.1.2;simpa using this
 have tget:∀ {b},b<nb→eY 0 nb n2 ks b=ks.getD b 0:=fun {b} hb=>by
  rw [rK (zero_le b) hb,sub_zero]
 have gin:∀ {b},b<nb→ks.getD b 0∈ks:=fun {b} hb=>by
  rw [List.getD_eq_getElem?_getD,getElem?_eq_getElem (by omega)];exact getElem_mem ..
 have glt:∀ {b},b<nb→ks.getD b 0<n2:=fun {b} hb=>by
  have:=List.all_eq_true.1 hlt _ (gin hb);rw [dC,decide_eq_true_eq]at this;exact this
 have slo:∀ {b},b<m→qH m n2 ks b=ks.getD b 0:=fun {b} hb=>by unfold qH;rw [dC,decide_eq_true hb];rfl
 have shi:∀ {b},m≤b→qH m n2 ks b=b-m+n2:=fun {b} hb=>by unfold qH;rw [dC,decide_eq_false (by omega)];rfl
 have hkeys:∀ {b o},(aD l nb).look b=some o→b<nb∧∃o1,(aD lc n2).look (eY 0 nb n2 ks b) =some o1:=fun {b o} e=>by
  obtain⟨fl,hmm⟩ :=lY e;have hb:b<nb:=by
   simp only [dR,and_eq_true]at hin;exact(dK hin.2 _ hmm).1
  exact⟨hb,_,mR hl _ hmm⟩
 have nool:∀ {b o},(aD lc n2).look b=some o→b<n2∧dD o= [] :=fun {b o} e=>by
  obtain⟨fl,hmm⟩ :=lY e;exact dK hx _ hmm
 have apart:∀ {b b' o o' L L'},(aD lc n2).look b=some o→ (aD lc n2).look b'=some o'→E b=some L→E b'=some L'→b≠b'→L.blk≠L'.blk:=fun {b b' o o' L L'} e e' k k' hne hbl=>by
  have:=r.kin b b' o o' L L' e e' k k' hbl hne;unfold Kin at this;rw [(nool e).2,(nool e').2]at this;rcases this with⟨g,_⟩ | ⟨g,_⟩ <;>simp at g
 obtain⟨rL,_⟩ :=nV (h:=aD lc n2) hin hl hkl r;have frL:=hfr fr';rw [fs.nil_inv];obtain⟨cl',w',EL,s1,g2,r2,x2⟩ :=he hm (E.ren (eY 0 nb n2 ks)) fr [] w frL rfl rL cl base
 have eL:∀ {b},b<m→EL b=E (ks.getD b 0) :=fun {b} hb=>by
  rw [x2.low b hb];show E (eY 0 nb n2 ks b) =_;rw [tget (by omega)]
 let E':Emb:= ⟨fun b=>if b<n2 then E b else EL (b-n2+m),EL.imm⟩
 have e1:∀ {b},b<n2→E' b=E b:=fun {b} hb=>if_pos hb;have e2:∀ {b},n2≤b→E' b=EL (b-n2+m) :=fun {b} hb=>if_neg (by omega)
 have hE:∀b,E' (qH m n2 ks b) =EL b:=fun b=>by
  rcases lt_or_ge b m with hb|hb
  ·rw [slo hb,e1 (glt (by omega)),eL hb]
  ·rw [shi hb,e2 (by omega),show b-m+n2-n2+m=b by omega]
 have hsig:EL.le (E'.ren (qH m n2 ks)) := ⟨fun b L e=>by show E' (qH m n2 ks b) =some L;rw [hE];exact e,fun _ _ e=>e⟩;have hEE:E.le E':= ⟨fun b L e=>by rw [e1 (r.nb_gt e)];exact e,fun k C e=>x2.imm k C e⟩
 have hlook:∀ {b o},(aD lc' (nb'-m+n2)).look b=some o→b<nb'-m+n2∧dD o= [] ∧ ((∃i q f,i<nb'∧qH m n2 ks i=b∧ (aD l' nb').look i=some q∧o= (bif f then q else q.ren (qH m n2 ks)) ∧ (f=true→q.kl) ∧ (f=true∨plainO q=true)) ∨ (b∉ks∧b<n2∧ (aD lc n2).look b=some o)) :=fun {b o} e=>by
  obtain⟨fl,hmm⟩ :=lY e;refine⟨(dK hx' _ hmm).1,(dK hx' _ hmm).2,?_⟩;rcases aDr hout _ hmm with hn|hn
  · obtain⟨⟨i,q,f⟩,hp,ht⟩ :=aBu hn;have hi:= (dK hk' _ hp).1;have hw:=mR hl' _ hp;simp only at ht hw hi;rw [ht,e]at hw;cases hw;exact .inl ⟨i,q,f,hi,ht,allH_get hll _ hp,rfl,fun hf=>by subst hf;exact lI hkl' i q hp,aBt hpl _ hp⟩
  ·exact .inr ⟨hn.1,(nool hn.2).1,hn.2⟩
 have away:∀ {b o L},b∉ks→ (aD lc n2).look b=some o→E b=some L→∀b1 o1 L1,(aD l nb).look b1=some o1→ (E.ren (eY 0 nb n2 ks)) b1=some L1→L1.blk≠L.blk:=fun {b o L} hb e k b1 o1 L1 e1' k1=>by
  obtain⟨hb1,o2,e2'⟩ :=hkeys e1';exact apart e2' e k1 k (fun h=>hb (h ▸ (tget hb1 ▸ gin hb1)))
 have mixed:∀ {i b' q o' L L'},b'∉ks→ (aD l' nb').look i=some q→ (aD lc n2).look b'=some o'→EL i=some L→E b'=some L'→L.blk≠L'.blk:=fun {i b' q o' L L'} h2 e e' k k' hbl=>by
  have hlt:L.blk<w.heap.size:=by rw [hbl];exact r.lt e' k'
  obtain⟨b1,o1,L1,a1,a2,a3⟩ :=x2.own i q L e k hlt;exact away h2 e' k' b1 o1 L1 a1 a2 (a3.trans hbl)
 refine⟨_,w',E',s1,hres hsig g2,⟨fun b o e=>?_,fun b b' o o' L L' e e' k k' hbl hne=>?_,fun b hb=>?_,r2.imm,fun b o L e k=>?_,fun b o e=> (hlook e).1⟩,
  ⟨fun b hb=>e1 hb,hEE.2,x2.size,fun i hi hn=>?_,fun b' o' L' e k hlt=>?_,?_,x2.os,x2.tape,x2.output,x2.froz,fun k C e hk=>?_,fun b o e hb=>?_⟩⟩
 · obtain ⟨hb,_,h⟩ :=hlook e;rcases h with⟨i,q,f,hi,ht,hq,ho,hf,hpo⟩ | ⟨hb',hb2,hq⟩
   · subst ht;rcases r2.obj0 i q hq with⟨u1,u2⟩ | ⟨L,k1,k2⟩
     · refine .inl ⟨?_,by rw [hE];exact u2⟩;rw [ho];cases f with
       |true=>exact u1
       | false=>cases q with
        | lst e xs=>cases xs with
         |nil=>rfl
         |cons x xs=>cases u1
        |_=>cases u1
     · refine .inr ⟨L,by rw [hE];exact k1,?_⟩;rw [ho];cases f
       case true=>exact aRF (E:=EL) (E':=E') rfl (hf rfl) k2
       rcases hpo with hh|hh
       ·cases hh
       ·exact aRL hh (k2.mono hsig)
   · rcases r.obj0 b o hq with⟨u1,u2⟩ | ⟨L,k1,k2⟩
     ·exact .inl ⟨u1,by rw [e1 hb2];exact u2⟩
     ·exact .inr ⟨L,by rw [e1 hb2];exact k1,(k2.mono hEE).heap (x2.keep _ k2.lt (away hb' hq k1))⟩
 · obtain⟨hb,hol,h⟩ :=hlook e;obtain⟨hb',hol',h'⟩ :=hlook e'
   have hkin:∀ {o:AObj} {f:Bool} {q:AObj},o= (bif f then q else q.ren (qH m n2 ks)) →dD o= [] →dD q= [] :=fun {o f q} ho hol=>by
    cases f
    case true=>subst ho;exact hol
    subst ho;cases q with
    | cells t n ol sup=>
     have:ol.map (qH m n2 ks) = [] :=hol;exact List.map_eq_nil_iff.1 this
    |_=>rfl
   rcases h with⟨i,q,f,hi,ht,hq,ho,hf,hpo⟩ | ⟨hn,hn2,hq⟩
   · subst ht;rw [hE]at k;rcases h' with⟨i',q',f',hi',ht',hq',ho',hf',hpo'⟩ | ⟨hn',hn2',hq'⟩
     · subst ht';rw [hE]at k';have:=r2.kin i i' q q' L L' hq hq' k k' hbl (fun e=>hne (by rw [e]));unfold Kin at this;rw [hkin ho hol,hkin ho' hol']at this;rcases this with⟨g,_⟩ | ⟨g,_⟩ <;>simp at g
     · rw [e1 hn2']at k';exact absurd hbl (mixed hn' hq hq' k k')
   · rw [e1 hn2]at k;rcases h' with⟨i',q',f',hi',ht',hq',ho',hf',hpo'⟩ | ⟨hn',hn2',hq'⟩
     · subst ht';rw [hE]at k';exact absurd hbl.symm (mixed hn hq' hq k' k)
     · rw [e1 hn2']at k';exact r.kin b b' o o' L L' hq hq' k k' hbl hne
 · have hb:nb'-m+n2≤b:=hb;rw [e2 (by omega)];exact r2.fresh _ (by show nb'≤_;omega)
 · obtain⟨hb,_,h⟩ :=hlook e;show EL.imm L.blk=none;rcases h with⟨i,q,f,hi,ht,hq,ho,hf,hpo⟩ | ⟨hn,hn2,hq⟩
   · subst ht;rw [hE]at k;exact r2.apart i q L hq k
   · rw [e1 hn2]at k;cases hi:EL.imm L.blk with
     |none=>rfl
     | some C=>
      rcases x2.immo _ C hi (r.lt hq k)with a| ⟨b1,o1,L1,a1,a2,a3⟩
      · have:=r.apart b o L hq k;rw [show(E.ren (eY 0 nb n2 ks)).imm=E.imm from rfl]at a;rw [this]at a;cases a
      ·exact absurd a3 (away hn hq k b1 o1 L1 a1 a2)
 · refine x2.keep i hi (fun b o L e k=>?_);obtain⟨hb,o1,e1'⟩ :=hkeys e;exact hn _ o1 L e1' k
 · obtain⟨hb,_,h⟩ :=hlook e;rcases h with⟨i,q,f,hi,ht,hq,ho,hf,hpo⟩ | ⟨hn,hn2,hq⟩
   · subst ht;rw [hE]at k;obtain⟨b1,o1,L1,a1,a2,a3⟩ :=x2.own i q L' hq k hlt;obtain⟨_,o2,e2'⟩ :=hkeys a1;exact⟨_,o2,L1,e2',a2,a3⟩
   · rw [e1 hn2]at k;exact⟨b',o',L',hq,k,rfl⟩
 ·show n2≤nb'-m+n2;omega
 · rcases x2.immo k C e hk with a| ⟨b1,o1,L1,a1,a2,a3⟩
   ·exact .inl a
   · obtain⟨_,o2,e2'⟩ :=hkeys a1;exact .inr ⟨_,o2,L1,e2',a2,a3⟩
 · have hb:b<n2:=hb;obtain⟨_,_,h⟩ :=hlook e;rcases h with⟨i,q,f,hi,ht,hq,ho,hf,hpo⟩ | ⟨hn,hn2,hq⟩
   · rcases lt_or_ge i m with him|him
     · obtain⟨o0,e0⟩ :=x2.keys i q hq him;obtain⟨hi2,o2,e2'⟩ :=hkeys e0;rw [tget hi2,←slo him,ht]at e2';exact⟨o2,e2'⟩
     · rw [shi him]at ht;omega
   ·exact⟨o,hq⟩
theorem aVi {f:Nat}{args args':List AV}{v:AV}{l l' lc lc':List (Nat×AObj×Bool)}{m nb nb' n2:Nat}{ks:List Nat}
  (h0:aF2 P m (.enter f args) (aD l nb) (.ret v) (aD l' nb')) (hargs:renL (eY 0 nb n2 ks) args=args') (hm:ble m nb=true) (hm':ble m nb'=true)
  (hin:dR 0 ⟨⟨0,0,[],[],[],.run,.normal,none⟩,[],l,nb⟩ ks=true) (hl:uZ (aD lc n2) (eY 0 nb n2 ks) l=jQ (eY 0 nb n2 ks) l) (hkl:jR l)
  (hl':uZ (aD lc' (nb'-m+n2)) (qH m n2 ks) l'=jQ (qH m n2 ks) l') (hkl':jR l') (hpl:yT l'=true) (hk':iE nb' l'=true)
  (hx:iE n2 lc=true) (hx':iE (nb'-m+n2) lc'=true) (hlt:ks.all (fun k=>blt k n2) =true) (hout:aEu (namesT (qH m n2 ks) l') ks (aD lc n2) lc'=sE lc') (hll:sE l'= (l'.map fun p=> (aD l' nb').look p.1)) :
  Spec P (.enter f args') (aD lc n2) (.ret (ren (qH m n2 ks) v)) (aD lc' (nb'-m+n2)) :=
 aSP h0 (fun hle g=>by
  obtain⟨cv,e,g2⟩ :=g;exact⟨cv,e,(fO _ _ v cv).2 (g2.mono hle)⟩) hargs hm hm' hin hl hkl hl' hkl' hpl hk' hx hx' hlt hout hll
def aKp (fr:AFrame)(cs:List AFrame)(all:Array Oper)(i:Nat)(o:Oper)(rest:List Oper)(k:List AItem) :List (AV×Hp) →Option (List AS)
 | [] =>some []
 | p::ps=>match iR fr.tm fr.nt o.dst p.1,aKp fr cs all i o rest k ps with
  |some tm,some l=>some (⟨{fr with tm,todo:=.ops all (Nat.succ i) rest::k},cs,p.2⟩ ::l)
  |_,_=>none
def aCt (s:AS) :Option (List AS) :=
 match s.fr.mode with
 | .run=>match s.fr.todo with
  | .ops all i (o::rest) ::k=>match bY s.fr.tm all.toList o with
   | some true=>match o.op with
    | .next it false=>match bT s.fr.tm it with
     | some (.ptr r 0) =>match aIl s.h r with
      |some l=>aKp s.fr s.cs all i o rest k l
      |none=>none
     |_=>none
    |_=>none
   |_=>none
  |_=>none
 |_=>none
theorem aF3 {fr:AFrame}{cs:List AFrame}{all:Array Oper}{i:Nat}{o:Oper}{rest:List Oper}{k:List AItem}:∀ {ps:List (AV×Hp)} {l:List AS},aKp fr cs all i o rest k ps=some l→∀p∈ps,∃tm,iR fr.tm fr.nt o.dst p.1=some tm∧ (⟨{fr with tm,todo:=.ops all (Nat.succ i) rest::k},cs,p.2⟩ :AS) ∈l
 | [],_,_,p,hp=>by cases hp
 | q ::ps,l,h,p,hp=>by
  simp only [aKp]at h;split at h
  · rename_i tm l' h1 h2;cases h;rcases List.mem_cons.1 hp with rfl|hp
    ·exact⟨tm,h1,mem_cons_self ..⟩
    · obtain⟨tm',g1,g2⟩ :=aF3 h2 p hp;exact⟨tm',g1,mem_cons_of_mem _ g2⟩
  ·cases h
theorem Goes.then {E:Emb}{h:Hp}{fr:Frame}{ccs:List Frame}{w:World}{base:List Frame}{a b:AS}(h1:Goes P E h fr ccs w base a)(h2:Leads P a b) :Goes P E h fr ccs w base b:=by
 obtain⟨E1,fr1,cs1,w1,s1,f1,fs1,r1,x1⟩ :=h1;obtain⟨E2,fr2,cs2,w2,s2,f2,fs2,r2,x2⟩ :=h2 E1 fr1 cs1 w1 base f1 fs1 r1;exact⟨E2,fr2,cs2,w2,s1.trans s2,f2,fs2,r2,x1.trans x2⟩
theorem aF4 {s s':AS}{l:List AS}(h0:aCt s=some l)(hall:∀x∈l,Leads P x s') :Leads P s s':=by
 obtain⟨fr,cs,h⟩ :=s;unfold aCt at h0;simp only at h0;split at h0
 · rename_i hm;split at h0
   · rename_i all i o rest ak htd;split at h0
     · rename_i hw;split at h0
       · rename_i it hop;split at h0
         · rename_i r ha;split at h0
           · rename_i outs hl;intro E cfr ccs w base f fs R;simp only at f fs R;have e:=f.run hm;generalize cfr.fn=fn at e;generalize cfr.tmps=tmps at e;generalize cfr.todo=todo at e;generalize cfr.defers=ds at e;generalize cfr.kind=kd at e;generalize cfr.roundOf=ro at e;subst e;have ft:=f.todo;rw [htd]at ft;obtain⟨ci,k,e,i1,i2⟩ :=ft.cons_inv;simp only at e;subst e;obtain⟨rfl,ho,i3⟩ :=aFR i1;have hd: (all[i]?).bind (·.dst) =o.dst:=by rw [ho];rfl
             have hwant:Region.wanted o (yielded all tmps) =true:=aAX f.tm hw;have hρ:=TR.reads (E:=E) f.tm fn (.inRegion all (i::range' (i+1) rest.length) ::k) ds kd ro (· ∈o.op.operands);have hv:=hρ it (by rw [hop];simp [Op.operands]) _ ha;simp only [VR]at hv;obtain⟨L,hE,hL⟩ :=hv;have hz:L.sh=0:=by
              unfold aIl at hl;split at hl
              · rename_i m since seen last hmi;obtain⟨L',g1,Lm,g2,g3,g4⟩ :=R.obj _ _ hmi;rw [hE]at g1;cases g1;exact g4
              ·cases hl
             obtain⟨v,h',g0,cv,w',g1,g2,g3,g4⟩ :=aEk (P:=P) R hl hE hz;obtain⟨tm',q1,q2⟩ :=aF3 h0 _ g0;refine Goes.then ?_ (hall _ q2)
             have hnd:∀c,o.op≠ .defer c:=fun c hc=>by rw [hop]at hc;cases hc
             have hx: (execOp (rf fn tmps (.inRegion all (i::range' (i+1) rest.length) ::k) ds kd ro).eval o).run P w= .ok (.value cv) w':=by
              unfold execOp;simp only [hop];have e2: (rf fn tmps (.inRegion all (i::range' (i+1) rest.length) ::k) ds kd ro).eval it= .pointer (some ⟨L.blk,0,none⟩) :=by rw [hL,hz]
              simp only [Sem.run_bind,e2,g1,Result.andThen_ok,Sem.run_pure]
             refine Goes.one (uO ho hwant (.inr hnd) hx) ?_ (fs.mono g4.le) g3 g4;simp only [Frame.finish,hd];refine⟨f.fn,?_,IRs.cons (i3.mono g4.le) (i2.mono g4.le),f.defers.mono g4.le,by simp only [hm];exact rfl,f.kind,f.round.mono g4.le⟩;have:=aBo (f.tm.mono g4.le) q1 g2;unfold aBn at this;exact this
           ·cases h0
         ·cases h0
       ·cases h0
     ·cases h0
   ·cases h0
 ·cases h0
theorem Rel.older {E:Emb}{h:Hp}{H:Array Obj}(r:Rel E h H){b:Nat}{t:T AV}{n:Nat}{o1 o2:List Nat}{sup:Bool}(hb:h.look b=some (.cells t n o1 sup))(hs:∀x∈o1,x∈o2) :Rel E (h.set b (.cells t n o2 sup)) H:=by
 have old:∀ {x o},(h.set b (.cells t n o2 sup)).look x=some o→∃o',h.look x=some o'∧pZ o'=pZ o∧oZ o'=oZ o∧nOf o'=nOf o∧ (∀y∈dD o',y∈dD o) ∧ (∀L,OR E H L o'→OR E H L o) :=fun {x o} e=>by
  rw [bF]at e;split at e
  · rename_i hx;subst hx;cases e;exact⟨_,hb,rfl,rfl,rfl,hs,fun L ho=>ho⟩
  ·exact⟨o,e,rfl,rfl,rfl,fun _ h=>h,fun _ h=>h⟩
 refine⟨fun x o e=>?_,fun x x' o o' L L' e e' k k' hbl hne=>?_,r.fresh,r.imm,fun x o L e k=>?_,fun x o e=>?_⟩
 · obtain⟨o',e1,g1,_,_,_,g5⟩ :=old e;rcases r.obj0 x o' e1 with⟨a1,a2⟩ | ⟨L,a1,a2⟩
   ·exact .inl ⟨by rw [←g1];exact a1,a2⟩
   ·exact .inr ⟨L,a1,g5 L a2⟩
 · obtain⟨p,e1,_,g2,g3,g4,_⟩ :=old e;obtain⟨p',e1',_,g2',g3',g4',_⟩ :=old e';rcases r.kin x x' p p' L L' e1 e1' k k' hbl hne with⟨a1,a2,a3⟩ | ⟨a1,a2,a3⟩
   ·exact .inl ⟨g4 _ a1,by rw [←g2'];exact a2,by rw [←g3',←g3];exact a3⟩
   ·exact .inr ⟨g4' _ a1,by rw [←g2];exact a2,by rw [←g3,←g3'];exact a3⟩
 · obtain⟨o',e1,_⟩ :=old e;exact r.apart x o' L e1 k
 · obtain⟨o',e1,_⟩ :=old e;exact r.keys x o' e1
def AS.older (s:AS)(b:Nat)(o2:List Nat) :Option AS:=
 match s.h.look b with
 |some (.cells t n o1 sup) =>bif o1.all (fun x=>aBg x o2)then some {s with h:=s.h.set b (.cells t n o2 sup)} else none
 |_=>none
theorem aMy {s s':AS}{b:Nat}{o2:List Nat}(h0:s.older b o2=some s') :Leads P s s':=fun E fr ccs w base f fs r=>by
 unfold AS.older at h0;split at h0
 · rename_i t n o1 sup hb;cases hc:o1.all (fun x=>aBg x o2)with
   |false=>rw [hc]at h0;cases h0
   | true=>
    rw [hc]at h0;simp only [cond]at h0;cases h0
    have hs:∀x∈o1,x∈o2:=fun x hx=>by
     have:=List.all_eq_true.1 hc x hx;rw [sA]at this;simpa using this
    have keys:∀ {x o},(s.h.set b (.cells t n o2 sup)).look x=some o→∃o',s.h.look x=some o':=fun {x o} e=>by
     rw [bF]at e;split at e
     ·rename_i hx;subst hx;exact⟨_,hb⟩
     ·exact⟨o,e⟩
    exact⟨E,fr,ccs,w,Steps.refl _ _,f,fs,r.older hb hs,⟨Emb.le.refl E,le_refl _,fun _ _ _=>rfl,fun x o L h1 h2 _=>by obtain⟨o',e⟩ :=keys h1;exact⟨x,o',L,e,h2,rfl⟩,le_refl _,rfl,rfl,rfl,fun _ _=>rfl,fun _ _=>rfl,fun _ _ e _=>.inl e,fun x o e _=>keys e⟩⟩
 ·cases h0
structure LFr where
 fn:Nat
 tm:List (Nat×AV)
 nt:Nat
 todo:List AItem
 defers:List ADef
 mode:AMode
 kind:CallKind
 ro:Option Nat
structure LS where
 fr:LFr
 cs:List LFr
 hp:List (Nat×AObj)
 nb:Nat
def LFr.fr' (f:LFr) :AFrame:= ⟨f.fn,aKk f.tm,f.nt,f.todo,f.defers,f.mode,f.kind,f.ro⟩
def LS.as (s:LS) :AS:= ⟨s.fr.fr',s.cs.map LFr.fr',⟨aKk s.hp,s.nb⟩⟩
def bFf {α:Type}:List (Nat×α) →List Nat
 | [] =>[]
 |p::r=>p.1::bFf r
def aPr (f:AFrame)(l:LFr) :AFrame:={f with tm:=aKk (aFX f.tm (bFf l.tm))}
def aKq :List AFrame→List LFr→List AFrame
 |f::fs,l::ls=>aPr f l::aKq fs ls
 |fs,_=>fs
def AS.keep (s:AS)(l:LS) :AS:= ⟨aPr s.fr l.fr,aKq s.cs l.cs,⟨aKk (aFX s.h.t (bFf l.hp)),s.h.nb⟩⟩
def cH (P:Program)(call:bO)(n:Nat)(a b:LS) :Option AS:=
 match nJ P call n a.as with
 |some s'=>some (s'.keep b)
 |none=>none
theorem aCu {E:Emb}{f:AFrame}{c:Frame}(h:FR E f c)(l:LFr) :FR E (aPr f l) c:=
 ⟨h.fn,⟨h.tm.1,fun t a e=>h.tm.2 t a (sX (aFa e))⟩,h.todo,h.defers,h.mode,h.kind,h.round⟩
theorem aA6 {E:Emb}:∀ {fs:List AFrame} {cs:List Frame} (ls:List LFr),FRs E fs cs→FRs E (aKq fs ls) cs
 | [],_,[],h=>h
 | [],_,_::_,h=>h
 |_::_,_,[],h=>h
 | f::fs,cs,l::ls,h=>by
  obtain⟨c,cs',rfl,h1,h2⟩ :=FRs.cons_inv h;exact FRs.cons (aCu h1 l) (aA6 ls h2)
theorem aBw (s:AS)(l:LS) :Leads P s (s.keep l) :=fun E fr ccs w base f fs r=>by
 have hs:∀b o,(s.keep l).h.look b=some o→s.h.look b=some o:=fun b o e=>sX (aFa e);exact⟨E,fr,ccs,w,Steps.refl _ _,aCu f l.fr,aA6 l.cs fs,r.sub hs (le_refl _),⟨Emb.le.refl E,le_refl _,fun _ _ _=>rfl,fun b o L h1 h2 _=> ⟨b,o,L,hs b o h1,h2,rfl⟩,le_refl _,rfl,rfl,rfl,fun _ _=>rfl,fun _ _=>rfl,fun _ _ e _=>.inl e,fun b o e _=> ⟨o,hs b o e⟩⟩⟩
theorem aK {call:bO}(hc:fB P call){n:Nat}{a b:LS}(h0:cH P call n a b=some b.as) :Leads P a.as b.as:=by
 unfold cH at h0;split at h0
 · rename_i s1 h1;rw [uT]at h1;rw [←Option.some.inj h0];exact(rI hc h1).trans (aBw s1 b)
 ·cases h0
def aMz :List AS→List LS→List AS
 |a::l,b::ls=>a.keep b::aMz l ls
 |l,_=>l
theorem aIC :∀ {l:List AS} {ls:List LS},aMz l ls=ls.map LS.as→∀x∈l,∃b∈ls,x.keep b=b.as
 | [],_,_,x,hx=>by cases hx
 |a::l,[],h,x,hx=>by simp [aMz]at h
 | a ::l,b::ls,h,x,hx=>by
  simp only [aMz,map_cons,List.cons.injEq]at h;rcases List.mem_cons.1 hx with rfl|hx
  ·exact⟨b,mem_cons_self ..,h.1⟩
  · obtain⟨c,h1,h2⟩ :=aIC h.2 x hx;exact⟨c,mem_cons_of_mem _ h1,h2⟩
theorem aUQ {s s':AS}{ls:List LS}(h0: (aCt s).map (fun l=>aMz l ls) =some (ls.map LS.as))(h1:∀x∈ls,Leads P x.as s') :Leads P s s':=by
 cases e:aCt s with
 |none=>rw [e]at h0;cases h0
 | some l=>
  rw [e]at h0;refine aF4 e (fun x hx=>?_);obtain⟨b,hb,e1⟩ :=aIC (Option.some.inj h0) x hx;have:=aBw (P:=P) x b;rw [e1]at this;exact this.trans (h1 b hb)
theorem aZp {s:AS}{b:Nat}{o2:List Nat}{t:LS}(h0: (s.older b o2).map (fun x=>x.keep t) =some t.as) :Leads P s t.as:=by
 cases e:s.older b o2 with
 |none=>rw [e]at h0;cases h0
 | some x=>
  rw [e]at h0;have:=aBw (P:=P) x t;have h2:x.keep t=t.as:=Option.some.inj h0;rw [h2]at this;exact(aMy e).trans this
end
def Code.part :Code→List Nat→Code
 |c,[] =>c
 | .seq a b,n::p=>bif beq n 0 then Code.part a p else Code.part b p
 | .cond _ a b,n::p=>bif beq n 0 then Code.part a p else Code.part b p
 | .block _ c,_::p=>Code.part c p
 | .loop c,_::p=>Code.part c p
 | .scope c,_::p=>Code.part c p
 | .rangeFunc _ _ a b,n::p=>bif beq n 0 then Code.part a p else Code.part b p
 |c,_=>c
def cd (f:Func)(p:List Nat) :Code:=match f.body with
 |some c=>Code.part c p
 |none=>.skip
def od (f:Func)(p:List Nat) :Array Oper:=match cd f p with
 | .region _ ops _=>ops
 |_=> #[]
def bGb (f:Func)(p:List Nat)(k:Nat) :AItem:=.ops (od f p) k (drop k (od f p).toList)
abbrev aB :=List UInt8
def aY (n:Int) :AV:=.int .i64 n
def eP (b:Bool) :AV:=.bool b
def aH (s:aB) :AV:=.str (length s) (aA s)
def strOf (l:List Nat) :aB:=l.map UInt8.ofNat
theorem bS {α:Type}{f:α→AV}{l:List α}{i:Nat}{y:α}(h:l[i]?=some y) : (List.map f l)[i]?=some (f y) :=by rw [List.getElem?_map,h];rfl
theorem dN {α:Type}{f:α→AV}{l:List α}{i:Nat}{y:α}(h:l[i]?=some y) : (List.map f l)[0+i]?=some (f y) :=by rw [zero_add];exact bS h
theorem aKr {α:Type}(f:α→AV)(l:List α) :0+length l≤length (List.map f l) :=by simp
theorem aKs {α:Type}(f:α→AV)(l m:List α) :take (length l) (drop 0 (List.map f l)) ++List.map f m=List.map f (l++m) :=by
 rw [List.drop_zero,List.take_of_length_le (by simp),List.map_append]
theorem aKt {α:Type}(f:α→AV)(l m:List α) :length l+length (List.map f m) =length (l++m) :=by simp
theorem iF {α:Type}(f:α→AV)(l:List α)(i:Nat)(y:α) : (List.map f l).set (0+i) (f y) =List.map f (set l i y) :=by rw [zero_add,List.map_set]
theorem aCv {α:Type}(f:α→AV)(n:Nat)(y:α) :replicate n (f y) =List.map f (replicate n y) :=by rw [List.map_replicate]
theorem bD {b e o n m:Nat}{x:Bool}(h:n=m) :AV.gl b e o n x= .gl b e o m x:=by rw [h]
theorem aID {α:Type}(f:α→AV)(l:List α){b e:Nat}{x:Bool}:frzOk b e (List.map f l) (List.map f l) (.gl b e 0 (length l) x) :=by
 simp only [frzOk];intro _;exact⟨trivial,by simp,by rw [List.drop_zero,List.take_of_length_le (by simp)]⟩
inductive Pat where
 |mk (form n:Int) (text:aB) (parts:List Pat)
mutual
def Pat.av :Pat→AV
 | .mk f n t ps=>.agg [.int .i64 f,.int .i64 n,aH t,.ilst 4 (Pats.av ps) false]
def Pats.av :List Pat→List AV
 | [] =>[]
 |p::ps=>Pat.av p::Pats.av ps
end
theorem aE :∀l,Pats.av l=List.map Pat.av l
 | [] =>rfl
 |p::ps=>by rw [Pats.av,aE ps];rfl
mutual
theorem qI :∀p,keyless (Pat.av p) =true
 | .mk f n t ps=>by simp only [Pat.av,keyless,keylessL,aCw ps,aH,Bool.and_true]
theorem aCw :∀ (l:List Pat),keylessL (Pats.av l) =true
 | [] =>rfl
 |p::ps=>by simp only [Pats.av,keylessL,qI p,aCw ps,Bool.and_true]
end
theorem eT {l:List Pat}:keylessL (Pats.av l) =true:=aCw l
structure Con where
 name:aB
 args:Int
def Con.av (c:Con) :AV:=.agg [aH c.name,.int .i64 c.args]
structure Node where
 op:Int
 n:Int
 kids:List Int
 pats:List Pat
def Node.av (x:Node) :AV:=.agg [.int .i64 x.op,.int .i64 x.n,.ilst 1 (List.map aY x.kids) false,.ilst 4 (Pats.av x.pats) false]
structure Prog where
 nodes:List Node
 funs:List Int
 main:Int
 cons:List Con
def Prog.av (p:Prog) :AV:=.agg [.ilst 4 (List.map Node.av p.nodes) false,.ilst 1 (List.map aY p.funs) false,.int .i64 p.main,.ilst 2 (List.map Con.av p.cons) false]
section
theorem byte_at :∀ {s:aB} {k:Nat} {y:UInt8},s[k]?=some y→aA s / 256 ^ k % 256=y.toNat
 | c::s,0,y,h=>by
  simp only [List.getElem?_cons_zero,Option.some.injEq]at h;subst h;have:=c.toNat_lt;simp only [aA,Nat.pow_zero,Nat.div_one];omega
 | c::s,k+1,y,h=>by
  rw [List.getElem?_cons_succ]at h;have:=byte_at h;rw [←this];have hc:=c.toNat_lt;simp only [aA];rw [Nat.pow_succ',←Nat.div_div_eq_div_mul];congr 2;omega
theorem aDs {s:aB}{k:Int}{y:UInt8}(h0:0≤k)(h:s[k.toNat]?=some y) :k< ((length s:Nat) :Int) :=by
 have:= (List.getElem?_eq_some_iff.1 h).1;omega
theorem aDt {s:aB}{k:Int}{y:UInt8}(h:s[k.toNat]?=some y) :int .u8 ((mod (div (aA s) (pow 256 k.toNat)) 256:Nat) :Int) = .int .u8 ((y.toNat:Nat) :Int) :=by
 show int .u8 ((aA s / 256 ^ k.toNat % 256:Nat) :Int) =_;rw [byte_at h]
theorem aF5 :∀ (s:aB) (k:Nat),aA s / 256 ^ k=aA (s.drop k)
 |s,0=>by simp
 | [],k+1=>by simp [aA]
 | c::s,k+1=>by
  rw [List.drop_succ_cons,←aF5 s k,Nat.pow_succ',←Nat.div_div_eq_div_mul];congr 1;have:=c.toNat_lt;simp only [aA];omega
theorem aAg {k:IntKind}{i:Int}(h:0≤i) :hQ (some (.int k i)) =some (some i.toNat) :=by
 show(if 0≤i then some (some i.toNat)else none) =_;rw [if_pos h]
theorem jS :hQ none=some none:=rfl
variable {P :Program}
def aH5 (P:Program)(t:TypeId)(X:AV)(lo hi:Option AV)(V:AV) :Prop:=
 ∃l u m,hQ lo=some l∧hQ hi=some u∧hQ none=some m∧ (pU P t X l u m=some V∨ (pU P t X l u m=none∧xJ P t X l u m=some V))
theorem aEv {t:TypeId}(hu:P.underlying t=some .string){s:aB}{kk:IntKind}{k:Int}(h0:0≤k)(h1:k.toNat≤s.length) :
  aH5 P t (aH s) (some (.int kk k)) none (aH (s.drop k.toNat)) :=by
 refine⟨_,_,_,aAg h0,jS,jS,.inl ?_⟩;unfold pU aH;rw [hu];simp only [getD_some,getD_none];have e1:ble k.toNat s.length=true:=ble_eq ▸ h1;have e2:ble s.length s.length=true:=ble_eq ▸ le_refl _;have e3:div (aA s) (pow 256 k.toNat) =aA (s.drop k.toNat) :=aF5 s k.toNat;rw [e1,e2,e3];simp
theorem aSQ {α:Type}{f:α→AV}{F:List α→List AV}(hF:∀l,F l=List.map f l){t:TypeId}{e:Nat}(hu:xB P t e=true){xs:List α}{kk:IntKind}{k:Int}(h0:0≤k)(h1:k.toNat≤xs.length) :
  aH5 P t (.ilst e (F xs) false) none (some (.int kk k)) (.ilst e (F (xs.take k.toNat)) false) :=by
 rw [hF,hF];refine⟨_,_,_,jS,aAg h0,jS,.inr ⟨?_,?_⟩⟩
 ·unfold pU;split<;>simp_all
 · unfold xJ;simp only [hu,cond,getD_some,getD_none,length_map];rw [if_pos ⟨zero_le _,h1⟩];simp [List.map_take]
theorem aVj {α:Type}{f:α→AV}{t:TypeId}{e:Nat}(hu:xB P t e=true){xs:List α}{kk:IntKind}{k:Int}(h0:0≤k)(h1:k.toNat≤xs.length) :
  aH5 P t (.ilst e (List.map f xs) false) none (some (.int kk k)) (.ilst e (List.map f (xs.take k.toNat)) false) :=aSQ (fun _=>rfl) hu h0 h1
theorem aVk {t:TypeId}{b e n:Nat}(hu:xB P t e=true){kk:IntKind}{k:Int}(h0:0≤k)(h1:k.toNat≤n) :
  aH5 P t (.gl b e 0 n false) none (some (.int kk k)) (.gl b e 0 k.toNat false) :=by
 refine⟨_,_,_,jS,aAg h0,jS,.inr ⟨?_,?_⟩⟩
 ·unfold pU;split<;>simp_all
 · unfold xJ;simp only [hu,cond,getD_some,getD_none];rw [if_pos ⟨zero_le _,h1⟩];simp
theorem aVl {α:Type}(f:α→AV)(l:List α) : ((length (List.map f l) :Nat) :Int) = ((length l:Nat) :Int) :=by rw [length_map]
section
variable {α :Type} {f:α→AV} {F:List α→List AV} (hF:∀l,F l=List.map f l)
include hF
theorem nW {l:List α}{i:Nat}{y:α}(h:l[i]?=some y) : (F l)[i]?=some (f y) :=by rw [hF];exact bS h
theorem aZq (l:List α) :0+length l≤length (F l) :=by rw [hF];exact aKr f l
theorem aZr (l m:List α) :take (length l) (drop 0 (F l)) ++F m=F (l++m) :=by rw [hF,hF,hF];exact aKs f l m
theorem aZs (l m:List α) :length l+length (F m) =length (l++m) :=by rw [hF];exact aKt f l m
theorem bFg (l:List α) : ((length (F l) :Nat) :Int) = ((length l:Nat) :Int) :=by rw [hF,length_map]
theorem aPs (l:List α){b e:Nat}{x:Bool}:frzOk b e (F l) (F l) (.gl b e 0 (length l) x) :=by rw [hF];exact aID f l
end
theorem aCx :∀ (s:aB),aA s<256 ^ s.length
 | [] =>by simp [aA]
 | c::s=>by
  have:=aCx s;have:=c.toNat_lt;simp only [aA,length_cons,Nat.pow_succ];omega
theorem bytes_inj {s t:aB}(hl:s.length=t.length)(hn:aA s=aA t) :s=t:=by
 rw [←fV s,←fV t,hl,hn]
theorem eE (s t:aB) :bM (length s) (aA s) (length t) (aA t) =decide (s=t) :=by
 unfold bM;have e1:mod (aA s) (pow 256 s.length) =aA s:=Nat.mod_eq_of_lt (aCx s);by_cases hl:s.length=t.length
 · rw [←hl,e1];have e2:mod (aA t) (pow 256 s.length) =aA t:=by rw [hl];exact Nat.mod_eq_of_lt (aCx t)
   rw [e2,show beq s.length s.length=true from Nat.beq_refl _];by_cases hn:aA s=aA t
   ·have:=bytes_inj hl hn;subst this;simp
   · have:s≠t:=fun e=>hn (by rw [e]);rw [show beq (aA s) (aA t) =false from Bool.eq_false_iff.2 (fun h=>hn (Nat.eq_of_beq_eq_true h)),decide_eq_false this];rfl
 · have:s≠t:=fun e=>hl (by rw [e]);simp [this,hl]
theorem dO (s:aB) :bM (length s) (aA s) 0 0=decide (s= []) :=eE s []
def aU {α β:Type}(f:α→AV)(g:β→AV) :Nat→List (α×β) →List (AV×AV×Nat)
 |_,[] =>[]
 |n,e::l=> (f e.1,g e.2,n) ::aU f g (n+1) l
def cB {α β:Type}[DecidableEq α](k:α)(v:β) :List (α×β) →List (α×β)
 | [] =>[(k,v)]
 |e::l=>if k=e.1 then(k,v) ::l else e::cB k v l
def dE {α β:Type}[DecidableEq α](k:α) :List (α×β) →Option β
 | [] =>none
 |e::l=>if k=e.1 then some e.2 else dE k l
def aMA {α:Type}[DecidableEq α](f:α→AV) :Prop:=∀a b,pT (f a) (f b) =some (decide (a=b))
theorem eZ :aMA aH:=fun a b=>by
 simp only [pT,aH,eE]
theorem vA {α β:Type}[DecidableEq α]{f:α→AV}{g:β→AV}(hf:aMA f)(k:α) :∀ (l:List (α×β)) (n i:Nat),dE k l=none→eQ (f k) (aU f g n l) i=some none
 | [],n,i,_=>rfl
 | e ::l,n,i,h=>by
  unfold dE at h;split at h
  ·cases h
  · rename_i hk;simp only [aU,eQ,hf k e.1,decide_eq_false hk];exact vA hf k l (n+1) _ h
theorem yU {α β:Type}[DecidableEq α](f:α→AV)(g:β→AV)(k:α)(v:β) :∀ (l:List (α×β)) (n:Nat),dE k l=none→aU f g n l++ [(f k,g v,n+l.length)] =aU f g n (cB k v l) ∧ (cB k v l).length=l.length+1
 | [],n,_=>by simp [aU,cB]
 | e ::l,n,h=>by
  unfold dE at h;split at h
  ·cases h
  · rename_i hk;obtain⟨a,b⟩ :=yU f g k v l (n+1) h;simp only [aU,cB,if_neg hk,List.cons_append,length_cons,b];refine⟨?_,trivial⟩;rw [←a,show n+1+l.length=n+ (l.length+1)by omega]
theorem aMB {α β:Type}[DecidableEq α]{f:α→AV}{g:β→AV}(hf:aMA f)(k:α)(v w:β) :∀ (l:List (α×β)) (n i:Nat),dE k l=some w→∃j,eQ (f k) (aU f g n l) i=some (some (i+j,g w)) ∧setE (f k) (g v) (aU f g n l) j=aU f g n (cB k v l) ∧ (cB k v l).length=l.length
 | [],_,_,h=>by cases h
 | e ::l,n,i,h=>by
  unfold dE at h;split at h
  · rename_i hk;cases h;refine⟨0,?_,?_,?_⟩
    ·simp only [aU,eQ,hf k e.1,decide_eq_true hk,Nat.add_zero]
    ·simp only [aU,setE,cB,if_pos hk]
    ·simp only [cB,if_pos hk,length_cons]
  · rename_i hk;obtain⟨j,a,b,c⟩ :=aMB hf k v w l (n+1) (i+1) h;refine⟨j+1,?_,?_,?_⟩
    · simp only [aU,eQ,hf k e.1,decide_eq_false hk];rw [show i+ (j+1) =i+1+j by omega];exact a
    ·simp only [aU,setE,cB,if_neg hk,b]
    ·simp only [cB,if_neg hk,length_cons,c]
theorem aKu {α β:Type}[DecidableEq α]{f:α→AV}{g:β→AV}(hf:aMA f)(k:α)(v:β)(l:List (α×β)) :uV (aU f g 0 l) (length l) (f k) (g v) =some (aU f g 0 (cB k v l),length (cB k v l)) :=by
 unfold uV;cases h:dE k l with
 | none=>
  rw [vA hf k l 0 0 h];obtain⟨a,b⟩ :=yU f g k v l 0 h;simp only [zero_add]at a;simp only [a,b]
 | some w=>
  obtain⟨j,a,b,c⟩ :=aMB hf k v w l 0 0 h;rw [a];simp only [zero_add,b,c]
theorem aRM {α β:Type}(f:α→AV)(g:β→AV) :∀ (l:List (α×β)) (n:Nat),(aU f g n l).length=l.length
 | [],_=>rfl
 |e::l,n=>by simp only [aU,length_cons,aRM f g l (n+1)]
def sF {α β:Type}[DecidableEq α](k:α) :List (α×β) →Nat
 | [] =>0
 |e::l=>if k=e.1 then 0 else sF k l+1
theorem aMC {α β:Type}[DecidableEq α]{f:α→AV}{g:β→AV}(hf:aMA f)(k:α) :∀ (l:List (α×β)) (n i:Nat),eQ (f k) (aU f g n l) i=some ((dE k l).map fun w=> (i+sF k l,g w))
 | [],n,i=>rfl
 | e ::l,n,i=>by
  by_cases hk:k=e.1
  ·simp only [aU,eQ,hf k e.1,decide_eq_true hk,dE,sF,if_pos hk,Option.map_some,Nat.add_zero]
  · simp only [aU,eQ,hf k e.1,decide_eq_false hk,dE,sF,if_neg hk];rw [aMC hf k l (n+1) (Nat.succ i)];congr 2
    funext w
    rw [show Nat.succ i+sF k l=i+ (sF k l+1)by omega]
end
theorem aCy {α β:Type}{f:α→AV}{g:β→AV}(hf:∀a,keyless (f a) =true)(hg:∀a,keyless (g a) =true) :∀ (l:List (α×β)) (n:Nat),∀e∈aU f g n l,keyless e.1=true∧keyless e.2.1=true
 | [],_,e,h=>by simp [aU]at h
 | x::l,n,e,h=>by
  rcases List.mem_cons.1 h with rfl|h
  ·exact⟨hf _,hg _⟩
  ·exact aCy hf hg l (n+1) e h
theorem mS {α β:Type}[DecidableEq α]{f:α→AV}{g:β→AV}(hf:aMA f){k:α}{l:List (α×β)}(h:dE k l=none) :eQ (f k) (aU f g 0 l) 0=some none:=vA hf k l 0 0 h
theorem mT {α β:Type}[DecidableEq α]{f:α→AV}{g:β→AV}(hf:aMA f){k:α}{v:β}{l:List (α×β)}(h:dE k l=some v) :eQ (f k) (aU f g 0 l) 0=some (some (sF k l,g v)) :=by
 rw [aMC hf,h];simp
theorem aVm {α β:Type}(f:α→AV)(g:β→AV)(l:List (α×β)) :int .i64 ((length (aU f g 0 l) :Nat) :Int) = .int .i64 ((length l:Nat) :Int) :=by rw [aRM]
theorem aM {α β:Type}{f:α→AV}{g:β→AV}(hf:∀a,keyless (f a) =true)(hg:∀a,keyless (g a) =true)(n:Nat)(l:List (α×β))(c:Nat) : (AObj.map (aU f g n l) c).kl:=by
 intro e he;exact aCy hf hg l n e he
section
/-- a proposition with its proof -/
structure Pf where
  p:Prop
  h:p
def qp {p:Prop}(h:p) :Pf:= ⟨p,h⟩
theorem aVn :∀ (L:List Pf),AllP (L.map Pf.p)
  | [] =>trivial
  | [a] =>a.h
  |a::b::L=> ⟨a.h,aVn (b::L)⟩
noncomputable abbrev PP:Program:=Tryz.prog
variable {P :Program}
theorem kk {α:Type}{f:α→AV}{l:List α}(h:∀a,keyless (f a) =true:=by exact fun _=>rfl) :keylessL (List.map f l) =true:=aG f h l
section
variable {α :Type}
def qs (b e o:Nat)(l:List α)(i:Nat)(v:α)(x:Bool) :Pf:= ⟨AV.gl b e o l.length x= .gl b e o (l.set i v).length x,bD (List.length_set ..).symm⟩
end
noncomputable abbrev rn:Nat→Ins:=.run
noncomputable abbrev bt (j:Nat) :Ins:=.b j true
noncomputable abbrev bf (j:Nat) :Ins:=.b j false
noncomputable abbrev aI (v:AV) :Ins:=.ans (.idx v)
noncomputable abbrev sI (j:Nat)(x:Int) :Ins:=.set j (.int .i64 x)
noncomputable abbrev pB (b:Bool) :Ins:=.pure (.bool b)
noncomputable abbrev nI (x:Int) :AV:=.int .i64 x
noncomputable abbrev bV (b:Bool) :AV:=.bool b
noncomputable abbrev jI (l:List Int) :List AV:=List.map aY l
noncomputable abbrev jN (l:List Node) :List AV:=List.map Node.av l
noncomputable abbrev jC (l:List Con) :List AV:=List.map Con.av l
noncomputable abbrev iI (l:List Int) :AV:=.ilst 1 (List.map aY l) false
noncomputable abbrev iS (l:List aB) :AV:=.ilst 1 (List.map aH l) false
noncomputable abbrev iN (l:List Node) :AV:=.ilst 4 (List.map Node.av l) false
noncomputable abbrev iC (l:List Con) :AV:=.ilst 2 (List.map Con.av l) false
noncomputable abbrev iP (l:List Pat) :AV:=.ilst 4 (Pats.av l) false
end
section
/-- an obligation: proved outright, or a premise with what follows from it -/
inductive Hy where
  |q {p:Prop} (h:p)
  |a (p:Prop) {p':Prop} (f:p→p')
def Hy.ob :Hy→Prop
  | @Hy.q p _=>p
  | @Hy.a _ p' _=>p'
/-- all ways from a state -/
inductive Tr :Type 1 where
  |b (n j:Nat) (c:Bool) (t f:Tr)
  |i (is:List Ins) (L:List Hy) (a:Tr)
  |y {α:Type} (f:α→Tr)
  |o (a b:Tr)
  |W (n n1:Nat) (ks:List Nat) (t:TS)
  |E (n n1:Nat) (ks:List Nat) (v:AV) (hp:List (Nat×AObj×Bool)) (nb:Nat)
  |P (n n1:Nat) (ks:List Nat) (ch:List (AV×Bool)) (hp:List (Nat×AObj×Bool)) (nb:Nat)
  |x
structure Br (c:Bool) (A B:Prop) :Prop where
  t:c=true→A
  f:c=false→B
def aZt :List Hy→Prop→Prop
  | [],Q=>Q
  | @Hy.q _ _::L,Q=>aZt L Q
  | @Hy.a p _ _::L,Q=>p→aZt L Q
variable (P :Program)
def aEw (m:Nat)(s0:AS) :Tr→Prop
  | .b _ _ c t f=>Br c (aEw m s0 t) (aEw m s0 f)
  | .i _ L a=>aZt L (aEw m s0 a)
  | .y f=>∀y,aEw m s0 (f y)
  | .o a b=>aEw m s0 a∧aEw m s0 b
  | .W _ _ _ t=>jR t.hp→LeadsM P m s0 t.as
  | .E _ _ _ v hp nb=>jR hp→Ends P m s0 (.ret v) (aD hp nb)
  | .P _ _ _ ch hp nb=>jR hp→Ends P m s0 (.pan ch) (aD hp nb)
  | .x=>True
abbrev eTS (hp:List (Nat×AObj×Bool))(nb:Nat) :TS:= ⟨⟨0,0,[],[],[],.run,.normal,none⟩,[],hp,nb⟩
def sY (m:Nat) :Tr→AS→Prop
  | .b n j c t f,s=>match nJ P qG n s with
    | some s=>match s.fr.tm.at j with
      |some (.bool b) =>b=c∧sY m t ⟨{s.fr with tm:=s.fr.tm.put j (.bool true)},s.cs,s.h⟩ ∧sY m f ⟨{s.fr with tm:=s.fr.tm.put j (.bool false)},s.cs,s.h⟩
      |_=>False
    |none=>False
  | .i is L a,s=>match aA4 P is s with
    |some (s,ps) =>ps=L.map Hy.ob∧sY m a s
    |none=>False
  | .y f,s=>∀y,sY m (f y) s
  | .o a b,s=>sY m a s∧sY m b s
  | .W n n1 ks t,s=>match nJ P qG n s with
    |some s=> (s.h.nb,s.sum (eY m t.nb s.h.nb ks) t) = (n1,t.want (eY m t.nb n1 ks)) ∧dR m t ks=true
    |none=>False
  | .E n n1 ks v hp nb,s=>match nJ P qG n s with
    | some s=>match aEh P s with
      |some (u,h1) => (h1.nb,u,uZ h1 (eY m nb h1.nb ks) hp) = (n1,ren (eY m nb n1 ks) v,jQ (eY m nb n1 ks) hp) ∧dR m (eTS hp nb) ks=true
      |none=>False
    |none=>False
  | .P n n1 ks ch hp nb,s=>match nJ P qG n s with
    | some s=>match aPq P s with
      |some (u,h1) => (h1.nb,u,uZ h1 (eY m nb h1.nb ks) hp) = (n1,aRK (eY m nb n1 ks) ch,jQ (eY m nb n1 ks) hp) ∧dR m (eTS hp nb) ks=true
      |none=>False
    |none=>False
  | .x,_=>True
/-- what it comes to -/
def okP (m:Nat) :Tr→Prop
  | .b _ _ c t f=>c=c∧okP m t∧okP m f
  | .i _ L a=>L.map Hy.ob=L.map Hy.ob∧okP m a
  | .y f=>∀y,okP m (f y)
  | .o a b=>okP m a∧okP m b
  | .W _ n1 ks t=> (n1,t.want (eY m t.nb n1 ks)) = (n1,t.want (eY m t.nb n1 ks)) ∧true=true
  | .E _ n1 ks v hp nb=> (n1,ren (eY m nb n1 ks) v,jQ (eY m nb n1 ks) hp) = (n1,ren (eY m nb n1 ks) v,jQ (eY m nb n1 ks) hp) ∧true=true
  | .P _ n1 ks ch hp nb=> (n1,aRK (eY m nb n1 ks) ch,jQ (eY m nb n1 ks) hp) = (n1,aRK (eY m nb n1 ks) ch,jQ (eY m nb n1 ks) hp) ∧true=true
  | .x=>True
variable {P :Program}
theorem vB (m:Nat) :∀t:Tr,okP m t
  | .b _ _ _ t f=> ⟨rfl,vB m t,vB m f⟩
  | .i _ _ a=> ⟨rfl,vB m a⟩
  | .y f=>fun y=>vB m (f y)
  | .o a b=> ⟨vB m a,vB m b⟩
  | .W .. => ⟨rfl,rfl⟩
  | .E .. => ⟨rfl,rfl⟩
  | .P .. => ⟨rfl,rfl⟩
  | .x=>trivial
theorem aKv :∀ {L:List Hy} {Q:Prop},((∀p∈L.map Hy.ob,p) →Q) →aZt L Q
  | [],_,h=>h (by simp)
  | @Hy.q p hp::L,_,h=>aKv (L:=L) fun g=>h fun q hq=>by
    rcases List.mem_cons.1 hq with e|e
    ·subst e;exact hp
    ·exact g q e
  | @Hy.a p p' f::L,_,h=>fun hp=>aKv (L:=L) fun g=>h fun q hq=>by
    rcases List.mem_cons.1 hq with e|e
    ·subst e;exact f hp
    ·exact g q e
theorem aCz {m n:Nat}{s s':AS}(h:nJ P qG n s=some s') :LeadsM P m s s':=by
  rw [uT]at h;exact(rI cG h).toM
theorem aVo {m:Nat}{s:AS}{t:TS}{ks:List Nat}(h2:s.sum (eY m t.nb s.h.nb ks) t=t.want (eY m t.nb s.h.nb ks))(hok:dR m t ks=true)(hkl:jR t.hp) :LeadsM P m s t.as:=by
  simp only [AS.sum,TS.want,Sum.mk.injEq]at h2;obtain⟨a1,a2,a3,a4⟩ :=h2;intro hm E fr ccs w base f fs r;obtain⟨q1,q2⟩ :=nV (l:=t.hp) (nb:=t.nb) (by simpa [dR]using hok) a4 hkl r;exact⟨_,fr,ccs,w,Steps.refl _ _,aKo a1 f,aDp a2 a3 fs,q1,q2⟩
theorem kV {m:Nat}{s0:AS}:∀ (tr:Tr) {s:AS},sY P m tr s→LeadsM P m s0 s→aEw P m s0 tr
  | .x,_,_,_=>trivial
  | .b n j c t f,s,h,hl=>by
    simp only [sY]at h;split at h
    · rename_i s1 h1;split at h
      · rename_i b hj;obtain⟨rfl,h2,h3⟩ :=h;have l1:=hl.trans (aCz h1);refine⟨fun e=>kV t h2 (l1.trans ?_),fun e=>kV f h3 (l1.trans ?_)⟩
        ·exact xstep_sound (i:=.b j true) (ps:=[b=true]) (by simp only [xstep,hj]) (fun p hp=>by simp only [List.mem_singleton]at hp;subst hp;exact e)
        ·exact xstep_sound (i:=.b j false) (ps:=[b=false]) (by simp only [xstep,hj]) (fun p hp=>by simp only [List.mem_singleton]at hp;subst hp;exact e)
      ·exact h.elim
    ·exact h.elim
  | .i is L a,s,h,hl=>by
    simp only [sY]at h;split at h
    · rename_i s1 ps h1;obtain⟨rfl,h2⟩ :=h;exact aKv fun g=>kV a h2 (hl.trans (jP h1 g))
    ·exact h.elim
  | .y f,s,h,hl=>fun y=>kV (f y) (h y) hl
  | .o a b,s,h,hl=> ⟨kV a h.1 hl,kV b h.2 hl⟩
  | .W n n1 ks t,s,h,hl=>fun hkl=>by
    simp only [sY]at h;split at h
    · rename_i s1 h1;obtain⟨h2,h3⟩ :=h;obtain⟨e,h2⟩ :=Prod.mk.inj h2;subst e;exact(hl.trans (aCz h1)).trans (aVo h2 h3 hkl)
    ·exact h.elim
  | .E n n1 ks v hp nb,s,h,hl=>fun hkl=>by
    simp only [sY]at h;split at h
    · rename_i s1 h1;split at h
      · rename_i u hh hf;obtain⟨h2,hok⟩ :=h;obtain⟨e,h2⟩ :=Prod.mk.inj h2;obtain⟨h3,h4⟩ :=Prod.mk.inj h2;subst e;subst h3;refine(hl.trans (aCz h1)).ends ?_;intro hm E fr ccs w f fs r cl base;obtain⟨cl',w',E',g1,⟨cv,rfl,g2⟩,g3,g4⟩ :=aFT (m:=m) hf hm E fr ccs w f fs r cl base;obtain⟨q1,q2⟩ :=nV hok h4 hkl g3;exact⟨_,w',_,g1,⟨cv,rfl,(fO _ _ _ _).1 g2⟩,q1,g4.trans q2⟩
      ·exact h.elim
    ·exact h.elim
  | .P n n1 ks ch hp nb,s,h,hl=>fun hkl=>by
    simp only [sY]at h;split at h
    · rename_i s1 h1;split at h
      · rename_i u hh hf;obtain⟨h2,hok⟩ :=h;obtain⟨e,h2⟩ :=Prod.mk.inj h2;obtain⟨h3,h4⟩ :=Prod.mk.inj h2;subst e;subst h3;refine(hl.trans (aCz h1)).ends ?_;intro hm E fr ccs w f fs r cl base;obtain⟨cl',w',E',g1,⟨ps',rfl,g2⟩,g3,g4⟩ :=aMv (m:=m) hf hm E fr ccs w f fs r cl base;obtain⟨q1,q2⟩ :=nV hok h4 hkl g3;exact⟨_,w',_,g1,⟨ps',rfl,aKm g2⟩,q1,g4.trans q2⟩
      ·exact h.elim
    ·exact h.elim
theorem tT (m:Nat)(s:TS)(tr:Tr)(h0:sY PP m tr s.as=okP m tr:=by kernel_rfl) :aEw PP m s.as tr:=
  kV tr (h0 ▸ vB m tr) (LeadsM.refl _)
theorem tv :True:=trivial
def aVp :Nat→Nat→List Nat→List Nat
  |0,_,l=>l
  |k+1,n,l=>bif beq n 1 then l else aVp k (n / 2) (n % 2::l)
/-- a place in code by one number -/
abbrev kd (F:Func)(n:Nat) :Code:=cd F (aVp 60 n [])
abbrev kc (F:Func)(n:Nat) :AItem:=.code (kd F n)
abbrev kl (F:Func)(n:Nat) :AItem:=.inLoop (kd F n)
abbrev ko (F:Func)(n k:Nat) :AItem:=bGb F (aVp 60 n []) k
abbrev kp (j b:Nat) :Nat×AV:= (j,.ptr b 0)
abbrev tf (fn nt:Nat)(sl:List (Nat×AV))(todo:List AItem)(defers:List ADef:=[])(mode:AMode:=.run)(kind:CallKind:=.normal)(roundOf:Option Nat:=none) :TF:= ⟨fn,nt,sl,todo,defers,mode,kind,roundOf⟩
abbrev oC (k:Nat)(L:List AV) :Nat×AObj×Bool:= (k,.cells (putCells .leaf 0 L) L.length [] false,false)
abbrev oL (k e:Nat)(L:List AV) :Nat×AObj×Bool:= (k,.lst e L,true)
section
variable {α :Type} {f:α→AV} {F:List α→List AV}
abbrev hA (p:Prop) :Hy:=.a p id
abbrev hW (x:Int) :Hy:=.a (IntKind.i64.wrap x=x) (congrArg (int .i64))
abbrev hr {β:Type}(x:β) :Hy:=.q (Eq.refl x)
abbrev hl (f:α→AV)(l:List α) :Hy:=.q (aVl f l)
abbrev hm (M:∀l,F l=List.map f l)(l:List α) :Hy:=.q (bFg M l)
abbrev hb (f:α→AV)(l:List α) :Hy:=.q (aKr f l)
abbrev hB (M:∀l,F l=List.map f l)(l:List α) :Hy:=.q (aZq M l)
abbrev hc (f:α→AV)(l m:List α) :Hy:=.q (aKs f l m)
abbrev hC (M:∀l,F l=List.map f l)(l m:List α) :Hy:=.q (aZr M l m)
abbrev he (f:α→AV)(l m:List α) :Hy:=.q (aKt f l m)
abbrev hE (M:∀l,F l=List.map f l)(l m:List α) :Hy:=.q (aZs M l m)
abbrev hk (f:α→AV)(l:List α)(h:∀a,keyless (f a) =true:=by exact fun _=>rfl) :Hy:=.q (aG f h l)
abbrev hK (K:∀ {l:List α},keylessL (F l) =true)(l:List α) :Hy:=.q (K (l:=l))
abbrev hz (b e:Nat)(f:α→AV)(l:List α)(x:Bool) :Hy:=.q (aID f l (b:=b) (e:=e) (x:=x))
abbrev hZ (b e:Nat)(M:∀l,F l=List.map f l)(l:List α)(x:Bool) :Hy:=.q (aPs M l (b:=b) (e:=e) (x:=x))
abbrev rd (n:Nat)(L:List RIns) :List RIns:=replicate n RIns.d++L
abbrev gd (n j:Nat)(p:Prop)[Decidable p](t f:Tr) :Tr:=.b n j (decide p) t f
abbrev gE (n n1:Nat)(v:AV) :Tr:=.E n n1 [] v [] 0
abbrev gQ (n n1:Nat)(ch:List (AV×Bool)) :Tr:=.P n n1 [] ch [] 0
abbrev gw (n j:Nat)(x:Int)(a:Tr) :Tr:=.i [.run n,.set j (.int .i64 x)] [hW x] a
abbrev gs (n j:Nat)(v:AV)(a:Tr) :Tr:=.i [.run n,.set j v] [hr v] a
abbrev gv (n k o:Nat)(v:AV)(a:Tr) :Tr:=.i [.run n,.cset k o v] [hr v] a
abbrev gu (n b:Nat)(x:List AV)(a:Tr) :Tr:=.i [.run n,.lset b x] [hr x] a
abbrev gl (n:Nat)(f:α→AV)(l:List α)(a:Tr) :Tr:=.i [.run n,.ans (.len (l.length:Int))] [hl f l] a
abbrev gm (n:Nat)(M:∀l,F l=List.map f l)(l:List α)(a:Tr) :Tr:=.i [.run n,.ans (.len (l.length:Int))] [hm M l] a
abbrev gi (f:α→AV)(n:Nat)(l:List α)(i:Int)(y:α)(a:Tr) :Tr:=.i [.run n,.ans (.idx (f y))] [hA (0≤i),.a (l[i.toNat]?=some y) (bS (f:=f))] a
abbrev giF (M:∀l,F l=List.map f l)(n:Nat)(l:List α)(i:Int)(y:α)(a:Tr) :Tr:=.i [.run n,.ans (.idx (f y))] [hA (0≤i),.a (l[i.toNat]?=some y) (nW M)] a
abbrev gj (f:α→AV)(n:Nat)(l:List α)(i:Nat)(y:α)(a:Tr) :Tr:=.i [.run n,.ans (.idx (f y))] [.a (l[i]?=some y) (dN (f:=f))] a
abbrev gX (f:α→AV)(n:Nat)(l:List α)(i:Int)(a:α→Tr) :Tr:=.y fun y=>gi f n l i y (a y)
abbrev gp (n f:Nat)(xs:List AV)(v:AV)(a:Tr) :Tr:=.i [.run n,.pure v] [hA (Pure PP f xs v)] a
abbrev gpI (n f:Nat)(xs:List AV)(a:Int→Tr) :Tr:=.y fun y=>gp n f xs (.int .i64 y) (a y)
abbrev gV (n f:Nat)(xs:List AV)(a:Bool→Tr) :Tr:=.y fun y=>gp n f xs (.bool y) (a y)
abbrev gpS (n f:Nat)(xs:List AV)(a:aB→Tr) :Tr:=.y fun y=>gp n f xs (aH y) (a y)
abbrev gk (n:Nat)(c:AIn)(H:List (Nat×AObj×Bool))(k:Nat)(v:AV)(H':List (Nat×AObj×Bool))(k':Nat)(a:Tr) :Tr:=.i [.run n,.call v (aD H' k')] [hA (Spec PP c (aD H k) (.ret v) (aD H' k'))] a
abbrev gK (n:Nat)(c:AIn)(H:List (Nat×AObj×Bool))(k:Nat)(v:List (AV×Bool))(H':List (Nat×AObj×Bool))(k':Nat)(a:Tr) :Tr:=.i [.run n,.callP v (aD H' k')] [hA (Spec PP c (aD H k) (.pan v) (aD H' k'))] a
abbrev ga (n:Nat)(f:α→AV)(l m:List α)(a:Tr) :Tr:=.i [.run n,.app (List.map f (l++m)) (l++m).length] [hb f l,hA ((l++m).length≤1000000),hc f l m,he f l m] a
abbrev gA (n:Nat)(M:∀l,F l=List.map f l)(l m:List α)(a:Tr) :Tr:=.i [.run n,.app (F (l++m)) (l++m).length] [hB M l,hA ((l++m).length≤1000000),hC M l m,hE M l m] a
abbrev gz (n j b e:Nat)(f:α→AV)(l:List α)(x:Bool)(a:Tr)(h:∀a,keyless (f a) =true:=by exact fun _=>rfl) :Tr:=.i [.run n,.frz j b (List.map f l)] [hk f l h,hz b e f l x] a
abbrev gy (n k o b e:Nat)(f:α→AV)(l:List α)(x:Bool)(a:Tr)(h:∀a,keyless (f a) =true:=by exact fun _=>rfl) :Tr:=.i [.run n,.cfrz k o b (List.map f l)] [hk f l h,hz b e f l x] a
abbrev gZ (n j b e:Nat)(M:∀l,F l=List.map f l)(K:∀ {l:List α},keylessL (F l) =true)(l:List α)(x:Bool)(a:Tr) :Tr:=.i [.run n,.frz j b (F l)] [.q (K (l:=l)),hZ b e M l x] a
abbrev gY (n k o b e:Nat)(M:∀l,F l=List.map f l)(K:∀ {l:List α},keylessL (F l) =true)(l:List α)(x:Bool)(a:Tr) :Tr:=.i [.run n,.cfrz k o b (F l)] [.q (K (l:=l)),hZ b e M l x] a
abbrev aF6 (n:Nat)(l:List Pat)(i:Int)(a:Int→Int→aB→List Pat→Tr) :Tr:=.y fun p=>.y fun q=>.y fun r=>.y fun s=>giF aE n l i (.mk p q r s) (a p q r s)
end
end
def aAh(a:aB)(b:Int):TS:=⟨(tf 114 20 [(0,(aH a)),(2,(bV false)),(3,(nI b))] [kc f114 52,kl f114 52,.inBlock 0,kc f114 7]),[],[],0⟩
def aFd(a:List aB)(b:aB)(c:Int):TS:=⟨(tf 64 18 [(0,(iS a)),(1,(aH b)),(4,(bV false)),(5,(nI c))] [kc f64 52,kl f64 52,.inBlock 0,kc f64 7]),[],[],0⟩
def vC(a:List aB)(b:Int):TS:=⟨(tf 62 18 [(0,(iS a)),(2,(bV false)),(3,(nI b))] [kc f62 52,kl f62 52,.inBlock 0,kc f62 7]),[],[],0⟩
def aAi(a b:Int)(c:aB)(d:List Pat)(g e f:Int):TS:=⟨(tf 155 29 [(1,(nI e)),kp 2 0,(4,(nI 0)),(5,(nI f))] [kc f155 244,kl f155 244,.inBlock 0,kc f155 31]),[],[oC 0 [(nI a),(nI b),(aH c),(iP d)]],1⟩
def pG(a b:Int)(c:aB)(d:List Pat)(e:Int):TS:=⟨(tf 185 22 [kp 1 0,(2,(bV false)),(3,(nI e))] [kc f185 52,kl f185 52,.inBlock 0,kc f185 7]),[],[oC 0 [(nI a),(nI b),(aH c),(iP d)]],1⟩
def nN(a:Prog)(b:Int):TS:=⟨(tf 76 74 [kp 1 0,(2,(bV false)),(3,(nI b))] [kc f76 116,kl f76 116,.inBlock 0,kc f76 15]),[],[oC 0 [(iN a.nodes),(iI a.funs),(nI a.main),(iC a.cons)]],1⟩
def nO(a:Prog)(b:Int):TS:=⟨(tf 76 74 [kp 1 0,(2,(bV false)),(4,(nI b))] [kc f76 244,kl f76 244,.inBlock 2,kc f76 31]),[],[oC 0 [(iN a.nodes),(iI a.funs),(nI a.main),(iC a.cons)]],1⟩
def nP(a:Prog)(b c:Int)(d:List Int)(e:List Pat)(f g:Int):TS:=⟨(tf 76 74 [kp 1 0,(2,(bV false)),(4,(nI g)),kp 5 1,(6,(nI f))] [kc f76 62620,kl f76 62620,.inBlock 4,.inBlock 3,kc f76 979,kl f76 244,.inBlock 2,kc f76 31]),[],[oC 0 [(iN a.nodes),(iI a.funs),(nI a.main),(iC a.cons)],oC 1 [(nI b),(nI c),(iI d),(iP e)]],2⟩
def bGc(a b c:Int):=tT 0 (start PP 94 [(nI a),(nI b),(nI c)])<|gd 10 10 (a≥b) (gE 7 0 (bV (decide (a≤c))))<|gE 7 0 (bV false)
def aZu:=fun a b c d=>bGc a b c|>.t d tv
def aZv:=fun a b c d=>bGc a b c|>.f d tv
def aPt (a:aB):=(tT 0 (start PP 114 [(aH a)])<|.W 11 0 [] (aAh a 0)) tv
def aZw(b:aB)(a:Int):=tT 0 (aAh b a)<|gd 8 7 (a< (b.length:Int)) (.y fun c:UInt8=>.i [rn 8,.ans (.ev (.int .u8 ((c.toNat:Nat) :Int)))] [hA (0≤a),.a (0≤a∧ (b)[a.toNat]?=some c) (p':=a< (b.length:Int)) fun⟨ha,hb⟩=>(aDs (k:=a) ha hb),.a ((b)[a.toNat]?=some c) (p':=int .u8 ((mod (div (aA b) (pow 256 a.toNat)) 256:Nat) :Int) = (.int .u8 ((c.toNat:Nat) :Int))) (fun h=>(aDt (k:=a) h))]<|gd 2 14 (((c.toNat:Nat) :Int) <97) (gE 12 0 (bV false))<|.i [rn 2,.ans (.ev (.int .u8 ((c.toNat:Nat) :Int)))] [hA (0≤a),.a (0≤a∧ (b)[a.toNat]?=some c) (p':=a< (b.length:Int)) fun⟨ha,hb⟩=>(aDs (k:=a) ha hb),.a ((b)[a.toNat]?=some c) (p':=int .u8 ((mod (div (aA b) (pow 256 a.toNat)) 256:Nat) :Int) = (.int .u8 ((c.toNat:Nat) :Int))) (fun h=>(aDt (k:=a) h))]<|gd 3 19 (((c.toNat:Nat) :Int) >122) (gE 6 0 (bV false))<|gw 6 9 (a+ (1:Int))<|.W 3 0 [] (aAh b (a+ (1:Int))))<|gE 7 0 (bV true)
def aPu:=fun c d e f a b g=>aZw c d|>.t f e a ⟨a,b⟩ b|>.t g tv
def aPv:=fun c d e f a b g i=>aZw c d|>.t f e a ⟨a,b⟩ b|>.f g a ⟨a,b⟩ b|>.t i tv
def aPw:=fun c d e f a b g i j=>aZw c d|>.t f e a ⟨a,b⟩ b|>.f g a ⟨a,b⟩ b|>.f i j tv
def aPx:=fun a b c=>aZw a b|>.f c tv
def aVq(a:aB):=tT 0 (start PP 116 [(aH a)])<|gd 10 6 ((a.length:Int) ≥1) (gd 5 11 ((a.length:Int) ≤8) (.y fun b:UInt8=>.i [rn 1,.ans (.ev (.int .u8 ((b.toNat:Nat) :Int)))] [.q (p:=0≤ (0:Int)) (by decide),.a ((a)[0]?=some b) (p':=(0:Int) < (a.length:Int)) (fun h=>(aDs (k:= (0:Int)) (by decide) h)),.a ((a)[0]?=some b) (p':=int .u8 ((mod (div (aA a) (pow 256 (0:Int).toNat)) 256:Nat) :Int) = (.int .u8 ((b.toNat:Nat) :Int))) (fun h=>(aDt (k:= (0:Int)) h))]<|gd 3 16 (((b.toNat:Nat) :Int) ≥65) (.i [rn 1,.ans (.ev (.int .u8 ((b.toNat:Nat) :Int)))] [.q (p:=0≤ (0:Int)) (by decide),.a ((a)[0]?=some b) (p':=(0:Int) < (a.length:Int)) (fun h=>(aDs (k:= (0:Int)) (by decide) h)),.a ((a)[0]?=some b) (p':=int .u8 ((mod (div (aA a) (pow 256 (0:Int).toNat)) 256:Nat) :Int) = (.int .u8 ((b.toNat:Nat) :Int))) (fun h=>(aDt (k:= (0:Int)) h))]<|gd 3 21 (((b.toNat:Nat) :Int) ≤90) (.i [rn 1,.ans (.ev (aH (drop 1 a)))] [.a (1≤length a) (p':=aH5 PP 9 (aH a) (some (nI 1)) none (aH (drop 1 a))) (fun h=>(aEv (k:= (1:Int)) (by kernel_rfl) (by decide) h))]<|gV 0 114 [(aH (drop 1 a))]<|fun c=>gE 4 0 (bV c))<|gE 7 0 (bV false))<|gE 12 0 (bV false))<|gE 17 0 (bV false))<|gE 22 0 (bV false)
def aPy:=fun b c d e f a g i j k=>aVq b|>.t e|>.t f c a a|>.t g a a|>.t i j d k tv
def aPz:=fun b c d e a f g=>aVq b|>.t d|>.t e c a a|>.t f a a|>.f g tv
def aPA:=fun b c d e a f=>aVq b|>.t d|>.t e c a a|>.f f tv
def aPB:=fun a b c=>aVq a|>.t b|>.f c tv
def aPC:=fun a b=>aVq a|>.f b tv
def aVr (a:List aB)(b:aB):=(tT 0 (start PP 64 [(iS a),(aH b)])<|.W 11 0 [] (aFd a b 0)) tv
def bFh(a:List aB)(c:aB)(b:Int):=tT 0 (aFd a c b)<|gl 5 aH a<|gd 2 9 (b< (a.length:Int)) (gX aH 8 a b<|fun d=>.b 4 17 (bM d.length (aA d) c.length (aA c)) (gE 6 0 (bV true))<|gw 6 11 (b+1)<|.W 3 0 [] (aFd a c (b+1)))<|gE 7 0 (bV false)
def aVs:=fun a b c d e f g i=>bFh a b c|>.t e d f g|>.t i tv
def aVt:=fun a b c d e f g i j=>bFh a b c|>.t e d f g|>.f i j tv
def aVu:=fun a b c d=>bFh a b c|>.f d tv
def aMD (a:List aB):=(tT 0 (start PP 62 [(iS a)])<|.W 11 0 [] (vC a 0)) tv
def bFi(b:List aB)(a:Int):=tT 0 (vC b a)<|gl 5 aH b<|gd 2 7 (a< (b.length:Int)) (.y fun c:aB=>.y fun d:Bool=>.i [rn 5,.reg [.d,.d,.ans (.ev (iS (take a.toNat b))),.d,.d,.ans (.idx (aH c)),.d,.pure (bV d)]] [.a (0≤a∧a.toNat≤length b) (p':=aH5 PP 46 (iS b) none (some (nI a)) (iS (take a.toNat b))) fun⟨ha,hb⟩=>(aVj (k:=a) (by kernel_rfl) ha hb),hA (0≤a),.a (((b)[a.toNat]?) =some c) (bS (f:=aH)),hA (Pure PP 64 [(iS (take a.toNat b)),(aH c)] (bV d))]<|.b 0 17 d (gE 6 0 (bV false))<|gw 6 9 (a+1)<|.W 3 0 [] (vC b (a+1)))<|gE 7 0 (bV true)
def aME:=fun b c d e f a g i j k=>bFi b c|>.t f d e ⟨a,g⟩ a i j|>.t k tv
def aMF:=fun b c d e f a g i j k l=>bFi b c|>.t f d e ⟨a,g⟩ a i j|>.f k l tv
def aMG:=fun a b c=>bFi a b|>.f c tv
def bGd(b c:Int)(d:aB)(e:List Pat)(a:Int):=tT 0 (start PP 155 [(.agg [(nI b),(nI c),(aH d),(iP e)]),(nI a)])<|gd 11 7 (a<1) (gE 6 1 (nI (-1)))<|gw 6 9 (a-1)<|.W 9 1 [0] (aAi b c d e a (a-1) 0)
def aPD:=fun a b c d e f=>bGd a b c d e|>.t f tv
def aPE:=fun a b c d e f g=>bGd a b c d e|>.f f g tv
def bFj(d e:Int)(f:aB)(a:List Pat)(g b c:Int):=tT 0 (aAi d e f a g b c)<|gm 6 aE a<|gd 2 15 (c< (a.length:Int)) (gd 4 18 (b≥0) (aF6 8 a c<|fun i j k l=>gpI 2 155 [(.agg [(nI i),(nI j),(aH k),(iP l)]),(nI b)]<|fun m=>gw 6 20 (c+1)<|.W 3 1 [0] (aAi d e f a g m (c+1)))<|gE 8 1 (nI b))<|gE 12 1 (nI b)
def aPF:=fun a b c d e f g i j k l m n o p q r s=>bFj a b c d e f g|>.t n|>.t o i j k l p q m r s tv
def aPG:=fun a b c d e f g i j=>bFj a b c d e f g|>.t i|>.f j tv
def aPH:=fun a b c d e f g i=>bFj a b c d e f g|>.f i tv
def aH6 (a b:Int)(c:aB)(d:List Pat):=(tT 0 (start PP 185 [(.agg [(nI a),(nI b),(aH c),(iP d)])])<|.W 12 1 [0] (pG a b c d 0)) tv
def bFk(d e:Int)(c:aB)(a:List Pat)(b:Int):=tT 0 (pG d e c a b)<|gm 6 aE a<|gd 2 8 (b< (a.length:Int)) (aF6 9 a b<|fun f g i j=>gV 1 185 [(.agg [(nI f),(nI g),(aH i),(iP j)])]<|fun k=>.b 2 17 (!k) (gE 6 1 (bV false))<|gw 6 10 (b+1)<|.W 3 1 [0] (pG d e c a (b+1)))<|gE 11 1 (bV (decide ((c.length:Int) ≤30)))
def aH7:=fun a b c d e f g i j k l m n o p=>bFk a b c d e|>.t l f g i j m n k o|>.t p tv
def aH8:=fun a b c d e f g i j k l m n o p q=>bFk a b c d e|>.t l f g i j m n k o|>.f p q tv
def aH9:=fun a b c d e f=>bFk a b c d e|>.f f tv
def bGe(a b:Int)(c:aB)(d:List Pat):=tT 0 (start PP 138 [(.agg [(nI a),(nI b),(aH c),(iP d)])])<|gpI 8 155 [(.agg [(nI a),(nI b),(aH c),(iP d)]),(nI 16)]<|fun e=>gd 2 6 (e≥0) (gV 1 185 [(.agg [(nI a),(nI b),(aH c),(iP d)])]<|fun f=>gE 4 1 (bV f))<|gE 6 1 (bV false)
def aMH:=fun a b c d e f g i j=>bGe a b c d e g|>.t i f j tv
def aMI:=fun a b c d e f g=>bGe a b c d e f|>.f g tv
def aZx(a:Prog):=tT 0 (start PP 76 [(Prog.av a)])<|gl 10 Node.av a.nodes<|gd 2 11 ((a.nodes.length:Int) >320) (gE 18 1 (bV false))<|gl 2 aY a.funs<|gd 3 17 ((a.funs.length:Int) >320) (gE 12 1 (bV false))<|gl 2 Con.av a.cons<|gd 3 22 ((a.cons.length:Int) >25) (gE 6 1 (bV false))<|.W 9 1 [0] (nN a 0)
def aF7:=fun a b=>aZx a|>.t b tv
def aF8:=fun a b c=>aZx a|>.f b|>.t c tv
def aF9:=fun a b c d=>aZx a|>.f b|>.f c|>.t d tv
def aGa:=fun a b c d=>aZx a|>.f b|>.f c|>.f d tv
def aVv(a:Prog)(b:Int):=tT 0 (nN a b)<|gl 6 Con.av a.cons<|gd 2 27 (b< (a.cons.length:Int)) (gX Con.av 9 a.cons b<|fun c=>gd 5 37 ((c.name.length:Int) >40) (gE 6 1 (bV false))<|gw 6 29 (b+1)<|.W 3 1 [0] (nN a (b+1)))<|.W 9 1 [0] (nO a 0)
def aGb:=fun a b c d e f g=>aVv a b|>.t d c e f|>.t g tv
def aGc:=fun a b c d e f g i=>aVv a b|>.t d c e f|>.f g i tv
def aGd:=fun a b c=>aVv a b|>.f c tv
def aRN(b:Prog)(c:Int):=tT 0 (nO b c)<|gl 6 Node.av b.nodes<|gd 2 42 (c< (b.nodes.length:Int)) (gX Node.av 9 b.nodes c<|fun a=>gl 9 aY a.kids<|gd 2 54 ((a.kids.length:Int) >10) (gE 12 2 (bV false))<|gm 2 aE a.pats<|gd 3 59 ((a.pats.length:Int) >10) (gE 6 2 (bV false))<|.W 8 2 [0,1] (nP b a.op a.n a.kids a.pats 0 c))<|gE 7 1 (bV true)
def aGe:=fun a b c d e f g=>aRN a b|>.t d c e f|>.t g tv
def aGf:=fun a b c d e f g i=>aRN a b|>.t d c e f|>.f g|>.t i tv
def aGg:=fun a b c d e f g i=>aRN a b|>.t d c e f|>.f g|>.f i tv
def aGh:=fun a b c=>aRN a b|>.f c tv
def aVw(d:Prog)(e f:Int)(g:List Int)(a:List Pat)(b c:Int):=tT 0 (nP d e f g a b c)<|gm 6 aE a<|gd 2 64 (b< (a.length:Int)) (aF6 9 a b<|fun i j k l=>gV 1 138 [(.agg [(nI i),(nI j),(aH k),(iP l)])]<|fun m=>.b 2 73 (!m) (gE 6 2 (bV false))<|gw 6 66 (b+1)<|.W 3 2 [0,1] (nP d e f g a (b+1) c))<|gw 6 44 (c+1)<|.W 3 2 [0] (nO d (c+1))
def aGi:=fun a b c d e f g i j k l m n o p q r=>aVw a b c d e f g|>.t n i j k l o p m q|>.t r tv
def aGj:=fun a b c d e f g i j k l m n o p q r s=>aVw a b c d e f g|>.t n i j k l o p m q|>.f r s tv
def aGk:=fun a b c d e f g i j=>aVw a b c d e f g|>.f i j tv
theorem wrap64 {e:Int}(h1: -9223372036854775808≤e)(h2:e<9223372036854775808) :IntKind.i64.wrap e=e:=by
 have a: (2:Int) ^ IntKind.i64.bits=18446744073709551616:=by decide
 have b: (2:Int) ^ (IntKind.i64.bits-1) =9223372036854775808:=by decide
 simp only [IntKind.wrap,a,b,IntKind.signed,Bool.true_and,decide_eq_true_eq];split<;>omega
noncomputable def kR (P:Program)(f:Nat) :Bool:=match P.funcs[f]? with
 | some fn=>match fn.body with
  |some _=>true
  |none=>false
 |none=>false
theorem aV {P:Program}{f:Nat}{args:List AV}{v:AV}(hb:kR P f=true)(hk:keylessL args=true)(hv:keyless v=true)(he:Ends P 0 (start P f args).as (.ret v) (aD [] 0)) :Pure P f args v:=by
 unfold kR at hb;split at hb
 · rename_i fn hf;split at hb
   ·rename_i c hc;exact pure_of hf hc hk hv he
   ·cases hb
 ·cases hb
theorem aZ {α:Type}{l t:List α}{i:Nat}{y:α}(h:l.drop i=y::t) :l[i]?=some y∧l.drop (i+1) =t∧i<l.length:=by
 have h1:l[i]?=some y:=by rw [←List.head?_drop,h];rfl
 refine⟨h1,?_,(List.getElem?_eq_some_iff.1 h1).1⟩;rw [←List.tail_drop,h];rfl
theorem bA {α:Type}{l:List α}{i:Nat}(h:l.drop i= []) :l.length≤i:=List.drop_eq_nil_iff.1 h
theorem sd {p:Prop}(h:p:=by first|assumption|rfl| (simp only [Int.toNat_natCast];assumption) | (simp only [decide_eq_true_eq,decide_eq_false_iff_not];omega) |omega| (apply wrap64<;>omega) | (simp_all;done)) :p:=h
def dG (n lo hi:Int) :Bool:=decide (lo≤n) &&decide (n≤hi)
theorem bC (n lo hi:Int) :Pure PP 94 [.int .i64 n,.int .i64 lo,.int .i64 hi] (.bool (dG n lo hi)) :=by
 refine aV (by kernel_rfl) rfl rfl ?_;by_cases h:n≥lo
 · have e:dG n lo hi=decide (n≤hi) :=by unfold dG;rw [decide_eq_true (show lo≤n from h),Bool.true_and]
   rw [e];exact aZu n lo hi (decide_eq_true h)
 · have e:dG n lo hi=false:=by unfold dG;rw [decide_eq_false (show ¬lo≤n from h),Bool.false_and]
   rw [e];exact aZv n lo hi (decide_eq_false h)
def sG (c:UInt8) :Bool:=decide (97≤c.toNat) &&decide (c.toNat≤122)
def fG (s:aB) :Bool:=s.all sG
theorem aEx (s:aB)(hs:s.length<1000000) :∀ (t:aB) (i:Nat),s.drop i=t→Ends PP 0 (aAh s (i:Int)).as (.ret (.bool (fG t))) (aD [] 0)
 | [],i,h=>by
  have:=bA h;exact aPx s i sd
 | c :: t,i,h=>by
  obtain⟨h1,h2,h3⟩ :=aZ h;have hi: (decide ((i:Int) < ((length s:Nat) :Int))) =true:=sd;have h1':s[(i:Int).toNat]?=some c:=sd;by_cases g1:c.toNat<97
  · have e:fG (c::t) =false:=by simp [fG,sG];omega
    rw [e];exact aPu s i c hi sd h1' sd
  · by_cases g2:122<c.toNat
    · have e:fG (c::t) =false:=by simp [fG,sG];omega
      rw [e];exact aPv s i c hi sd h1' sd sd
    · have e:fG (c::t) =fG t:=by
       have:sG c=true:=by simp [sG];omega
       simp [fG,this]
      rw [e];refine(aPw s i c hi sd h1' sd sd sd).ends ?_;exact aEx s hs t (i+1) h2
theorem aEy (s:aB)(hs:s.length<1000000) :Pure PP 114 [aH s] (.bool (fG s)) :=
 aV (by kernel_rfl) rfl rfl ((aPt s).ends (aEx s hs s 0 rfl))
def jT (s:aB) :Bool:=match s with
 | [] =>false
 |c::t=>decide (s.length≤8) &&decide (65≤c.toNat) &&decide (c.toNat≤90) &&fG t
theorem aMJ (s:aB) :Pure PP 116 [aH s] (.bool (jT s)) :=by
 refine aV (by kernel_rfl) rfl rfl ?_
 match s with
 | [] =>exact aPC [] sd
 | c :: t=>
  have h0: (decide (((length (c::t) :Nat) :Int) ≥ (1:Int))) =true:=by simp only [length_cons];exact sd
  by_cases g0: (c::t).length≤8
  · have g0': (decide (((length (c::t) :Nat) :Int) ≤ (8:Int))) =true:=sd;by_cases g1:65≤c.toNat
    · by_cases g2:c.toNat≤90
      · have e:jT (c::t) =fG t:=by simp only [jT,decide_eq_true g0,decide_eq_true g1,decide_eq_true g2,Bool.true_and]
        rw [e];exact aPy (c::t) c _ h0 g0' rfl sd sd (by simp) (aEy t (by simp at g0;omega))
      · have e:jT (c::t) =false:=by simp only [jT,decide_eq_false g2,Bool.and_false,Bool.false_and]
        rw [e];exact aPz (c::t) c h0 g0' rfl sd sd
    · have e:jT (c::t) =false:=by simp only [jT,decide_eq_false g1,Bool.and_false,Bool.false_and]
      rw [e];exact aPA (c::t) c h0 g0' rfl sd
  · have e:jT (c::t) =false:=by simp only [jT,decide_eq_false g0,Bool.false_and]
    rw [e];exact aPB (c::t) h0 sd
def aQ (l:List aB)(s:aB) :Bool:=l.any fun x=>decide (x=s)
theorem aIE (l:List aB)(s:aB)(hl:l.length<1000000) :∀ (t:List aB) (i:Nat),l.drop i=t→Ends PP 0 (aFd l s (i:Int)).as (.ret (.bool (aQ t s))) (aD [] 0)
 | [],i,h=>by
  have:=bA h;exact aVu l s i sd
 | x ::t,i,h=>by
  obtain⟨h1,h2,h3⟩ :=aZ h;by_cases g:x=s
  · have e:aQ (x::t) s=true:=by simp [aQ,g]
    rw [e];exact aVs l s i x sd sd sd (by rw [eE];exact decide_eq_true g)
  · have e:aQ (x::t) s=aQ t s:=by simp [aQ,g]
    rw [e];refine(aVt l s i x sd sd sd (by rw [eE];exact decide_eq_false g) sd).ends ?_;exact aIE l s hl t (i+1) h2
theorem aDu (l:List aB)(s:aB)(hl:l.length<1000000) :Pure PP 64 [.ilst 1 (List.map aH l) false,aH s] (.bool (aQ l s)) :=
 aV (by kernel_rfl) rfl rfl ((aVr l s).ends (aIE l s hl l 0 rfl))
def cR :List aB→List aB→Bool
 |_,[] =>true
 |pre,x::t=> !aQ pre x&&cR (pre++ [x]) t
def cC (l:List aB) :Bool:=cR [] l
theorem aCA (l:List aB)(hl:l.length<1000000) :∀ (t:List aB) (i:Nat),l.drop i=t→Ends PP 0 (vC l (i:Int)).as (.ret (.bool (cR (l.take i) t))) (aD [] 0)
 | [],i,h=>by
  have:=bA h;exact aMG l i sd
 | x ::t,i,h=>by
  obtain⟨h1,h2,h3⟩ :=aZ h;have hp:Pure PP 64 [.ilst 1 (List.map aH (l.take (i:Int).toNat)) false,aH x] (.bool (aQ (l.take i) x)) :=by
   simp only [Int.toNat_natCast];exact aDu _ _ (by simp;omega)
  by_cases g:aQ (l.take i) x=true
  · have e:cR (l.take i) (x::t) =false:=by simp [cR,g]
    rw [e];exact aME l i x _ sd sd sd sd hp g
  · have g':aQ (l.take i) x=false:=by simpa using g
    have e:cR (l.take i) (x::t) =cR (l.take (i+1)) t:=by
     simp only [cR,g',Bool.not_false,Bool.true_and];rw [List.take_add_one,h1];rfl
    rw [e];refine(aMF l i x _ sd sd sd sd hp g' sd).ends ?_;exact aCA l hl t (i+1) h2
theorem aCB (l:List aB)(hl:l.length<1000000) :Pure PP 62 [.ilst 1 (List.map aH l) false] (.bool (cC l)) :=by
 refine aV (by kernel_rfl) rfl rfl ((aMD l).ends ?_);exact aCA l hl l 0 rfl
section
variable {P :Program}
theorem aMK {s s':AS}{b:Bool}{h':Hp}(hl:Leads P s s')(hf:aEh P s'=some (.bool b,h')) :Ends P 0 s (.ret (.bool b)) (aD [] 0) :=by
 have h1:LeadsM P 0 s s':=fun hm E fr ccs w base f fs r=>by
  obtain⟨E',fr',cs',w',s1,f1,fs1,r1,x⟩ :=hl E fr ccs w base f fs r;exact⟨E',fr',cs',w',s1,f1,fs1,r1,x.toM hm⟩
 intro hm E fr ccs w f fs r cl base;obtain⟨cl',w',E',g1,⟨cv,rfl,g2⟩,g3,g4⟩ := (h1.ends (aFT hf)) hm E fr ccs w f fs r cl base;refine⟨_,w',E'.p,g1,⟨cv,rfl,?_⟩,aF0 g3,⟨fun b hb=>absurd hb (Nat.not_lt_zero _),g4.imm,g4.size,g4.keep,fun b' o' L' e=>?_,le_refl _,g4.os,g4.tape,g4.output,g4.froz,g4.immo,fun b o e=>?_⟩⟩
 ·simpa only [VR]using g2
 ·simp [aMw,Hp.look,T.at_leaf]at e
 ·simp [aMw,Hp.look,T.at_leaf]at e
end
section
def embOf (w:World) :Emb:= ⟨fun _=>none,fun k=>match w.heap[k]? with
 |some (.cells C _ _) =>some C
 |_=>none⟩
theorem aSR {w:World}{k:Nat}{C:Array Value}{el:TypeId}{fz:Nat×Nat}(h:w.heap[k]?=some (.cells C el fz)) : (embOf w).imm k=some C:=by
 simp only [embOf,h]
theorem aIF (w:World) :Rel (embOf w) ⟨.leaf,0⟩ w.heap:=by
 refine⟨fun b o e=>?_,fun b b' o o' L L' e=>?_,fun _ _=>rfl,fun k C e=>?_,fun b o L e=>?_,fun b o e=>?_⟩
 ·simp [Hp.look,T.at_leaf]at e
 ·simp [Hp.look,T.at_leaf]at e
 · simp only [embOf]at e;split at e
   ·rename_i C' el fz h;cases e;exact⟨el,fz,h⟩
   ·cases e
 ·simp [Hp.look,T.at_leaf]at e
 ·simp [Hp.look,T.at_leaf]at e
def Elt (w:World)(e:Nat)(a:AV)(cs:List Value) :Prop:=cs.length=e∧∃u:Value,u.cells.toList=cs∧VR (embOf w) a u∧∀c∈cs,c.oneCell'=true
theorem Elt.one {w:World}{a:AV}{u:Value}(h:VR (embOf w) a u)(ha:a.one=true)(hu:u.cells= #[u]) :Elt w 1 a [u] :=
 ⟨rfl,u,by rw [hu],h,fun c hc=>by rw [List.mem_singleton.1 hc];exact h.one ha⟩
variable {H :Type} {enc:TypeId×Value→H} {P:Program} {w:World} {spare:Nat→Bool} {held:Bool}
theorem aZy {a:Addr}{C:Array Value}{el:TypeId}{fz:Nat×Nat}(hC:w.heap[a.block]?=some (.cells C el fz))(hs:a.spot=none)(k:Nat) :w.cell? (a.add k) =C[a.off+k]?:=by
 unfold World.cell? Addr.add;by_cases h:k=0
 ·subst h;simp [hC,hs]
 ·simp [h,hC]
theorem add_add (a:Addr)(i j:Nat) : (a.add i).add j=a.add (i+j) :=by
 unfold Addr.add;by_cases hi:i=0<;>by_cases hj:j=0<;>simp [hi,hj,Nat.add_assoc]
theorem aSS (us:List Value)(u:Value) :flat (us++ [u]) =flat us++u.cells.toList:=by simp [flat]
theorem jU {α:Type}(f:α→AV){t e:TypeId}{n fuel:Nat}(ht:P.underlying t=some (.slice e))(hc:P.cellsOf e=n)(hn:0<n){cs:List Value}{x:DataW H×List MemPlace}
  (h:DataW.trod enc P w 0 spare held fuel t cs=some x) (hel:∀fu,fu<fuel→∀cs x,DataW.trod enc P w 0 spare held fu e cs=some x→∃y,Elt w n (f y) cs) :∃ (ys:List α) (c:Value),cs= [c] ∧VR (embOf w) (.ilst n (ys.map f) false) c:=by
 rcases DataW.trod_slice ht h with⟨rfl,_⟩ | ⟨a,len,cap,elems,rest,m,rfl,rfl,_,_,hlc,_,hlen,hat,_⟩
 · refine⟨[],_,rfl,?_⟩;simp only [VR];exact⟨[],by simp [VRs],⟨fun u hu=> (by cases hu),.inl ⟨rfl,none,0,rfl,fun _=>rfl,fun _=>rfl⟩⟩⟩
 · cases len with
   | zero=>
    refine⟨[],_,rfl,?_⟩;simp only [VR];exact⟨[],by simp [VRs],⟨fun u hu=> (by cases hu),.inl ⟨rfl,some a,cap,rfl,fun e=> (by cases e),fun e=> (by cases e)⟩⟩⟩
   | succ len=>
    rw [hc]at hat
    have each:∀i,i<len+1→∃cs' y,w.cells? 0 (a.add (i*n)) n=some cs'∧Elt w n (f y) cs':=fun i hi=>by
     have h1:=hat i hi;rw [getElem?_eq_getElem (by omega)]at h1;obtain⟨cs',g1,g2⟩ :=Option.bind_eq_some_iff.1 h1;obtain⟨y,g3⟩ :=hel m (Nat.lt_succ_self m) cs' _ g2;exact⟨cs',y,g1,g3⟩
    obtain⟨C,el,fz,hC,hs⟩ :∃C el fz,w.heap[a.block]?=some (.cells C el fz) ∧a.spot=none:=by
     obtain⟨cs',y,g1,g2,_⟩ :=each 0 (by omega);obtain⟨_,_,g3⟩ :=World.cells?_some g1;have g4:=g3 0 hn;have: (a.add (0*n)).add 0=a:=by simp [Addr.add]
     rw [this,getElem?_eq_getElem (by omega)]at g4;unfold World.cell? at g4;split at g4
     · rename_i C el fz hh;split at g4
       ·cases g4
       · rename_i hsp;refine⟨C,el,fz,hh,?_⟩;cases hq:a.spot with
         |none=>rfl
         |some q=>rw [hq]at hsp;simp at hsp
     ·cases g4
    have all:∀k,k≤len+1→∃ (ys:List α) (us:List Value),us.length=k∧VRs (embOf w) (ys.map f) us∧ (∀u∈us,okE n u) ∧∀j,j<k*n→C[a.off+j]?= (flat us)[j]?:=by
     intro k
     induction k with
     |zero=>exact fun _=> ⟨[],[],rfl,by simp [VRs],fun u hu=> (by cases hu),fun j hj=>by omega⟩
     | succ k ih=>
      intro hk;obtain⟨ys,us,q1,q2,q3,q4⟩ :=ih (by omega);obtain⟨cs',y,g1,g2,u,g3,g4,g5⟩ :=each k (by omega);obtain⟨_,g6,g7⟩ :=World.cells?_some g1;have hfl:=flat_length q3;refine⟨ys++ [y],us++ [u],by simp [q1],?_,fun v hv=>?_,fun j hj=>?_⟩
      ·rw [List.map_append];exact q2.append (VRs.cons g4 (VRs.nil _))
      · rcases List.mem_append.1 hv with hv|hv
        ·exact q3 v hv
        · rw [List.mem_singleton.1 hv];refine⟨?_,fun c hc=>g5 c (by rw [←g3];exact hc)⟩;rw [←Array.length_toList,g3,g2]
      · rw [aSS,g3];by_cases hj2:j<k*n
        ·rw [q4 j hj2,List.getElem?_append_left (by rw [hfl,q1];exact hj2)]
        · have hr:j-k*n<n:=by rw [Nat.succ_mul]at hj;omega
          rw [List.getElem?_append_right (by rw [hfl,q1];omega),hfl,q1,←g7 _ hr,add_add,aZy hC hs];congr 2;omega
    obtain⟨ys,us,q1,q2,q3,q4⟩ :=all (len+1) (le_refl _);refine⟨ys,_,rfl,?_⟩;simp only [VR];refine⟨us,q2,q3,.inr ⟨a.block,a.off,cap,C,?_,aSR hC,by omega,fun e=> (by cases e),by rw [q1];exact q4⟩⟩;rw [q1,←hs]
theorem sZ {fuel:Nat}{t:TypeId}(ht:P.underlying t=some (.int .i64)){cs:List Value}{x:DataW H×List MemPlace}(h:DataW.trod enc P w 0 spare held fuel t cs=some x) :∃n,cs= [.int .i64 n] :=by
 obtain⟨n,h1,_⟩ :=DataW.trod_int ht h;exact⟨n,h1⟩
theorem yV {fuel:Nat}{t:TypeId}(ht:P.underlying t=some .string){cs:List Value}{x:DataW H×List MemPlace}(h:DataW.trod enc P w 0 spare held fuel t cs=some x) :∃ (s:aB) (c:Value),cs= [c] ∧VR (embOf w) (aH s) c:=by
 obtain⟨s,h1,_⟩ :=DataW.trod_string ht h;refine⟨s.data.toList,_,h1,?_⟩;have:=fV s.data.toList;simp only [aH,VR,iT,this]
theorem four {α:Type}{cs:List α}(h:cs.length=4) :∃a b c d,cs= [a,b,c,d] :=by
 match cs,h with
 | [a,b,c,d],_=>exact⟨a,b,c,d,rfl⟩
theorem two {α:Type}{cs:List α}(h:cs.length=2) :∃a b,cs= [a,b] :=by
 match cs,h with
 | [a,b],_=>exact⟨a,b,rfl⟩
theorem aCC {l:List AV}{cs:List Value}(h:VRs (embOf w) l cs)(ho:cK l=true) :Elt w l.length (.agg l) cs:=
 ⟨h.length,.agg ⟨cs⟩,rfl,by simp only [VR];exact⟨cs,rfl,h⟩,VRs.ones h ho⟩
theorem aRO {a:AV}{c:Value}(h:VR (embOf w) a c)(ha:a.one=true)(hc:c.cells= #[c]) :Elt w 1 a [c] :=
 ⟨rfl,c,by rw [hc],h,fun x hx=>by rw [List.mem_singleton.1 hx];exact h.one ha⟩
theorem aVx {E:Emb}{a:AV}{c:Value}(h:VR E a c)(ha:a.one=true) :c.cells= #[c] :=by
 have:=h.one ha;cases c<;>simp_all [Value.oneCell',Value.cells]
section
theorem cells3 :PP.cellsOf 3=1:=by kernel_rfl
theorem cells9 :PP.cellsOf 9=1:=by kernel_rfl
theorem cells35 :PP.cellsOf 35=1:=by kernel_rfl
theorem cells36 :PP.cellsOf 36=1:=by kernel_rfl
theorem cells37 :PP.cellsOf 37=1:=by kernel_rfl
theorem aML :PP.cellsOf 142=2:=by kernel_rfl
theorem aZz :PP.cellsOf 79=1:=by kernel_rfl
theorem aRP :PP.cellsOf 80=1:=by kernel_rfl
theorem aRQ :PP.cellsOf 82=4:=by kernel_rfl
theorem aVy :PP.cellsOf 165=1:=by kernel_rfl
theorem aGl :PP.cellsOf 167=4:=by kernel_rfl
theorem got {α:Type}{xs:List α}{n i:Nat}{r:Option α}(h:r=xs[i]?)(hl:xs.length=n)(hi:i<n) :∃x,r=some x:=by
 rw [getElem?_eq_getElem (by omega)]at h;exact⟨_,h⟩
theorem aST {fuel:Nat}{cs:List Value}{x:DataW H×List MemPlace}(h:DataW.trod enc PP w 0 spare held fuel 36 cs=some x) :∃ (l:List Int) (c:Value),cs= [c] ∧VR (embOf w) (.ilst 1 (l.map aY) false) c:=
 jU aY Tryz.underlying36 cells3 (by omega) h (fun fu _ cs x hx=>by
  obtain⟨n,rfl⟩ :=sZ Tryz.underlying3 hx;exact⟨n,aRO (by simp only [aY,VR]) rfl rfl⟩)
theorem aVz :∀ (fuel:Nat) (cs:List Value) (x:DataW H×List MemPlace),DataW.trod enc PP w 0 spare held fuel 167 cs=some x→∃p:Pat,Elt w 4 (Pat.av p) cs:=by
 intro fuel
 induction fuel using Nat.strongRecOn with
 | ind fuel ih=>
  intro cs x h;obtain⟨xs,m,rfl,rfl,hl,hlen,hf⟩ :=DataW.trod_struct Tryz.underlying167 h;rw [aGl]at hl;obtain⟨c0,c1,c2,c3,rfl⟩ :=four hl;have h0:DataW.trod enc PP w 0 spare held m 165 (([c0,c1,c2,c3].drop 0).take (PP.cellsOf 165)) =xs[0]?:=hf 0 _ rfl;have h1:DataW.trod enc PP w 0 spare held m 3 (([c0,c1,c2,c3].drop 1).take (PP.cellsOf 3)) =xs[1]?:=hf 1 _ rfl;have h2:DataW.trod enc PP w 0 spare held m 9 (([c0,c1,c2,c3].drop 2).take (PP.cellsOf 9)) =xs[2]?:=hf 2 _ rfl;have h3:DataW.trod enc PP w 0 spare held m 80 (([c0,c1,c2,c3].drop 3).take (PP.cellsOf 80)) =xs[3]?:=hf 3 _ rfl;simp only [aVy,cells3,cells9,aRP,drop,take]at h0 h1 h2 h3;obtain⟨x0,h0⟩ :=got h0 hlen (by decide);obtain⟨x1,h1⟩ :=got h1 hlen (by decide);obtain⟨x2,h2⟩ :=got h2 hlen (by decide);obtain⟨x3,h3⟩ :=got h3 hlen (by decide);obtain⟨f,e0⟩ :=sZ Tryz.underlying165 h0;obtain⟨n,e1⟩ :=sZ Tryz.underlying3 h1;obtain⟨s,c,e2,v2⟩ :=yV Tryz.underlying9 h2;obtain⟨ps,c',e3,v3⟩ :=jU Pat.av Tryz.underlying80 aGl (by omega) h3 (fun fu hfu cs x hx=>ih fu (by omega) cs x hx);cases e0;cases e1;cases e2;cases e3;refine⟨.mk f n s ps,?_⟩;simp only [Pat.av,aE];refine aCC (VRs.cons (by simp only [VR]) (VRs.cons (by simp only [VR]) (VRs.cons v2 (VRs.cons v3 (VRs.nil _))))) ?_;rfl
theorem aVA (fuel:Nat)(cs:List Value)(x:DataW H×List MemPlace)(h:DataW.trod enc PP w 0 spare held fuel 142 cs=some x) :∃p:Con,Elt w 2 (Con.av p) cs:=by
 obtain⟨xs,m,rfl,rfl,hl,hlen,hf⟩ :=DataW.trod_struct Tryz.underlying142 h;rw [aML]at hl;obtain⟨c0,c1,rfl⟩ :=two hl;have h0:DataW.trod enc PP w 0 spare held m 9 (([c0,c1].drop 0).take (PP.cellsOf 9)) =xs[0]?:=hf 0 _ rfl;have h1:DataW.trod enc PP w 0 spare held m 3 (([c0,c1].drop 1).take (PP.cellsOf 3)) =xs[1]?:=hf 1 _ rfl;simp only [cells9,cells3,drop,take]at h0 h1;obtain⟨x0,h0⟩ :=got h0 hlen (by decide);obtain⟨x1,h1⟩ :=got h1 hlen (by decide);obtain⟨s,c,e0,v0⟩ :=yV Tryz.underlying9 h0;obtain⟨n,e1⟩ :=sZ Tryz.underlying3 h1;cases e0;cases e1;refine⟨⟨s,n⟩,?_⟩;simp only [Con.av];refine aCC (VRs.cons v0 (VRs.cons (by simp only [VR]) (VRs.nil _))) ?_;rfl
end
end
end
end Go.Hb
