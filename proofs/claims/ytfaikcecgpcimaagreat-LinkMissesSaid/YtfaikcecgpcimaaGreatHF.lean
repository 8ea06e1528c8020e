/- A machine on abstract values, its soundness, ways, plain laws. -/
import Derived.Test.YtfaikcecgpcimaaGreatHD
import Derived.Test.YtfaikcecgpcimaaGreatHE
import Derived.KernelRfl
import Derived.Test.YtfaikcecgpcimaaGreatProg
import Derived.WalkKit
import Derived.OpenShut
import Derived.ChangeArms
set_option linter.defProp false
set_option linter.unusedVariables false
set_option linter.unusedSimpArgs false
set_option linter.unusedSectionVars false
set_option maxRecDepth 100000
namespace Go.Hb
open AV (int keyless keylessL ren renL)
open Bool (and_eq_true)
open List (drop getElem?_eq_getElem length length_cons length_map map_cons map_take mem_cons_of_mem mem_cons_self range range' replicate set take)
open Nat (beq ble ble_eq blt div le_refl mod pow zero_add zero_le)
open Option (getD_none getD_some)
open Go.Proofs Tryz
noncomputable section
section
variable {P :Program}
def aJV (P:Program)(s:AS) :Option (List (AV×Bool) ×Hp) :=
 match s.fr.mode,s.fr.defers,s.cs,P.funcs[s.fr.fn]? with
 | .pan ch,[],[],some _=>some (ch,s.h)
 |_,_,_,_=>none
theorem aHt {m:Nat}{s:AS}{ch:List (AV×Bool)}{h':Hp}(h0:aJV P s=some (ch,h')) :Ends P m s (.pan ch) h':=fun hm E fr ccs w f fs r cl base=>by
 unfold aJV at h0;split at h0
 · rename_i ch' fd hmo hd hcs hfn;cases h0;have fm:=f.mode;rw [hmo]at fm;simp only [MR]at fm;obtain⟨ps,fm,hcr⟩ :=fm;have fdd:=f.defers;rw [hd]at fdd;rw [hcs]at fs;rw [fs.nil_inv];exact⟨_,w,E,.one (tI fm fdd.nil_inv (by rw [f.fn];exact hfn)),⟨ps,rfl,hcr⟩,r,ExtM.refl hm⟩
 ·cases h0
def aO3 (τ:Nat→Nat)(ch:List (AV×Bool)) :List (AV×Bool) :=ch.map fun p=> (ren τ p.1,p.2)
def start (P:Program)(f:Nat)(args:List AV) :TS:=
 match P.funcs[f]? with
 | some fn=>match fn.body with
  |some c=> ⟨⟨f,max fn.ntmps args.length,(range args.length).zip args,[.code c],[],.run,.normal,none⟩,[],[],0⟩
  |none=> ⟨⟨f,0,[],[],[],.run,.normal,none⟩,[],[],0⟩
 |none=> ⟨⟨f,0,[],[],[],.run,.normal,none⟩,[],[],0⟩
theorem aCJ {E:Emb}{h:Hp}{w:World}(r:Rel E h w.heap) :Rel E.p ⟨.leaf,0⟩ w.heap:=
 ⟨fun b o e=>by simp [Hp.look,T.at_leaf]at e,fun b b' o o' L L' e=>by simp [Hp.look,T.at_leaf]at e,fun _ _=>rfl,r.imm,fun b o L e=>by simp [Hp.look,T.at_leaf]at e,fun b o e=>by simp [Hp.look,T.at_leaf]at e⟩
theorem aHu :aF [] 0= ⟨.leaf,0⟩ :=rfl
theorem zR {args:List AV}{k:Nat}{v:AV}(h: (k,v) ∈ (range args.length).zip args) :args[k]?=some v:=by
 obtain⟨i,hi⟩ :=List.mem_iff_getElem?.1 h;rw [List.getElem?_zip_eq_some]at hi;obtain⟨h1,h2⟩ :=hi;obtain⟨hlt,he⟩ :=List.getElem?_eq_some_iff.1 h1;rw [List.getElem_range]at he;subst he;exact h2
theorem aCK {E E':Emb}{h:Hp}{w w':World}(r:Rel E h w.heap)(r':Rel E' ⟨.leaf,0⟩ w'.heap)(x:ExtM 0 E.p ⟨.leaf,0⟩ w E' ⟨.leaf,0⟩ w') :
  Rel ⟨E.loc,E'.imm⟩ h w'.heap∧ExtM h.nb E h w ⟨E.loc,E'.imm⟩ h w':=by
 have hno:∀ {b o},¬ (⟨.leaf,0⟩ :Hp).look b=some o:=fun {b o} e=>by simp [Hp.look,T.at_leaf]at e
 have keep:∀i,i<w.heap.size→w'.heap[i]?=w.heap[i]?:=fun i hi=>x.keep i hi (fun b o L e=>absurd e hno);have hle:E.le ⟨E.loc,E'.imm⟩ := ⟨fun _ _ e=>e,x.imm⟩
 have immo:∀k C,E'.imm k=some C→k<w.heap.size→E.imm k=some C:=fun k C e hk=>by
  rcases x.immo k C e hk with g| ⟨b,o,L,g,_⟩
  ·exact g
  ·exact absurd g hno
 refine⟨⟨fun b o e=>?_,r.kin,r.fresh,r'.imm,fun b o L e k=>?_,r.keys⟩,⟨fun _ _=>rfl,x.imm,x.size,fun i hi _=>keep i hi,fun b o L e k _=> ⟨b,o,L,e,k,rfl⟩,le_refl _,x.os,x.tape,x.output,x.froz,fun k C e hk=>.inl (immo k C e hk),fun b o e _=> ⟨o,e⟩⟩⟩
 · rcases r.obj0 b o e with u| ⟨L,g1,g2⟩
   ·exact .inl u
   ·exact .inr ⟨L,g1,(g2.mono hle).heap (keep _ g2.lt)⟩
 · cases hi:E'.imm L.blk with
   |none=>rfl
   | some C=>
    have:=immo _ C hi (r.lt e k);rw [r.apart b o L e k]at this;cases this
theorem pure_of {f : Nat} {args : List AV} {v : AV} {fn:Func}{c:Code}(hf:P.funcs[f]?=some fn)(hc:fn.body=some c)(hk:keylessL args=true)(hv:keyless v=true)(he:Ends P 0 (start P f args).as (.ret v) (aF [] 0)) :Pure P f args v:=fun h=>by
 have hg:dR P h (.enter f args) =some ⟨f,dD .leaf 0 args,max fn.ntmps args.length,[.code c],[],.run,.normal,none⟩ :=by simp [dR,cM,hf,hc]
 refine⟨_,hg,fun hm E fr ccs w fr' fs r cl base=>?_⟩;simp only at fs;rw [fs.nil_inv];have f1:FR E.p (start P f args).as.fr fr:=by
  have e1: (start P f args).as.fr= ⟨f,mkT ((range args.length).zip args),max fn.ntmps args.length,[.code c],[],.run,.normal,none⟩ :=by simp [start,hf,hc,TS.as,TF.fr]
  rw [e1];refine⟨fr'.fn,⟨fr'.tm.1,fun t a e=>?_⟩,?_,?_,fr'.mode,fr'.kind,?_⟩
  · have h1:=zR (tZ e);have hlt:= (List.getElem?_eq_some_iff.1 h1).1;have h2: (dD .leaf 0 args).at t=some a:=by
     unfold dD;rw [bX,if_pos hlt];exact h1
    obtain⟨cv,g1,g2⟩ :=fr'.tm.2 t a h2;exact⟨cv,g1,eP (keylessL_mem.1 hk a (List.mem_of_getElem? h1)) g2⟩
  · have:=fr'.todo;simpa [IRs,IR]using this
  · have:=fr'.defers;simpa [DRs]using this
  · have:=fr'.round;simpa [RR]using this
 have e2 : (start P f args).as.cs = [] := by unfold start;split; · split<;>rfl
                                             ·rfl
 have e3 : (start P f args).as.h = ⟨.leaf, 0⟩ := by unfold start;split; · split<;>rfl
                                                    ·rfl
 obtain⟨cl',w',E',g1,⟨cv,rfl,g2⟩,g3,g4⟩ :=he (zero_le _) E.p fr [] w f1 (by rw [e2];rfl) (by rw [e3];exact aCJ r) cl base;rw [e3]at g4;obtain⟨q1,q2⟩ :=aCK r g3 g4;exact⟨_,w',_,g1,⟨cv,rfl,VR.of_p (E:= ⟨E.loc,E'.imm⟩) (show VR (Emb.p ⟨E.loc,E'.imm⟩) v cv from eP (E:=E') hv g2)⟩,q1,q2⟩
def dL (P:Program)(f:Nat)(args:List AV)(hp:List (Nat×AObj×Bool))(nb:Nat) :TS:={(start P f args)with hp:=hp,nb:=nb}
def xZ :List (Nat×AObj×Bool) →List (Option AObj)
 | [] =>[]
 |p::r=>some p.2.1::xZ r
theorem oQ {l:List (Nat×AObj×Bool)}{nb b:Nat}{o:AObj}(e: (aF l nb).look b=some o) :∃f,(b,o,f) ∈l:=by
 have: (b,o) ∈l.map fun p=> (p.1,p.2.1) :=tZ e;obtain⟨⟨pb,po,pf⟩,hp,hpe⟩ :=List.mem_map.1 this;cases hpe;exact⟨pf,hp⟩
theorem uC {o:AObj}(h:o.kl) :dE o= [] :=by cases o<;>first|rfl|exact h.elim
def aBZ (nb nb':Nat) :List (Nat×AObj×Bool) →Bool
 | [] =>true
 |p::r=>ble nb p.1&&blt p.1 nb'&&p.2.2&&aBZ nb nb' r
theorem aBp {nb nb':Nat}:∀ {l:List (Nat×AObj×Bool)},aBZ nb nb' l=true→∀p∈l,nb≤p.1∧p.1<nb'∧p.2.2=true
 | q::r,h,p,hp=>by
  simp only [aBZ,and_eq_true,cO,fS,decide_eq_true_eq]at h;rcases List.mem_cons.1 hp with rfl|hp
  ·exact⟨h.1.1.1,h.1.1.2,h.1.2⟩
  ·exact aBp h.2 p hp
def aO4 (n2:Nat)(l:List (Nat×AObj×Bool)) :List (Nat×AObj×Bool) :=l.map fun p=> (p.1+n2,p.2.1,p.2.2)
def zS (ks:List Nat) :List (Nat×AObj×Bool) →Bool
 | [] =>true
 |p::r=> !(sS p.1 ks) &&zS ks r
theorem zT {ks:List Nat}:∀ {l:List (Nat×AObj×Bool)},zS ks l=true→∀p∈l,p.1∉ks
 | q ::r,h,p,hp=>by
  simp only [zS,and_eq_true,Bool.not_eq_true']at h;rcases List.mem_cons.1 hp with rfl|hp
  · intro hm;rw [(uA _ _).2 hm]at h;cases h.1
  ·exact zT h.2 p hp
theorem aEB {τ:Nat→Nat}{h h':Hp}{f:Nat}{args args':List AV}{g:AFrame}(hg:dR P h (.enter f args) =some g)(ha:renL τ args=args') :
  ∃g',dR P h' (.enter f args') =some g'∧∀ {E:Emb} {fr:Frame},FR E g' fr→FR (E.ren τ) g fr:=by
 have hlen:∀ (l:List AV),(renL τ l).length=l.length:=by
  intro l
  induction l with
  |nil=>rfl
  |cons x l ih=>simp [renL,ih]
 have hget:∀ (l:List AV) (i:Nat) (x:AV),l[i]?=some x→ (renL τ l)[i]?=some (ren τ x) :=by
  intro l
  induction l with
  |nil=>intro i x hx;simp at hx
  | cons y l ih=>
   intro i x hx;cases i with
   |zero=>simp at hx;subst hx;simp [renL]
   |succ i=>simp only [renL,List.getElem?_cons_succ]at hx ⊢;exact ih i x hx
 subst ha;simp only [dR,cM]at hg ⊢;split at hg
 · rename_i fn hfn;split at hg
   · rename_i c hc;cases hg;refine⟨_,rfl,fun {E fr} fr'=>?_⟩;refine⟨fr'.fn,⟨by have:=fr'.tm.1;rw [hlen]at this;exact this,fun t a e=>?_⟩,?_,?_,fr'.mode,fr'.kind,?_⟩
     · have ht:t<args.length∧args[t]?=some a:=by
        have e': (dD .leaf 0 args).at t=some a:=e;unfold dD at e';rw [bX]at e';split at e'
        ·rename_i hlt;exact⟨hlt,e'⟩
        ·cases e'
       obtain⟨cv,g1,g2⟩ :=fr'.tm.2 t (ren τ a) (by
        show(dD .leaf 0 (renL τ args)).at t=_;unfold dD;rw [bX,if_pos (by rw [hlen];exact ht.1)];exact hget args t a ht.2)
       exact⟨cv,g1,(dY τ E a cv).1 g2⟩
     ·have:=fr'.todo;simpa [IRs,IR]using this
     ·have:=fr'.defers;simpa [DRs]using this
     ·have:=fr'.round;simpa [RR]using this
   ·cases hg
 ·cases hg
def aBq (P:Program)(c:AIn)(h:Hp)(res:Res)(h':Hp) :Prop:=∃g,dR P h c=some g∧Ends P 0 ⟨g,[],h⟩ res h'
theorem aO5 {f:Nat}{args args':List AV}{v:AV}{l l' lc x:List (Nat×AObj×Bool)}{nb nb' n2:Nat}{ks:List Nat}
  (h0:aBq P (.enter f args) (aF l nb) (.ret v) (aF l' nb')) (hargs:renL (hP 0 nb n2 ks) args=args')
  (hin:fF 0 ⟨⟨0,0,[],[],[],.run,.normal,none⟩,[],l,nb⟩ ks=true) (hl:zO (aF lc n2) (hP 0 nb n2 ks) l=jQ (hP 0 nb n2 ks) l) (hkl:lG l)
  (hx:jH n2 lc=true) (hxs:xZ x= (x.map fun p=> (aF lc n2).look p.1)) (hxk:zS ks x=true)
  (hnew:aBZ 0 nb' l'=true) (hkl':lG l') (hll:xZ l'= (l'.map fun p=> (aF l' nb').look p.1)) :
  Spec P (.enter f args') (aF lc n2) (.ret (ren (fun b=>b+n2) v)) (aF (aO4 n2 l'++x) (nb'+n2)) :=by
 obtain⟨g,hg,he⟩ :=h0;obtain⟨g',hg',hfr⟩ :=aEB (h':=aF lc n2) hg hargs;refine⟨g',hg',?_⟩;intro _ E fr ccs w fr' fs r cl base;have allH_get:∀ {k:Hp} {l:List (Nat×AObj×Bool)},xZ l= (l.map fun p=>k.look p.1) →∀p∈l,k.look p.1=some p.2.1:=by
  intro k l
  induction l with
  |nil=>intro _ p hp;cases hp
  | cons q l ih=>
   intro h p hp;simp only [xZ,map_cons,List.cons.injEq]at h;rcases List.mem_cons.1 hp with rfl|hp
   ·exact h.1.symm
   ·exact ih h.2 p hp
 have hlenks:ks.length=nb:=by
  simp only [fF,and_eq_true]at hin;have:=Nat.eq_of_beq_eq_true hin.1.1.1.2;simpa using this
 have hkeys:∀ {b o},(aF l nb).look b=some o→b<nb∧hP 0 nb n2 ks b∈ks∧∃o1,(aF lc n2).look (hP 0 nb n2 ks b) =some o1:=fun {b o} e=>by
  obtain⟨fl,hm⟩ :=oQ e;have hb:b<nb:=by
   simp only [fF,and_eq_true]at hin;exact(eQ hin.2 _ hm).1
  refine⟨hb,?_,_,oP hl _ hm⟩;rw [zQ (zero_le b) hb];rw [Nat.sub_zero,List.getD_eq_getElem?_getD,getElem?_eq_getElem (by omega)];exact List.getElem_mem ..
 have nool:∀ {b o},(aF lc n2).look b=some o→b<n2∧dE o= [] :=fun {b o} e=>by
  obtain⟨fl,hm⟩ :=oQ e;exact eQ hx _ hm
 have apart:∀ {b b' o o' L L'},(aF lc n2).look b=some o→ (aF lc n2).look b'=some o'→E b=some L→E b'=some L'→b≠b'→L.blk≠L'.blk:=fun {b b' o o' L L'} e e' k k' hne hbl=>by
  have:=r.kin b b' o o' L L' e e' k k' hbl hne;unfold Kin at this;rw [(nool e).2,(nool e').2]at this;rcases this with⟨g,_⟩ | ⟨g,_⟩ <;>simp at g
 obtain⟨rL,_⟩ :=uB (h:=aF lc n2) hin hl hkl r;have frL:=hfr fr';rw [fs.nil_inv];obtain⟨cl',w',EL,s1,⟨cv,rfl,g2⟩,r2,x2⟩ :=he (zero_le _) (E.ren (hP 0 nb n2 ks)) fr [] w frL rfl rL cl base
 let E':Emb:= ⟨fun b=>if b<n2 then E b else EL (b-n2),EL.imm⟩
 have e1:∀ {b},b<n2→E' b=E b:=fun {b} hb=>if_pos hb;have e2:∀ {b},n2≤b→E' b=EL (b-n2) :=fun {b} hb=>if_neg (by omega);have hEE:E.le E':= ⟨fun b L e=>by rw [e1 (r.nb_gt e)];exact e,fun k C e=>x2.imm k C e⟩;have hsig:EL.le (E'.ren (fun b=>b+n2)) :=by
  refine⟨fun b L e=>?_,fun _ _ e=>e⟩;show E' (b+n2) =some L;rw [e2 (by omega),show b+n2-n2=b by omega];exact e
 have hlook:∀ {b o},(aF (aO4 n2 l'++x) (nb'+n2)).look b=some o→ (n2≤b∧b<nb'+n2∧ (aF l' nb').look (b-n2) =some o∧o.kl) ∨ (b∉ks∧b<n2∧ (aF lc n2).look b=some o) :=fun {b o} e=>by
  obtain⟨fl,hm⟩ :=oQ e;rcases List.mem_append.1 hm with hm|hm
  · obtain⟨⟨pb,po,pf⟩,hp,hpe⟩ :=List.mem_map.1 hm;cases hpe;obtain⟨q1,q2,q3⟩ :=aBp hnew _ hp;simp only at q1 q2 q3;subst q3;refine .inl ⟨by omega,by omega,?_,jY hkl' pb po hp⟩;rw [show pb+n2-n2=pb by omega];exact allH_get hll _ hp
  · have q:=allH_get hxs _ hm;exact .inr ⟨zT hxk _ hm,(nool q).1,q⟩
 have away:∀ {b o L},b∉ks→ (aF lc n2).look b=some o→E b=some L→∀b1 o1 L1,(aF l nb).look b1=some o1→ (E.ren (hP 0 nb n2 ks)) b1=some L1→L1.blk≠L.blk:=fun {b o L} hb e k b1 o1 L1 e1' k1=>by
  obtain⟨_,hin1,o2,e2'⟩ :=hkeys e1';exact apart e2' e k1 k (fun h=>hb (h ▸ hin1))
 have mixed:∀ {b b' o o' L L'},b'∉ks→ (aF l' nb').look (b-n2) =some o→ (aF lc n2).look b'=some o'→EL (b-n2) =some L→E b'=some L'→L.blk≠L'.blk:=fun {b b' o o' L L'} h2 e e' k k' hbl=>by
  have hlt:L.blk<w.heap.size:=by rw [hbl];exact r.lt e' k'
  obtain⟨b1,o1,L1,a1,a2,a3⟩ :=x2.own _ o L e k hlt;exact away h2 e' k' b1 o1 L1 a1 a2 (a3.trans hbl)
 have hnb2: (aF lc n2).nb=n2:=rfl
 refine⟨_,w',E',s1,⟨cv,rfl,(dY _ E' v cv).2 (g2.mono hsig)⟩,⟨fun b o e=>?_,fun b b' o o' L L' e e' k k' hbl hne=>?_,fun b hb=>?_,r2.imm,fun b o L e k=>?_,fun b o e=>?_⟩,
  ⟨fun b hb=>e1 hb,hEE.2,x2.size,fun i hi hn=>?_,fun b' o' L' e k hlt=>?_,?_,x2.os,x2.tape,x2.output,x2.froz,fun k C e hk=>?_,fun b o e hb=>?_⟩⟩
 · rcases hlook e with⟨q1,q2,q3,q4⟩ | ⟨q1,q2,q3⟩
   · rcases r2.obj0 _ o q3 with⟨u1,u2⟩ | ⟨L,k1,k2⟩
     ·exact .inl ⟨u1,by rw [e2 q1];exact u2⟩
     ·exact .inr ⟨L,by rw [e2 q1];exact k1,aO1 (E:=EL) (E':=E') rfl q4 k2⟩
   · rcases r.obj0 b o q3 with⟨u1,u2⟩ | ⟨L,k1,k2⟩
     ·exact .inl ⟨u1,by rw [e1 q2];exact u2⟩
     ·exact .inr ⟨L,by rw [e1 q2];exact k1,(k2.mono hEE).heap (x2.keep _ k2.lt (away q1 q3 k1))⟩
 · rcases hlook e with⟨q1,q2,q3,q4⟩ | ⟨q1,q2,q3⟩
   · rw [e2 q1]at k;rcases hlook e' with⟨p1,p2,p3,p4⟩ | ⟨p1,p2,p3⟩
     · rw [e2 p1]at k';exact absurd (r2.kin (b-n2) (b'-n2) o o' L L' q3 p3 k k' hbl (by omega)) (by unfold Kin;rw [uC q4,uC p4];simp)
     · rw [e1 p2]at k';exact absurd hbl (mixed p1 q3 p3 k k')
   · rw [e1 q2]at k;rcases hlook e' with⟨p1,p2,p3,p4⟩ | ⟨p1,p2,p3⟩
     · rw [e2 p1]at k';exact absurd hbl.symm (mixed q1 p3 q3 k' k)
     · rw [e1 p2]at k';exact r.kin b b' o o' L L' q3 p3 k k' hbl hne
 · have hb:nb'+n2≤b:=hb;rw [e2 (by omega)];exact r2.fresh _ (by show nb'≤_;omega)
 · show EL.imm L.blk=none;rcases hlook e with⟨q1,q2,q3,q4⟩ | ⟨q1,q2,q3⟩
   · rw [e2 q1]at k;exact r2.apart _ o L q3 k
   · rw [e1 q2]at k;cases hi:EL.imm L.blk with
     |none=>rfl
     | some C=>
      rcases x2.immo _ C hi (r.lt q3 k)with a| ⟨b1,o1,L1,a1,a2,a3⟩
      · have:=r.apart b o L q3 k;rw [show(E.ren (hP 0 nb n2 ks)).imm=E.imm from rfl]at a;rw [this]at a;cases a
      ·exact absurd a3 (away q1 q3 k b1 o1 L1 a1 a2)
 · rcases hlook e with⟨q1,q2,_⟩ | ⟨q1,q2,_⟩
   ·exact q2
   ·show b<nb'+n2;omega
 · refine x2.keep i hi (fun b o L e k=>?_);obtain⟨_,_,o1,e1'⟩ :=hkeys e;exact hn _ o1 L e1' k
 · rcases hlook e with⟨q1,q2,q3,q4⟩ | ⟨q1,q2,q3⟩
   · rw [e2 q1]at k;obtain⟨b1,o1,L1,a1,a2,a3⟩ :=x2.own _ o' L' q3 k hlt;obtain⟨_,_,o2,e2'⟩ :=hkeys a1;exact⟨_,o2,L1,e2',a2,a3⟩
   · rw [e1 q2]at k;exact⟨b',o',L',q3,k,rfl⟩
 ·show n2≤nb'+n2;omega
 · rcases x2.immo k C e hk with a| ⟨b1,o1,L1,a1,a2,a3⟩
   ·exact .inl a
   · obtain⟨_,_,o2,e2'⟩ :=hkeys a1;exact .inr ⟨_,o2,L1,e2',a2,a3⟩
 · have hb:b<n2:=hb;rcases hlook e with⟨q1,_⟩ | ⟨_,_,q3⟩
   ·omega
   ·exact⟨o,q3⟩
theorem aHv {τ:Nat→Nat}{E:Emb}:∀ {es:List (AV×AV×Nat)} {us:List MapEntry},ERs (E.ren τ) es us→ERs E (es.map fun p=> (ren τ p.1,ren τ p.2.1,p.2.2)) us
 | [],_,r=>by simpa [ERs]using r
 | e::es,_,r=>by
  simp only [ERs]at r;simp only [map_cons,ERs];obtain⟨u,us',h1,h2,h3,h4,h5⟩ :=r;exact⟨u,us',h1,(dY τ E _ _).2 h2,(dY τ E _ _).2 h3,h4,aHv h5⟩
def plainO :AObj→Bool
 | .cells .. | .map .. | .mapx .. | .lst .. | .loop .. | .defd .. =>true
 |_=>false
theorem aR1 {τ:Nat→Nat}{E:Emb}{H:Array Obj}{L:Loc}{o:AObj}(hp:plainO o=true)(r:OR (E.ren τ) H L o) :OR E H L (o.ren τ) :=by
 cases o with
 | cells t n ol sup=>
  obtain⟨C,el,h1,h2,h3⟩ :=r;refine⟨C,el,h1,h2,fun i a e=>?_⟩;rw [aBY]at e;cases ht:t.at i with
  |none=>rw [ht]at e;cases e
  | some a0=>
   rw [ht]at e;cases e;obtain⟨g1,v,g2,g3⟩ :=h3 i a0 ht;exact⟨g1,v,g2,(dY τ E a0 v).2 g3⟩
 |map es c=>obtain⟨ES,h1,h2⟩ :=r;exact⟨ES,h1,aHv h2⟩
 | mapx es c k v=>
  obtain⟨ES,h1,h2,h3⟩ :=r;refine⟨ES,h1,?_,h3⟩;obtain⟨us,vs,e1,e2,e3⟩ :=ERs.split h2;rw [e1];refine ERs.join (h3 (E.ren τ) E us rfl e2) ?_;simp only [ERs]at e3 ⊢;obtain⟨u,us',q1,q2,q3,q4,q5⟩ :=e3;exact⟨u,us',q1,(dY τ E _ _).2 q2,(dY τ E _ _).2 q3,q4,q5⟩
 |lst e xs=>obtain⟨C,el,vs,h1,h2,h3,h4⟩ :=r;exact⟨C,el,vs,h1,h2,(kJ τ E xs vs).2 h3,h4⟩
 |defd t=>exact r
 | loop st pe fn tm nt ps aS bd df=>
  obtain⟨tmps,Ld,h1,h2,h3⟩ :=r;refine⟨tmps,Ld,h1,h2,h3.1,fun t a e=>?_⟩;rw [aBY]at e;cases ht:tm.at t with
  |none=>rw [ht]at e;cases e
  | some a0=>
   rw [ht]at e;cases e;obtain⟨cv,g1,g2⟩ :=h3.2 t a0 ht;exact⟨cv,g1,(dY τ E a0 cv).2 g2⟩
 |_=>cases hp
def aAO :List (Nat×AObj×Bool) →Bool
 | [] =>true
 |p::r=> (p.2.2||plainO p.2.1) &&aAO r
theorem aCL :∀ {l:List (Nat×AObj×Bool)},aAO l=true→∀p∈l,p.2.2=true∨plainO p.2.1=true
 | q::r,h,p,hp=>by
  simp only [aAO,and_eq_true,Bool.or_eq_true]at h;rcases List.mem_cons.1 hp with rfl|hp
  ·exact h.1
  ·exact aCL h.2 p hp
def namesT (τ:Nat→Nat) :List (Nat×AObj×Bool) →List Nat
 | [] =>[]
 |p::r=>τ p.1::namesT τ r
theorem aCM {τ:Nat→Nat}{b:Nat}:∀ {l:List (Nat×AObj×Bool)},b∈namesT τ l→∃p∈l,τ p.1=b
 | q ::r,h=>by
  rcases List.mem_cons.1 h with e|h
  ·exact⟨q,mem_cons_self ..,e.symm⟩
  · obtain⟨p,hp,e⟩ :=aCM h;exact⟨p,mem_cons_of_mem _ hp,e⟩
def aEC (names ks:List Nat)(h1:Hp) :List (Nat×AObj×Bool) →List (Option AObj)
 | [] =>[]
 |p::r=> (bif sS p.1 names then some p.2.1 else bif sS p.1 ks then none else h1.look p.1) ::aEC names ks h1 r
theorem aED {names ks:List Nat}{h1:Hp}:∀ {l:List (Nat×AObj×Bool)},aEC names ks h1 l=xZ l→∀p∈l,p.1∈names∨ (p.1∉ks∧h1.look p.1=some p.2.1)
 | q ::r,h,p,hp=>by
  simp only [aEC,xZ,List.cons.injEq]at h;rcases List.mem_cons.1 hp with rfl|hp
  · cases hm:sS p.1 names with
    |true=>exact .inl ((uA _ _).1 hm)
    | false=>
     have h1:=h.1;rw [hm]at h1;simp only [cond]at h1;cases hk:sS p.1 ks with
     |true=>rw [hk]at h1;cases h1
     | false=>
      rw [hk]at h1;exact .inr ⟨fun hh=>by(rw [(uA _ _).2 hh]at hk;cases hk),h1⟩
  ·exact aED h.2 p hp
theorem aCN :∀ {E:Emb} {ch:List (AV×Bool)} {ps:List PanicEntry},(∀x∈ch,keyless x.1=true) →CR E ch ps→CR E.p ch ps
 |_,[],_,_,r=>by simpa [CR]using r
 | _,a::l,_,k,r=>by
  simp only [CR]at r ⊢;obtain⟨v,ps,h1,h2,h3⟩ :=r;exact⟨v,ps,h1,eP (k a (mem_cons_self ..)) h2,aCN (fun x hx=>k x (mem_cons_of_mem _ hx)) h3⟩
theorem CR.of_p {E:Emb}:∀ {ch:List (AV×Bool)} {ps:List PanicEntry},CR E.p ch ps→CR E ch ps
 | [],_,r=>by simpa [CR]using r
 | a::l,_,r=>by
  simp only [CR]at r ⊢;obtain⟨v,ps,h1,h2,h3⟩ :=r;exact⟨v,ps,h1,h2.of_p,h3.of_p⟩
def aBr (P:Program)(m:Nat)(c:AIn)(h:Hp)(res:Res)(h':Hp) :Prop:=∃g,dR P h c=some g∧Ends P m ⟨g,[],h⟩ res h'
def mJ (m n2:Nat)(ks:List Nat)(b:Nat) :Nat:=bif blt b m then ks.getD b 0 else b-m+n2
theorem aML {f:Nat}{args args':List AV}{res res':Res}{l l' lc lc':List (Nat×AObj×Bool)}{m nb nb' n2:Nat}{ks:List Nat}
  (h0:aBr P m (.enter f args) (aF l nb) res (aF l' nb')) (hres:∀ {EL:Emb} {loc:Nat→Option Loc} {cl cl':Frame},EL.le ((⟨loc,EL.imm⟩ :Emb).ren (mJ m n2 ks)) →Got EL cl res cl'→Got ⟨loc,EL.imm⟩ cl res' cl') (hargs:renL (hP 0 nb n2 ks) args=args') (hm:ble m nb=true) (hm':ble m nb'=true)
  (hin:fF 0 ⟨⟨0,0,[],[],[],.run,.normal,none⟩,[],l,nb⟩ ks=true) (hl:zO (aF lc n2) (hP 0 nb n2 ks) l=jQ (hP 0 nb n2 ks) l) (hkl:lG l)
  (hl':zO (aF lc' (nb'-m+n2)) (mJ m n2 ks) l'=jQ (mJ m n2 ks) l') (hkl':lG l') (hpl:aAO l'=true) (hk':jH nb' l'=true)
  (hx:jH n2 lc=true) (hx':jH (nb'-m+n2) lc'=true) (hlt:ks.all (fun k=>blt k n2) =true) (hout:aEC (namesT (mJ m n2 ks) l') ks (aF lc n2) lc'=xZ lc') (hll:xZ l'= (l'.map fun p=> (aF l' nb').look p.1)) :
  Spec P (.enter f args') (aF lc n2) res' (aF lc' (nb'-m+n2)) :=by
 obtain⟨g,hg,he⟩ :=h0;obtain⟨g',hg',hfr⟩ :=aEB (h':=aF lc n2) hg hargs;refine⟨g',hg',?_⟩;intro _ E fr ccs w fr' fs r cl base;have hm:=Nat.le_of_ble_eq_true hm;have hm':=Nat.le_of_ble_eq_true hm';have allH_get:∀ {k:Hp} {l:List (Nat×AObj×Bool)},xZ l= (l.map fun p=>k.look p.1) →∀p∈l,k.look p.1=some p.2.1:=by
  intro k l
  induction l with
  |nil=>intro _ p hp;cases hp
  | cons q l ih=>
   intro h p hp;simp only [xZ,map_cons,List.cons.injEq]at h;rcases List.mem_cons.1 hp with rfl|hp
   ·exact h.1.symm
   ·exact ih h.2 p hp
 have hlenks:ks.length=nb:=by
  simp only [fF,and_eq_true]at hin;have:=Nat.eq_of_beq_eq_true hin.1.1.1.2;simpa using this
 have tget:∀ {b},b<nb→hP 0 nb n2 ks b=ks.getD b 0:=fun {b} hb=>by
  rw [zQ (zero_le b) hb,Nat.sub_zero]
 have gin:∀ {b},b<nb→ks.getD b 0∈ks:=fun {b} hb=>by
  rw [List.getD_eq_getElem?_getD,getElem?_eq_getElem (by omega)];exact List.getElem_mem ..
 have glt:∀ {b},b<nb→ks.getD b 0<n2:=fun {b} hb=>by
  have:=List.all_eq_true.1 hlt _ (gin hb);rw [cO,decide_eq_true_eq]at this;exact this
 have slo:∀ {b},b<m→mJ m n2 ks b=ks.getD b 0:=fun {b} hb=>by unfold mJ;rw [cO,decide_eq_true hb];rfl
 have shi:∀ {b},m≤b→mJ m n2 ks b=b-m+n2:=fun {b} hb=>by unfold mJ;rw [cO,decide_eq_false (by omega)];rfl
 have hkeys:∀ {b o},(aF l nb).look b=some o→b<nb∧∃o1,(aF lc n2).look (hP 0 nb n2 ks b) =some o1:=fun {b o} e=>by
  obtain⟨fl,hmm⟩ :=oQ e;have hb:b<nb:=by
   simp only [fF,and_eq_true]at hin;exact(eQ hin.2 _ hmm).1
  exact⟨hb,_,oP hl _ hmm⟩
 have nool:∀ {b o},(aF lc n2).look b=some o→b<n2∧dE o= [] :=fun {b o} e=>by
  obtain⟨fl,hmm⟩ :=oQ e;exact eQ hx _ hmm
 have apart:∀ {b b' o o' L L'},(aF lc n2).look b=some o→ (aF lc n2).look b'=some o'→E b=some L→E b'=some L'→b≠b'→L.blk≠L'.blk:=fun {b b' o o' L L'} e e' k k' hne hbl=>by
  have:=r.kin b b' o o' L L' e e' k k' hbl hne;unfold Kin at this;rw [(nool e).2,(nool e').2]at this;rcases this with⟨g,_⟩ | ⟨g,_⟩ <;>simp at g
 obtain⟨rL,_⟩ :=uB (h:=aF lc n2) hin hl hkl r;have frL:=hfr fr';rw [fs.nil_inv];obtain⟨cl',w',EL,s1,g2,r2,x2⟩ :=he hm (E.ren (hP 0 nb n2 ks)) fr [] w frL rfl rL cl base
 have eL:∀ {b},b<m→EL b=E (ks.getD b 0) :=fun {b} hb=>by
  rw [x2.low b hb];show E (hP 0 nb n2 ks b) =_;rw [tget (by omega)]
 let E':Emb:= ⟨fun b=>if b<n2 then E b else EL (b-n2+m),EL.imm⟩
 have e1:∀ {b},b<n2→E' b=E b:=fun {b} hb=>if_pos hb;have e2:∀ {b},n2≤b→E' b=EL (b-n2+m) :=fun {b} hb=>if_neg (by omega)
 have hE:∀b,E' (mJ m n2 ks b) =EL b:=fun b=>by
  rcases Nat.lt_or_ge b m with hb|hb
  ·rw [slo hb,e1 (glt (by omega)),eL hb]
  ·rw [shi hb,e2 (by omega),show b-m+n2-n2+m=b by omega]
 have hsig:EL.le (E'.ren (mJ m n2 ks)) := ⟨fun b L e=>by show E' (mJ m n2 ks b) =some L;rw [hE];exact e,fun _ _ e=>e⟩;have hEE:E.le E':= ⟨fun b L e=>by rw [e1 (r.nb_gt e)];exact e,fun k C e=>x2.imm k C e⟩
 have hlook:∀ {b o},(aF lc' (nb'-m+n2)).look b=some o→b<nb'-m+n2∧dE o= [] ∧ ((∃i q f,i<nb'∧mJ m n2 ks i=b∧ (aF l' nb').look i=some q∧o= (bif f then q else q.ren (mJ m n2 ks)) ∧ (f=true→q.kl) ∧ (f=true∨plainO q=true)) ∨ (b∉ks∧b<n2∧ (aF lc n2).look b=some o)) :=fun {b o} e=>by
  obtain⟨fl,hmm⟩ :=oQ e;refine⟨(eQ hx' _ hmm).1,(eQ hx' _ hmm).2,?_⟩;rcases aED hout _ hmm with hn|hn
  · obtain⟨⟨i,q,f⟩,hp,ht⟩ :=aCM hn;have hi:= (eQ hk' _ hp).1;have hw:=oP hl' _ hp;simp only at ht hw hi;rw [ht,e]at hw;cases hw;exact .inl ⟨i,q,f,hi,ht,allH_get hll _ hp,rfl,fun hf=>by subst hf;exact jY hkl' i q hp,aCL hpl _ hp⟩
  ·exact .inr ⟨hn.1,(nool hn.2).1,hn.2⟩
 have away:∀ {b o L},b∉ks→ (aF lc n2).look b=some o→E b=some L→∀b1 o1 L1,(aF l nb).look b1=some o1→ (E.ren (hP 0 nb n2 ks)) b1=some L1→L1.blk≠L.blk:=fun {b o L} hb e k b1 o1 L1 e1' k1=>by
  obtain⟨hb1,o2,e2'⟩ :=hkeys e1';exact apart e2' e k1 k (fun h=>hb (h ▸ (tget hb1 ▸ gin hb1)))
 have mixed:∀ {i b' q o' L L'},b'∉ks→ (aF l' nb').look i=some q→ (aF lc n2).look b'=some o'→EL i=some L→E b'=some L'→L.blk≠L'.blk:=fun {i b' q o' L L'} h2 e e' k k' hbl=>by
  have hlt:L.blk<w.heap.size:=by rw [hbl];exact r.lt e' k'
  obtain⟨b1,o1,L1,a1,a2,a3⟩ :=x2.own i q L e k hlt;exact away h2 e' k' b1 o1 L1 a1 a2 (a3.trans hbl)
 refine⟨_,w',E',s1,hres hsig g2,⟨fun b o e=>?_,fun b b' o o' L L' e e' k k' hbl hne=>?_,fun b hb=>?_,r2.imm,fun b o L e k=>?_,fun b o e=> (hlook e).1⟩,
  ⟨fun b hb=>e1 hb,hEE.2,x2.size,fun i hi hn=>?_,fun b' o' L' e k hlt=>?_,?_,x2.os,x2.tape,x2.output,x2.froz,fun k C e hk=>?_,fun b o e hb=>?_⟩⟩
 · obtain ⟨hb,_,h⟩ :=hlook e;rcases h with⟨i,q,f,hi,ht,hq,ho,hf,hpo⟩ | ⟨hb',hb2,hq⟩
   · subst ht;rcases r2.obj0 i q hq with⟨u1,u2⟩ | ⟨L,k1,k2⟩
     · refine .inl ⟨?_,by rw [hE];exact u2⟩;rw [ho];cases f with
       |true=>exact u1
       | false=>cases q with
        | lst e xs=>cases xs with
         |nil=>rfl
         |cons x xs=>cases u1
        |_=>cases u1
     · refine .inr ⟨L,by rw [hE];exact k1,?_⟩;rw [ho];cases f with
       |true=>exact aO1 (E:=EL) (E':=E') rfl (hf rfl) k2
       | false=>
        rcases hpo with hh|hh
        ·cases hh
        ·exact aR1 hh (k2.mono hsig)
   · rcases r.obj0 b o hq with⟨u1,u2⟩ | ⟨L,k1,k2⟩
     ·exact .inl ⟨u1,by rw [e1 hb2];exact u2⟩
     ·exact .inr ⟨L,by rw [e1 hb2];exact k1,(k2.mono hEE).heap (x2.keep _ k2.lt (away hb' hq k1))⟩
 · obtain⟨hb,hol,h⟩ :=hlook e;obtain⟨hb',hol',h'⟩ :=hlook e'
   have hkin:∀ {o:AObj} {f:Bool} {q:AObj},o= (bif f then q else q.ren (mJ m n2 ks)) →dE o= [] →dE q= [] :=fun {o f q} ho hol=>by
    cases f with
    |true=>subst ho;exact hol
    | false=>
     subst ho;cases q with
     | cells t n ol sup=>
      have:ol.map (mJ m n2 ks) = [] :=hol;exact List.map_eq_nil_iff.1 this
     |_=>rfl
   rcases h with⟨i,q,f,hi,ht,hq,ho,hf,hpo⟩ | ⟨hn,hn2,hq⟩
   · subst ht;rw [hE]at k;rcases h' with⟨i',q',f',hi',ht',hq',ho',hf',hpo'⟩ | ⟨hn',hn2',hq'⟩
     · subst ht';rw [hE]at k';have:=r2.kin i i' q q' L L' hq hq' k k' hbl (fun e=>hne (by rw [e]));unfold Kin at this;rw [hkin ho hol,hkin ho' hol']at this;rcases this with⟨g,_⟩ | ⟨g,_⟩ <;>simp at g
     · rw [e1 hn2']at k';exact absurd hbl (mixed hn' hq hq' k k')
   · rw [e1 hn2]at k;rcases h' with⟨i',q',f',hi',ht',hq',ho',hf',hpo'⟩ | ⟨hn',hn2',hq'⟩
     · subst ht';rw [hE]at k';exact absurd hbl.symm (mixed hn hq' hq k' k)
     · rw [e1 hn2']at k';exact r.kin b b' o o' L L' hq hq' k k' hbl hne
 · have hb:nb'-m+n2≤b:=hb;rw [e2 (by omega)];exact r2.fresh _ (by show nb'≤_;omega)
 · obtain⟨hb,_,h⟩ :=hlook e;show EL.imm L.blk=none;rcases h with⟨i,q,f,hi,ht,hq,ho,hf,hpo⟩ | ⟨hn,hn2,hq⟩
   · subst ht;rw [hE]at k;exact r2.apart i q L hq k
   · rw [e1 hn2]at k;cases hi:EL.imm L.blk with
     |none=>rfl
     | some C=>
      rcases x2.immo _ C hi (r.lt hq k)with a| ⟨b1,o1,L1,a1,a2,a3⟩
      · have:=r.apart b o L hq k;rw [show(E.ren (hP 0 nb n2 ks)).imm=E.imm from rfl]at a;rw [this]at a;cases a
      ·exact absurd a3 (away hn hq k b1 o1 L1 a1 a2)
 · refine x2.keep i hi (fun b o L e k=>?_);obtain⟨hb,o1,e1'⟩ :=hkeys e;exact hn _ o1 L e1' k
 · obtain⟨hb,_,h⟩ :=hlook e;rcases h with⟨i,q,f,hi,ht,hq,ho,hf,hpo⟩ | ⟨hn,hn2,hq⟩
   · subst ht;rw [hE]at k;obtain⟨b1,o1,L1,a1,a2,a3⟩ :=x2.own i q L' hq k hlt;obtain⟨_,o2,e2'⟩ :=hkeys a1;exact⟨_,o2,L1,e2',a2,a3⟩
   · rw [e1 hn2]at k;exact⟨b',o',L',hq,k,rfl⟩
 ·show n2≤nb'-m+n2;omega
 · rcases x2.immo k C e hk with a| ⟨b1,o1,L1,a1,a2,a3⟩
   ·exact .inl a
   · obtain⟨_,o2,e2'⟩ :=hkeys a1;exact .inr ⟨_,o2,L1,e2',a2,a3⟩
 · have hb:b<n2:=hb;obtain⟨_,_,h⟩ :=hlook e;rcases h with⟨i,q,f,hi,ht,hq,ho,hf,hpo⟩ | ⟨hn,hn2,hq⟩
   · rcases Nat.lt_or_ge i m with him|him
     · obtain⟨o0,e0⟩ :=x2.keys i q hq him;obtain⟨hi2,o2,e2'⟩ :=hkeys e0;rw [tget hi2,←slo him,ht]at e2';exact⟨o2,e2'⟩
     · rw [shi him]at ht;omega
   ·exact⟨o,hq⟩
theorem aO6 {f:Nat}{args args':List AV}{v:AV}{l l' lc lc':List (Nat×AObj×Bool)}{m nb nb' n2:Nat}{ks:List Nat}
  (h0:aBr P m (.enter f args) (aF l nb) (.ret v) (aF l' nb')) (hargs:renL (hP 0 nb n2 ks) args=args') (hm:ble m nb=true) (hm':ble m nb'=true)
  (hin:fF 0 ⟨⟨0,0,[],[],[],.run,.normal,none⟩,[],l,nb⟩ ks=true) (hl:zO (aF lc n2) (hP 0 nb n2 ks) l=jQ (hP 0 nb n2 ks) l) (hkl:lG l)
  (hl':zO (aF lc' (nb'-m+n2)) (mJ m n2 ks) l'=jQ (mJ m n2 ks) l') (hkl':lG l') (hpl:aAO l'=true) (hk':jH nb' l'=true)
  (hx:jH n2 lc=true) (hx':jH (nb'-m+n2) lc'=true) (hlt:ks.all (fun k=>blt k n2) =true) (hout:aEC (namesT (mJ m n2 ks) l') ks (aF lc n2) lc'=xZ lc') (hll:xZ l'= (l'.map fun p=> (aF l' nb').look p.1)) :
  Spec P (.enter f args') (aF lc n2) (.ret (ren (mJ m n2 ks) v)) (aF lc' (nb'-m+n2)) :=
 aML h0 (fun hle g=>by
  obtain⟨cv,e,g2⟩ :=g;exact⟨cv,e,(dY _ _ v cv).2 (g2.mono hle)⟩) hargs hm hm' hin hl hkl hl' hkl' hpl hk' hx hx' hlt hout hll
def aFZ (fr:AFrame)(cs:List AFrame)(all:Array Oper)(i:Nat)(o:Oper)(rest:List Oper)(k:List AItem) :List (AV×Hp) →Option (List AS)
 | [] =>some []
 | p::ps=>match fK fr.tm fr.nt o.dst p.1,aFZ fr cs all i o rest k ps with
  |some tm,some l=>some (⟨{fr with tm,todo:=.ops all (Nat.succ i) rest::k},cs,p.2⟩ ::l)
  |_,_=>none
def zU (s:AS) :Option (List AS) :=
 match s.fr.mode with
 | .run=>match s.fr.todo with
  | .ops all i (o::rest) ::k=>match bH s.fr.tm all.toList o with
   | some true=>match o.op with
    | .next it false=>match bC s.fr.tm it with
     | some (.ptr r 0) =>match aEi s.h r with
      |some l=>aFZ s.fr s.cs all i o rest k l
      |none=>none
     |_=>none
    |_=>none
   |_=>none
  |_=>none
 |_=>none
theorem aCO {fr:AFrame}{cs:List AFrame}{all:Array Oper}{i:Nat}{o:Oper}{rest:List Oper}{k:List AItem}:∀ {ps:List (AV×Hp)} {l:List AS},aFZ fr cs all i o rest k ps=some l→∀p∈ps,∃tm,fK fr.tm fr.nt o.dst p.1=some tm∧ (⟨{fr with tm,todo:=.ops all (Nat.succ i) rest::k},cs,p.2⟩ :AS) ∈l
 | [],_,_,p,hp=>by cases hp
 | q ::ps,l,h,p,hp=>by
  simp only [aFZ]at h;split at h
  · rename_i tm l' h1 h2;cases h;rcases List.mem_cons.1 hp with rfl|hp
    ·exact⟨tm,h1,mem_cons_self ..⟩
    · obtain⟨tm',g1,g2⟩ :=aCO h2 p hp;exact⟨tm',g1,mem_cons_of_mem _ g2⟩
  ·cases h
theorem Goes.then {E:Emb}{h:Hp}{fr:Frame}{ccs:List Frame}{w:World}{base:List Frame}{a b:AS}(h1:Goes P E h fr ccs w base a)(h2:Leads P a b) :Goes P E h fr ccs w base b:=by
 obtain⟨E1,fr1,cs1,w1,s1,f1,fs1,r1,x1⟩ :=h1;obtain⟨E2,fr2,cs2,w2,s2,f2,fs2,r2,x2⟩ :=h2 E1 fr1 cs1 w1 base f1 fs1 r1;exact⟨E2,fr2,cs2,w2,s1.trans s2,f2,fs2,r2,x1.trans x2⟩
theorem aCP {s s':AS}{l:List AS}(h0:zU s=some l)(hall:∀x∈l,Leads P x s') :Leads P s s':=by
 obtain⟨fr,cs,h⟩ :=s;unfold zU at h0;simp only at h0;split at h0
 · rename_i hm;split at h0
   · rename_i all i o rest ak htd;split at h0
     · rename_i hw;split at h0
       · rename_i it hop;split at h0
         · rename_i r ha;split at h0
           · rename_i outs hl;intro E cfr ccs w base f fs R;simp only at f fs R;have e:=f.run hm;generalize cfr.fn=fn at e;generalize cfr.tmps=tmps at e;generalize cfr.todo=todo at e;generalize cfr.defers=ds at e;generalize cfr.kind=kd at e;generalize cfr.roundOf=ro at e;subst e;have ft:=f.todo;rw [htd]at ft;obtain⟨ci,k,e,i1,i2⟩ :=ft.cons_inv;simp only at e;subst e;obtain⟨rfl,ho,i3⟩ :=zJ i1;have hd: (all[i]?).bind (·.dst) =o.dst:=by rw [ho];rfl
             have hwant:Region.wanted o (yielded all tmps) =true:=nR f.tm hw;have hρ:=TR.reads (E:=E) f.tm fn (.inRegion all (i::range' (i+1) rest.length) ::k) ds kd ro (· ∈o.op.operands);have hv:=hρ it (by rw [hop];simp [Op.operands]) _ ha;simp only [VR]at hv;obtain⟨L,hE,hL⟩ :=hv;have hz:L.sh=0:=by
              unfold aEi at hl;split at hl
              · rename_i m since seen last hmi;obtain⟨L',g1,Lm,g2,g3,g4⟩ :=R.obj _ _ hmi;rw [hE]at g1;cases g1;exact g4
              ·cases hl
             obtain⟨v,h',g0,cv,w',g1,g2,g3,g4⟩ :=aBg (P:=P) R hl hE hz;obtain⟨tm',q1,q2⟩ :=aCO h0 _ g0;refine Goes.then ?_ (hall _ q2)
             have hnd:∀c,o.op≠ .defer c:=fun c hc=>by rw [hop]at hc;cases hc
             have hx: (execOp (rf fn tmps (.inRegion all (i::range' (i+1) rest.length) ::k) ds kd ro).eval o).run P w= .ok (.value cv) w':=by
              unfold execOp;simp only [hop];have e2: (rf fn tmps (.inRegion all (i::range' (i+1) rest.length) ::k) ds kd ro).eval it= .pointer (some ⟨L.blk,0,none⟩) :=by rw [hL,hz]
              simp only [Sem.run_bind,e2,g1,Result.andThen_ok,Sem.run_pure]
             refine Goes.one (qI ho hwant (.inr hnd) hx) ?_ (fs.mono g4.le) g3 g4;simp only [Frame.finish,hd];refine⟨f.fn,?_,IRs.cons (i3.mono g4.le) (i2.mono g4.le),f.defers.mono g4.le,by simp only [hm];exact rfl,f.kind,f.round.mono g4.le⟩;have:=xU (f.tm.mono g4.le) q1 g2;unfold xT at this;exact this
           ·cases h0
         ·cases h0
       ·cases h0
     ·cases h0
   ·cases h0
 ·cases h0
theorem Rel.older {E:Emb}{h:Hp}{H:Array Obj}(r:Rel E h H){b:Nat}{t:T AV}{n:Nat}{o1 o2:List Nat}{sup:Bool}(hb:h.look b=some (.cells t n o1 sup))(hs:∀x∈o1,x∈o2) :Rel E (h.set b (.cells t n o2 sup)) H:=by
 have old:∀ {x o},(h.set b (.cells t n o2 sup)).look x=some o→∃o',h.look x=some o'∧wP o'=wP o∧lF o'=lF o∧nOf o'=nOf o∧ (∀y∈dE o',y∈dE o) ∧ (∀L,OR E H L o'→OR E H L o) :=fun {x o} e=>by
  rw [aW]at e;split at e
  · rename_i hx;subst hx;cases e;exact⟨_,hb,rfl,rfl,rfl,hs,fun L ho=>ho⟩
  ·exact⟨o,e,rfl,rfl,rfl,fun _ h=>h,fun _ h=>h⟩
 refine⟨fun x o e=>?_,fun x x' o o' L L' e e' k k' hbl hne=>?_,r.fresh,r.imm,fun x o L e k=>?_,fun x o e=>?_⟩
 · obtain⟨o',e1,g1,_,_,_,g5⟩ :=old e;rcases r.obj0 x o' e1 with⟨a1,a2⟩ | ⟨L,a1,a2⟩
   ·exact .inl ⟨by rw [←g1];exact a1,a2⟩
   ·exact .inr ⟨L,a1,g5 L a2⟩
 · obtain⟨p,e1,_,g2,g3,g4,_⟩ :=old e;obtain⟨p',e1',_,g2',g3',g4',_⟩ :=old e';rcases r.kin x x' p p' L L' e1 e1' k k' hbl hne with⟨a1,a2,a3⟩ | ⟨a1,a2,a3⟩
   ·exact .inl ⟨g4 _ a1,by rw [←g2'];exact a2,by rw [←g3',←g3];exact a3⟩
   ·exact .inr ⟨g4' _ a1,by rw [←g2];exact a2,by rw [←g3,←g3'];exact a3⟩
 · obtain⟨o',e1,_⟩ :=old e;exact r.apart x o' L e1 k
 · obtain⟨o',e1,_⟩ :=old e;exact r.keys x o' e1
def AS.older (s:AS)(b:Nat)(o2:List Nat) :Option AS:=
 match s.h.look b with
 |some (.cells t n o1 sup) =>bif o1.all (fun x=>xK x o2)then some {s with h:=s.h.set b (.cells t n o2 sup)} else none
 |_=>none
theorem aHw {s s':AS}{b:Nat}{o2:List Nat}(h0:s.older b o2=some s') :Leads P s s':=fun E fr ccs w base f fs r=>by
 unfold AS.older at h0;split at h0
 · rename_i t n o1 sup hb;cases hc:o1.all (fun x=>xK x o2)with
   |false=>rw [hc]at h0;cases h0
   | true=>
    rw [hc]at h0;simp only [cond]at h0;cases h0
    have hs:∀x∈o1,x∈o2:=fun x hx=>by
     have:=List.all_eq_true.1 hc x hx;rw [nQ]at this;simpa using this
    have keys:∀ {x o},(s.h.set b (.cells t n o2 sup)).look x=some o→∃o',s.h.look x=some o':=fun {x o} e=>by
     rw [aW]at e;split at e
     ·rename_i hx;subst hx;exact⟨_,hb⟩
     ·exact⟨o,e⟩
    exact⟨E,fr,ccs,w,Steps.refl _ _,f,fs,r.older hb hs,⟨Emb.le.refl E,le_refl _,fun _ _ _=>rfl,fun x o L h1 h2 _=>by obtain⟨o',e⟩ :=keys h1;exact⟨x,o',L,e,h2,rfl⟩,le_refl _,rfl,rfl,rfl,fun _ _=>rfl,fun _ _=>rfl,fun _ _ e _=>.inl e,fun x o e _=>keys e⟩⟩
 ·cases h0
structure LFr where
 fn:Nat
 tm:List (Nat×AV)
 nt:Nat
 todo:List AItem
 defers:List ADef
 mode:AMode
 kind:CallKind
 ro:Option Nat
structure LS where
 fr:LFr
 cs:List LFr
 hp:List (Nat×AObj)
 nb:Nat
def LFr.fr' (f:LFr) :AFrame:= ⟨f.fn,aFW f.tm,f.nt,f.todo,f.defers,f.mode,f.kind,f.ro⟩
def LS.as (s:LS) :AS:= ⟨s.fr.fr',s.cs.map LFr.fr',⟨aFW s.hp,s.nb⟩⟩
def aWn {α:Type}:List (Nat×α) →List Nat
 | [] =>[]
 |p::r=>p.1::aWn r
def aJW (f:AFrame)(l:LFr) :AFrame:={f with tm:=aFW (aCG f.tm (aWn l.tm))}
def aF0 :List AFrame→List LFr→List AFrame
 |f::fs,l::ls=>aJW f l::aF0 fs ls
 |fs,_=>fs
def AS.keep (s:AS)(l:LS) :AS:= ⟨aJW s.fr l.fr,aF0 s.cs l.cs,⟨aFW (aCG s.h.t (aWn l.hp)),s.h.nb⟩⟩
def bT (P:Program)(call:bG)(n:Nat)(a b:LS) :Option AS:=
 match kG P call n a.as with
 |some s'=>some (s'.keep b)
 |none=>none
theorem zV {E:Emb}{f:AFrame}{c:Frame}(h:FR E f c)(l:LFr) :FR E (aJW f l) c:=
 ⟨h.fn,⟨h.tm.1,fun t a e=>h.tm.2 t a (oO (aBX e))⟩,h.todo,h.defers,h.mode,h.kind,h.round⟩
theorem xE {E:Emb}:∀ {fs:List AFrame} {cs:List Frame} (ls:List LFr),FRs E fs cs→FRs E (aF0 fs ls) cs
 | [],_,[],h=>h
 | [],_,_::_,h=>h
 |_::_,_,[],h=>h
 | f::fs,cs,l::ls,h=>by
  obtain⟨c,cs',rfl,h1,h2⟩ :=FRs.cons_inv h;exact FRs.cons (zV h1 l) (xE ls h2)
theorem yA (s:AS)(l:LS) :Leads P s (s.keep l) :=fun E fr ccs w base f fs r=>by
 have hs:∀b o,(s.keep l).h.look b=some o→s.h.look b=some o:=fun b o e=>oO (aBX e);exact⟨E,fr,ccs,w,Steps.refl _ _,zV f l.fr,xE l.cs fs,r.sub hs (le_refl _),⟨Emb.le.refl E,le_refl _,fun _ _ _=>rfl,fun b o L h1 h2 _=> ⟨b,o,L,hs b o h1,h2,rfl⟩,le_refl _,rfl,rfl,rfl,fun _ _=>rfl,fun _ _=>rfl,fun _ _ e _=>.inl e,fun b o e _=> ⟨o,hs b o e⟩⟩⟩
theorem aG {call:bG}(hc:dT P call){n:Nat}{a b:LS}(h0:bT P call n a b=some b.as) :Leads P a.as b.as:=by
 unfold bT at h0;split at h0
 · rename_i s1 h1;rw [qQ]at h1;rw [←Option.some.inj h0];exact(nF hc h1).trans (yA s1 b)
 ·cases h0
def aHx :List AS→List LS→List AS
 |a::l,b::ls=>a.keep b::aHx l ls
 |l,_=>l
theorem aEE :∀ {l:List AS} {ls:List LS},aHx l ls=ls.map LS.as→∀x∈l,∃b∈ls,x.keep b=b.as
 | [],_,_,x,hx=>by cases hx
 |a::l,[],h,x,hx=>by simp [aHx]at h
 | a ::l,b::ls,h,x,hx=>by
  simp only [aHx,map_cons,List.cons.injEq]at h;rcases List.mem_cons.1 hx with rfl|hx
  ·exact⟨b,mem_cons_self ..,h.1⟩
  · obtain⟨c,h1,h2⟩ :=aEE h.2 x hx;exact⟨c,mem_cons_of_mem _ h1,h2⟩
theorem aOA {s s':AS}{ls:List LS}(h0: (zU s).map (fun l=>aHx l ls) =some (ls.map LS.as))(h1:∀x∈ls,Leads P x.as s') :Leads P s s':=by
 cases e:zU s with
 |none=>rw [e]at h0;cases h0
 | some l=>
  rw [e]at h0;refine aCP e (fun x hx=>?_);obtain⟨b,hb,e1⟩ :=aEE (Option.some.inj h0) x hx;have:=yA (P:=P) x b;rw [e1]at this;exact this.trans (h1 b hb)
theorem aR2 {s:AS}{b:Nat}{o2:List Nat}{t:LS}(h0: (s.older b o2).map (fun x=>x.keep t) =some t.as) :Leads P s t.as:=by
 cases e:s.older b o2 with
 |none=>rw [e]at h0;cases h0
 | some x=>
  rw [e]at h0;have:=yA (P:=P) x t;have h2:x.keep t=t.as:=Option.some.inj h0;rw [h2]at this;exact(aHw e).trans this
end
def Code.part :Code→List Nat→Code
 |c,[] =>c
 | .seq a b,n::p=>bif beq n 0 then Code.part a p else Code.part b p
 | .cond _ a b,n::p=>bif beq n 0 then Code.part a p else Code.part b p
 | .block _ c,_::p=>Code.part c p
 | .loop c,_::p=>Code.part c p
 | .scope c,_::p=>Code.part c p
 | .rangeFunc _ _ a b,n::p=>bif beq n 0 then Code.part a p else Code.part b p
 |c,_=>c
def cd (f:Func)(p:List Nat) :Code:=match f.body with
 |some c=>Code.part c p
 |none=>.skip
def od (f:Func)(p:List Nat) :Array Oper:=match cd f p with
 | .region _ ops _=>ops
 |_=> #[]
def aXc (f:Func)(p:List Nat)(k:Nat) :AItem:=.ops (od f p) k (drop k (od f p).toList)
abbrev aB :=List UInt8
def bL (n:Int) :AV:=.int .i64 n
def fX (b:Bool) :AV:=.bool b
def aD (s:aB) :AV:=.str (length s) (aA s)
def strOf (l:List Nat) :aB:=l.map UInt8.ofNat
theorem cV {α:Type}{f:α→AV}{l:List α}{i:Nat}{y:α}(h:l[i]?=some y) : (List.map f l)[i]?=some (f y) :=by rw [List.getElem?_map,h];rfl
theorem jJ {α:Type}{f:α→AV}{l:List α}{i:Nat}{y:α}(h:l[i]?=some y) : (List.map f l)[0+i]?=some (f y) :=by rw [zero_add];exact cV h
theorem aO7 {α:Type}(f:α→AV)(l:List α) :0+length l≤length (List.map f l) :=by simp
theorem aO8 {α:Type}(f:α→AV)(l m:List α) :take (length l) (drop 0 (List.map f l)) ++List.map f m=List.map f (l++m) :=by
 rw [List.drop_zero,List.take_of_length_le (by simp),List.map_append]
theorem aO9 {α:Type}(f:α→AV)(l m:List α) :length l+length (List.map f m) =length (l++m) :=by simp
theorem kQ {α:Type}(f:α→AV)(l:List α)(i:Nat)(y:α) : (List.map f l).set (0+i) (f y) =List.map f (set l i y) :=by rw [zero_add,List.map_set]
theorem aF1 {α:Type}(f:α→AV)(n:Nat)(y:α) :replicate n (f y) =List.map f (replicate n y) :=by rw [List.map_replicate]
theorem dB {b e o n m:Nat}{x:Bool}(h:n=m) :AV.gl b e o n x= .gl b e o m x:=by rw [h]
theorem aMM {α:Type}(f:α→AV)(l:List α){b e:Nat}{x:Bool}:AV.frzOk b e (List.map f l) (List.map f l) (.gl b e 0 (length l) x) :=by
 simp only [AV.frzOk];intro _;exact⟨trivial,by simp,by rw [List.drop_zero,List.take_of_length_le (by simp)]⟩
inductive Pat where
 |mk (form n:Int) (text:aB) (parts:List Pat)
mutual
def Pat.av :Pat→AV
 | .mk f n t ps=>.agg [.int .i64 f,.int .i64 n,aD t,.ilst 4 (Pats.av ps) false]
def Pats.av :List Pat→List AV
 | [] =>[]
 |p::ps=>Pat.av p::Pats.av ps
end
theorem aN :∀l,Pats.av l=List.map Pat.av l
 | [] =>rfl
 |p::ps=>by rw [Pats.av,aN ps];rfl
mutual
theorem yB :∀p,keyless (Pat.av p) =true
 | .mk f n t ps=>by simp only [Pat.av,keyless,keylessL,aHy ps,aD,Bool.and_true]
theorem aHy :∀ (l:List Pat),keylessL (Pats.av l) =true
 | [] =>rfl
 |p::ps=>by simp only [Pats.av,keylessL,yB p,aHy ps,Bool.and_true]
end
structure Con where
 name:aB
 args:Int
def Con.av (c:Con) :AV:=.agg [aD c.name,.int .i64 c.args]
structure Node where
 op:Int
 n:Int
 kids:List Int
 pats:List Pat
def Node.av (x:Node) :AV:=.agg [.int .i64 x.op,.int .i64 x.n,.ilst 1 (List.map bL x.kids) false,.ilst 4 (Pats.av x.pats) false]
structure Prog where
 nodes:List Node
 funs:List Int
 main:Int
 cons:List Con
def Prog.av (p:Prog) :AV:=.agg [.ilst 4 (List.map Node.av p.nodes) false,.ilst 1 (List.map bL p.funs) false,.int .i64 p.main,.ilst 2 (List.map Con.av p.cons) false]
section
theorem byte_at :∀ {s:aB} {k:Nat} {y:UInt8},s[k]?=some y→aA s / 256 ^ k % 256=y.toNat
 | c::s,0,y,h=>by
  simp only [List.getElem?_cons_zero,Option.some.injEq]at h;subst h;have:=c.toNat_lt;simp only [aA,Nat.pow_zero,Nat.div_one];omega
 | c::s,k+1,y,h=>by
  rw [List.getElem?_cons_succ]at h;have:=byte_at h;rw [←this];have hc:=c.toNat_lt;simp only [aA];rw [Nat.pow_succ',←Nat.div_div_eq_div_mul];congr 2;omega
theorem aAP {s:aB}{k:Int}{y:UInt8}(h0:0≤k)(h:s[k.toNat]?=some y) :k< ((length s:Nat) :Int) :=by
 have:= (List.getElem?_eq_some_iff.1 h).1;omega
theorem aAQ {s:aB}{k:Int}{y:UInt8}(h:s[k.toNat]?=some y) :int .u8 ((mod (div (aA s) (pow 256 k.toNat)) 256:Nat) :Int) = .int .u8 ((y.toNat:Nat) :Int) :=by
 show int .u8 ((aA s / 256 ^ k.toNat % 256:Nat) :Int) =_;rw [byte_at h]
theorem aCQ :∀ (s:aB) (k:Nat),aA s / 256 ^ k=aA (s.drop k)
 |s,0=>by simp
 | [],k+1=>by simp [aA]
 | c::s,k+1=>by
  rw [List.drop_succ_cons,←aCQ s k,Nat.pow_succ',←Nat.div_div_eq_div_mul];congr 1;have:=c.toNat_lt;simp only [aA];omega
theorem oR {k:IntKind}{i:Int}(h:0≤i) :eT (some (.int k i)) =some (some i.toNat) :=by
 show(if 0≤i then some (some i.toNat)else none) =_;rw [if_pos h]
theorem eR :eT none=some none:=rfl
variable {P :Program}
def vT (P:Program)(t:TypeId)(X:AV)(lo hi:Option AV)(V:AV) :Prop:=
 ∃l u m,eT lo=some l∧eT hi=some u∧eT none=some m∧ (kT P t X l u m=some V∨ (kT P t X l u m=none∧pY P t X l u m=some V))
theorem aBs {t:TypeId}(hu:P.underlying t=some .string){s:aB}{kk:IntKind}{k:Int}(h0:0≤k)(h1:k.toNat≤s.length) :
  vT P t (aD s) (some (.int kk k)) none (aD (s.drop k.toNat)) :=by
 refine⟨_,_,_,oR h0,eR,eR,.inl ?_⟩;unfold kT aD;rw [hu];simp only [getD_some,getD_none];have e1:ble k.toNat s.length=true:=ble_eq ▸ h1;have e2:ble s.length s.length=true:=ble_eq ▸ le_refl _;have e3:div (aA s) (pow 256 k.toNat) =aA (s.drop k.toNat) :=aCQ s k.toNat;rw [e1,e2,e3];simp
theorem aMN {α:Type}{f:α→AV}{F:List α→List AV}(hF:∀l,F l=List.map f l){t:TypeId}{e:Nat}(hu:nZ P t e=true){xs:List α}{kk:IntKind}{k:Int}(h0:0≤k)(h1:k.toNat≤xs.length) :
  vT P t (.ilst e (F xs) false) none (some (.int kk k)) (.ilst e (F (xs.take k.toNat)) false) :=by
 rw [hF,hF];refine⟨_,_,_,eR,oR h0,eR,.inr ⟨?_,?_⟩⟩
 ·unfold kT;split<;>simp_all
 · unfold pY;simp only [hu,cond,getD_some,getD_none,length_map];rw [if_pos ⟨zero_le _,h1⟩];simp [map_take]
theorem aCR {α:Type}{f:α→AV}{t:TypeId}{e:Nat}(hu:nZ P t e=true){xs:List α}{kk:IntKind}{k:Int}(h0:0≤k)(h1:k.toNat≤xs.length) :
  vT P t (.ilst e (List.map f xs) false) none (some (.int kk k)) (.ilst e (List.map f (xs.take k.toNat)) false) :=aMN (fun _=>rfl) hu h0 h1
theorem aHz {α:Type}{f:α→AV}{F:List α→List AV}(hF:∀l,F l=List.map f l){t:TypeId}{e:Nat}(hu:nZ P t e=true){xs:List α}{kk:IntKind}{k:Int}(h0:0≤k)(h1:k.toNat≤xs.length) :
  vT P t (.ilst e (F xs) false) (some (.int kk k)) none (.ilst e (F (xs.drop k.toNat)) false) :=by
 rw [hF,hF];refine⟨_,_,_,oR h0,eR,eR,.inr ⟨?_,?_⟩⟩
 ·unfold kT;split<;>simp_all
 · unfold pY;simp only [hu,cond,getD_some,getD_none,length_map];rw [if_pos ⟨h1,le_refl _⟩];have:take (xs.length-k.toNat) (drop k.toNat xs) =drop k.toNat xs:=List.take_of_length_le (by simp);simp [←List.map_drop,←map_take,this]
theorem aCS {α:Type}{f:α→AV}{t:TypeId}{e:Nat}(hu:nZ P t e=true){xs:List α}{kk:IntKind}{k:Int}(h0:0≤k)(h1:k.toNat≤xs.length) :
  vT P t (.ilst e (List.map f xs) false) (some (.int kk k)) none (.ilst e (List.map f (xs.drop k.toNat)) false) :=aHz (fun _=>rfl) hu h0 h1
theorem aPa {t:TypeId}{b e n:Nat}(hu:nZ P t e=true){kk:IntKind}{k:Int}(h0:0≤k)(h1:k.toNat≤n) :
  vT P t (.gl b e 0 n false) none (some (.int kk k)) (.gl b e 0 k.toNat false) :=by
 refine⟨_,_,_,eR,oR h0,eR,.inr ⟨?_,?_⟩⟩
 ·unfold kT;split<;>simp_all
 · unfold pY;simp only [hu,cond,getD_some,getD_none];rw [if_pos ⟨zero_le _,h1⟩];simp
theorem aLS {α:Type}(f:α→AV)(l:List α) : ((length (List.map f l) :Nat) :Int) = ((length l:Nat) :Int) :=by rw [length_map]
section
variable {α :Type} {f:α→AV} {F:List α→List AV} (hF:∀l,F l=List.map f l)
include hF
theorem zW {l:List α}{i:Nat}{y:α}(h:l[i]?=some y) : (F l)[i]?=some (f y) :=by rw [hF];exact cV h
theorem aR3 (l:List α) :0+length l≤length (F l) :=by rw [hF];exact aO7 f l
theorem aR4 (l m:List α) :take (length l) (drop 0 (F l)) ++F m=F (l++m) :=by rw [hF,hF,hF];exact aO8 f l m
theorem aR5 (l m:List α) :length l+length (F m) =length (l++m) :=by rw [hF];exact aO9 f l m
theorem aWo (l:List α) : ((length (F l) :Nat) :Int) = ((length l:Nat) :Int) :=by rw [hF,length_map]
end
theorem aCT :∀ (s:aB),aA s<256 ^ s.length
 | [] =>by simp [aA]
 | c::s=>by
  have:=aCT s;have:=c.toNat_lt;simp only [aA,length_cons,Nat.pow_succ];omega
theorem bytes_inj {s t:aB}(hl:s.length=t.length)(hn:aA s=aA t) :s=t:=by
 rw [←bZ s,←bZ t,hl,hn]
theorem hU (s t:aB) :bM (length s) (aA s) (length t) (aA t) =decide (s=t) :=by
 unfold bM;have e1:mod (aA s) (pow 256 s.length) =aA s:=Nat.mod_eq_of_lt (aCT s);by_cases hl:s.length=t.length
 · rw [←hl,e1];have e2:mod (aA t) (pow 256 s.length) =aA t:=by rw [hl];exact Nat.mod_eq_of_lt (aCT t)
   rw [e2,show beq s.length s.length=true from Nat.beq_refl _];by_cases hn:aA s=aA t
   ·have:=bytes_inj hl hn;subst this;simp
   · have:s≠t:=fun e=>hn (by rw [e]);rw [show beq (aA s) (aA t) =false from Bool.eq_false_iff.2 (fun h=>hn (Nat.eq_of_beq_eq_true h)),decide_eq_false this];rfl
 · have:s≠t:=fun e=>hl (by rw [e]);simp [this,hl]
theorem cR (s:aB) :bM (length s) (aA s) 0 0=decide (s= []) :=hU s []
def aJ {α β:Type}(f:α→AV)(g:β→AV) :Nat→List (α×β) →List (AV×AV×Nat)
 |_,[] =>[]
 |n,e::l=> (f e.1,g e.2,n) ::aJ f g (n+1) l
def bK {α β:Type}[DecidableEq α](k:α)(v:β) :List (α×β) →List (α×β)
 | [] =>[(k,v)]
 |e::l=>if k=e.1 then(k,v) ::l else e::bK k v l
def dG {α β:Type}[DecidableEq α](k:α) :List (α×β) →Option β
 | [] =>none
 |e::l=>if k=e.1 then some e.2 else dG k l
def aHA {α:Type}[DecidableEq α](f:α→AV) :Prop:=∀a b,lZ (f a) (f b) =some (decide (a=b))
theorem fG :aHA aD:=fun a b=>by
 simp only [lZ,aD,hU]
theorem qY {α β:Type}[DecidableEq α]{f:α→AV}{g:β→AV}(hf:aHA f)(k:α) :∀ (l:List (α×β)) (n i:Nat),dG k l=none→dX (f k) (aJ f g n l) i=some none
 | [],n,i,_=>rfl
 | e ::l,n,i,h=>by
  unfold dG at h;split at h
  ·cases h
  · rename_i hk;simp only [aJ,dX,hf k e.1,decide_eq_false hk];exact qY hf k l (n+1) _ h
theorem uD {α β:Type}[DecidableEq α](f:α→AV)(g:β→AV)(k:α)(v:β) :∀ (l:List (α×β)) (n:Nat),dG k l=none→aJ f g n l++ [(f k,g v,n+l.length)] =aJ f g n (bK k v l) ∧ (bK k v l).length=l.length+1
 | [],n,_=>by simp [aJ,bK]
 | e ::l,n,h=>by
  unfold dG at h;split at h
  ·cases h
  · rename_i hk;obtain⟨a,b⟩ :=uD f g k v l (n+1) h;simp only [aJ,bK,if_neg hk,List.cons_append,length_cons,b];refine⟨?_,trivial⟩;rw [←a,show n+1+l.length=n+ (l.length+1)by omega]
theorem aHB {α β:Type}[DecidableEq α]{f:α→AV}{g:β→AV}(hf:aHA f)(k:α)(v w:β) :∀ (l:List (α×β)) (n i:Nat),dG k l=some w→∃j,dX (f k) (aJ f g n l) i=some (some (i+j,g w)) ∧setE (f k) (g v) (aJ f g n l) j=aJ f g n (bK k v l) ∧ (bK k v l).length=l.length
 | [],_,_,h=>by cases h
 | e ::l,n,i,h=>by
  unfold dG at h;split at h
  · rename_i hk;cases h;refine⟨0,?_,?_,?_⟩
    ·simp only [aJ,dX,hf k e.1,decide_eq_true hk,Nat.add_zero]
    ·simp only [aJ,setE,bK,if_pos hk]
    ·simp only [bK,if_pos hk,length_cons]
  · rename_i hk;obtain⟨j,a,b,c⟩ :=aHB hf k v w l (n+1) (i+1) h;refine⟨j+1,?_,?_,?_⟩
    · simp only [aJ,dX,hf k e.1,decide_eq_false hk];rw [show i+ (j+1) =i+1+j by omega];exact a
    ·simp only [aJ,setE,bK,if_neg hk,b]
    ·simp only [bK,if_neg hk,length_cons,c]
theorem aF2 {α β:Type}[DecidableEq α]{f:α→AV}{g:β→AV}(hf:aHA f)(k:α)(v:β)(l:List (α×β)) :qS (aJ f g 0 l) (length l) (f k) (g v) =some (aJ f g 0 (bK k v l),length (bK k v l)) :=by
 unfold qS;cases h:dG k l with
 | none=>
  rw [qY hf k l 0 0 h];obtain⟨a,b⟩ :=uD f g k v l 0 h;simp only [zero_add]at a;simp only [a,b]
 | some w=>
  obtain⟨j,a,b,c⟩ :=aHB hf k v w l 0 0 h;rw [a];simp only [zero_add,b,c]
theorem aLT {α β:Type}(f:α→AV)(g:β→AV) :∀ (l:List (α×β)) (n:Nat),(aJ f g n l).length=l.length
 | [],_=>rfl
 |e::l,n=>by simp only [aJ,length_cons,aLT f g l (n+1)]
def uE {α β:Type}[DecidableEq α](k:α) :List (α×β) →Nat
 | [] =>0
 |e::l=>if k=e.1 then 0 else uE k l+1
theorem aHC {α β:Type}[DecidableEq α]{f:α→AV}{g:β→AV}(hf:aHA f)(k:α) :∀ (l:List (α×β)) (n i:Nat),dX (f k) (aJ f g n l) i=some ((dG k l).map fun w=> (i+uE k l,g w))
 | [],n,i=>rfl
 | e ::l,n,i=>by
  by_cases hk:k=e.1
  ·simp only [aJ,dX,hf k e.1,decide_eq_true hk,dG,uE,if_pos hk,Option.map_some,Nat.add_zero]
  · simp only [aJ,dX,hf k e.1,decide_eq_false hk,dG,uE,if_neg hk];rw [aHC hf k l (n+1) (Nat.succ i)];congr 2
    funext w
    rw [show Nat.succ i+uE k l=i+ (uE k l+1)by omega]
end
theorem zX {α β:Type}{f:α→AV}{g:β→AV}(hf:∀a,keyless (f a) =true)(hg:∀a,keyless (g a) =true) :∀ (l:List (α×β)) (n:Nat),∀e∈aJ f g n l,keyless e.1=true∧keyless e.2.1=true
 | [],_,e,h=>by simp [aJ]at h
 | x::l,n,e,h=>by
  rcases List.mem_cons.1 h with rfl|h
  ·exact⟨hf _,hg _⟩
  ·exact zX hf hg l (n+1) e h
theorem oS {α β:Type}[DecidableEq α]{f:α→AV}{g:β→AV}(hf:aHA f){k:α}{l:List (α×β)}(h:dG k l=none) :dX (f k) (aJ f g 0 l) 0=some none:=qY hf k l 0 0 h
theorem oU {α β:Type}[DecidableEq α]{f:α→AV}{g:β→AV}(hf:aHA f){k:α}{v:β}{l:List (α×β)}(h:dG k l=some v) :dX (f k) (aJ f g 0 l) 0=some (some (uE k l,g v)) :=by
 rw [aHC hf,h];simp
theorem aPb {α β:Type}(f:α→AV)(g:β→AV)(l:List (α×β)) :int .i64 ((length (aJ f g 0 l) :Nat) :Int) = .int .i64 ((length l:Nat) :Int) :=by rw [aLT]
theorem bA {α β:Type}{f:α→AV}{g:β→AV}(hf:∀a,keyless (f a) =true)(hg:∀a,keyless (g a) =true)(n:Nat)(l:List (α×β))(c:Nat) : (AObj.map (aJ f g n l) c).kl:=by
 intro e he;exact zX hf hg l n e he
section
/-- a proposition with its proof -/
structure Pf where
  p:Prop
  h:p
def qp {p:Prop}(h:p) :Pf:= ⟨p,h⟩
theorem aPc :∀ (L:List Pf),AllP (L.map Pf.p)
  | [] =>trivial
  | [a] =>a.h
  |a::b::L=> ⟨a.h,aPc (b::L)⟩
noncomputable abbrev PP:Program:=Tryz.prog
variable {P :Program}
theorem kk {α:Type}{f:α→AV}{l:List α}(h:∀a,keyless (f a) =true:=by exact fun _=>rfl) :keylessL (List.map f l) =true:=jG f h l
section
variable {α :Type}
def ql (f:α→AV)(l:List α) :Pf:= ⟨_,aLS f l⟩
def qs (b e o:Nat)(l:List α)(i:Nat)(v:α)(x:Bool) :Pf:= ⟨AV.gl b e o l.length x= .gl b e o (l.set i v).length x,dB (List.length_set ..).symm⟩
noncomputable abbrev aL (l:List α) :Ins:=.ans (.len (l.length:Int))
end
noncomputable abbrev rn:Nat→Ins:=.run
noncomputable abbrev bt (j:Nat) :Ins:=.b j true
noncomputable abbrev bf (j:Nat) :Ins:=.b j false
noncomputable abbrev aI (v:AV) :Ins:=.ans (.idx v)
noncomputable abbrev sI (j:Nat)(x:Int) :Ins:=.set j (.int .i64 x)
noncomputable abbrev pB (b:Bool) :Ins:=.pure (.bool b)
noncomputable abbrev nI (x:Int) :AV:=.int .i64 x
noncomputable abbrev bV (b:Bool) :AV:=.bool b
noncomputable abbrev jI (l:List Int) :List AV:=List.map bL l
noncomputable abbrev jN (l:List Node) :List AV:=List.map Node.av l
noncomputable abbrev jC (l:List Con) :List AV:=List.map Con.av l
noncomputable abbrev iI (l:List Int) :AV:=.ilst 1 (List.map bL l) false
noncomputable abbrev iS (l:List aB) :AV:=.ilst 1 (List.map aD l) false
noncomputable abbrev iN (l:List Node) :AV:=.ilst 4 (List.map Node.av l) false
noncomputable abbrev iC (l:List Con) :AV:=.ilst 2 (List.map Con.av l) false
noncomputable abbrev iP (l:List Pat) :AV:=.ilst 4 (Pats.av l) false
end
section
/-- an obligation: proved outright, or a premise with what follows from it -/
inductive Hy where
  |q {p:Prop} (h:p)
  |a (p:Prop) {p':Prop} (f:p→p')
def Hy.ob :Hy→Prop
  | @Hy.q p _=>p
  | @Hy.a _ p' _=>p'
/-- all ways from a state -/
inductive Tr :Type 1 where
  |b (n j:Nat) (c:Bool) (t f:Tr)
  |i (is:List Ins) (L:List Hy) (a:Tr)
  |y {α:Type} (f:α→Tr)
  |o (a b:Tr)
  |W (n n1:Nat) (ks:List Nat) (t:TS)
  |E (n n1:Nat) (ks:List Nat) (v:AV) (hp:List (Nat×AObj×Bool)) (nb:Nat)
  |P (n n1:Nat) (ks:List Nat) (ch:List (AV×Bool)) (hp:List (Nat×AObj×Bool)) (nb:Nat)
  |x
structure Br (c:Bool) (A B:Prop) :Prop where
  t:c=true→A
  f:c=false→B
def aR6 :List Hy→Prop→Prop
  | [],Q=>Q
  | @Hy.q _ _::L,Q=>aR6 L Q
  | @Hy.a p _ _::L,Q=>p→aR6 L Q
variable (P :Program)
def aBt (m:Nat)(s0:AS) :Tr→Prop
  | .b _ _ c t f=>Br c (aBt m s0 t) (aBt m s0 f)
  | .i _ L a=>aR6 L (aBt m s0 a)
  | .y f=>∀y,aBt m s0 (f y)
  | .o a b=>aBt m s0 a∧aBt m s0 b
  | .W _ _ _ t=>lG t.hp→LeadsM P m s0 t.as
  | .E _ _ _ v hp nb=>lG hp→Ends P m s0 (.ret v) (aF hp nb)
  | .P _ _ _ ch hp nb=>lG hp→Ends P m s0 (.pan ch) (aF hp nb)
  | .x=>True
abbrev eTS (hp:List (Nat×AObj×Bool))(nb:Nat) :TS:= ⟨⟨0,0,[],[],[],.run,.normal,none⟩,[],hp,nb⟩
def oV (m:Nat) :Tr→AS→Prop
  | .b n j c t f,s=>match kG P mI n s with
    | some s=>match s.fr.tm.at j with
      |some (.bool b) =>b=c∧oV m t ⟨{s.fr with tm:=s.fr.tm.put j (.bool true)},s.cs,s.h⟩ ∧oV m f ⟨{s.fr with tm:=s.fr.tm.put j (.bool false)},s.cs,s.h⟩
      |_=>False
    |none=>False
  | .i is L a,s=>match aEx P is s with
    |some (s,ps) =>ps=L.map Hy.ob∧oV m a s
    |none=>False
  | .y f,s=>∀y,oV m (f y) s
  | .o a b,s=>oV m a s∧oV m b s
  | .W n n1 ks t,s=>match kG P mI n s with
    |some s=> (s.h.nb,s.sum (hP m t.nb s.h.nb ks) t) = (n1,t.want (hP m t.nb n1 ks)) ∧fF m t ks=true
    |none=>False
  | .E n n1 ks v hp nb,s=>match kG P mI n s with
    | some s=>match aBd P s with
      |some (u,h1) => (h1.nb,u,zO h1 (hP m nb h1.nb ks) hp) = (n1,ren (hP m nb n1 ks) v,jQ (hP m nb n1 ks) hp) ∧fF m (eTS hp nb) ks=true
      |none=>False
    |none=>False
  | .P n n1 ks ch hp nb,s=>match kG P mI n s with
    | some s=>match aJV P s with
      |some (u,h1) => (h1.nb,u,zO h1 (hP m nb h1.nb ks) hp) = (n1,aO3 (hP m nb n1 ks) ch,jQ (hP m nb n1 ks) hp) ∧fF m (eTS hp nb) ks=true
      |none=>False
    |none=>False
  | .x,_=>True
/-- what it comes to -/
def okP (m:Nat) :Tr→Prop
  | .b _ _ c t f=>c=c∧okP m t∧okP m f
  | .i _ L a=>L.map Hy.ob=L.map Hy.ob∧okP m a
  | .y f=>∀y,okP m (f y)
  | .o a b=>okP m a∧okP m b
  | .W _ n1 ks t=> (n1,t.want (hP m t.nb n1 ks)) = (n1,t.want (hP m t.nb n1 ks)) ∧true=true
  | .E _ n1 ks v hp nb=> (n1,ren (hP m nb n1 ks) v,jQ (hP m nb n1 ks) hp) = (n1,ren (hP m nb n1 ks) v,jQ (hP m nb n1 ks) hp) ∧true=true
  | .P _ n1 ks ch hp nb=> (n1,aO3 (hP m nb n1 ks) ch,jQ (hP m nb n1 ks) hp) = (n1,aO3 (hP m nb n1 ks) ch,jQ (hP m nb n1 ks) hp) ∧true=true
  | .x=>True
variable {P :Program}
theorem qZ (m:Nat) :∀t:Tr,okP m t
  | .b _ _ _ t f=> ⟨rfl,qZ m t,qZ m f⟩
  | .i _ _ a=> ⟨rfl,qZ m a⟩
  | .y f=>fun y=>qZ m (f y)
  | .o a b=> ⟨qZ m a,qZ m b⟩
  | .W .. => ⟨rfl,rfl⟩
  | .E .. => ⟨rfl,rfl⟩
  | .P .. => ⟨rfl,rfl⟩
  | .x=>trivial
theorem aF3 :∀ {L:List Hy} {Q:Prop},((∀p∈L.map Hy.ob,p) →Q) →aR6 L Q
  | [],_,h=>h (by simp)
  | @Hy.q p hp::L,_,h=>aF3 (L:=L) fun g=>h fun q hq=>by
    rcases List.mem_cons.1 hq with e|e
    ·subst e;exact hp
    ·exact g q e
  | @Hy.a p p' f::L,_,h=>fun hp=>aF3 (L:=L) fun g=>h fun q hq=>by
    rcases List.mem_cons.1 hq with e|e
    ·subst e;exact f hp
    ·exact g q e
theorem zY {m n:Nat}{s s':AS}(h:kG P mI n s=some s') :LeadsM P m s s':=by
  rw [qQ]at h;exact(nF bS h).toM
theorem aPd {m:Nat}{s:AS}{t:TS}{ks:List Nat}(h2:s.sum (hP m t.nb s.h.nb ks) t=t.want (hP m t.nb s.h.nb ks))(hok:fF m t ks=true)(hkl:lG t.hp) :LeadsM P m s t.as:=by
  simp only [AS.sum,TS.want,Sum.mk.injEq]at h2;obtain⟨a1,a2,a3,a4⟩ :=h2;intro hm E fr ccs w base f fs r;obtain⟨q1,q2⟩ :=uB (l:=t.hp) (nb:=t.nb) (by simpa [fF]using hok) a4 hkl r;exact⟨_,fr,ccs,w,Steps.refl _ _,aLR a1 f,aEA a2 a3 fs,q1,q2⟩
theorem iJ {m:Nat}{s0:AS}:∀ (tr:Tr) {s:AS},oV P m tr s→LeadsM P m s0 s→aBt P m s0 tr
  | .x,_,_,_=>trivial
  | .b n j c t f,s,h,hl=>by
    simp only [oV]at h;split at h
    · rename_i s1 h1;split at h
      · rename_i b hj;obtain⟨rfl,h2,h3⟩ :=h;have l1:=hl.trans (zY h1);refine⟨fun e=>iJ t h2 (l1.trans ?_),fun e=>iJ f h3 (l1.trans ?_)⟩
        ·exact xstep_sound (i:=.b j true) (ps:=[b=true]) (by simp only [xstep,hj]) (fun p hp=>by simp only [List.mem_singleton]at hp;subst hp;exact e)
        ·exact xstep_sound (i:=.b j false) (ps:=[b=false]) (by simp only [xstep,hj]) (fun p hp=>by simp only [List.mem_singleton]at hp;subst hp;exact e)
      ·exact h.elim
    ·exact h.elim
  | .i is L a,s,h,hl=>by
    simp only [oV]at h;split at h
    · rename_i s1 ps h1;obtain⟨rfl,h2⟩ :=h;exact aF3 fun g=>iJ a h2 (hl.trans (nG h1 g))
    ·exact h.elim
  | .y f,s,h,hl=>fun y=>iJ (f y) (h y) hl
  | .o a b,s,h,hl=> ⟨iJ a h.1 hl,iJ b h.2 hl⟩
  | .W n n1 ks t,s,h,hl=>fun hkl=>by
    simp only [oV]at h;split at h
    · rename_i s1 h1;obtain⟨h2,h3⟩ :=h;obtain⟨e,h2⟩ :=Prod.mk.inj h2;subst e;exact(hl.trans (zY h1)).trans (aPd h2 h3 hkl)
    ·exact h.elim
  | .E n n1 ks v hp nb,s,h,hl=>fun hkl=>by
    simp only [oV]at h;split at h
    · rename_i s1 h1;split at h
      · rename_i u hh hf;obtain⟨h2,hok⟩ :=h;obtain⟨e,h2⟩ :=Prod.mk.inj h2;obtain⟨h3,h4⟩ :=Prod.mk.inj h2;subst e;subst h3;refine(hl.trans (zY h1)).ends ?_;intro hm E fr ccs w f fs r cl base;obtain⟨cl',w',E',g1,⟨cv,rfl,g2⟩,g3,g4⟩ :=aCB (m:=m) hf hm E fr ccs w f fs r cl base;obtain⟨q1,q2⟩ :=uB hok h4 hkl g3;exact⟨_,w',_,g1,⟨cv,rfl,(dY _ _ _ _).1 g2⟩,q1,g4.trans q2⟩
      ·exact h.elim
    ·exact h.elim
  | .P n n1 ks ch hp nb,s,h,hl=>fun hkl=>by
    simp only [oV]at h;split at h
    · rename_i s1 h1;split at h
      · rename_i u hh hf;obtain⟨h2,hok⟩ :=h;obtain⟨e,h2⟩ :=Prod.mk.inj h2;obtain⟨h3,h4⟩ :=Prod.mk.inj h2;subst e;subst h3;refine(hl.trans (zY h1)).ends ?_;intro hm E fr ccs w f fs r cl base;obtain⟨cl',w',E',g1,⟨ps',rfl,g2⟩,g3,g4⟩ :=aHt (m:=m) hf hm E fr ccs w f fs r cl base;obtain⟨q1,q2⟩ :=uB hok h4 hkl g3;exact⟨_,w',_,g1,⟨ps',rfl,aJU g2⟩,q1,g4.trans q2⟩
      ·exact h.elim
    ·exact h.elim
theorem tT (m:Nat)(s:TS)(tr:Tr)(h0:oV PP m tr s.as=okP m tr:=by kernel_rfl) :aBt PP m s.as tr:=
  iJ tr (h0 ▸ qZ m tr) (LeadsM.refl _)
theorem tv :True:=trivial
def aPe :Nat→Nat→List Nat→List Nat
  |0,_,l=>l
  |k+1,n,l=>bif beq n 1 then l else aPe k (n / 2) (n % 2::l)
/-- a place in code by one number -/
abbrev kd (F:Func)(n:Nat) :Code:=cd F (aPe 60 n [])
abbrev kc (F:Func)(n:Nat) :AItem:=.code (kd F n)
abbrev kl (F:Func)(n:Nat) :AItem:=.inLoop (kd F n)
abbrev ko (F:Func)(n k:Nat) :AItem:=aXc F (aPe 60 n []) k
abbrev kp (j b:Nat) :Nat×AV:= (j,.ptr b 0)
abbrev tf (fn nt:Nat)(sl:List (Nat×AV))(todo:List AItem)(defers:List ADef:=[])(mode:AMode:=.run)(kind:CallKind:=.normal)(roundOf:Option Nat:=none) :TF:= ⟨fn,nt,sl,todo,defers,mode,kind,roundOf⟩
abbrev oC (k:Nat)(L:List AV) :Nat×AObj×Bool:= (k,.cells (putCells .leaf 0 L) L.length [] false,false)
abbrev oL (k e:Nat)(L:List AV) :Nat×AObj×Bool:= (k,.lst e L,true)
section
variable {α :Type} {f:α→AV} {F:List α→List AV}
abbrev hA (p:Prop) :Hy:=.a p id
abbrev hW (x:Int) :Hy:=.a (IntKind.i64.wrap x=x) (congrArg (int .i64))
abbrev hr {β:Type}(x:β) :Hy:=.q (Eq.refl x)
abbrev hl (f:α→AV)(l:List α) :Hy:=.q (aLS f l)
abbrev hm (M:∀l,F l=List.map f l)(l:List α) :Hy:=.q (aWo M l)
abbrev hb (f:α→AV)(l:List α) :Hy:=.q (aO7 f l)
abbrev hB (M:∀l,F l=List.map f l)(l:List α) :Hy:=.q (aR3 M l)
abbrev hc (f:α→AV)(l m:List α) :Hy:=.q (aO8 f l m)
abbrev hC (M:∀l,F l=List.map f l)(l m:List α) :Hy:=.q (aR4 M l m)
abbrev he (f:α→AV)(l m:List α) :Hy:=.q (aO9 f l m)
abbrev hE (M:∀l,F l=List.map f l)(l m:List α) :Hy:=.q (aR5 M l m)
abbrev hk (f:α→AV)(l:List α)(h:∀a,keyless (f a) =true:=by exact fun _=>rfl) :Hy:=.q (jG f h l)
abbrev hK (K:∀ {l:List α},keylessL (F l) =true)(l:List α) :Hy:=.q (K (l:=l))
abbrev hz (b e:Nat)(f:α→AV)(l:List α)(x:Bool) :Hy:=.q (aMM f l (b:=b) (e:=e) (x:=x))
abbrev rd (n:Nat)(L:List RIns) :List RIns:=replicate n RIns.d++L
abbrev gd (n j:Nat)(p:Prop)[Decidable p](t f:Tr) :Tr:=.b n j (decide p) t f
abbrev gE (n n1:Nat)(v:AV) :Tr:=.E n n1 [] v [] 0
abbrev gQ (n n1:Nat)(ch:List (AV×Bool)) :Tr:=.P n n1 [] ch [] 0
abbrev gw (n j:Nat)(x:Int)(a:Tr) :Tr:=.i [.run n,.set j (.int .i64 x)] [hW x] a
abbrev gs (n j:Nat)(v:AV)(a:Tr) :Tr:=.i [.run n,.set j v] [hr v] a
abbrev gv (n k o:Nat)(v:AV)(a:Tr) :Tr:=.i [.run n,.cset k o v] [hr v] a
abbrev gu (n b:Nat)(x:List AV)(a:Tr) :Tr:=.i [.run n,.lset b x] [hr x] a
abbrev gl (n:Nat)(f:α→AV)(l:List α)(a:Tr) :Tr:=.i [.run n,.ans (.len (l.length:Int))] [hl f l] a
abbrev gm (n:Nat)(M:∀l,F l=List.map f l)(l:List α)(a:Tr) :Tr:=.i [.run n,.ans (.len (l.length:Int))] [hm M l] a
abbrev gi (f:α→AV)(n:Nat)(l:List α)(i:Int)(y:α)(a:Tr) :Tr:=.i [.run n,.ans (.idx (f y))] [hA (0≤i),.a (l[i.toNat]?=some y) (cV (f:=f))] a
abbrev giF (M:∀l,F l=List.map f l)(n:Nat)(l:List α)(i:Int)(y:α)(a:Tr) :Tr:=.i [.run n,.ans (.idx (f y))] [hA (0≤i),.a (l[i.toNat]?=some y) (zW M)] a
abbrev gj (f:α→AV)(n:Nat)(l:List α)(i:Nat)(y:α)(a:Tr) :Tr:=.i [.run n,.ans (.idx (f y))] [.a (l[i]?=some y) (jJ (f:=f))] a
abbrev gX (f:α→AV)(n:Nat)(l:List α)(i:Int)(a:α→Tr) :Tr:=.y fun y=>gi f n l i y (a y)
abbrev gp (n f:Nat)(xs:List AV)(v:AV)(a:Tr) :Tr:=.i [.run n,.pure v] [hA (Pure PP f xs v)] a
abbrev gpI (n f:Nat)(xs:List AV)(a:Int→Tr) :Tr:=.y fun y=>gp n f xs (.int .i64 y) (a y)
abbrev eS (n f:Nat)(xs:List AV)(a:Bool→Tr) :Tr:=.y fun y=>gp n f xs (.bool y) (a y)
abbrev gpS (n f:Nat)(xs:List AV)(a:aB→Tr) :Tr:=.y fun y=>gp n f xs (aD y) (a y)
abbrev gk (n:Nat)(c:AIn)(H:List (Nat×AObj×Bool))(k:Nat)(v:AV)(H':List (Nat×AObj×Bool))(k':Nat)(a:Tr) :Tr:=.i [.run n,.call v (aF H' k')] [hA (Spec PP c (aF H k) (.ret v) (aF H' k'))] a
abbrev gK (n:Nat)(c:AIn)(H:List (Nat×AObj×Bool))(k:Nat)(v:List (AV×Bool))(H':List (Nat×AObj×Bool))(k':Nat)(a:Tr) :Tr:=.i [.run n,.callP v (aF H' k')] [hA (Spec PP c (aF H k) (.pan v) (aF H' k'))] a
abbrev ga (n:Nat)(f:α→AV)(l m:List α)(a:Tr) :Tr:=.i [.run n,.app (List.map f (l++m)) (l++m).length] [hb f l,hA ((l++m).length≤1000000),hc f l m,he f l m] a
abbrev gz (n j b e:Nat)(f:α→AV)(l:List α)(x:Bool)(a:Tr)(h:∀a,keyless (f a) =true:=by exact fun _=>rfl) :Tr:=.i [.run n,.frz j b (List.map f l)] [hk f l h,hz b e f l x] a
abbrev gy (n k o b e:Nat)(f:α→AV)(l:List α)(x:Bool)(a:Tr)(h:∀a,keyless (f a) =true:=by exact fun _=>rfl) :Tr:=.i [.run n,.cfrz k o b (List.map f l)] [hk f l h,hz b e f l x] a
abbrev aJX (n:Nat)(l:List Pat)(i:Int)(a:Int→Int→aB→List Pat→Tr) :Tr:=.y fun p=>.y fun q=>.y fun r=>.y fun s=>giF aN n l i (.mk p q r s) (a p q r s)
end
end
def vH(a:aB)(b:Int):TS:=⟨(tf 166 20 [(0,(aD a)),(2,(bV false)),(3,(nI b))] [kc f166 52,kl f166 52,.inBlock 0,kc f166 7]),[],[],0⟩
def aB0(a:List aB)(b:aB)(c:Int):TS:=⟨(tf 111 18 [(0,(iS a)),(1,(aD b)),(4,(bV false)),(5,(nI c))] [kc f111 52,kl f111 52,.inBlock 0,kc f111 7]),[],[],0⟩
def rA(a:List aB)(b:Int):TS:=⟨(tf 71 18 [(0,(iS a)),(2,(bV false)),(3,(nI b))] [kc f71 52,kl f71 52,.inBlock 0,kc f71 7]),[],[],0⟩
def vI(a b:Int)(c:aB)(d:List Pat)(g e f:Int):TS:=⟨(tf 186 29 [(1,(nI e)),kp 2 0,(4,(nI 0)),(5,(nI f))] [kc f186 244,kl f186 244,.inBlock 0,kc f186 31]),[],[oC 0 [(nI a),(nI b),(aD c),(iP d)]],1⟩
def lL(a b:Int)(c:aB)(d:List Pat)(e:Int):TS:=⟨(tf 199 22 [kp 1 0,(2,(bV false)),(3,(nI e))] [kc f199 52,kl f199 52,.inBlock 0,kc f199 7]),[],[oC 0 [(nI a),(nI b),(aD c),(iP d)]],1⟩
def kK(a:Prog)(b:Int):TS:=⟨(tf 50 74 [kp 1 0,(2,(bV false)),(3,(nI b))] [kc f50 116,kl f50 116,.inBlock 0,kc f50 15]),[],[oC 0 [(iN a.nodes),(iI a.funs),(nI a.main),(iC a.cons)]],1⟩
def kL(a:Prog)(b:Int):TS:=⟨(tf 50 74 [kp 1 0,(2,(bV false)),(4,(nI b))] [kc f50 244,kl f50 244,.inBlock 2,kc f50 31]),[],[oC 0 [(iN a.nodes),(iI a.funs),(nI a.main),(iC a.cons)]],1⟩
def kM(a:Prog)(b c:Int)(d:List Int)(e:List Pat)(f g:Int):TS:=⟨(tf 50 74 [kp 1 0,(2,(bV false)),(4,(nI g)),kp 5 1,(6,(nI f))] [kc f50 62620,kl f50 62620,.inBlock 4,.inBlock 3,kc f50 979,kl f50 244,.inBlock 2,kc f50 31]),[],[oC 0 [(iN a.nodes),(iI a.funs),(nI a.main),(iC a.cons)],oC 1 [(nI b),(nI c),(iI d),(iP e)]],2⟩
def aXd(a b c:Int):=tT 0 (start PP 117 [(nI a),(nI b),(nI c)])<|gd 10 10 (a≥b) (gE 7 0 (bV (decide (a≤c))))<|gE 7 0 (bV false)
def aR7:=fun a b c d=>aXd a b c|>.t d tv
def aR8:=fun a b c d=>aXd a b c|>.f d tv
def aJY (a:aB):=(tT 0 (start PP 166 [(aD a)])<|.W 11 0 [] (vH a 0)) tv
def aR9(b:aB)(a:Int):=tT 0 (vH b a)<|gd 8 7 (a< (b.length:Int)) (.y fun c:UInt8=>.i [rn 8,.ans (.ev (.int .u8 ((c.toNat:Nat) :Int)))] [hA (0≤a),.a (0≤a∧ (b)[a.toNat]?=some c) (p':=a< (b.length:Int)) fun⟨ha,hb⟩=>(aAP (k:=a) ha hb),.a ((b)[a.toNat]?=some c) (p':=int .u8 ((mod (div (aA b) (pow 256 a.toNat)) 256:Nat) :Int) = (.int .u8 ((c.toNat:Nat) :Int))) (fun h=>(aAQ (k:=a) h))]<|gd 2 14 (((c.toNat:Nat) :Int) <97) (gE 12 0 (bV false))<|.i [rn 2,.ans (.ev (.int .u8 ((c.toNat:Nat) :Int)))] [hA (0≤a),.a (0≤a∧ (b)[a.toNat]?=some c) (p':=a< (b.length:Int)) fun⟨ha,hb⟩=>(aAP (k:=a) ha hb),.a ((b)[a.toNat]?=some c) (p':=int .u8 ((mod (div (aA b) (pow 256 a.toNat)) 256:Nat) :Int) = (.int .u8 ((c.toNat:Nat) :Int))) (fun h=>(aAQ (k:=a) h))]<|gd 3 19 (((c.toNat:Nat) :Int) >122) (gE 6 0 (bV false))<|gw 6 9 (a+ (1:Int))<|.W 3 0 [] (vH b (a+ (1:Int))))<|gE 7 0 (bV true)
def aJZ:=fun c d e f a b g=>aR9 c d|>.t f e a ⟨a,b⟩ b|>.t g tv
def aJ0:=fun c d e f a b g i=>aR9 c d|>.t f e a ⟨a,b⟩ b|>.f g a ⟨a,b⟩ b|>.t i tv
def aJ1:=fun c d e f a b g i j=>aR9 c d|>.t f e a ⟨a,b⟩ b|>.f g a ⟨a,b⟩ b|>.f i j tv
def aJ2:=fun a b c=>aR9 a b|>.f c tv
def aPf(a:aB):=tT 0 (start PP 172 [(aD a)])<|gd 10 6 ((a.length:Int) ≥1) (gd 5 11 ((a.length:Int) ≤8) (.y fun b:UInt8=>.i [rn 1,.ans (.ev (.int .u8 ((b.toNat:Nat) :Int)))] [.q (p:=0≤ (0:Int)) (by decide),.a ((a)[0]?=some b) (p':=(0:Int) < (a.length:Int)) (fun h=>(aAP (k:= (0:Int)) (by decide) h)),.a ((a)[0]?=some b) (p':=int .u8 ((mod (div (aA a) (pow 256 (0:Int).toNat)) 256:Nat) :Int) = (.int .u8 ((b.toNat:Nat) :Int))) (fun h=>(aAQ (k:= (0:Int)) h))]<|gd 3 16 (((b.toNat:Nat) :Int) ≥65) (.i [rn 1,.ans (.ev (.int .u8 ((b.toNat:Nat) :Int)))] [.q (p:=0≤ (0:Int)) (by decide),.a ((a)[0]?=some b) (p':=(0:Int) < (a.length:Int)) (fun h=>(aAP (k:= (0:Int)) (by decide) h)),.a ((a)[0]?=some b) (p':=int .u8 ((mod (div (aA a) (pow 256 (0:Int).toNat)) 256:Nat) :Int) = (.int .u8 ((b.toNat:Nat) :Int))) (fun h=>(aAQ (k:= (0:Int)) h))]<|gd 3 21 (((b.toNat:Nat) :Int) ≤90) (.i [rn 1,.ans (.ev (aD (drop 1 a)))] [.a (1≤length a) (p':=vT PP 9 (aD a) (some (nI 1)) none (aD (drop 1 a))) (fun h=>(aBs (k:= (1:Int)) (by kernel_rfl) (by decide) h))]<|eS 0 166 [(aD (drop 1 a))]<|fun c=>gE 4 0 (bV c))<|gE 7 0 (bV false))<|gE 12 0 (bV false))<|gE 17 0 (bV false))<|gE 22 0 (bV false)
def aJ3:=fun b c d e f a g i j k=>aPf b|>.t e|>.t f c a a|>.t g a a|>.t i j d k tv
def aJ4:=fun b c d e a f g=>aPf b|>.t d|>.t e c a a|>.t f a a|>.f g tv
def aJ5:=fun b c d e a f=>aPf b|>.t d|>.t e c a a|>.f f tv
def aJ6:=fun a b c=>aPf a|>.t b|>.f c tv
def aJ7:=fun a b=>aPf a|>.f b tv
def aPg (a:List aB)(b:aB):=(tT 0 (start PP 111 [(iS a),(aD b)])<|.W 11 0 [] (aB0 a b 0)) tv
def aWp(a:List aB)(c:aB)(b:Int):=tT 0 (aB0 a c b)<|gl 5 aD a<|gd 2 9 (b< (a.length:Int)) (gX aD 8 a b<|fun d=>.b 4 17 (bM d.length (aA d) c.length (aA c)) (gE 6 0 (bV true))<|gw 6 11 (b+1)<|.W 3 0 [] (aB0 a c (b+1)))<|gE 7 0 (bV false)
def aPh:=fun a b c d e f g i=>aWp a b c|>.t e d f g|>.t i tv
def aPi:=fun a b c d e f g i j=>aWp a b c|>.t e d f g|>.f i j tv
def aPj:=fun a b c d=>aWp a b c|>.f d tv
def aHD (a:List aB):=(tT 0 (start PP 71 [(iS a)])<|.W 11 0 [] (rA a 0)) tv
def aWq(b:List aB)(a:Int):=tT 0 (rA b a)<|gl 5 aD b<|gd 2 7 (a< (b.length:Int)) (.y fun c:aB=>.y fun d:Bool=>.i [rn 5,.reg [.d,.d,.ans (.ev (iS (take a.toNat b))),.d,.d,.ans (.idx (aD c)),.d,.pure (bV d)]] [.a (0≤a∧a.toNat≤length b) (p':=vT PP 25 (iS b) none (some (nI a)) (iS (take a.toNat b))) fun⟨ha,hb⟩=>(aCR (k:=a) (by kernel_rfl) ha hb),hA (0≤a),.a (((b)[a.toNat]?) =some c) (cV (f:=aD)),hA (Pure PP 111 [(iS (take a.toNat b)),(aD c)] (bV d))]<|.b 0 17 d (gE 6 0 (bV false))<|gw 6 9 (a+1)<|.W 3 0 [] (rA b (a+1)))<|gE 7 0 (bV true)
def aHE:=fun b c d e f a g i j k=>aWq b c|>.t f d e ⟨a,g⟩ a i j|>.t k tv
def aHF:=fun b c d e f a g i j k l=>aWq b c|>.t f d e ⟨a,g⟩ a i j|>.f k l tv
def aHG:=fun a b c=>aWq a b|>.f c tv
def aXe(b c:Int)(d:aB)(e:List Pat)(a:Int):=tT 0 (start PP 186 [(.agg [(nI b),(nI c),(aD d),(iP e)]),(nI a)])<|gd 11 7 (a<1) (gE 6 1 (nI (-1)))<|gw 6 9 (a-1)<|.W 9 1 [0] (vI b c d e a (a-1) 0)
def aJ8:=fun a b c d e f=>aXe a b c d e|>.t f tv
def aJ9:=fun a b c d e f g=>aXe a b c d e|>.f f g tv
def aWr(d e:Int)(f:aB)(a:List Pat)(g b c:Int):=tT 0 (vI d e f a g b c)<|gm 6 aN a<|gd 2 15 (c< (a.length:Int)) (gd 4 18 (b≥0) (aJX 8 a c<|fun i j k l=>gpI 2 186 [(.agg [(nI i),(nI j),(aD k),(iP l)]),(nI b)]<|fun m=>gw 6 20 (c+1)<|.W 3 1 [0] (vI d e f a g m (c+1)))<|gE 8 1 (nI b))<|gE 12 1 (nI b)
def aKa:=fun a b c d e f g i j k l m n o p q r s=>aWr a b c d e f g|>.t n|>.t o i j k l p q m r s tv
def aKb:=fun a b c d e f g i j=>aWr a b c d e f g|>.t i|>.f j tv
def aKc:=fun a b c d e f g i=>aWr a b c d e f g|>.f i tv
def aD3 (a b:Int)(c:aB)(d:List Pat):=(tT 0 (start PP 199 [(.agg [(nI a),(nI b),(aD c),(iP d)])])<|.W 12 1 [0] (lL a b c d 0)) tv
def aWs(d e:Int)(c:aB)(a:List Pat)(b:Int):=tT 0 (lL d e c a b)<|gm 6 aN a<|gd 2 8 (b< (a.length:Int)) (aJX 9 a b<|fun f g i j=>eS 1 199 [(.agg [(nI f),(nI g),(aD i),(iP j)])]<|fun k=>.b 2 17 (!k) (gE 6 1 (bV false))<|gw 6 10 (b+1)<|.W 3 1 [0] (lL d e c a (b+1)))<|gE 11 1 (bV (decide ((c.length:Int) ≤30)))
def aD4:=fun a b c d e f g i j k l m n o p=>aWs a b c d e|>.t l f g i j m n k o|>.t p tv
def aD5:=fun a b c d e f g i j k l m n o p q=>aWs a b c d e|>.t l f g i j m n k o|>.f p q tv
def aD6:=fun a b c d e f=>aWs a b c d e|>.f f tv
def aXf(a b:Int)(c:aB)(d:List Pat):=tT 0 (start PP 136 [(.agg [(nI a),(nI b),(aD c),(iP d)])])<|gpI 8 186 [(.agg [(nI a),(nI b),(aD c),(iP d)]),(nI 16)]<|fun e=>gd 2 6 (e≥0) (eS 1 199 [(.agg [(nI a),(nI b),(aD c),(iP d)])]<|fun f=>gE 4 1 (bV f))<|gE 6 1 (bV false)
def aHH:=fun a b c d e f g i j=>aXf a b c d e g|>.t i f j tv
def aHI:=fun a b c d e f g=>aXf a b c d e f|>.f g tv
def aSa(a:Prog):=tT 0 (start PP 50 [(Prog.av a)])<|gl 10 Node.av a.nodes<|gd 2 11 ((a.nodes.length:Int) >320) (gE 18 1 (bV false))<|gl 2 bL a.funs<|gd 3 17 ((a.funs.length:Int) >320) (gE 12 1 (bV false))<|gl 2 Con.av a.cons<|gd 3 22 ((a.cons.length:Int) >25) (gE 6 1 (bV false))<|.W 9 1 [0] (kK a 0)
def aCU:=fun a b=>aSa a|>.t b tv
def aCV:=fun a b c=>aSa a|>.f b|>.t c tv
def aCW:=fun a b c d=>aSa a|>.f b|>.f c|>.t d tv
def aCX:=fun a b c d=>aSa a|>.f b|>.f c|>.f d tv
def aPk(a:Prog)(b:Int):=tT 0 (kK a b)<|gl 6 Con.av a.cons<|gd 2 27 (b< (a.cons.length:Int)) (gX Con.av 9 a.cons b<|fun c=>gd 5 37 ((c.name.length:Int) >40) (gE 6 1 (bV false))<|gw 6 29 (b+1)<|.W 3 1 [0] (kK a (b+1)))<|.W 9 1 [0] (kL a 0)
def aCY:=fun a b c d e f g=>aPk a b|>.t d c e f|>.t g tv
def aCZ:=fun a b c d e f g i=>aPk a b|>.t d c e f|>.f g i tv
def aC0:=fun a b c=>aPk a b|>.f c tv
def aLU(b:Prog)(c:Int):=tT 0 (kL b c)<|gl 6 Node.av b.nodes<|gd 2 42 (c< (b.nodes.length:Int)) (gX Node.av 9 b.nodes c<|fun a=>gl 9 bL a.kids<|gd 2 54 ((a.kids.length:Int) >10) (gE 12 2 (bV false))<|gm 2 aN a.pats<|gd 3 59 ((a.pats.length:Int) >10) (gE 6 2 (bV false))<|.W 8 2 [0,1] (kM b a.op a.n a.kids a.pats 0 c))<|gE 7 1 (bV true)
def aC1:=fun a b c d e f g=>aLU a b|>.t d c e f|>.t g tv
def aC2:=fun a b c d e f g i=>aLU a b|>.t d c e f|>.f g|>.t i tv
def aC3:=fun a b c d e f g i=>aLU a b|>.t d c e f|>.f g|>.f i tv
def aC4:=fun a b c=>aLU a b|>.f c tv
def aPl(d:Prog)(e f:Int)(g:List Int)(a:List Pat)(b c:Int):=tT 0 (kM d e f g a b c)<|gm 6 aN a<|gd 2 64 (b< (a.length:Int)) (aJX 9 a b<|fun i j k l=>eS 1 136 [(.agg [(nI i),(nI j),(aD k),(iP l)])]<|fun m=>.b 2 73 (!m) (gE 6 2 (bV false))<|gw 6 66 (b+1)<|.W 3 2 [0,1] (kM d e f g a (b+1) c))<|gw 6 44 (c+1)<|.W 3 2 [0] (kL d (c+1))
def aC5:=fun a b c d e f g i j k l m n o p q r=>aPl a b c d e f g|>.t n i j k l o p m q|>.t r tv
def aC6:=fun a b c d e f g i j k l m n o p q r s=>aPl a b c d e f g|>.t n i j k l o p m q|>.f r s tv
def aC7:=fun a b c d e f g i j=>aPl a b c d e f g|>.f i j tv
theorem wrap64 {e:Int}(h1: -9223372036854775808≤e)(h2:e<9223372036854775808) :IntKind.i64.wrap e=e:=by
 have a: (2:Int) ^ IntKind.i64.bits=18446744073709551616:=by decide
 have b: (2:Int) ^ (IntKind.i64.bits-1) =9223372036854775808:=by decide
 simp only [IntKind.wrap,a,b,IntKind.signed,Bool.true_and,decide_eq_true_eq];split<;>omega
noncomputable def iE (P:Program)(f:Nat) :Bool:=match P.funcs[f]? with
 | some fn=>match fn.body with
  |some _=>true
  |none=>false
 |none=>false
theorem aV {P:Program}{f:Nat}{args:List AV}{v:AV}(hb:iE P f=true)(hk:keylessL args=true)(hv:keyless v=true)(he:Ends P 0 (start P f args).as (.ret v) (aF [] 0)) :Pure P f args v:=by
 unfold iE at hb;split at hb
 · rename_i fn hf;split at hb
   ·rename_i c hc;exact pure_of hf hc hk hv he
   ·cases hb
 ·cases hb
theorem bB {α:Type}{l t:List α}{i:Nat}{y:α}(h:l.drop i=y::t) :l[i]?=some y∧l.drop (i+1) =t∧i<l.length:=by
 have h1:l[i]?=some y:=by rw [←List.head?_drop,h];rfl
 refine⟨h1,?_,(List.getElem?_eq_some_iff.1 h1).1⟩;rw [←List.tail_drop,h];rfl
theorem bE {α:Type}{l:List α}{i:Nat}(h:l.drop i= []) :l.length≤i:=List.drop_eq_nil_iff.1 h
theorem sd {p:Prop}(h:p:=by first|assumption|rfl| (simp only [Int.toNat_natCast];assumption) | (simp only [decide_eq_true_eq,decide_eq_false_iff_not];omega) |omega| (apply wrap64<;>omega) | (simp_all;done)) :p:=h
def cS (n lo hi:Int) :Bool:=decide (lo≤n) &&decide (n≤hi)
theorem aR (n lo hi:Int) :Pure PP 117 [.int .i64 n,.int .i64 lo,.int .i64 hi] (.bool (cS n lo hi)) :=by
 refine aV (by kernel_rfl) rfl rfl ?_;by_cases h:n≥lo
 · have e:cS n lo hi=decide (n≤hi) :=by unfold cS;rw [decide_eq_true (show lo≤n from h),Bool.true_and]
   rw [e];exact aR7 n lo hi (decide_eq_true h)
 · have e:cS n lo hi=false:=by unfold cS;rw [decide_eq_false (show ¬lo≤n from h),Bool.false_and]
   rw [e];exact aR8 n lo hi (decide_eq_false h)
def rB (c:UInt8) :Bool:=decide (97≤c.toNat) &&decide (c.toNat≤122)
def fH (s:aB) :Bool:=s.all rB
theorem aBu (s:aB)(hs:s.length<1000000) :∀ (t:aB) (i:Nat),s.drop i=t→Ends PP 0 (vH s (i:Int)).as (.ret (.bool (fH t))) (aF [] 0)
 | [],i,h=>by
  have:=bE h;exact aJ2 s i sd
 | c :: t,i,h=>by
  obtain⟨h1,h2,h3⟩ :=bB h;have hi: (decide ((i:Int) < ((length s:Nat) :Int))) =true:=sd;have h1':s[(i:Int).toNat]?=some c:=sd;by_cases g1:c.toNat<97
  · have e:fH (c::t) =false:=by simp [fH,rB];omega
    rw [e];exact aJZ s i c hi sd h1' sd
  · by_cases g2:122<c.toNat
    · have e:fH (c::t) =false:=by simp [fH,rB];omega
      rw [e];exact aJ0 s i c hi sd h1' sd sd
    · have e:fH (c::t) =fH t:=by
       have:rB c=true:=by simp [rB];omega
       simp [fH,this]
      rw [e];refine(aJ1 s i c hi sd h1' sd sd sd).ends ?_;exact aBu s hs t (i+1) h2
theorem aBv (s:aB)(hs:s.length<1000000) :Pure PP 166 [aD s] (.bool (fH s)) :=
 aV (by kernel_rfl) rfl rfl ((aJY s).ends (aBu s hs s 0 rfl))
def gA (s:aB) :Bool:=match s with
 | [] =>false
 |c::t=>decide (s.length≤8) &&decide (65≤c.toNat) &&decide (c.toNat≤90) &&fH t
theorem aHJ (s:aB) :Pure PP 172 [aD s] (.bool (gA s)) :=by
 refine aV (by kernel_rfl) rfl rfl ?_
 match s with
 | [] =>exact aJ7 [] sd
 | c :: t=>
  have h0: (decide (((length (c::t) :Nat) :Int) ≥ (1:Int))) =true:=by simp only [length_cons];exact sd
  by_cases g0: (c::t).length≤8
  · have g0': (decide (((length (c::t) :Nat) :Int) ≤ (8:Int))) =true:=sd;by_cases g1:65≤c.toNat
    · by_cases g2:c.toNat≤90
      · have e:gA (c::t) =fH t:=by simp only [gA,decide_eq_true g0,decide_eq_true g1,decide_eq_true g2,Bool.true_and]
        rw [e];exact aJ3 (c::t) c _ h0 g0' rfl sd sd (by simp) (aBv t (by simp at g0;omega))
      · have e:gA (c::t) =false:=by simp only [gA,decide_eq_false g2,Bool.and_false,Bool.false_and]
        rw [e];exact aJ4 (c::t) c h0 g0' rfl sd sd
    · have e:gA (c::t) =false:=by simp only [gA,decide_eq_false g1,Bool.and_false,Bool.false_and]
      rw [e];exact aJ5 (c::t) c h0 g0' rfl sd
  · have e:gA (c::t) =false:=by simp only [gA,decide_eq_false g0,Bool.false_and]
    rw [e];exact aJ6 (c::t) h0 sd
def aQ (l:List aB)(s:aB) :Bool:=l.any fun x=>decide (x=s)
theorem aEF (l:List aB)(s:aB)(hl:l.length<1000000) :∀ (t:List aB) (i:Nat),l.drop i=t→Ends PP 0 (aB0 l s (i:Int)).as (.ret (.bool (aQ t s))) (aF [] 0)
 | [],i,h=>by
  have:=bE h;exact aPj l s i sd
 | x ::t,i,h=>by
  obtain⟨h1,h2,h3⟩ :=bB h;by_cases g:x=s
  · have e:aQ (x::t) s=true:=by simp [aQ,g]
    rw [e];exact aPh l s i x sd sd sd (by rw [hU];exact decide_eq_true g)
  · have e:aQ (x::t) s=aQ t s:=by simp [aQ,g]
    rw [e];refine(aPi l s i x sd sd sd (by rw [hU];exact decide_eq_false g) sd).ends ?_;exact aEF l s hl t (i+1) h2
theorem oW (l:List aB)(s:aB)(hl:l.length<1000000) :Pure PP 111 [.ilst 1 (List.map aD l) false,aD s] (.bool (aQ l s)) :=
 aV (by kernel_rfl) rfl rfl ((aPg l s).ends (aEF l s hl l 0 rfl))
def cD :List aB→List aB→Bool
 |_,[] =>true
 |pre,x::t=> !aQ pre x&&cD (pre++ [x]) t
def bU (l:List aB) :Bool:=cD [] l
theorem zZ (l:List aB)(hl:l.length<1000000) :∀ (t:List aB) (i:Nat),l.drop i=t→Ends PP 0 (rA l (i:Int)).as (.ret (.bool (cD (l.take i) t))) (aF [] 0)
 | [],i,h=>by
  have:=bE h;exact aHG l i sd
 | x ::t,i,h=>by
  obtain⟨h1,h2,h3⟩ :=bB h;have hp:Pure PP 111 [.ilst 1 (List.map aD (l.take (i:Int).toNat)) false,aD x] (.bool (aQ (l.take i) x)) :=by
   simp only [Int.toNat_natCast];exact oW _ _ (by simp;omega)
  by_cases g:aQ (l.take i) x=true
  · have e:cD (l.take i) (x::t) =false:=by simp [cD,g]
    rw [e];exact aHE l i x _ sd sd sd sd hp g
  · have g':aQ (l.take i) x=false:=by simpa using g
    have e:cD (l.take i) (x::t) =cD (l.take (i+1)) t:=by
     simp only [cD,g',Bool.not_false,Bool.true_and];rw [List.take_add_one,h1];rfl
    rw [e];refine(aHF l i x _ sd sd sd sd hp g' sd).ends ?_;exact zZ l hl t (i+1) h2
theorem rC (l:List aB)(hl:l.length<1000000) :Pure PP 71 [.ilst 1 (List.map aD l) false] (.bool (bU l)) :=by
 refine aV (by kernel_rfl) rfl rfl ((aHD l).ends ?_);exact zZ l hl l 0 rfl
section
variable {P :Program}
theorem aHK {s s':AS}{b:Bool}{h':Hp}(hl:Leads P s s')(hf:aBd P s'=some (.bool b,h')) :Ends P 0 s (.ret (.bool b)) (aF [] 0) :=by
 have h1:LeadsM P 0 s s':=fun hm E fr ccs w base f fs r=>by
  obtain⟨E',fr',cs',w',s1,f1,fs1,r1,x⟩ :=hl E fr ccs w base f fs r;exact⟨E',fr',cs',w',s1,f1,fs1,r1,x.toM hm⟩
 intro hm E fr ccs w f fs r cl base;obtain⟨cl',w',E',g1,⟨cv,rfl,g2⟩,g3,g4⟩ := (h1.ends (aCB hf)) hm E fr ccs w f fs r cl base;refine⟨_,w',E'.p,g1,⟨cv,rfl,?_⟩,aCJ g3,⟨fun b hb=>absurd hb (Nat.not_lt_zero _),g4.imm,g4.size,g4.keep,fun b' o' L' e=>?_,le_refl _,g4.os,g4.tape,g4.output,g4.froz,g4.immo,fun b o e=>?_⟩⟩
 ·simpa only [VR]using g2
 ·simp [aHu,Hp.look,T.at_leaf]at e
 ·simp [aHu,Hp.look,T.at_leaf]at e
end
section
def embOf (w:World) :Emb:= ⟨fun _=>none,fun k=>match w.heap[k]? with
 |some (.cells C _ _) =>some C
 |_=>none⟩
theorem aMO {w:World}{k:Nat}{C:Array Value}{el:TypeId}{fz:Nat×Nat}(h:w.heap[k]?=some (.cells C el fz)) : (embOf w).imm k=some C:=by
 simp only [embOf,h]
theorem aEG (w:World) :Rel (embOf w) ⟨.leaf,0⟩ w.heap:=by
 refine⟨fun b o e=>?_,fun b b' o o' L L' e=>?_,fun _ _=>rfl,fun k C e=>?_,fun b o L e=>?_,fun b o e=>?_⟩
 ·simp [Hp.look,T.at_leaf]at e
 ·simp [Hp.look,T.at_leaf]at e
 · simp only [embOf]at e;split at e
   ·rename_i C' el fz h;cases e;exact⟨el,fz,h⟩
   ·cases e
 ·simp [Hp.look,T.at_leaf]at e
 ·simp [Hp.look,T.at_leaf]at e
def Elt (w:World)(e:Nat)(a:AV)(cs:List Value) :Prop:=cs.length=e∧∃u:Value,u.cells.toList=cs∧VR (embOf w) a u∧∀c∈cs,c.oneCell'=true
theorem Elt.one {w:World}{a:AV}{u:Value}(h:VR (embOf w) a u)(ha:a.one=true)(hu:u.cells= #[u]) :Elt w 1 a [u] :=
 ⟨rfl,u,by rw [hu],h,fun c hc=>by rw [List.mem_singleton.1 hc];exact h.one ha⟩
variable {H :Type} {enc:TypeId×Value→H} {P:Program} {w:World} {spare:Nat→Bool} {held:Bool}
theorem aSb {a:Addr}{C:Array Value}{el:TypeId}{fz:Nat×Nat}(hC:w.heap[a.block]?=some (.cells C el fz))(hs:a.spot=none)(k:Nat) :w.cell? (a.add k) =C[a.off+k]?:=by
 unfold World.cell? Addr.add;by_cases h:k=0
 ·subst h;simp [hC,hs]
 ·simp [h,hC]
theorem add_add (a:Addr)(i j:Nat) : (a.add i).add j=a.add (i+j) :=by
 unfold Addr.add;by_cases hi:i=0<;>by_cases hj:j=0<;>simp [hi,hj,Nat.add_assoc]
theorem aMP (us:List Value)(u:Value) :flat (us++ [u]) =flat us++u.cells.toList:=by simp [flat]
theorem gB {α:Type}(f:α→AV){t e:TypeId}{n fuel:Nat}(ht:P.underlying t=some (.slice e))(hc:P.cellsOf e=n)(hn:0<n){cs:List Value}{x:DataW H×List MemPlace}
  (h:DataW.trod enc P w 0 spare held fuel t cs=some x) (hel:∀fu,fu<fuel→∀cs x,DataW.trod enc P w 0 spare held fu e cs=some x→∃y,Elt w n (f y) cs) :∃ (ys:List α) (c:Value),cs= [c] ∧VR (embOf w) (.ilst n (ys.map f) false) c:=by
 rcases DataW.trod_slice ht h with⟨rfl,_⟩ | ⟨a,len,cap,elems,rest,m,rfl,rfl,_,_,hlc,_,hlen,hat,_⟩
 · refine⟨[],_,rfl,?_⟩;simp only [VR];exact⟨[],by simp [VRs],⟨fun u hu=> (by cases hu),.inl ⟨rfl,none,0,rfl,fun _=>rfl,fun _=>rfl⟩⟩⟩
 · cases len with
   | zero=>
    refine⟨[],_,rfl,?_⟩;simp only [VR];exact⟨[],by simp [VRs],⟨fun u hu=> (by cases hu),.inl ⟨rfl,some a,cap,rfl,fun e=> (by cases e),fun e=> (by cases e)⟩⟩⟩
   | succ len=>
    rw [hc]at hat
    have each:∀i,i<len+1→∃cs' y,w.cells? 0 (a.add (i*n)) n=some cs'∧Elt w n (f y) cs':=fun i hi=>by
     have h1:=hat i hi;rw [getElem?_eq_getElem (by omega)]at h1;obtain⟨cs',g1,g2⟩ :=Option.bind_eq_some_iff.1 h1;obtain⟨y,g3⟩ :=hel m (Nat.lt_succ_self m) cs' _ g2;exact⟨cs',y,g1,g3⟩
    obtain⟨C,el,fz,hC,hs⟩ :∃C el fz,w.heap[a.block]?=some (.cells C el fz) ∧a.spot=none:=by
     obtain⟨cs',y,g1,g2,_⟩ :=each 0 (by omega);obtain⟨_,_,g3⟩ :=World.cells?_some g1;have g4:=g3 0 hn;have: (a.add (0*n)).add 0=a:=by simp [Addr.add]
     rw [this,getElem?_eq_getElem (by omega)]at g4;unfold World.cell? at g4;split at g4
     · rename_i C el fz hh;split at g4
       ·cases g4
       · rename_i hsp;refine⟨C,el,fz,hh,?_⟩;cases hq:a.spot with
         |none=>rfl
         |some q=>rw [hq]at hsp;simp at hsp
     ·cases g4
    have all:∀k,k≤len+1→∃ (ys:List α) (us:List Value),us.length=k∧VRs (embOf w) (ys.map f) us∧ (∀u∈us,xP n u) ∧∀j,j<k*n→C[a.off+j]?= (flat us)[j]?:=by
     intro k
     induction k with
     |zero=>exact fun _=> ⟨[],[],rfl,by simp [VRs],fun u hu=> (by cases hu),fun j hj=>by omega⟩
     | succ k ih=>
      intro hk;obtain⟨ys,us,q1,q2,q3,q4⟩ :=ih (by omega);obtain⟨cs',y,g1,g2,u,g3,g4,g5⟩ :=each k (by omega);obtain⟨_,g6,g7⟩ :=World.cells?_some g1;have hfl:=flat_length q3;refine⟨ys++ [y],us++ [u],by simp [q1],?_,fun v hv=>?_,fun j hj=>?_⟩
      ·rw [List.map_append];exact q2.append (VRs.cons g4 (VRs.nil _))
      · rcases List.mem_append.1 hv with hv|hv
        ·exact q3 v hv
        · rw [List.mem_singleton.1 hv];refine⟨?_,fun c hc=>g5 c (by rw [←g3];exact hc)⟩;rw [←Array.length_toList,g3,g2]
      · rw [aMP,g3];by_cases hj2:j<k*n
        ·rw [q4 j hj2,List.getElem?_append_left (by rw [hfl,q1];exact hj2)]
        · have hr:j-k*n<n:=by rw [Nat.succ_mul]at hj;omega
          rw [List.getElem?_append_right (by rw [hfl,q1];omega),hfl,q1,←g7 _ hr,add_add,aSb hC hs];congr 2;omega
    obtain⟨ys,us,q1,q2,q3,q4⟩ :=all (len+1) (le_refl _);refine⟨ys,_,rfl,?_⟩;simp only [VR];refine⟨us,q2,q3,.inr ⟨a.block,a.off,cap,C,?_,aMO hC,by omega,fun e=> (by cases e),by rw [q1];exact q4⟩⟩;rw [q1,←hs]
theorem oY {fuel:Nat}{t:TypeId}(ht:P.underlying t=some (.int .i64)){cs:List Value}{x:DataW H×List MemPlace}(h:DataW.trod enc P w 0 spare held fuel t cs=some x) :∃n,cs= [.int .i64 n] :=by
 obtain⟨n,h1,_⟩ :=DataW.trod_int ht h;exact⟨n,h1⟩
theorem uF {fuel:Nat}{t:TypeId}(ht:P.underlying t=some .string){cs:List Value}{x:DataW H×List MemPlace}(h:DataW.trod enc P w 0 spare held fuel t cs=some x) :∃ (s:aB) (c:Value),cs= [c] ∧VR (embOf w) (aD s) c:=by
 obtain⟨s,h1,_⟩ :=DataW.trod_string ht h;refine⟨s.data.toList,_,h1,?_⟩;have:=bZ s.data.toList;simp only [aD,VR,eV,this]
theorem four {α:Type}{cs:List α}(h:cs.length=4) :∃a b c d,cs= [a,b,c,d] :=by
 match cs,h with
 | [a,b,c,d],_=>exact⟨a,b,c,d,rfl⟩
theorem two {α:Type}{cs:List α}(h:cs.length=2) :∃a b,cs= [a,b] :=by
 match cs,h with
 | [a,b],_=>exact⟨a,b,rfl⟩
theorem aAa {l:List AV}{cs:List Value}(h:VRs (embOf w) l cs)(ho:cA l=true) :Elt w l.length (.agg l) cs:=
 ⟨h.length,.agg ⟨cs⟩,rfl,by simp only [VR];exact⟨cs,rfl,h⟩,VRs.ones h ho⟩
theorem aLV {a:AV}{c:Value}(h:VR (embOf w) a c)(ha:a.one=true)(hc:c.cells= #[c]) :Elt w 1 a [c] :=
 ⟨rfl,c,by rw [hc],h,fun x hx=>by rw [List.mem_singleton.1 hx];exact h.one ha⟩
theorem aPm {E:Emb}{a:AV}{c:Value}(h:VR E a c)(ha:a.one=true) :c.cells= #[c] :=by
 have:=h.one ha;cases c<;>simp_all [Value.oneCell',Value.cells]
section
theorem cells3 :PP.cellsOf 3=1:=by kernel_rfl
theorem cells9 :PP.cellsOf 9=1:=by kernel_rfl
theorem cells40 :PP.cellsOf 40=1:=by kernel_rfl
theorem cells29 :PP.cellsOf 29=1:=by kernel_rfl
theorem cells41 :PP.cellsOf 41=1:=by kernel_rfl
theorem aHL :PP.cellsOf 125=2:=by kernel_rfl
theorem aSc :PP.cellsOf 95=1:=by kernel_rfl
theorem aLW :PP.cellsOf 96=1:=by kernel_rfl
theorem aLX :PP.cellsOf 98=4:=by kernel_rfl
theorem aPn :PP.cellsOf 169=1:=by kernel_rfl
theorem aC8 :PP.cellsOf 171=4:=by kernel_rfl
theorem got {α:Type}{xs:List α}{n i:Nat}{r:Option α}(h:r=xs[i]?)(hl:xs.length=n)(hi:i<n) :∃x,r=some x:=by
 rw [getElem?_eq_getElem (by omega)]at h;exact⟨_,h⟩
theorem aMQ {fuel:Nat}{cs:List Value}{x:DataW H×List MemPlace}(h:DataW.trod enc PP w 0 spare held fuel 29 cs=some x) :∃ (l:List Int) (c:Value),cs= [c] ∧VR (embOf w) (.ilst 1 (l.map bL) false) c:=
 gB bL Tryz.underlying29 cells3 (by omega) h (fun fu _ cs x hx=>by
  obtain⟨n,rfl⟩ :=oY Tryz.underlying3 hx;exact⟨n,aLV (by simp only [bL,VR]) rfl rfl⟩)
theorem aPo :∀ (fuel:Nat) (cs:List Value) (x:DataW H×List MemPlace),DataW.trod enc PP w 0 spare held fuel 171 cs=some x→∃p:Pat,Elt w 4 (Pat.av p) cs:=by
 intro fuel
 induction fuel using Nat.strongRecOn with
 | ind fuel ih=>
  intro cs x h;obtain⟨xs,m,rfl,rfl,hl,hlen,hf⟩ :=DataW.trod_struct Tryz.underlying171 h;rw [aC8]at hl;obtain⟨c0,c1,c2,c3,rfl⟩ :=four hl;have h0:DataW.trod enc PP w 0 spare held m 169 (([c0,c1,c2,c3].drop 0).take (PP.cellsOf 169)) =xs[0]?:=hf 0 _ rfl;have h1:DataW.trod enc PP w 0 spare held m 3 (([c0,c1,c2,c3].drop 1).take (PP.cellsOf 3)) =xs[1]?:=hf 1 _ rfl;have h2:DataW.trod enc PP w 0 spare held m 9 (([c0,c1,c2,c3].drop 2).take (PP.cellsOf 9)) =xs[2]?:=hf 2 _ rfl;have h3:DataW.trod enc PP w 0 spare held m 96 (([c0,c1,c2,c3].drop 3).take (PP.cellsOf 96)) =xs[3]?:=hf 3 _ rfl;simp only [aPn,cells3,cells9,aLW,drop,take]at h0 h1 h2 h3;obtain⟨x0,h0⟩ :=got h0 hlen (by decide);obtain⟨x1,h1⟩ :=got h1 hlen (by decide);obtain⟨x2,h2⟩ :=got h2 hlen (by decide);obtain⟨x3,h3⟩ :=got h3 hlen (by decide);obtain⟨f,e0⟩ :=oY Tryz.underlying169 h0;obtain⟨n,e1⟩ :=oY Tryz.underlying3 h1;obtain⟨s,c,e2,v2⟩ :=uF Tryz.underlying9 h2;obtain⟨ps,c',e3,v3⟩ :=gB Pat.av Tryz.underlying96 aC8 (by omega) h3 (fun fu hfu cs x hx=>ih fu (by omega) cs x hx);cases e0;cases e1;cases e2;cases e3;refine⟨.mk f n s ps,?_⟩;simp only [Pat.av,aN];refine aAa (VRs.cons (by simp only [VR]) (VRs.cons (by simp only [VR]) (VRs.cons v2 (VRs.cons v3 (VRs.nil _))))) ?_;rfl
theorem aPp (fuel:Nat)(cs:List Value)(x:DataW H×List MemPlace)(h:DataW.trod enc PP w 0 spare held fuel 125 cs=some x) :∃p:Con,Elt w 2 (Con.av p) cs:=by
 obtain⟨xs,m,rfl,rfl,hl,hlen,hf⟩ :=DataW.trod_struct Tryz.underlying125 h;rw [aHL]at hl;obtain⟨c0,c1,rfl⟩ :=two hl;have h0:DataW.trod enc PP w 0 spare held m 9 (([c0,c1].drop 0).take (PP.cellsOf 9)) =xs[0]?:=hf 0 _ rfl;have h1:DataW.trod enc PP w 0 spare held m 3 (([c0,c1].drop 1).take (PP.cellsOf 3)) =xs[1]?:=hf 1 _ rfl;simp only [cells9,cells3,drop,take]at h0 h1;obtain⟨x0,h0⟩ :=got h0 hlen (by decide);obtain⟨x1,h1⟩ :=got h1 hlen (by decide);obtain⟨s,c,e0,v0⟩ :=uF Tryz.underlying9 h0;obtain⟨n,e1⟩ :=oY Tryz.underlying3 h1;cases e0;cases e1;refine⟨⟨s,n⟩,?_⟩;simp only [Con.av];refine aAa (VRs.cons v0 (VRs.cons (by simp only [VR]) (VRs.nil _))) ?_;rfl
end
end
end
end Go.Hb
