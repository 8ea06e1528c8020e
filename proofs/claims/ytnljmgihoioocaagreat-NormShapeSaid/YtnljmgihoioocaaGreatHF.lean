/- A machine on abstract values, its soundness, ways, plain laws. -/
import Derived.Test.YtnljmgihoioocaaGreatHD
import Derived.Test.YtnljmgihoioocaaGreatHE
import Derived.KernelRfl
import Derived.Test.YtnljmgihoioocaaGreatProg
import Derived.WalkKit
import Derived.OpenShut
import Derived.ChangeArms
set_option linter.defProp false
set_option linter.unusedVariables false
set_option linter.unusedSimpArgs false
set_option linter.unusedSectionVars false
set_option maxRecDepth 100000
namespace Go.Hb
open AV (frzOk int keyless keylessL ren renL)
open List (drop length range range' replicate set take)
open Nat (beq ble ble_eq blt div le_refl lt_or_ge mod pow zero_le)
open Go.Proofs Tryz
noncomputable section
section
variable {P :Program}
def way (P:Program)(m:Nat)(is:List Ins)(s:TS)(t:TS)(ks:List Nat) :Option (Nat×Sum×List Prop) :=
 match qZ P is s.as with
 |some (s1,ps) =>some (s1.h.nb,s1.sum (fA m t.nb s1.h.nb ks) t,ps)
 |none=>none
theorem aSA {m:Nat}{is:List Ins}{s t:TS}{ks:List Nat}{n1:Nat}{ps:List Prop}(a:way P m is s t ks=some (n1,t.want (fA m t.nb n1 ks),ps))(e:cR m t ks=true)(b:fG t.hp)(hp:AllP ps) :LeadsM P m s.as t.as:=by
 unfold way at a;split at a
 · rename_i v qs n;simp only [Option.some.injEq,Prod.mk.injEq]at a;obtain⟨rfl,h,rfl⟩ :=a;refine(gG n (fun p d=>hp.mem p d)).trans ?_;simp only [AS.sum,TS.want,Sum.mk.injEq]at h;obtain⟨u,i,o,q⟩ :=h;intro hm E fr c w g f fs r;obtain⟨j,k⟩ :=kO (l:=t.hp) (nb:=t.nb) (by simpa [cR]using e) q b r;exact⟨_,fr,c,w,Steps.refl _ _,aEb u f,yW i o fs,j,k⟩
 ·cases a
def bED (P:Program)(m:Nat)(is:List Ins)(s:TS)(hp:List (Nat×AObj×Bool))(nb:Nat)(ks:List Nat) :Option (Nat×AV×List (Option AObj) ×List Prop) :=
 match qZ P is s.as with
 | some (s1,ps) =>match wE P s1 with
  |some (v,h1) =>some (h1.nb,v,sQ h1 (fA m nb h1.nb ks) hp,ps)
  |none=>none
 |none=>none
theorem aOo {m:Nat}{is:List Ins}{s:TS}{hp:List (Nat×AObj×Bool)}{nb:Nat}{ks:List Nat}{n1:Nat}{v:AV}{ps:List Prop}(a:bED P m is s hp nb ks=some (n1,ren (fA m nb n1 ks) v,iF (fA m nb n1 ks) hp,ps))
  (e:cR m ⟨⟨0,0,[],[],[],.run,.normal,none⟩,[],hp,nb⟩ ks=true) (c:fG hp) (g:AllP ps) :Ends P m s.as (.ret v) (aA hp nb) :=by
 unfold bED at a;split at a
 · rename_i F qs q;split at a
   · rename_i u G C;simp only [Option.some.injEq,Prod.mk.injEq]at a;obtain⟨rfl,x,l,rfl⟩ :=a;subst x;refine(gG q (fun p d=>g.mem p d)).ends ?_;intro hm E fr h w f fs r i b;obtain⟨j,n,D,k,⟨B,rfl,A⟩,t,o⟩ :=mY (m:=m) C hm E fr h w f fs r i b;obtain⟨y,z⟩ :=kO e l c t;exact⟨_,n,_,k,⟨B,rfl,(eT _ _ _ _).1 A⟩,y,o.trans z⟩
   ·cases a
 ·cases a
def aOp (P:Program)(s:AS) :Option (List (AV×Bool) ×Hp) :=
 match s.fr.mode,s.fr.defers,s.cs,P.funcs[s.fr.fn]? with
 | .pan ch,[],[],some _=>some (ch,s.h)
 |_,_,_,_=>none
theorem aLv {m:Nat}{s:AS}{j:List (AV×Bool)}{h':Hp}(c:aOp P s=some (j,h')) :Ends P m s (.pan j) h':=fun hm E fr n w f fs r q i=>by
 unfold aOp at c;split at c
 · rename_i o p d l h g;cases c;have a:=f.mode;rw [d]at a;simp only [MR]at a;obtain⟨k,a,e⟩ :=a;have b:=f.defers;rw [l]at b;rw [h]at fs;rw [fs.nil_inv];exact⟨_,w,E,.one (wT a b.nil_inv (by rw [f.fn];exact g)),⟨k,rfl,e⟩,r,ExtM.refl hm⟩
 ·cases c
def aVt (τ:Nat→Nat)(ch:List (AV×Bool)) :List (AV×Bool) :=ch.map fun p=> (ren τ p.1,p.2)
def start (P:Program)(f:Nat)(args:List AV) :TS:=
 match P.funcs[f]? with
 | some fn=>match fn.body with
  |some c=> ⟨⟨f,max fn.ntmps args.length,(range args.length).zip args,[.code c],[],.run,.normal,none⟩,[],[],0⟩
  |none=> ⟨⟨f,0,[],[],[],.run,.normal,none⟩,[],[],0⟩
 |none=> ⟨⟨f,0,[],[],[],.run,.normal,none⟩,[],[],0⟩
theorem aFq {E:Emb}{h:Hp}{w:World}(r:Rel E h w.heap) :Rel E.p ⟨.leaf,0⟩ w.heap:=
 ⟨fun b o e=>by simp [Hp.look,T.at_leaf]at e,fun b c o d L a e=>by simp [Hp.look,T.at_leaf]at e,fun _ _=>rfl,r.imm,fun b o L e=>by simp [Hp.look,T.at_leaf]at e,fun b o e=>by simp [Hp.look,T.at_leaf]at e⟩
theorem aBG :aA [] 0= ⟨.leaf,0⟩ :=rfl
theorem aFr {a:List AV}{k:Nat}{v:AV}(h: (k,v) ∈ (range a.length).zip a) :a[k]?=some v:=by
 obtain⟨i,b⟩ :=zq38.1 h;rw [List.getElem?_zip_eq_some]at b;obtain⟨c,d⟩ :=b;obtain⟨e,he⟩ :=zq0.1 c;rw [List.getElem_range]at he;subst he;exact d
theorem aOq {E E':Emb}{h:Hp}{w w':World}(r:Rel E h w.heap)(m:Rel E' ⟨.leaf,0⟩ w'.heap)(x:ExtM 0 E.p ⟨.leaf,0⟩ w E' ⟨.leaf,0⟩ w') :
  Rel ⟨E.loc,E'.imm⟩ h w'.heap∧ExtM h.nb E h w ⟨E.loc,E'.imm⟩ h w':=by
 have d:∀ {b o},¬ (⟨.leaf,0⟩ :Hp).look b=some o:=fun {b o} e=>by simp [Hp.look,T.at_leaf]at e
 have keep:∀i,i<w.heap.size→w'.heap[i]?=w.heap[i]?:=fun i a=>x.keep i a (fun b o L e=>absurd e d);have f:E.le ⟨E.loc,E'.imm⟩ := ⟨fun _ _ e=>e,x.imm⟩
 have c:∀k C,E'.imm k=some C→k<w.heap.size→E.imm k=some C:=fun k C e hk=>by
  rcases x.immo k C e hk with g| ⟨b,o,L,g,_⟩
  ·exact g
  ·exact absurd g d
 refine⟨⟨fun b o e=>?_,r.kin,r.fresh,m.imm,fun b o L e k i a=>?_,r.keys⟩,⟨fun _ _=>rfl,x.imm,x.size,fun i a _=>keep i a,fun b o L e k i a _=> ⟨b,o,L,e,k,a⟩,le_refl _,x.os,x.tape,x.output,x.froz,fun k C e hk=>.inl (c k C e hk),fun b o e _=> ⟨o,e⟩⟩⟩
 · rcases r.obj0 b o e with u| ⟨L,l,j⟩
   ·exact .inl u
   ·exact .inr ⟨L,l,(j.mono f).heap fun i a=>keep _ (j.lt i a)⟩
 · show E'.imm i=none;cases hc:E'.imm i with
   |none=>rfl
   | some C=>
    have:=c _ C hc (r.lt e k i a);rw [r.apart b o L e k i a]at this;cases this
theorem pure_of {f : Nat} {args : List AV} {v : AV} {fn:Func}{c:Code}(n:P.funcs[f]?=some fn)(hc:fn.body=some c)(hk:keylessL args=true)(C:keyless v=true)(he:Ends P 0 (start P f args).as (.ret v) (aA [] 0)) :aM P f args v:=fun h=>by
 have z:dW P h (.enter f args) =some ⟨f,dV .leaf 0 args,max fn.ntmps args.length,[.code c],[],.run,.normal,none⟩ :=by simp [dW,dG,n,hc]
 refine⟨_,z,fun hm E fr p w fr' fs r x b=>?_⟩;simp only at fs;rw [fs.nil_inv];have s:FR E.p (start P f args).as.fr fr:=by
  have D: (start P f args).as.fr= ⟨f,dN ((range args.length).zip args),max fn.ntmps args.length,[.code c],[],.run,.normal,none⟩ :=by simp [start,n,hc,TS.as,TF.fr]
  rw [D];refine⟨fr'.fn,⟨fr'.tm.1,fun t a e=>?_⟩,?_,?_,fr'.mode,fr'.kind,?_⟩
  · have j:=aFr (aAL e);have k:= (zq0.1 j).1;have u: (dV .leaf 0 args).at t=some a:=by
     unfold dV;rw [bF,if_pos k];exact j
    obtain⟨d,i,l⟩ :=fr'.tm.2 t a u;exact⟨d,i,eS (keylessL_mem.1 hk a (kS j)) l⟩
  · have:=fr'.todo;simpa [IRs,IR]using this
  · have:=fr'.defers;simpa [DRs]using this
  · have:=fr'.round;simpa [RR]using this
 have e2 : (start P f args).as.cs = [] := by unfold start;split; · split<;>rfl
                                             ·rfl
 have e3 : (start P f args).as.h = ⟨.leaf, 0⟩ := by unfold start;split; · split<;>rfl
                                                    ·rfl
 obtain⟨o,y,g,i,⟨d,rfl,l⟩,A,m⟩ :=he (zero_le _) E.p fr [] w s (by rw [e2];rfl) (by rw [e3];exact aFq r) x b;rw [e3]at m;obtain⟨B,q⟩ :=aOq r A m;exact⟨_,y,_,i,⟨d,rfl,VR.of_p (E:= ⟨E.loc,g.imm⟩) (show VR (Emb.p ⟨E.loc,g.imm⟩) v d from eS (E:=g) C l)⟩,B,q⟩
def cA (P:Program)(f:Nat)(args:List AV)(hp:List (Nat×AObj×Bool))(nb:Nat) :TS:={(start P f args)with hp:=hp,nb:=nb}
def aRi (nb:Nat)(h1 h2:Hp) :List (Nat×AObj×Bool) →List (Option AObj)
 | [] =>[]
 |p::r=> (bif blt p.1 nb then h1.look p.1 else h2.look p.1) ::aRi nb h1 h2 r
def qL :List (Nat×AObj×Bool) →List (Option AObj)
 | [] =>[]
 |p::r=>some p.2.1::qL r
theorem aHJ {nb:Nat}{h1 h2:Hp}:∀ {l:List (Nat×AObj×Bool)},aRi nb h1 h2 l=qL l→∀p∈l,(p.1<nb→h1.look p.1=some p.2.1) ∧ (nb≤p.1→h2.look p.1=some p.2.1)
 | q ::r,h,p,hp=>by
  simp only [aRi,qL,List.cons.injEq]at h;rcases zq7.1 hp with rfl|hp
  · rw [cY]at h;refine⟨fun g=>?_,fun g=>?_⟩
    ·have:=h.1;rw [decide_eq_true g]at this;exact this
    ·have:=h.1;rw [decide_eq_false (show ¬p.1<nb by omega)]at this;exact this
  ·exact aHJ h.2 p hp
theorem hX {l:List (Nat×AObj×Bool)}{nb b:Nat}{o:AObj}(e: (aA l nb).look b=some o) :∃f,(b,o,f) ∈l:=by
 have: (b,o) ∈l.map fun p=> (p.1,p.2.1) :=aAL e;obtain⟨⟨pb,po,pf⟩,hp,hpe⟩ :=zq24.1 this;cases hpe;exact⟨pf,hp⟩
theorem aLw {E:Emb}{τ:Nat→Nat}{h:Hp}{f:Nat}{args:List AV}{g:AFrame}{fr:Frame}(hg:dW P h (.enter f args) =some g)(ha:renL τ args=args)(fr':FR E g fr) :FR (E.ren τ) g fr:=by
 simp only [dW,dG]at hg;split at hg
 · split at hg
   · cases hg;refine⟨fr'.fn,⟨fr'.tm.1,fun t a e=>?_⟩,?_,?_,fr'.mode,fr'.kind,?_⟩
     · obtain⟨cv,g1,g2⟩ :=fr'.tm.2 t a e;refine⟨cv,g1,(eT τ E a cv).1 ?_⟩;have ht:t<args.length∧args[t]?=some a:=by
        have e': (dV .leaf 0 args).at t=some a:=e;unfold dV at e';rw [bF]at e';split at e'
        ·rename_i hlt;exact⟨hlt,e'⟩
        ·cases e'
       have all:∀ (l:List AV),renL τ l=l→∀ (i:Nat) (x:AV),l[i]?=some x→ren τ x=x:=by
        intro l
        induction l with
        |nil=>intro _ i x hx;simp at hx
        | cons y l ih=>
         intro hl i x hx;simp only [renL,List.cons.injEq]at hl;cases i with
         |zero=>simp at hx;subst hx;exact hl.1
         |succ i=>exact ih hl.2 i x (by simpa using hx)
       rw [all args ha t a ht.2];exact g2
     ·have:=fr'.todo;simpa [IRs,IR]using this
     ·have:=fr'.defers;simpa [DRs]using this
     ·have:=fr'.round;simpa [RR]using this
   ·cases hg
 ·cases hg
theorem aFs {f:Nat}{args:List AV}{v:AV}{l l' x:List (Nat×AObj×Bool)}{nb n2:Nat}
  (h0:Spec P (.enter f args) (aA l nb) (.ret v) (aA l' nb)) (hargs:renL (fA nb nb n2 []) args=args) (hv:keyless v=true) (hle:ble nb n2=true)
  (hin:cR nb ⟨⟨0,0,[],[],[],.run,.normal,none⟩,[],l,nb⟩ [] =true) (hl:sQ (aA (l++x) n2) (fA nb nb n2 []) l=iF (fA nb nb n2 []) l) (hkl:fG l)
  (hx:fU n2 (l++x) =true) (hx':fU n2 (l'++x) =true) (hout:aRi nb (aA l' nb) (aA (l++x) n2) (l'++x) =qL (l'++x)) :
  Spec P (.enter f args) (aA (l++x) n2) (.ret v) (aA (l'++x) n2) :=by
 obtain⟨g,hg,he⟩ :=h0;refine⟨g,hg,?_⟩;intro _ E fr ccs w fr' fs r cl base;have hle:=Nat.le_of_ble_eq_true hle
 have hkeys:∀ {b o},(aA l nb).look b=some o→b<nb∧∃o1,(aA (l++x) n2).look b=some o1∧∀L i,Own o L i→Own o1 L i:=fun {b o} e=>by
  obtain⟨fl,hm⟩ :=hX e;simp only [cR,cP]at hin;have hb:= (dY hin.2 _ hm).1;have:=pI hl _ hm;simp only [uL hb]at this;exact⟨hb,_,this,fun _ _ h=>uK h⟩
 have low:∀ {b},b<nb→ (E.ren (fA nb nb n2 [])) b=E b:=fun {b} hb=>by show E.loc (fA nb nb n2 [] b) =E.loc b;rw [uL hb]
 have nool:∀ {b o},(aA (l++x) n2).look b=some o→b<n2∧bQ o= [] :=fun {b o} e=>by
  obtain⟨fl,hm⟩ :=hX e;exact dY hx _ hm
 have apart:∀ {b b' o o' L L'},(aA (l++x) n2).look b=some o→ (aA (l++x) n2).look b'=some o'→E b=some L→E b'=some L'→b≠b'→¬Meet o o' L L':=fun {b b' o o' L L'} e e' k k' hne hbl=>by
  have:=r.kin b b' o o' L L' e e' k k' hbl hne;unfold Kin at this;rw [(nool e).2,(nool e').2]at this;rcases this with⟨g,_⟩ | ⟨g,_⟩ <;>simp at g
 obtain⟨rL,_⟩ :=kO (h:=aA (l++x) n2) hin hl hkl r;have frL:=aLw (τ:=fA nb nb n2 []) hg hargs fr';rw [fs.nil_inv];obtain⟨cl',w',EL,s1,⟨cv,rfl,g2⟩,r2,x2⟩ :=he (le_refl _) (E.ren (fA nb nb n2 [])) fr [] w frL rfl rL cl base;have hnb: (aA l nb).nb=nb:=rfl;have hnb': (aA l' nb).nb=nb:=rfl;rw [hnb]at x2;have eL:∀ {b},b<nb→EL b=E b:=fun {b} hb=> (x2.low b hb).trans (low hb);have eLhi:∀ {b},nb≤b→EL b=none:=fun {b} hb=>r2.fresh b hb;have hELE:EL.le ⟨E.loc,EL.imm⟩ :=by
  refine⟨fun b L e=>?_,fun _ _ e=>e⟩;rcases lt_or_ge b nb with hb|hb
  ·rw [eL hb]at e;exact e
  ·rw [eLhi hb]at e;cases e
 have hEE:E.le ⟨E.loc,EL.imm⟩ := ⟨fun _ _ e=>e,fun k C e=>x2.imm k C e⟩
 have hlook:∀ {b o},(aA (l'++x) n2).look b=some o→b<n2∧bQ o= [] ∧ (b<nb→ (aA l' nb).look b=some o) ∧ (nb≤b→ (aA (l++x) n2).look b=some o) :=fun {b o} e=>by
  obtain⟨fl,hm⟩ :=hX e;exact⟨(dY hx' _ hm).1,(dY hx' _ hm).2,aHJ hout _ hm⟩
 have away:∀ {b o L},nb≤b→ (aA (l++x) n2).look b=some o→E b=some L→∀b1 o1 L1,(aA l nb).look b1=some o1→ (E.ren (fA nb nb n2 [])) b1=some L1→∀i,Own o1 L1 i→¬Own o L i:=fun {b o L} hb e k b1 o1 L1 e1 k1 i i1 i2=>by
  obtain⟨hb1,o2,e2,ho⟩ :=hkeys e1;rw [low hb1]at k1;exact apart e2 e k1 k (by omega) ⟨i,ho _ _ i1,i2⟩
 refine⟨_,w',⟨E.loc,EL.imm⟩,s1,⟨cv,rfl,?_⟩,⟨fun b o e=>?_,fun b b' o o' L L' e e' k k' hbl hne=>?_,fun b hb=>r.fresh b hb,r2.imm,fun b o L e k i hi=>?_,fun b o e=> (hlook e).1⟩,
  ⟨fun _ _=>rfl,hEE.2,x2.size,fun i hi hn=>?_,fun b' o' L' e k i hi hlt=>?_,le_refl _,x2.os,x2.tape,x2.output,x2.froz,fun k C e hk=>?_,fun b o e hb=>?_⟩⟩
 ·exact VR.of_p (E:= ⟨E.loc,EL.imm⟩) (show VR (Emb.p ⟨E.loc,EL.imm⟩) v cv from eS (E:=EL) hv g2)
 · obtain⟨hb,_,q1,q2⟩ :=hlook e;rcases lt_or_ge b nb with g|g
   · rcases r2.obj0 b o (q1 g)with⟨u1,u2⟩ | ⟨L,k1,k2⟩
     ·rw [eL g]at u2;exact .inl ⟨u1,u2⟩
     ·rw [eL g]at k1;exact .inr ⟨L,k1,k2.mono hELE⟩
   · rcases r.obj0 b o (q2 g)with u| ⟨L,k1,k2⟩
     ·exact .inl u
     ·exact .inr ⟨L,k1,(k2.mono hEE).heap fun i hi=>x2.keep _ (k2.lt i hi) (fun b1 o1 L1 h1 h2 h3=>away g (q2 g) k1 b1 o1 L1 h1 h2 i h3 hi)⟩
 · obtain⟨hb,ho,q1,q2⟩ :=hlook e;obtain⟨hb',ho',q1',q2'⟩ :=hlook e'
   have mixed:∀ {b b' o o' L L'},b<nb→nb≤b'→ (aA l' nb).look b=some o→ (aA (l++x) n2).look b'=some o'→E b=some L→E b'=some L'→¬Meet o o' L L':=fun {b b' o o' L L'} h1 h2 e e' k k' hbl=>by
    obtain⟨i,i1,i2⟩ :=hbl;obtain⟨b1,o1,L1,a1,a2,a3⟩ :=x2.own b o L e (by rw [eL h1];exact k) i i1 (r.lt e' k' i i2);exact away h2 e' k' b1 o1 L1 a1 a2 i a3 i2
   rcases lt_or_ge b nb with g|g
   · rcases lt_or_ge b' nb with g'|g'
     ·exact r2.kin b b' o o' L L' (q1 g) (q1' g') (by rw [eL g];exact k) (by rw [eL g'];exact k') hbl hne
     ·exact absurd hbl (mixed g g' (q1 g) (q2' g') k k')
   · rcases lt_or_ge b' nb with g'|g'
     ·exact absurd hbl.symm (mixed g' g (q1' g') (q2 g) k' k)
     ·exact r.kin b b' o o' L L' (q2 g) (q2' g') k k' hbl hne
 · obtain⟨hb,_,q1,q2⟩ :=hlook e;show EL.imm i=none;rcases lt_or_ge b nb with g|g
   ·exact r2.apart b o L (q1 g) (by rw [eL g];exact k) i hi
   · cases hc:EL.imm i with
     |none=>rfl
     | some C=>
      rcases x2.immo _ C hc (r.lt (q2 g) k i hi)with a| ⟨b1,o1,L1,a1,a2,a3⟩
      · have:=r.apart b o L (q2 g) k i hi;rw [show(E.ren (fA nb nb n2 [])).imm=E.imm from rfl]at a;rw [this]at a;cases a
      ·exact absurd hi (away g (q2 g) k b1 o1 L1 a1 a2 i a3)
 · refine x2.keep i hi (fun b o L e k hh=>?_);obtain⟨hb,o1,e1,ho⟩ :=hkeys e;rw [low hb]at k;exact hn b o1 L e1 k (ho _ _ hh)
 · obtain⟨hb,_,q1,q2⟩ :=hlook e;rcases lt_or_ge b' nb with g|g
   · obtain⟨b1,o1,L1,a1,a2,a3⟩ :=x2.own b' o' L' (q1 g) (by rw [eL g];exact k) i hi hlt;obtain⟨hb1,o2,e2,ho⟩ :=hkeys a1;rw [low hb1]at a2;exact⟨b1,o2,L1,e2,a2,ho _ _ a3⟩
   ·exact⟨b',o',L',q2 g,k,hi⟩
 · rcases x2.immo k C e hk with a| ⟨b1,o1,L1,a1,a2,a3⟩
   ·exact .inl a
   · obtain⟨hb1,o2,e2,ho⟩ :=hkeys a1;rw [low hb1]at a2;exact .inr ⟨b1,o2,L1,e2,a2,ho _ _ a3⟩
 · obtain⟨_,_,q1,q2⟩ :=hlook e;rcases lt_or_ge b nb with g|g
   · obtain⟨o0,e0⟩ :=x2.keys b o (q1 g) g;exact⟨_,(hkeys e0).2.choose_spec.1⟩
   ·exact⟨o,q2 g⟩
theorem xK {o:AObj}(h:o.kl) :bQ o= [] :=by cases o<;>first|rfl|exact h.elim
def aEc (nb nb':Nat) :List (Nat×AObj×Bool) →Bool
 | [] =>true
 |p::r=>ble nb p.1&&blt p.1 nb'&&p.2.2&&aEc nb nb' r
theorem aDt {nb a:Nat}:∀ {l:List (Nat×AObj×Bool)},aEc nb a l=true→∀p∈l,nb≤p.1∧p.1<a∧p.2.2=true
 | q::r,h,p,b=>by
  simp only [aEc,cP,cY,jF,decide_eq_true_eq]at h;rcases zq7.1 b with rfl|b
  ·exact⟨h.1.1.1,h.1.1.2,h.1.2⟩
  ·exact aDt h.2 p b
def aVu (n2:Nat)(l:List (Nat×AObj×Bool)) :List (Nat×AObj×Bool) :=l.map fun p=> (p.1+n2,p.2.1,p.2.2)
def aBH (ks:List Nat) :List (Nat×AObj×Bool) →Bool
 | [] =>true
 |p::r=> !(wC p.1 ks) &&aBH ks r
theorem aBI {ks:List Nat}:∀ {l:List (Nat×AObj×Bool)},aBH ks l=true→∀p∈l,p.1∉ks
 | q ::r,h,p,a=>by
  simp only [aBH,cP,Bool.not_eq_true']at h;rcases zq7.1 a with rfl|a
  · intro hm;rw [(xJ _ _).2 hm]at h;cases h.1
  ·exact aBI h.2 p a
theorem aHK {j:Nat→Nat}{h h':Hp}{f:Nat}{b args':List AV}{g:AFrame}(k:dW P h (.enter f b) =some g)(v:renL j b=args') :
  ∃s,dW P h' (.enter f args') =some s∧∀ {E:Emb} {fr:Frame},FR E s fr→FR (E.ren j) g fr:=by
 have d:∀ (l:List AV),(renL j l).length=l.length:=by
  intro l
  induction l with
  |nil=>rfl
  |cons x l p=>simp [renL,p]
 have n:∀ (l:List AV) (i:Nat) (x:AV),l[i]?=some x→ (renL j l)[i]?=some (ren j x) :=by
  intro l
  induction l with
  |nil=>intro i x m;simp at m
  | cons y l p=>
   intro i x m;cases i with
   |zero=>simp at m;subst m;simp [renL]
   |succ i=>simp only [renL,lS]at m ⊢;exact p i x m
 subst v;simp only [dW,dG]at k ⊢;split at k
 · rename_i fn A;split at k
   · rename_i c hc;cases k;refine⟨_,rfl,fun {E fr} fr'=>?_⟩;refine⟨fr'.fn,⟨by have:=fr'.tm.1;rw [d]at this;exact this,fun t a e=>?_⟩,?_,?_,fr'.mode,fr'.kind,?_⟩
     · have r:t<b.length∧b[t]?=some a:=by
        have o: (dV .leaf 0 b).at t=some a:=e;unfold dV at o;rw [bF]at o;split at o
        ·rename_i q;exact⟨q,o⟩
        ·cases o
       obtain⟨u,w,z⟩ :=fr'.tm.2 t (ren j a) (by
        show(dV .leaf 0 (renL j b)).at t=_;unfold dV;rw [bF,if_pos (by rw [d];exact r.1)];exact n b t a r.2)
       exact⟨u,w,(eT j E a u).1 z⟩
     ·have:=fr'.todo;simpa [IRs,IR]using this
     ·have:=fr'.defers;simpa [DRs]using this
     ·have:=fr'.round;simpa [RR]using this
   ·cases k
 ·cases k
def aVv (P:Program)(c:AIn)(h:Hp)(res:Res)(h':Hp) :Prop:=∃g,dW P h c=some g∧Ends P 0 ⟨g,[],h⟩ res h'
theorem aLx {f:Nat}{T args':List AV}{v:AV}{l l' lc x:List (Nat×AObj×Bool)}{nb j n2:Nat}{ks:List Nat}
  (h0:aVv P (.enter f T) (aA l nb) (.ret v) (aA l' j)) (W:renL (fA 0 nb n2 ks) T=args')
  (I:cR 0 ⟨⟨0,0,[],[],[],.run,.normal,none⟩,[],l,nb⟩ ks=true) (hl:sQ (aA lc n2) (fA 0 nb n2 ks) l=iF (fA 0 nb n2 ks) l) (hkl:fG l)
  (hx:fU n2 lc=true) (hxs:qL x= (x.map fun p=> (aA lc n2).look p.1)) (hxk:aBH ks x=true)
  (hnew:aEc 0 j l'=true) (hkl':fG l') (hll:qL l'= (l'.map fun p=> (aA l' j).look p.1)) :
  Spec P (.enter f args') (aA lc n2) (.ret (ren (fun b=>b+n2) v)) (aA (aVu n2 l'++x) (j+n2)) :=by
 obtain⟨g,hg,he⟩ :=h0;obtain⟨g',hg',hfr⟩ :=aHK (h':=aA lc n2) hg W;refine⟨g',hg',?_⟩;intro _ E fr ccs w fr' fs r cl base;have m:∀ {k:Hp} {l:List (Nat×AObj×Bool)},qL l= (l.map fun p=>k.look p.1) →∀p∈l,k.look p.1=some p.2.1:=by
  intro k l
  induction l with
  |nil=>intro _ p O;cases O
  | cons q l ih=>
   intro h p O;simp only [qL,eI,List.cons.injEq]at h;rcases zq7.1 O with rfl|O
   ·exact h.1.symm
   ·exact ih h.2 p O
 have hlenks:ks.length=nb:=by
  simp only [cR,cP]at I;have:=fQ I.1.1.1.2;simpa using this
 have s:∀ {b o},(aA l nb).look b=some o→b<nb∧fA 0 nb n2 ks b∈ks∧∃y,(aA lc n2).look (fA 0 nb n2 ks b) =some y∧∀L i,Own o L i→Own y L i:=fun {b o} e=>by
  obtain⟨fl,hm⟩ :=hX e;have hb:b<nb:=by
   simp only [cR,cP]at I;exact(dY I.2 _ hm).1
  refine⟨hb,?_,_,pI hl _ hm,fun _ _ h=>uK h⟩;rw [aBF (zero_le b) hb];rw [Nat.sub_zero,nY,kR (by omega)];exact List.getElem_mem ..
 have M:∀ {b o},(aA lc n2).look b=some o→b<n2∧bQ o= [] :=fun {b o} e=>by
  obtain⟨fl,hm⟩ :=hX e;exact dY hx _ hm
 have V:∀ {b z o A L L'},(aA lc n2).look b=some o→ (aA lc n2).look z=some A→E b=some L→E z=some L'→b≠z→¬Meet o A L L':=fun {b z o A L L'} e U k B Y t=>by
  have:=r.kin b z o A L L' e U k B t Y;unfold Kin at this;rw [(M e).2,(M U).2]at this;rcases this with⟨g,_⟩ | ⟨g,_⟩ <;>simp at g
 obtain⟨rL,_⟩ :=kO (h:=aA lc n2) I hl hkl r;have frL:=hfr fr';rw [fs.nil_inv];obtain⟨cl',w',S,s1,⟨cv,rfl,g2⟩,r2,F⟩ :=he (zero_le _) (E.ren (fA 0 nb n2 ks)) fr [] w frL rfl rL cl base
 let E':Emb:= ⟨fun b=>if b<n2 then E b else S (b-n2),S.imm⟩
 have R:∀ {b},b<n2→E' b=E b:=fun {b} hb=>if_pos hb;have Q:∀ {b},n2≤b→E' b=S (b-n2) :=fun {b} hb=>if_neg (by omega);have hEE:E.le E':= ⟨fun b L e=>by rw [R (r.nb_gt e)];exact e,fun k C e=>F.imm k C e⟩;have hsig:S.le (E'.ren (fun b=>b+n2)) :=by
  refine⟨fun b L e=>?_,fun _ _ e=>e⟩;show E' (b+n2) =some L;rw [Q (by omega),show b+n2-n2=b by omega];exact e
 have c:∀ {b o},(aA (aVu n2 l'++x) (j+n2)).look b=some o→ (n2≤b∧b<j+n2∧ (aA l' j).look (b-n2) =some o∧o.kl) ∨ (b∉ks∧b<n2∧ (aA lc n2).look b=some o) :=fun {b o} e=>by
  obtain⟨fl,hm⟩ :=hX e;rcases zq28.1 hm with hm|hm
  · obtain⟨⟨pb,po,pf⟩,O,hpe⟩ :=zq24.1 hm;cases hpe;obtain⟨n,u,d⟩ :=aDt hnew _ O;simp only at n u d;subst d;refine .inl ⟨by omega,by omega,?_,nA hkl' pb po O⟩;rw [show pb+n2-n2=pb by omega];exact m hll _ O
  · have q:=m hxs _ hm;exact .inr ⟨aBI hxk _ hm,(M q).1,q⟩
 have H:∀ {b o L},b∉ks→ (aA lc n2).look b=some o→E b=some L→∀J y D,(aA l nb).look J=some y→ (E.ren (fA 0 nb n2 ks)) J=some D→∀i,Own y D i→¬Own o L i:=fun {b o L} hb e k J y D Z k1 i i1 i2=>by
  obtain⟨_,hin1,o2,K,ho⟩ :=s Z;exact V K e k1 k (fun h=>hb (h ▸ hin1)) ⟨i,ho _ _ i1,i2⟩
 have N:∀ {b z o A L L'},z∉ks→ (aA l' j).look (b-n2) =some o→ (aA lc n2).look z=some A→S (b-n2) =some L→E z=some L'→¬Meet o A L L':=fun {b z o A L L'} h2 e U k B t=>by
  obtain⟨i,i1,i2⟩ :=t;obtain⟨J,y,D,a1,a2,X⟩ :=F.own _ o L e k i i1 (r.lt U B i i2);exact H h2 U B J y D a1 a2 i X i2
 have hnb2: (aA lc n2).nb=n2:=rfl
 refine⟨_,w',E',s1,⟨cv,rfl,(eT _ E' v cv).2 (g2.mono hsig)⟩,⟨fun b o e=>?_,fun b z o A L L' e U k B t Y=>?_,fun b hb=>?_,r2.imm,fun b o L e k i G=>?_,fun b o e=>?_⟩,
  ⟨fun b hb=>R hb,hEE.2,F.size,fun i G hn=>?_,fun z A L' e k i G hlt=>?_,?_,F.os,F.tape,F.output,F.froz,fun k C e hk=>?_,fun b o e hb=>?_⟩⟩
 · rcases c e with⟨n,u,d,q4⟩ | ⟨n,u,d⟩
   · rcases r2.obj0 _ o d with⟨u1,u2⟩ | ⟨L,k1,k2⟩
     ·exact .inl ⟨u1,by rw [Q n];exact u2⟩
     ·exact .inr ⟨L,by rw [Q n];exact k1,aVr (E:=S) (E':=E') rfl q4 k2⟩
   · rcases r.obj0 b o d with⟨u1,u2⟩ | ⟨L,k1,k2⟩
     ·exact .inl ⟨u1,by rw [R u];exact u2⟩
     ·exact .inr ⟨L,by rw [R u];exact k1,(k2.mono hEE).heap fun i G=>F.keep _ (k2.lt i G) (fun J y D h1 h2 h3=>H n d k1 J y D h1 h2 i h3 G)⟩
 · rcases c e with⟨n,u,d,q4⟩ | ⟨n,u,d⟩
   · rw [Q n]at k;rcases c U with⟨p1,p2,p3,p4⟩ | ⟨p1,p2,p3⟩
     · rw [Q p1]at B;exact absurd (r2.kin (b-n2) (z-n2) o A L L' d p3 k B t (by omega)) (by unfold Kin;rw [xK q4,xK p4];simp)
     · rw [R p2]at B;exact absurd t (N p1 d p3 k B)
   · rw [R u]at k;rcases c U with⟨p1,p2,p3,p4⟩ | ⟨p1,p2,p3⟩
     · rw [Q p1]at B;exact absurd t.symm (N n p3 d B k)
     · rw [R p2]at B;exact r.kin b z o A L L' d p3 k B t Y
 · have hb:j+n2≤b:=hb;rw [Q (by omega)];exact r2.fresh _ (by show j≤_;omega)
 · show S.imm i=none;rcases c e with⟨n,u,d,q4⟩ | ⟨n,u,d⟩
   · rw [Q n]at k;exact r2.apart _ o L d k i G
   · rw [R u]at k;cases hc:S.imm i with
     |none=>rfl
     | some C=>
      rcases F.immo _ C hc (r.lt d k i G)with a| ⟨J,y,D,a1,a2,X⟩
      · have:=r.apart b o L d k i G;rw [show(E.ren (fA 0 nb n2 ks)).imm=E.imm from rfl]at a;rw [this]at a;cases a
      ·exact absurd G (H n d k J y D a1 a2 i X)
 · rcases c e with⟨n,u,_⟩ | ⟨n,u,_⟩
   ·exact u
   ·show b<j+n2;omega
 · refine F.keep i G (fun b o L e k hh=>?_);obtain⟨_,_,y,Z,ho⟩ :=s e;exact hn _ y L Z k (ho _ _ hh)
 · rcases c e with⟨n,u,d,q4⟩ | ⟨n,u,d⟩
   · rw [Q n]at k;obtain⟨J,y,D,a1,a2,X⟩ :=F.own _ A L' d k i G hlt;obtain⟨_,_,o2,K,ho⟩ :=s a1;exact⟨_,o2,D,K,a2,ho _ _ X⟩
   · rw [R u]at k;exact⟨z,A,L',d,k,G⟩
 ·show n2≤j+n2;omega
 · rcases F.immo k C e hk with a| ⟨J,y,D,a1,a2,X⟩
   ·exact .inl a
   · obtain⟨_,_,o2,K,ho⟩ :=s a1;exact .inr ⟨_,o2,D,K,a2,ho _ _ X⟩
 · have hb:b<n2:=hb;rcases c e with⟨n,_⟩ | ⟨_,_,d⟩
   ·omega
   ·exact⟨o,d⟩
theorem aLy {a:Nat→Nat}{E:Emb}:∀ {c:List (AV×AV×Nat)} {d:List MapEntry},ERs (E.ren a) c d→ERs E (c.map fun p=> (ren a p.1,ren a p.2.1,p.2.2)) d
 | [],_,r=>by simpa [ERs]using r
 | e::c,_,r=>by
  simp only [ERs]at r;simp only [eI,ERs];obtain⟨u,b,f,i,h,g,j⟩ :=r;exact⟨u,b,f,(eT a E _ _).2 i,(eT a E _ _).2 h,g,aLy j⟩
def plainO :AObj→Bool
 | .cells .. | .map .. | .mapx .. | .lst .. | .loop .. | .defd .. | .zone .. =>true
 |_=>false
theorem aZP {g:Nat→Nat}{E:Emb}{H:Array Obj}{L:Loc}{o:AObj}(hp:plainO o=true)(r:OR (E.ren g) H L o) :OR E H L (o.ren g) :=by
 cases o with
 | cells t n ol G=>
  obtain⟨C,w,b,f,d⟩ :=r;refine⟨C,w,b,f,fun i a e=>?_⟩;rw [aEa]at e;cases h:t.at i with
  |none=>rw [h]at e;cases e
  | some j=>
   rw [h]at e;cases e;obtain⟨m,v,x,J⟩ :=d i j h;exact⟨m,v,x,(eT g E j v).2 J⟩
 |map Q c=>obtain⟨s,b,f⟩ :=r;exact⟨s,b,aLy f⟩
 | mapx Q c k v=>
  obtain⟨s,b,f,d⟩ :=r;refine⟨s,b,?_,d⟩;obtain⟨B,p,V,W,y⟩ :=ERs.split f;rw [V];refine ERs.join (d (E.ren g) E B rfl W) ?_;simp only [ERs]at y ⊢;obtain⟨u,q,S,T,O,N,I⟩ :=y;exact⟨u,q,S,(eT g E _ _).2 T,(eT g E _ _).2 O,N,I⟩
 |lst e R=>obtain⟨C,w,p,b,f,d,A⟩ :=r;exact⟨C,w,p,b,f,(nQ g E R p).2 d,A⟩
 |defd t=>exact r
 | loop st pe fn K nt ps aS bd df=>
  obtain⟨l,F,b,f,d⟩ :=r;refine⟨l,F,b,f,d.1,fun t a e=>?_⟩;rw [aEa]at e;cases h:K.at t with
  |none=>rw [h]at e;cases e
  | some j=>
   rw [h]at e;cases e;obtain⟨z,m,x⟩ :=d.2 t j h;exact⟨z,m,(eT g E j z).2 x⟩
 | zone w0 Y Z=>
  obtain⟨X,M,D,U⟩ :=r;exact⟨X,M,by rw [List.map_map];exact D,U⟩
 |_=>cases hp
def xM :List (Nat×AObj×Bool) →Bool
 | [] =>true
 |p::r=> (p.2.2||plainO p.2.1) &&xM r
theorem aFt :∀ {l:List (Nat×AObj×Bool)},xM l=true→∀p∈l,p.2.2=true∨plainO p.2.1=true
 | q::r,h,p,a=>by
  simp only [xM,cP,Bool.or_eq_true]at h;rcases zq7.1 a with rfl|a
  ·exact h.1
  ·exact aFt h.2 p a
def namesT (τ:Nat→Nat) :List (Nat×AObj×Bool) →List Nat
 | [] =>[]
 |p::r=>τ p.1::namesT τ r
theorem aFu {a:Nat→Nat}{b:Nat}:∀ {l:List (Nat×AObj×Bool)},b∈namesT a l→∃p∈l,a p.1=b
 | q ::r,h=>by
  rcases zq7.1 h with e|h
  ·exact⟨q,cQ ..,e.symm⟩
  · obtain⟨p,c,e⟩ :=aFu h;exact⟨p,cH _ c,e⟩
def aDu (names ks:List Nat)(h1:Hp) :List (Nat×AObj×Bool) →List (Option AObj)
 | [] =>[]
 |p::r=> (bif wC p.1 names then some p.2.1 else bif wC p.1 ks then none else h1.look p.1) ::aDu names ks h1 r
theorem aHL {a ks:List Nat}{h1:Hp}:∀ {l:List (Nat×AObj×Bool)},aDu a ks h1 l=qL l→∀p∈l,p.1∈a∨ (p.1∉ks∧h1.look p.1=some p.2.1)
 | q ::r,h,p,b=>by
  simp only [aDu,qL,List.cons.injEq]at h;rcases zq7.1 b with rfl|b
  · cases hm:wC p.1 a
    case true=>exact .inl ((xJ _ _).1 hm)
    have h1:=h.1;rw [hm]at h1;simp only [cond]at h1;cases hk:wC p.1 ks
    case true=>rw [hk]at h1;cases h1
    rw [hk]at h1;exact .inr ⟨fun c=>by(rw [(xJ _ _).2 c]at hk;cases hk),h1⟩
  ·exact aHL h.2 p b
theorem CR.of_p {E:Emb}:∀ {c:List (AV×Bool)} {b:List PanicEntry},CR E.p c b→CR E c b
 | [],_,r=>by simpa [CR]using r
 | a::l,_,r=>by
  simp only [CR]at r ⊢;obtain⟨v,b,d,f,e⟩ :=r;exact⟨v,b,d,f.of_p,e.of_p⟩
def gI (P:Program)(m:Nat)(c:AIn)(h:Hp)(res:Res)(h':Hp) :Prop:=∃g,dW P h c=some g∧Ends P m ⟨g,[],h⟩ res h'
def kE (m n2:Nat)(ks:List Nat)(b:Nat) :Nat:=bif blt b m then ks.getD b 0 else b-m+n2
theorem aSB {f:Nat}{args args':List AV}{res res':Res}{l l' lc lc':List (Nat×AObj×Bool)}{m nb c n2:Nat}{ks:List Nat}
  (h0:gI P m (.enter f args) (aA l nb) res (aA l' c)) (hres:∀ {F:Emb} {loc:Nat→Option Loc} {cl cl':Frame},F.le ((⟨loc,F.imm⟩ :Emb).ren (kE m n2 ks)) →Got F cl res cl'→Got ⟨loc,F.imm⟩ cl res' cl') (hargs:renL (fA 0 nb n2 ks) args=args') (hm:ble m nb=true) (hm':ble m c=true)
  (W:cR 0 ⟨⟨0,0,[],[],[],.run,.normal,none⟩,[],l,nb⟩ ks=true) (hl:sQ (aA lc n2) (fA 0 nb n2 ks) l=iF (fA 0 nb n2 ks) l) (hkl:fG l)
  (hl':sQ (aA lc' (c-m+n2)) (kE m n2 ks) l'=iF (kE m n2 ks) l') (hkl':fG l') (hpl:xM l'=true) (hk':fU c l'=true)
  (hx:fU n2 lc=true) (hx':fU (c-m+n2) lc'=true) (hlt:ks.all (fun k=>blt k n2) =true) (hout:aDu (namesT (kE m n2 ks) l') (l.map fun p=>ks.getD p.1 0) (aA lc n2) lc'=qL lc') (hll:qL l'= (l'.map fun p=> (aA l' c).look p.1)) :
  Spec P (.enter f args') (aA lc n2) res' (aA lc' (c-m+n2)) :=by
 obtain⟨g,hg,he⟩ :=h0;obtain⟨g',hg',hfr⟩ :=aHK (h':=aA lc n2) hg hargs;refine⟨g',hg',?_⟩;intro _ E fr ccs w fr' fs r cl base;have hm:=Nat.le_of_ble_eq_true hm;have hm':=Nat.le_of_ble_eq_true hm';have J:∀ {k:Hp} {l:List (Nat×AObj×Bool)},qL l= (l.map fun p=>k.look p.1) →∀p∈l,k.look p.1=some p.2.1:=by
  intro k l
  induction l with
  |nil=>intro _ p U;cases U
  | cons q l ih=>
   intro h p U;simp only [qL,eI,List.cons.injEq]at h;rcases zq7.1 U with rfl|U
   ·exact h.1.symm
   ·exact ih h.2 p U
 have hlenks:ks.length=nb:=by
  simp only [cR,cP]at W;have:=fQ W.1.1.1.2;simpa using this
 have tget:∀ {b},b<nb→fA 0 nb n2 ks b=ks.getD b 0:=fun {b} hb=>by
  rw [aBF (zero_le b) hb,Nat.sub_zero]
 have gin:∀ {b},b<nb→ks.getD b 0∈ks:=fun {b} hb=>by
  rw [nY,kR (by omega)];exact List.getElem_mem ..
 have glt:∀ {b},b<nb→ks.getD b 0<n2:=fun {b} hb=>by
  have:=zq27.1 hlt _ (gin hb);rw [cY,decide_eq_true_eq]at this;exact this
 have slo:∀ {b},b<m→kE m n2 ks b=ks.getD b 0:=fun {b} hb=>by unfold kE;rw [cY,decide_eq_true hb];rfl
 have shi:∀ {b},m≤b→kE m n2 ks b=b-m+n2:=fun {b} hb=>by unfold kE;rw [cY,decide_eq_false (by omega)];rfl
 have s:∀ {b o},(aA l nb).look b=some o→b<nb∧∃z,(aA lc n2).look (fA 0 nb n2 ks b) =some z∧∀L i,Own o L i→Own z L i:=fun {b o} e=>by
  obtain⟨fl,u⟩ :=hX e;have hb:b<nb:=by
   simp only [cR,cP]at W;exact(dY W.2 _ u).1
  exact⟨hb,_,pI hl _ u,fun _ _ h=>uK h⟩
 have nool:∀ {b o},(aA lc n2).look b=some o→b<n2∧bQ o= [] :=fun {b o} e=>by
  obtain⟨fl,u⟩ :=hX e;exact dY hx _ u
 have apart:∀ {b G o T L L'},(aA lc n2).look b=some o→ (aA lc n2).look G=some T→E b=some L→E G=some L'→b≠G→¬Meet o T L L':=fun {b G o T L L'} e e' k O hne A=>by
  have:=r.kin b G o T L L' e e' k O A hne;unfold Kin at this;rw [(nool e).2,(nool e').2]at this;rcases this with⟨g,_⟩ | ⟨g,_⟩ <;>simp at g
 obtain⟨rL,_⟩ :=kO (h:=aA lc n2) W hl hkl r;have frL:=hfr fr';rw [fs.nil_inv];obtain⟨cl',w',F,s1,g2,r2,I⟩ :=he hm (E.ren (fA 0 nb n2 ks)) fr [] w frL rfl rL cl base
 have eL:∀ {b},b<m→F b=E (ks.getD b 0) :=fun {b} hb=>by
  rw [I.low b hb];show E (fA 0 nb n2 ks b) =_;rw [tget (by omega)]
 let E':Emb:= ⟨fun b=>if b<n2 then E b else F (b-n2+m),F.imm⟩
 have e1:∀ {b},b<n2→E' b=E b:=fun {b} hb=>if_pos hb;have e2:∀ {b},n2≤b→E' b=F (b-n2+m) :=fun {b} hb=>if_neg (by omega)
 have hE:∀b,E' (kE m n2 ks b) =F b:=fun b=>by
  rcases lt_or_ge b m with hb|hb
  ·rw [slo hb,e1 (glt (by omega)),eL hb]
  ·rw [shi hb,e2 (by omega),show b-m+n2-n2+m=b by omega]
 have hsig:F.le (E'.ren (kE m n2 ks)) := ⟨fun b L e=>by show E' (kE m n2 ks b) =some L;rw [hE];exact e,fun _ _ e=>e⟩;have hEE:E.le E':= ⟨fun b L e=>by rw [e1 (r.nb_gt e)];exact e,fun k C e=>I.imm k C e⟩
 have d:∀ {b o},(aA lc' (c-m+n2)).look b=some o→b<c-m+n2∧bQ o= [] ∧ ((∃i q f,i<c∧kE m n2 ks i=b∧ (aA l' c).look i=some q∧o= (bif f then q else q.ren (kE m n2 ks)) ∧ (f=true→q.kl) ∧ (f=true∨plainO q=true)) ∨ (b∉ (l.map fun p=>ks.getD p.1 0) ∧b<n2∧ (aA lc n2).look b=some o)) :=fun {b o} e=>by
  obtain⟨fl,u⟩ :=hX e;refine⟨(dY hx' _ u).1,(dY hx' _ u).2,?_⟩;rcases aHL hout _ u with N|N
  · obtain⟨⟨i,q,f⟩,U,H⟩ :=aFu N;have R:= (dY hk' _ U).1;have hw:=pI hl' _ U;simp only at H hw R;rw [H,e]at hw;cases hw;exact .inl ⟨i,q,f,R,H,J hll _ U,rfl,fun hf=>by subst hf;exact nA hkl' i q U,aFt hpl _ U⟩
  ·exact .inr ⟨N.1,(nool N.2).1,N.2⟩
 have V:∀ {b o L},b∉ (l.map fun p=>ks.getD p.1 0) → (aA lc n2).look b=some o→E b=some L→∀S z Q,(aA l nb).look S=some z→ (E.ren (fA 0 nb n2 ks)) S=some Q→∀i,Own z Q i→¬Own o L i:=fun {b o L} hb e k S z Q e1' k1 i i1 i2=>by
  obtain⟨hb1,o2,B,v⟩ :=s e1';obtain⟨fl,u⟩ :=hX e1';exact apart B e k1 k (fun h=>hb (h ▸ zq24.2 ⟨(S,z,fl),u,(tget hb1).symm⟩)) ⟨i,v _ _ i1,i2⟩
 have X:∀ {i G q T L L'},G∉ (l.map fun p=>ks.getD p.1 0) → (aA l' c).look i=some q→ (aA lc n2).look G=some T→F i=some L→E G=some L'→¬Meet q T L L':=fun {i G q T L L'} h2 e e' k O A=>by
  obtain⟨y,i1,i2⟩ :=A;obtain⟨S,z,Q,a1,a2,a3⟩ :=I.own i q L e k y i1 (r.lt e' O y i2);exact V h2 e' O S z Q a1 a2 y a3 i2
 refine⟨_,w',E',s1,hres hsig g2,⟨fun b o e=>?_,fun b G o T L L' e e' k O A hne=>?_,fun b hb=>?_,r2.imm,fun b o L e k y hy=>?_,fun b o e=> (d e).1⟩,
  ⟨fun b hb=>e1 hb,hEE.2,I.size,fun i R N=>?_,fun G T L' e k y hy hlt=>?_,?_,I.os,I.tape,I.output,I.froz,fun k C e hk=>?_,fun b o e hb=>?_⟩⟩
 · obtain ⟨hb,_,h⟩ :=d e;rcases h with⟨i,q,f,R,H,j,v,hf,Z⟩ | ⟨hb',hb2,j⟩
   · subst H;rcases r2.obj0 i q j with⟨u1,u2⟩ | ⟨L,k1,k2⟩
     · refine .inl ⟨?_,by rw [hE];exact u2⟩;rw [v];cases f with
       |true=>exact u1
       | false=>cases q with
        | lst e xs=>cases xs with
         |nil=>rfl
         |cons x xs=>cases u1
        |_=>cases u1
     · refine .inr ⟨L,by rw [hE];exact k1,?_⟩;rw [v];cases f
       case true=>exact aVr (E:=F) (E':=E') rfl (hf rfl) k2
       rcases Z with hh|hh
       ·cases hh
       ·exact aZP hh (k2.mono hsig)
   · rcases r.obj0 b o j with⟨u1,u2⟩ | ⟨L,k1,k2⟩
     ·exact .inl ⟨u1,by rw [e1 hb2];exact u2⟩
     ·exact .inr ⟨L,by rw [e1 hb2];exact k1,(k2.mono hEE).heap fun i R=>I.keep _ (k2.lt i R) (fun S z Q h1 h2 h3=>V hb' j k1 S z Q h1 h2 i h3 R)⟩
 · obtain⟨hb,hol,h⟩ :=d e;obtain⟨hb',hol',h'⟩ :=d e'
   have hkin:∀ {o:AObj} {f:Bool} {q:AObj},o= (bif f then q else q.ren (kE m n2 ks)) →bQ o= [] →bQ q= [] :=fun {o f q} v hol=>by
    cases f
    case true=>subst v;exact hol
    subst v;cases q with
    | cells t n ol sup=>
     have:ol.map (kE m n2 ks) = [] :=hol;exact List.map_eq_nil_iff.1 this
    |_=>rfl
   rcases h with⟨i,q,f,R,H,j,v,hf,Z⟩ | ⟨N,K,j⟩
   · subst H;rw [hE]at k;rcases h' with⟨i',q',f',hi',ht',D,M,hf',hpo'⟩ | ⟨hn',Y,D⟩
     · subst ht';rw [hE]at O;have:=r2.kin i i' q q' L L' j D k O (by obtain⟨y,i1,i2⟩ :=A;exact⟨y,sP v i1,sP M i2⟩) (fun e=>hne (by rw [e]));unfold Kin at this;rw [hkin v hol,hkin M hol']at this;rcases this with⟨g,_⟩ | ⟨g,_⟩ <;>simp at g
     · rw [e1 Y]at O;obtain⟨y,i1,i2⟩ :=A;exact(X hn' j D k O ⟨y,sP v i1,i2⟩).elim
   · rw [e1 K]at k;rcases h' with⟨i',q',f',hi',ht',D,M,hf',hpo'⟩ | ⟨hn',Y,D⟩
     · subst ht';rw [hE]at O;obtain⟨y,i1,i2⟩ :=A;exact(X N D j O k ⟨y,sP M i2,i1⟩).elim
     · rw [e1 Y]at O;exact r.kin b G o T L L' j D k O A hne
 · have hb:c-m+n2≤b:=hb;rw [e2 (by omega)];exact r2.fresh _ (by show c≤_;omega)
 · obtain⟨hb,_,h⟩ :=d e;show F.imm y=none;rcases h with⟨i,q,f,R,H,j,v,hf,Z⟩ | ⟨N,K,j⟩
   · subst H;rw [hE]at k;exact r2.apart i q L j k y (sP v hy)
   · rw [e1 K]at k;cases hc:F.imm y with
     |none=>rfl
     | some C=>
      rcases I.immo _ C hc (r.lt j k y hy)with a| ⟨S,z,Q,a1,a2,a3⟩
      · have:=r.apart b o L j k y hy;rw [show(E.ren (fA 0 nb n2 ks)).imm=E.imm from rfl]at a;rw [this]at a;cases a
      ·exact absurd hy (V N j k S z Q a1 a2 y a3)
 · refine I.keep i R (fun b o L e k hh=>?_);obtain⟨hb,z,e1',v⟩ :=s e;exact N _ z L e1' k (v _ _ hh)
 · obtain⟨hb,_,h⟩ :=d e;rcases h with⟨i,q,f,R,H,j,v,hf,Z⟩ | ⟨N,K,j⟩
   · subst H;rw [hE]at k;obtain⟨S,z,Q,a1,a2,a3⟩ :=I.own i q L' j k y (sP v hy) hlt;obtain⟨_,o2,B,M⟩ :=s a1;exact⟨_,o2,Q,B,a2,M _ _ a3⟩
   · rw [e1 K]at k;exact⟨G,T,L',j,k,hy⟩
 ·show n2≤c-m+n2;omega
 · rcases I.immo k C e hk with a| ⟨S,z,Q,a1,a2,a3⟩
   ·exact .inl a
   · obtain⟨_,o2,B,v⟩ :=s a1;exact .inr ⟨_,o2,Q,B,a2,v _ _ a3⟩
 · have hb:b<n2:=hb;obtain⟨_,_,h⟩ :=d e;rcases h with⟨i,q,f,R,H,j,v,hf,Z⟩ | ⟨N,K,j⟩
   · rcases lt_or_ge i m with him|him
     · obtain⟨o0,e0⟩ :=I.keys i q j him;obtain⟨hi2,o2,B,_⟩ :=s e0;rw [tget hi2,←slo him,H]at B;exact⟨o2,B⟩
     · rw [shi him]at H;omega
   ·exact⟨o,j⟩
theorem aVw {f:Nat}{b args':List AV}{v:AV}{l l' lc lc':List (Nat×AObj×Bool)}{m nb a n2:Nat}{ks:List Nat}
  (y:gI P m (.enter f b) (aA l nb) (.ret v) (aA l' a)) (c:renL (fA 0 nb n2 ks) b=args') (hm:ble m nb=true) (t:ble m a=true)
  (i:cR 0 ⟨⟨0,0,[],[],[],.run,.normal,none⟩,[],l,nb⟩ ks=true) (hl:sQ (aA lc n2) (fA 0 nb n2 ks) l=iF (fA 0 nb n2 ks) l) (j:fG l)
  (u:sQ (aA lc' (a-m+n2)) (kE m n2 ks) l'=iF (kE m n2 ks) l') (d:fG l') (n:xM l'=true) (r:fU a l'=true)
  (z:fU n2 lc=true) (w:fU (a-m+n2) lc'=true) (o:ks.all (fun k=>blt k n2) =true) (h:aDu (namesT (kE m n2 ks) l') (l.map fun p=>ks.getD p.1 0) (aA lc n2) lc'=qL lc') (s:qL l'= (l'.map fun p=> (aA l' a).look p.1)) :
  Spec P (.enter f args') (aA lc n2) (.ret (ren (kE m n2 ks) v)) (aA lc' (a-m+n2)) :=
 aSB y (fun q g=>by
  obtain⟨x,e,A⟩ :=g;exact⟨x,e,(eT _ _ v x).2 (A.mono q)⟩) c hm t i hl j u d n r z w o h s
def aJj (fr:AFrame)(cs:List AFrame)(all:Array Oper)(i:Nat)(o:Oper)(rest:List Oper)(k:List AItem) :List (AV×Hp) →Option (List AS)
 | [] =>some []
 | p::ps=>match iR fr.tm fr.nt o.dst p.1,aJj fr cs all i o rest k ps with
  |some tm,some l=>some (⟨{fr with tm,todo:=.ops all (Nat.succ i) rest::k},cs,p.2⟩ ::l)
  |_,_=>none
def aBJ (s:AS) :Option (List AS) :=
 match s.fr.mode with
 | .run=>match s.fr.todo with
  | .ops all i (o::rest) ::k=>match bU s.fr.tm all.toList o with
   | some true=>match o.op with
    | .next it false=>match bO s.fr.tm it with
     | some (.ptr r 0) =>match aHs s.h r with
      |some l=>aJj s.fr s.cs all i o rest k l
      |none=>none
     |_=>none
    |_=>none
   |_=>none
  |_=>none
 |_=>none
theorem aFv {fr:AFrame}{cs:List AFrame}{all:Array Oper}{i:Nat}{o:Oper}{rest:List Oper}{k:List AItem}:∀ {ps:List (AV×Hp)} {l:List AS},aJj fr cs all i o rest k ps=some l→∀p∈ps,∃tm,iR fr.tm fr.nt o.dst p.1=some tm∧ (⟨{fr with tm,todo:=.ops all (Nat.succ i) rest::k},cs,p.2⟩ :AS) ∈l
 | [],_,_,p,hp=>by cases hp
 | q ::ps,l,h,p,hp=>by
  simp only [aJj]at h;split at h
  · rename_i tm l' h1 h2;cases h;rcases zq7.1 hp with rfl|hp
    ·exact⟨tm,h1,cQ ..⟩
    · obtain⟨tm',g1,g2⟩ :=aFv h2 p hp;exact⟨tm',g1,cH _ g2⟩
  ·cases h
theorem Goes.then {E:Emb}{h:Hp}{fr:Frame}{ccs:List Frame}{w:World}{base:List Frame}{a b:AS}(h1:Goes P E h fr ccs w base a)(h2:Leads P a b) :Goes P E h fr ccs w base b:=by
 obtain⟨E1,fr1,cs1,w1,s1,f1,fs1,r1,x1⟩ :=h1;obtain⟨E2,fr2,cs2,w2,s2,f2,fs2,r2,x2⟩ :=h2 E1 fr1 cs1 w1 base f1 fs1 r1;exact⟨E2,fr2,cs2,w2,s1.trans s2,f2,fs2,r2,x1.trans x2⟩
theorem aFw {s s':AS}{l:List AS}(h0:aBJ s=some l)(hall:∀x∈l,Leads P x s') :Leads P s s':=by
 obtain⟨fr,cs,h⟩ :=s;unfold aBJ at h0;simp only at h0;split at h0
 · rename_i hm;split at h0
   · rename_i all i o rest ak htd;split at h0
     · rename_i hw;split at h0
       · rename_i it hop;split at h0
         · rename_i r ha;split at h0
           · rename_i outs hl;intro E cfr ccs w base f fs R;simp only at f fs R;have e:=f.run hm;generalize cfr.fn=fn at e;generalize cfr.tmps=tmps at e;generalize cfr.todo=todo at e;generalize cfr.defers=ds at e;generalize cfr.kind=kd at e;generalize cfr.roundOf=ro at e;subst e;have ft:=f.todo;rw [htd]at ft;obtain⟨ci,k,e,i1,i2⟩ :=ft.cons_inv;simp only at e;subst e;obtain⟨rfl,ho,i3⟩ :=aFf i1;have hd: (all[i]?).bind (·.dst) =o.dst:=by rw [ho];rfl
             have hwant:Region.wanted o (yielded all tmps) =true:=aAk f.tm hw;have hρ:=TR.reads (E:=E) f.tm fn (.inRegion all (i::range' (i+1) rest.length) ::k) ds kd ro (· ∈o.op.operands);have hv:=hρ it (by rw [hop];simp [Op.operands]) _ ha;simp only [VR]at hv;obtain⟨L,hE,hL⟩ :=hv;have hz:L.sh=0:=by
              unfold aHs at hl;split at hl
              · rename_i m since seen last hmi;obtain⟨L',g1,Lm,g2,g3,g4⟩ :=R.obj _ _ hmi;rw [hE]at g1;cases g1;exact g4
              ·cases hl
             obtain⟨v,h',g0,cv,w',g1,g2,g3,g4⟩ :=aDj (P:=P) R hl hE hz;obtain⟨tm',q1,q2⟩ :=aFv h0 _ g0;refine Goes.then ?_ (hall _ q2)
             have hnd:∀c,o.op≠ .defer c:=fun c hc=>by rw [hop]at hc;cases hc
             have hx: (execOp (rf fn tmps (.inRegion all (i::range' (i+1) rest.length) ::k) ds kd ro).eval o).run P w= .ok (.value cv) w':=by
              unfold execOp;simp only [hop];have e2: (rf fn tmps (.inRegion all (i::range' (i+1) rest.length) ::k) ds kd ro).eval it= .pointer (some ⟨L.blk,0,none⟩) :=by rw [hL,hz]
              simp only [Sem.run_bind,e2,g1,Result.andThen_ok,Sem.run_pure]
             refine Goes.one (tW ho hwant (.inr hnd) hx) ?_ (fs.mono g4.le) g3 g4;simp only [Frame.finish,hd];refine⟨f.fn,?_,IRs.cons (i3.mono g4.le) (i2.mono g4.le),f.defers.mono g4.le,by simp only [hm];exact rfl,f.kind,f.round.mono g4.le⟩;have:=aAH (f.tm.mono g4.le) q1 g2;unfold aAG at this;exact this
           ·cases h0
         ·cases h0
       ·cases h0
     ·cases h0
   ·cases h0
 ·cases h0
theorem Rel.older {E:Emb}{h:Hp}{H:Array Obj}(r:Rel E h H){b:Nat}{t:T AV}{n:Nat}{o1 o2:List Nat}{sup:Bool}(hb:h.look b=some (.cells t n o1 sup))(hs:∀x∈o1,x∈o2) :Rel E (h.set b (.cells t n o2 sup)) H:=by
 have old:∀ {x o},(h.set b (.cells t n o2 sup)).look x=some o→∃o',h.look x=some o'∧kN o'=kN o∧jL o'=jL o∧nOf o'=nOf o∧ (∀y∈bQ o',y∈bQ o) ∧ (∀L,OR E H L o'→OR E H L o) ∧∀L i,Own o L i→Own o' L i:=fun {x o} e=>by
  rw [aZ]at e;split at e
  · rename_i hx;subst hx;cases e;exact⟨_,hb,rfl,rfl,rfl,hs,fun L ho=>ho,fun _ _ h=>h⟩
  ·exact⟨o,e,rfl,rfl,rfl,fun _ h=>h,fun _ h=>h,fun _ _ h=>h⟩
 refine⟨fun x o e=>?_,fun x x' o o' L L' e e' k k' hbl hne=>?_,r.fresh,r.imm,fun x o L e k i hi=>?_,fun x o e=>?_⟩
 · obtain⟨o',e1,g1,_,_,_,g5,_⟩ :=old e;rcases r.obj0 x o' e1 with⟨a1,a2⟩ | ⟨L,a1,a2⟩
   ·exact .inl ⟨by rw [←g1];exact a1,a2⟩
   ·exact .inr ⟨L,a1,g5 L a2⟩
 · obtain⟨p,e1,_,g2,g3,g4,_,g6⟩ :=old e;obtain⟨p',e1',_,g2',g3',g4',_,g6'⟩ :=old e';obtain⟨i,i1,i2⟩ :=hbl;rcases r.kin x x' p p' L L' e1 e1' k k' ⟨i,g6 _ _ i1,g6' _ _ i2⟩ hne with⟨a1,a2,a3⟩ | ⟨a1,a2,a3⟩
   ·exact .inl ⟨g4 _ a1,by rw [←g2'];exact a2,by rw [←g3',←g3];exact a3⟩
   ·exact .inr ⟨g4' _ a1,by rw [←g2];exact a2,by rw [←g3,←g3'];exact a3⟩
 · obtain⟨o',e1,_,_,_,_,_,g6⟩ :=old e;exact r.apart x o' L e1 k i (g6 _ _ hi)
 · obtain⟨o',e1,_⟩ :=old e;exact r.keys x o' e1
def AS.older (s:AS)(b:Nat)(o2:List Nat) :Option AS:=
 match s.h.look b with
 |some (.cells t n o1 sup) =>bif o1.all (fun x=>aAB x o2)then some {s with h:=s.h.set b (.cells t n o2 sup)} else none
 |_=>none
theorem aLz {s s':AS}{b:Nat}{o2:List Nat}(h0:s.older b o2=some s') :Leads P s s':=fun E fr ccs w base f fs r=>by
 unfold AS.older at h0;split at h0
 · rename_i t n o1 sup hb;cases hc:o1.all (fun x=>aAB x o2)with
   |false=>rw [hc]at h0;cases h0
   | true=>
    rw [hc]at h0;simp only [cond]at h0;cases h0
    have hs:∀x∈o1,x∈o2:=fun x hx=>by
     have:=zq27.1 hc x hx;rw [rS]at this;simpa using this
    have keys:∀ {x o},(s.h.set b (.cells t n o2 sup)).look x=some o→∃o',s.h.look x=some o'∧∀L i,Own o L i→Own o' L i:=fun {x o} e=>by
     rw [aZ]at e;split at e
     ·rename_i hx;subst hx;cases e;exact⟨_,hb,fun _ _ h=>h⟩
     ·exact⟨o,e,fun _ _ h=>h⟩
    exact⟨E,fr,ccs,w,Steps.refl _ _,f,fs,r.older hb hs,⟨Emb.le.refl E,le_refl _,fun _ _ _=>rfl,fun x o L h1 h2 i hi _=>by obtain⟨o',e,ho⟩ :=keys h1;exact⟨x,o',L,e,h2,ho L i hi⟩,le_refl _,rfl,rfl,rfl,fun _ _=>rfl,fun _ _=>rfl,fun _ _ e _=>.inl e,fun x o e _=>by obtain⟨o',e',_⟩ :=keys e;exact⟨o',e'⟩⟩⟩
 ·cases h0
structure LFr where
 fn:Nat
 tm:List (Nat×AV)
 nt:Nat
 todo:List AItem
 defers:List ADef
 mode:AMode
 kind:CallKind
 ro:Option Nat
structure LS where
 fr:LFr
 cs:List LFr
 hp:List (Nat×AObj)
 nb:Nat
def LFr.fr' (f:LFr) :AFrame:= ⟨f.fn,aJg f.tm,f.nt,f.todo,f.defers,f.mode,f.kind,f.ro⟩
def LS.as (s:LS) :AS:= ⟨s.fr.fr',s.cs.map LFr.fr',⟨aJg s.hp,s.nb⟩⟩
def bEE {α:Type}:List (Nat×α) →List Nat
 | [] =>[]
 |p::r=>p.1::bEE r
def aOr (f:AFrame)(l:LFr) :AFrame:={f with tm:=aJg (aFl f.tm (bEE l.tm))}
def aJk :List AFrame→List LFr→List AFrame
 |f::fs,l::ls=>aOr f l::aJk fs ls
 |fs,_=>fs
def AS.keep (s:AS)(l:LS) :AS:= ⟨aOr s.fr l.fr,aJk s.cs l.cs,⟨aJg (aFl s.h.t (bEE l.hp)),s.h.nb⟩⟩
def eG (P:Program)(call:bP)(n:Nat)(a b:LS) :Option AS:=
 match nO P call n a.as with
 |some s'=>some (s'.keep b)
 |none=>none
theorem aBK {E:Emb}{f:AFrame}{c:Frame}(h:FR E f c)(l:LFr) :FR E (aOr f l) c:=
 ⟨h.fn,⟨h.tm.1,fun t a e=>h.tm.2 t a (sO (aD9 e))⟩,h.todo,h.defers,h.mode,h.kind,h.round⟩
theorem aAs {E:Emb}:∀ {fs:List AFrame} {b:List Frame} (a:List LFr),FRs E fs b→FRs E (aJk fs a) b
 | [],_,[],h=>h
 | [],_,_::_,h=>h
 |_::_,_,[],h=>h
 | f::fs,b,l::a,h=>by
  obtain⟨c,g,rfl,d,e⟩ :=FRs.cons_inv h;exact FRs.cons (aBK d l) (aAs a e)
theorem aAM (s:AS)(l:LS) :Leads P s (s.keep l) :=fun E fr c w d f fs r=>by
 have a:∀b o,(s.keep l).h.look b=some o→s.h.look b=some o:=fun b o e=>sO (aD9 e);exact⟨E,fr,c,w,Steps.refl _ _,aBK f l.fr,aAs l.cs fs,r.sub a (le_refl _),⟨Emb.le.refl E,le_refl _,fun _ _ _=>rfl,fun b o L g j i h _=> ⟨b,o,L,a b o g,j,h⟩,le_refl _,rfl,rfl,rfl,fun _ _=>rfl,fun _ _=>rfl,fun _ _ e _=>.inl e,fun b o e _=> ⟨o,a b o e⟩⟩⟩
theorem aR {call:bP}(hc:eP P call){n:Nat}{a b:LS}(c:eG P call n a b=some b.as) :Leads P a.as b.as:=by
 unfold eG at c;split at c
 · rename_i e d;rw [uE]at d;rw [←Option.some.inj c];exact(qY hc d).trans (aAM e b)
 ·cases c
def aLA :List AS→List LS→List AS
 |a::l,b::ls=>a.keep b::aLA l ls
 |l,_=>l
theorem aHM :∀ {l:List AS} {e:List LS},aLA l e=e.map LS.as→∀x∈l,∃b∈e,x.keep b=b.as
 | [],_,_,x,d=>by cases d
 |a::l,[],h,x,d=>by simp [aLA]at h
 | a ::l,b::e,h,x,d=>by
  simp only [aLA,eI,List.cons.injEq]at h;rcases zq7.1 d with rfl|d
  ·exact⟨b,cQ ..,h.1⟩
  · obtain⟨c,f,g⟩ :=aHM h.2 x d;exact⟨c,cH _ f,g⟩
theorem aUY {s s':AS}{ls:List LS}(a: (aBJ s).map (fun l=>aLA l ls) =some (ls.map LS.as))(h1:∀x∈ls,Leads P x.as s') :Leads P s s':=by
 cases e:aBJ s with
 |none=>rw [e]at a;cases a
 | some l=>
  rw [e]at a;refine aFw e (fun x c=>?_);obtain⟨b,hb,d⟩ :=aHM (Option.some.inj a) x c;have:=aAM (P:=P) x b;rw [d]at this;exact this.trans (h1 b hb)
theorem aZQ {s:AS}{b:Nat}{c:List Nat}{t:LS}(a: (s.older b c).map (fun x=>x.keep t) =some t.as) :Leads P s t.as:=by
 cases e:s.older b c with
 |none=>rw [e]at a;cases a
 | some x=>
  rw [e]at a;have:=aAM (P:=P) x t;have d:x.keep t=t.as:=Option.some.inj a;rw [d]at this;exact(aLz e).trans this
end
def Code.part :Code→List Nat→Code
 |c,[] =>c
 | .seq a b,n::p=>bif beq n 0 then Code.part a p else Code.part b p
 | .cond _ a b,n::p=>bif beq n 0 then Code.part a p else Code.part b p
 | .block _ c,_::p=>Code.part c p
 | .loop c,_::p=>Code.part c p
 | .scope c,_::p=>Code.part c p
 | .rangeFunc _ _ a b,n::p=>bif beq n 0 then Code.part a p else Code.part b p
 |c,_=>c
def cd (f:Func)(p:List Nat) :Code:=match f.body with
 |some c=>Code.part c p
 |none=>.skip
def od (f:Func)(p:List Nat) :Array Oper:=match cd f p with
 | .region _ ops _=>ops
 |_=> #[]
def bF7 (f:Func)(p:List Nat)(k:Nat) :AItem:=.ops (od f p) k (drop k (od f p).toList)
abbrev bX :=List UInt8
def cC (n:Int) :AV:=.int .i64 n
def yX (b:Bool) :AV:=.bool b
def dR (s:bX) :AV:=.str (length s) (aG s)
theorem bC {a:Type}{f:a→AV}{l:List a}{i:Nat}{y:a}(h:l[i]?=some y) : (List.map f l)[i]?=some (f y) :=by rw [rM,h];rfl
theorem cU {a:Type}{f:a→AV}{l:List a}{i:Nat}{y:a}(h:l[i]?=some y) : (List.map f l)[0+i]?=some (f y) :=by rw [eM];exact bC h
theorem aJl {a:Type}(f:a→AV)(l:List a) :0+length l≤length (List.map f l) :=by simp
theorem aJm {a:Type}(f:a→AV)(l m:List a) :take (length l) (drop 0 (List.map f l)) ++List.map f m=List.map f (l++m) :=by
 rw [List.drop_zero,aG3 (by simp),aG2]
theorem aJn {a:Type}(f:a→AV)(l m:List a) :length l+length (List.map f m) =length (l++m) :=by simp
theorem pX {a:Type}(f:a→AV)(l:List a)(i:Nat)(y:a) : (List.map f l).set (0+i) (f y) =List.map f (set l i y) :=by rw [eM,List.map_set]
theorem aJo {a:Type}(f:a→AV)(n:Nat)(y:a) :replicate n (f y) =List.map f (replicate n y) :=by rw [List.map_replicate]
theorem cF {b e o n m:Nat}{x:Bool}(h:n=m) :AV.gl b e o n x= .gl b e o m x:=by rw [h]
theorem aHN {a:Type}(f:a→AV)(l:List a){b e:Nat}{x:Bool}:frzOk b e (List.map f l) (List.map f l) (.gl b e 0 (length l) x) :=by
 simp only [frzOk];intro _;exact⟨trivial,by simp,by rw [List.drop_zero,aG3 (by simp)]⟩
inductive Pat where
 |mk (form n:Int) (text:bX) (parts:List Pat)
mutual
def Pat.av :Pat→AV
 | .mk f n t ps=>.agg [.int .i64 f,.int .i64 n,dR t,.ilst 4 (Pats.av ps) false]
def Pats.av :List Pat→List AV
 | [] =>[]
 |p::ps=>Pat.av p::Pats.av ps
end
theorem aE :∀l,Pats.av l=List.map Pat.av l
 | [] =>rfl
 |p::a=>by rw [Pats.av,aE a];rfl
mutual
theorem lD :∀p,keyless (Pat.av p) =true
 | .mk f n t a=>by simp only [Pat.av,keyless,keylessL,aBL a,dR,Bool.and_true]
theorem aBL :∀ (l:List Pat),keylessL (Pats.av l) =true
 | [] =>rfl
 |p::a=>by simp only [Pats.av,keylessL,lD p,aBL a,Bool.and_true]
end
theorem fK {l:List Pat}:keylessL (Pats.av l) =true:=aBL l
structure Con where
 name:bX
 args:Int
def Con.av (c:Con) :AV:=.agg [dR c.name,.int .i64 c.args]
structure Node where
 op:Int
 n:Int
 kids:List Int
 pats:List Pat
def Node.av (x:Node) :AV:=.agg [.int .i64 x.op,.int .i64 x.n,.ilst 1 (List.map cC x.kids) false,.ilst 4 (Pats.av x.pats) false]
structure Prog where
 nodes:List Node
 funs:List Int
 main:Int
 cons:List Con
def Prog.av (p:Prog) :AV:=.agg [.ilst 4 (List.map Node.av p.nodes) false,.ilst 1 (List.map cC p.funs) false,.int .i64 p.main,.ilst 2 (List.map Con.av p.cons) false]
section
theorem byte_at :∀ {s:bX} {k:Nat} {y:UInt8},s[k]?=some y→aG s / 256 ^ k % 256=y.toNat
 | c::s,0,y,h=>by
  simp only [jK,Option.some.injEq]at h;subst h;have:=c.toNat_lt;simp only [aG,Nat.pow_zero,Nat.div_one];omega
 | c::s,k+1,y,h=>by
  rw [lS]at h;have:=byte_at h;rw [←this];have hc:=c.toNat_lt;simp only [aG];rw [Nat.pow_succ',←Nat.div_div_eq_div_mul];congr 2;omega
theorem aCM {s:bX}{k:Int}{y:UInt8}(a:0≤k)(h:s[k.toNat]?=some y) :k< ((length s:Nat) :Int) :=by
 have:= (zq0.1 h).1;omega
theorem aCN {s:bX}{k:Int}{y:UInt8}(h:s[k.toNat]?=some y) :int .u8 ((mod (div (aG s) (pow 256 k.toNat)) 256:Nat) :Int) = .int .u8 ((y.toNat:Nat) :Int) :=by
 show int .u8 ((aG s / 256 ^ k.toNat % 256:Nat) :Int) =_;rw [byte_at h]
theorem aFx :∀ (s:bX) (k:Nat),aG s / 256 ^ k=aG (s.drop k)
 |s,0=>by simp
 | [],k+1=>by simp [aG]
 | c::s,k+1=>by
  rw [List.drop_succ_cons,←aFx s k,Nat.pow_succ',←Nat.div_div_eq_div_mul];congr 1;have:=c.toNat_lt;simp only [aG];omega
theorem aHO {k:IntKind}{i:Int}(h:0≤i) :hJ (some (.int k i)) =some (some i.toNat) :=by
 show(if 0≤i then some (some i.toNat)else none) =_;rw [if_pos h]
theorem uM :hJ none=some none:=rfl
variable {P :Program}
def aSC (P:Program)(t:TypeId)(X:AV)(lo hi:Option AV)(V:AV) :Prop:=
 ∃l u m,hJ lo=some l∧hJ hi=some u∧hJ none=some m∧ (tI P t X l u m=some V∨ (tI P t X l u m=none∧aCw P t X l u m=some V))
theorem aDv {t:TypeId}(c:P.underlying t=some .string){s:bX}{kk:IntKind}{k:Int}(d:0≤k)(h1:k.toNat≤s.length) :
  aSC P t (dR s) (some (.int kk k)) none (dR (s.drop k.toNat)) :=by
 refine⟨_,_,_,aHO d,uM,uM,.inl ?_⟩;unfold tI dR;rw [c];simp only [Option.getD_some,Option.getD_none];have a:ble k.toNat s.length=true:=ble_eq ▸ h1;have b:ble s.length s.length=true:=ble_eq ▸ le_refl _;have e:div (aG s) (pow 256 k.toNat) =aG (s.drop k.toNat) :=aFx s k.toNat;rw [a,b,e];simp
theorem aSD {a:Type}{f:a→AV}{F:List a→List AV}(b:∀l,F l=List.map f l){t:TypeId}{e:Nat}(c:zY P t e=true){xs:List a}{kk:IntKind}{k:Int}(d:0≤k)(h1:k.toNat≤xs.length) :
  aSC P t (.ilst e (F xs) false) none (some (.int kk k)) (.ilst e (F (xs.take k.toNat)) false) :=by
 rw [b,b];refine⟨_,_,_,uM,aHO d,uM,.inr ⟨?_,?_⟩⟩
 ·unfold tI;split<;>simp_all
 · unfold aCw;simp only [c,cond,Option.getD_some,Option.getD_none,lB];rw [if_pos ⟨zero_le _,h1⟩];simp [List.map_take]
theorem aVx {a:Type}{f:a→AV}{t:TypeId}{e:Nat}(b:zY P t e=true){xs:List a}{kk:IntKind}{k:Int}(c:0≤k)(h1:k.toNat≤xs.length) :
  aSC P t (.ilst e (List.map f xs) false) none (some (.int kk k)) (.ilst e (List.map f (xs.take k.toNat)) false) :=aSD (fun _=>rfl) b c h1
theorem aAt {a:Type}(f:a→AV)(l:List a) : ((length (List.map f l) :Nat) :Int) = ((length l:Nat) :Int) :=by rw [lB]
section
variable {α :Type} {f:α→AV} {F:List α→List AV} (hF:∀l,F l=List.map f l)
include hF
theorem iV {l:List α}{i:Nat}{y:α}(h:l[i]?=some y) : (F l)[i]?=some (f y) :=by rw [hF];exact bC h
theorem aZR (l:List α) :0+length l≤length (F l) :=by rw [hF];exact aJl f l
theorem aZS (l m:List α) :take (length l) (drop 0 (F l)) ++F m=F (l++m) :=by rw [hF,hF,hF];exact aJm f l m
theorem aZT (l m:List α) :length l+length (F m) =length (l++m) :=by rw [hF];exact aJn f l m
theorem kF (l:List α) : ((length (F l) :Nat) :Int) = ((length l:Nat) :Int) :=by rw [hF,lB]
theorem aOs (l:List α){b e:Nat}{x:Bool}:frzOk b e (F l) (F l) (.gl b e 0 (length l) x) :=by rw [hF];exact aHN f l
end
theorem aFy :∀ (s:bX),aG s<256 ^ s.length
 | [] =>by simp [aG]
 | c::s=>by
  have:=aFy s;have:=c.toNat_lt;simp only [aG,mO,Nat.pow_succ];omega
theorem bytes_inj {s t:bX}(hl:s.length=t.length)(a:aG s=aG t) :s=t:=by
 rw [←fY s,←fY t,hl,a]
theorem xN (s t:bX) :kD (length s) (aG s) (length t) (aG t) =decide (s=t) :=by
 unfold kD;have c:mod (aG s) (pow 256 s.length) =aG s:=Nat.mod_eq_of_lt (aFy s);by_cases hl:s.length=t.length
 · rw [←hl,c];have b:mod (aG t) (pow 256 s.length) =aG t:=by rw [hl];exact Nat.mod_eq_of_lt (aFy t)
   rw [b,show beq s.length s.length=true from Nat.beq_refl _];by_cases a:aG s=aG t
   ·have:=bytes_inj hl a;subst this;simp
   · have:s≠t:=fun e=>a (by rw [e]);rw [show beq (aG s) (aG t) =false from Bool.eq_false_iff.2 (fun h=>a (fQ h)),decide_eq_false this];rfl
 · have:s≠t:=fun e=>hl (by rw [e]);simp [this,hl]
theorem dS (s:bX) :kD (length s) (aG s) 0 0=decide (s= []) :=xN s []
def fP {α β:Type}(f:α→AV)(g:β→AV) :Nat→List (α×β) →List (AV×AV×Nat)
 |_,[] =>[]
 |n,e::l=> (f e.1,g e.2,n) ::fP f g (n+1) l
def nB {α β:Type}[DecidableEq α](k:α)(v:β) :List (α×β) →List (α×β)
 | [] =>[(k,v)]
 |e::l=>if k=e.1 then(k,v) ::l else e::nB k v l
def xO {α β:Type}[DecidableEq α](k:α) :List (α×β) →Option β
 | [] =>none
 |e::l=>if k=e.1 then some e.2 else xO k l
def aZU {α:Type}[DecidableEq α](f:α→AV) :Prop:=∀a b,pM (f a) (f b) =some (decide (a=b))
theorem aZV :aZU dR:=fun a b=>by
 simp only [pM,dR,xN]
theorem aFz {a b:Type}[DecidableEq a]{f:a→AV}{g:b→AV}(c:aZU f)(k:a) :∀ (l:List (a×b)) (n i:Nat),xO k l=none→pN (f k) (fP f g n l) i=some none
 | [],n,i,_=>rfl
 | e ::l,n,i,h=>by
  unfold xO at h;split at h
  ·cases h
  · rename_i hk;simp only [fP,pN,c k e.1,decide_eq_false hk];exact aFz c k l (n+1) _ h
theorem aLB {c d:Type}[DecidableEq c](f:c→AV)(g:d→AV)(k:c)(v:d) :∀ (l:List (c×d)) (n:Nat),xO k l=none→fP f g n l++ [(f k,g v,n+l.length)] =fP f g n (nB k v l) ∧ (nB k v l).length=l.length+1
 | [],n,_=>by simp [fP,nB]
 | e ::l,n,h=>by
  unfold xO at h;split at h
  ·cases h
  · rename_i hk;obtain⟨a,b⟩ :=aLB f g k v l (n+1) h;simp only [fP,nB,if_neg hk,vV,mO,b];refine⟨?_,trivial⟩;rw [←a,show n+1+l.length=n+ (l.length+1)by omega]
theorem aLC {d m:Type}[DecidableEq d]{f:d→AV}{g:m→AV}(o:aZU f)(k:d)(v w:m) :∀ (l:List (d×m)) (n i:Nat),xO k l=some w→∃j,pN (f k) (fP f g n l) i=some (some (i+j,g w)) ∧setE (f k) (g v) (fP f g n l) j=fP f g n (nB k v l) ∧ (nB k v l).length=l.length
 | [],_,_,h=>by cases h
 | e ::l,n,i,h=>by
  unfold xO at h;split at h
  · rename_i hk;cases h;refine⟨0,?_,?_,?_⟩
    ·simp only [fP,pN,o k e.1,decide_eq_true hk,Nat.add_zero]
    ·simp only [fP,setE,nB,if_pos hk]
    ·simp only [nB,if_pos hk,mO]
  · rename_i hk;obtain⟨j,a,b,c⟩ :=aLC o k v w l (n+1) (i+1) h;refine⟨j+1,?_,?_,?_⟩
    · simp only [fP,pN,o k e.1,decide_eq_false hk];rw [show i+ (j+1) =i+1+j by omega];exact a
    ·simp only [fP,setE,nB,if_neg hk,b]
    ·simp only [nB,if_neg hk,mO,c]
theorem aZW {d e:Type}[DecidableEq d]{f:d→AV}{g:e→AV}(i:aZU f)(k:d)(v:e)(l:List (d×e)) :aAJ (fP f g 0 l) (length l) (f k) (g v) =some (fP f g 0 (nB k v l),length (nB k v l)) :=by
 unfold aAJ;cases h:xO k l with
 | none=>
  rw [aFz i k l 0 0 h];obtain⟨a,b⟩ :=aLB f g k v l 0 h;simp only [eM]at a;simp only [a,b]
 | some w=>
  obtain⟨j,a,b,c⟩ :=aLC i k v w l 0 0 h;rw [a];simp only [eM,b,c]
theorem aRj {b a:Type}(f:b→AV)(g:a→AV) :∀ (l:List (b×a)) (n:Nat),(fP f g n l).length=l.length
 | [],_=>rfl
 |e::l,n=>by simp only [fP,mO,aRj f g l (n+1)]
end
theorem aBM {c b:Type}{f:c→AV}{g:b→AV}(d:∀a,keyless (f a) =true)(i:∀a,keyless (g a) =true) :∀ (l:List (c×b)) (n:Nat),∀e∈fP f g n l,keyless e.1=true∧keyless e.2.1=true
 | [],_,e,h=>by simp [fP]at h
 | x::l,n,e,h=>by
  rcases zq7.1 h with rfl|h
  ·exact⟨d _,i _⟩
  ·exact aBM d i l (n+1) e h
theorem aVy {b a:Type}(f:b→AV)(g:a→AV)(l:List (b×a)) :int .i64 ((length (fP f g 0 l) :Nat) :Int) = .int .i64 ((length l:Nat) :Int) :=by rw [aRj]
theorem bEF {d b:Type}{f:d→AV}{g:b→AV}(h:∀a,keyless (f a) =true)(i:∀a,keyless (g a) =true)(n:Nat)(l:List (d×b))(c:Nat) : (AObj.map (fP f g n l) c).kl:=by
 intro e he;exact aBM h i l n e he
theorem kZ0 {d b:Type}{f:d→AV}{g:b→AV}{n:Nat}{l:List (d×b)}{c:Nat}(e:∀a,keyless (f a) =true:=by exact fun _=>rfl)(h:∀a,keyless (g a) =true:=by exact fun _=>rfl) : (AObj.map (fP f g n l) c).kl:=bEF e h n l c
section
/-- a proposition with its proof -/
structure Pf where
  p:Prop
  h:p
def qp {p:Prop}(h:p) :Pf:= ⟨p,h⟩
theorem aVz :∀ (L:List Pf),AllP (L.map Pf.p)
  | [] =>trivial
  | [a] =>a.h
  |a::b::L=> ⟨a.h,aVz (b::L)⟩
theorem aC {p:Prop}(h:p:=by kernel_rfl) :p:=h
noncomputable abbrev PP:Program:=Tryz.prog
variable {P :Program}
theorem kk {α:Type}{f:α→AV}{l:List α}(h:∀a,keyless (f a) =true:=by exact fun _=>rfl) :keylessL (List.map f l) =true:=aH f h l
section
variable {α :Type}
def ql (f:α→AV)(l:List α) :Pf:= ⟨_,aAt f l⟩
def qs (b e o:Nat)(l:List α)(i:Nat)(v:α)(x:Bool) :Pf:= ⟨AV.gl b e o l.length x= .gl b e o (l.set i v).length x,cF (fN ..).symm⟩
noncomputable abbrev aL (l:List α) :Ins:=.ans (.len (l.length:Int))
end
noncomputable abbrev rn:Nat→Ins:=.run
noncomputable abbrev bt (j:Nat) :Ins:=.b j true
noncomputable abbrev bf (j:Nat) :Ins:=.b j false
noncomputable abbrev aI (v:AV) :Ins:=.ans (.idx v)
noncomputable abbrev sI (j:Nat)(x:Int) :Ins:=.set j (.int .i64 x)
noncomputable abbrev pB (b:Bool) :Ins:=.pure (.bool b)
noncomputable abbrev nI (x:Int) :AV:=.int .i64 x
noncomputable abbrev bV (b:Bool) :AV:=.bool b
noncomputable abbrev jI (l:List Int) :List AV:=List.map cC l
noncomputable abbrev jN (l:List Node) :List AV:=List.map Node.av l
noncomputable abbrev jC (l:List Con) :List AV:=List.map Con.av l
noncomputable abbrev iI (l:List Int) :AV:=.ilst 1 (List.map cC l) false
noncomputable abbrev iS (l:List bX) :AV:=.ilst 1 (List.map dR l) false
noncomputable abbrev iN (l:List Node) :AV:=.ilst 4 (List.map Node.av l) false
noncomputable abbrev iC (l:List Con) :AV:=.ilst 2 (List.map Con.av l) false
noncomputable abbrev iP (l:List Pat) :AV:=.ilst 4 (Pats.av l) false
end
section
/-- an obligation: proved outright, or a premise with what follows from it -/
inductive Hy where
  |q {p:Prop} (h:p)
  |a (p:Prop) {p':Prop} (f:p→p')
def Hy.ob :Hy→Prop
  | @Hy.q p _=>p
  | @Hy.a _ p' _=>p'
/-- all ways from a state -/
inductive Tr :Type 1 where
  |b (n j:Nat) (c:Bool) (t f:Tr)
  |i (is:List Ins) (L:List Hy) (a:Tr)
  |y {α:Type} (f:α→Tr)
  |o (a b:Tr)
  |W (n n1:Nat) (ks:List Nat) (t:TS)
  |E (n n1:Nat) (ks:List Nat) (v:AV) (hp:List (Nat×AObj×Bool)) (nb:Nat)
  |P (n n1:Nat) (ks:List Nat) (ch:List (AV×Bool)) (hp:List (Nat×AObj×Bool)) (nb:Nat)
  |x
structure Br (c:Bool) (A B:Prop) :Prop where
  t:c=true→A
  f:c=false→B
def aZX :List Hy→Prop→Prop
  | [],Q=>Q
  | @Hy.q _ _::L,Q=>aZX L Q
  | @Hy.a p _ _::L,Q=>p→aZX L Q
variable (P :Program)
def aDw (m:Nat)(s0:AS) :Tr→Prop
  | .b _ _ c t f=>Br c (aDw m s0 t) (aDw m s0 f)
  | .i _ L a=>aZX L (aDw m s0 a)
  | .y f=>∀y,aDw m s0 (f y)
  | .o a b=>aDw m s0 a∧aDw m s0 b
  | .W _ _ _ t=>fG t.hp→LeadsM P m s0 t.as
  | .E _ _ _ v hp nb=>fG hp→Ends P m s0 (.ret v) (aA hp nb)
  | .P _ _ _ ch hp nb=>fG hp→Ends P m s0 (.pan ch) (aA hp nb)
  | .x=>True
abbrev eTS (hp:List (Nat×AObj×Bool))(nb:Nat) :TS:= ⟨⟨0,0,[],[],[],.run,.normal,none⟩,[],hp,nb⟩
def sR (m:Nat) :Tr→AS→Prop
  | .b n j c t f,s=>match nO P pW n s with
    | some s=>match s.fr.tm.at j with
      |some (.bool b) =>b=c∧sR m t ⟨{s.fr with tm:=s.fr.tm.put j (.bool true)},s.cs,s.h⟩ ∧sR m f ⟨{s.fr with tm:=s.fr.tm.put j (.bool false)},s.cs,s.h⟩
      |_=>False
    |none=>False
  | .i is L a,s=>match qZ P is s with
    |some (s,ps) =>ps=L.map Hy.ob∧sR m a s
    |none=>False
  | .y f,s=>∀y,sR m (f y) s
  | .o a b,s=>sR m a s∧sR m b s
  | .W n n1 ks t,s=>match nO P pW n s with
    |some s=> (s.h.nb,s.sum (fA m t.nb s.h.nb ks) t) = (n1,t.want (fA m t.nb n1 ks)) ∧cR m t ks=true
    |none=>False
  | .E n n1 ks v hp nb,s=>match nO P pW n s with
    | some s=>match wE P s with
      |some (u,h1) => (h1.nb,u,sQ h1 (fA m nb h1.nb ks) hp) = (n1,ren (fA m nb n1 ks) v,iF (fA m nb n1 ks) hp) ∧cR m (eTS hp nb) ks=true
      |none=>False
    |none=>False
  | .P n n1 ks ch hp nb,s=>match nO P pW n s with
    | some s=>match aOp P s with
      |some (u,h1) => (h1.nb,u,sQ h1 (fA m nb h1.nb ks) hp) = (n1,aVt (fA m nb n1 ks) ch,iF (fA m nb n1 ks) hp) ∧cR m (eTS hp nb) ks=true
      |none=>False
    |none=>False
  | .x,_=>True
/-- what it comes to -/
def okP (m:Nat) :Tr→Prop
  | .b _ _ c t f=>c=c∧okP m t∧okP m f
  | .i _ L a=>L.map Hy.ob=L.map Hy.ob∧okP m a
  | .y f=>∀y,okP m (f y)
  | .o a b=>okP m a∧okP m b
  | .W _ n1 ks t=> (n1,t.want (fA m t.nb n1 ks)) = (n1,t.want (fA m t.nb n1 ks)) ∧true=true
  | .E _ n1 ks v hp nb=> (n1,ren (fA m nb n1 ks) v,iF (fA m nb n1 ks) hp) = (n1,ren (fA m nb n1 ks) v,iF (fA m nb n1 ks) hp) ∧true=true
  | .P _ n1 ks ch hp nb=> (n1,aVt (fA m nb n1 ks) ch,iF (fA m nb n1 ks) hp) = (n1,aVt (fA m nb n1 ks) ch,iF (fA m nb n1 ks) hp) ∧true=true
  | .x=>True
variable {P :Program}
theorem uN (m:Nat) :∀t:Tr,okP m t
  | .b _ _ _ t f=> ⟨rfl,uN m t,uN m f⟩
  | .i _ _ a=> ⟨rfl,uN m a⟩
  | .y f=>fun y=>uN m (f y)
  | .o a b=> ⟨uN m a,uN m b⟩
  | .W .. => ⟨rfl,rfl⟩
  | .E .. => ⟨rfl,rfl⟩
  | .P .. => ⟨rfl,rfl⟩
  | .x=>trivial
theorem aJp :∀ {L:List Hy} {Q:Prop},((∀p∈L.map Hy.ob,p) →Q) →aZX L Q
  | [],_,h=>h (by simp)
  | @Hy.q p hp::L,_,h=>aJp (L:=L) fun g=>h fun q hq=>by
    rcases zq7.1 hq with e|e
    ·subst e;exact hp
    ·exact g q e
  | @Hy.a p p' f::L,_,h=>fun hp=>aJp (L:=L) fun g=>h fun q hq=>by
    rcases zq7.1 hq with e|e
    ·subst e;exact f hp
    ·exact g q e
theorem aBN {m n:Nat}{s s':AS}(h:nO P pW n s=some s') :LeadsM P m s s':=by
  rw [uE]at h;exact(qY bW h).toM
theorem aVA {m:Nat}{s:AS}{t:TS}{ks:List Nat}(h2:s.sum (fA m t.nb s.h.nb ks) t=t.want (fA m t.nb s.h.nb ks))(hok:cR m t ks=true)(hkl:fG t.hp) :LeadsM P m s t.as:=by
  simp only [AS.sum,TS.want,Sum.mk.injEq]at h2;obtain⟨a1,a2,a3,a4⟩ :=h2;intro hm E fr ccs w base f fs r;obtain⟨q1,q2⟩ :=kO (l:=t.hp) (nb:=t.nb) (by simpa [cR]using hok) a4 hkl r;exact⟨_,fr,ccs,w,Steps.refl _ _,aEb a1 f,yW a2 a3 fs,q1,q2⟩
theorem lE {m:Nat}{s0:AS}:∀ (tr:Tr) {s:AS},sR P m tr s→LeadsM P m s0 s→aDw P m s0 tr
  | .x,_,_,_=>trivial
  | .b n j c t f,s,h,hl=>by
    simp only [sR]at h;split at h
    · rename_i s1 h1;split at h
      · rename_i b hj;obtain⟨rfl,h2,h3⟩ :=h;have l1:=hl.trans (aBN h1);refine⟨fun e=>lE t h2 (l1.trans ?_),fun e=>lE f h3 (l1.trans ?_)⟩
        ·exact xstep_sound (i:=.b j true) (ps:=[b=true]) (by simp only [xstep,hj]) (fun p hp=>by simp only [zq32]at hp;subst hp;exact e)
        ·exact xstep_sound (i:=.b j false) (ps:=[b=false]) (by simp only [xstep,hj]) (fun p hp=>by simp only [zq32]at hp;subst hp;exact e)
      ·exact h.elim
    ·exact h.elim
  | .i is L a,s,h,hl=>by
    simp only [sR]at h;split at h
    · rename_i s1 ps h1;obtain⟨rfl,h2⟩ :=h;exact aJp fun g=>lE a h2 (hl.trans (gG h1 g))
    ·exact h.elim
  | .y f,s,h,hl=>fun y=>lE (f y) (h y) hl
  | .o a b,s,h,hl=> ⟨lE a h.1 hl,lE b h.2 hl⟩
  | .W n n1 ks t,s,h,hl=>fun hkl=>by
    simp only [sR]at h;split at h
    · rename_i s1 h1;obtain⟨h2,h3⟩ :=h;obtain⟨e,h2⟩ :=Prod.mk.inj h2;subst e;exact(hl.trans (aBN h1)).trans (aVA h2 h3 hkl)
    ·exact h.elim
  | .E n n1 ks v hp nb,s,h,hl=>fun hkl=>by
    simp only [sR]at h;split at h
    · rename_i s1 h1;split at h
      · rename_i u hh hf;obtain⟨h2,hok⟩ :=h;obtain⟨e,h2⟩ :=Prod.mk.inj h2;obtain⟨h3,h4⟩ :=Prod.mk.inj h2;subst e;subst h3;refine(hl.trans (aBN h1)).ends ?_;intro hm E fr ccs w f fs r cl base;obtain⟨cl',w',E',g1,⟨cv,rfl,g2⟩,g3,g4⟩ :=mY (m:=m) hf hm E fr ccs w f fs r cl base;obtain⟨q1,q2⟩ :=kO hok h4 hkl g3;exact⟨_,w',_,g1,⟨cv,rfl,(eT _ _ _ _).1 g2⟩,q1,g4.trans q2⟩
      ·exact h.elim
    ·exact h.elim
  | .P n n1 ks ch hp nb,s,h,hl=>fun hkl=>by
    simp only [sR]at h;split at h
    · rename_i s1 h1;split at h
      · rename_i u hh hf;obtain⟨h2,hok⟩ :=h;obtain⟨e,h2⟩ :=Prod.mk.inj h2;obtain⟨h3,h4⟩ :=Prod.mk.inj h2;subst e;subst h3;refine(hl.trans (aBN h1)).ends ?_;intro hm E fr ccs w f fs r cl base;obtain⟨cl',w',E',g1,⟨ps',rfl,g2⟩,g3,g4⟩ :=aLv (m:=m) hf hm E fr ccs w f fs r cl base;obtain⟨q1,q2⟩ :=kO hok h4 hkl g3;exact⟨_,w',_,g1,⟨ps',rfl,aOn g2⟩,q1,g4.trans q2⟩
      ·exact h.elim
    ·exact h.elim
theorem tT (m:Nat)(s:TS)(tr:Tr)(h0:sR PP m tr s.as=okP m tr:=by kernel_rfl) :aDw PP m s.as tr:=
  lE tr (h0 ▸ uN m tr) (LeadsM.refl _)
theorem tv :True:=trivial
def aVB :Nat→Nat→List Nat→List Nat
  |0,_,l=>l
  |k+1,n,l=>bif beq n 1 then l else aVB k (n / 2) (n % 2::l)
/-- a place in code by one number -/
abbrev kd (F:Func)(n:Nat) :Code:=cd F (aVB 60 n [])
abbrev kc (F:Func)(n:Nat) :AItem:=.code (kd F n)
abbrev kl (F:Func)(n:Nat) :AItem:=.inLoop (kd F n)
abbrev ko (F:Func)(n k:Nat) :AItem:=bF7 F (aVB 60 n []) k
abbrev kp (j b:Nat) :Nat×AV:= (j,.ptr b 0)
abbrev tf (fn nt:Nat)(sl:List (Nat×AV))(todo:List AItem)(defers:List ADef:=[])(mode:AMode:=.run)(kind:CallKind:=.normal)(roundOf:Option Nat:=none) :TF:= ⟨fn,nt,sl,todo,defers,mode,kind,roundOf⟩
abbrev oC (k:Nat)(L:List AV) :Nat×AObj×Bool:= (k,.cells (putCells .leaf 0 L) L.length [] false,false)
abbrev oL (k e:Nat)(L:List AV) :Nat×AObj×Bool:= (k,.lst e L,true)
section
variable {α :Type} {f:α→AV} {F:List α→List AV}
abbrev hA (p:Prop) :Hy:=.a p id
abbrev hW (x:Int) :Hy:=.a (IntKind.i64.wrap x=x) (congrArg (int .i64))
abbrev hr {β:Type}(x:β) :Hy:=.q (Eq.refl x)
abbrev hl (f:α→AV)(l:List α) :Hy:=.q (aAt f l)
abbrev hm (M:∀l,F l=List.map f l)(l:List α) :Hy:=.q (kF M l)
abbrev hb (f:α→AV)(l:List α) :Hy:=.q (aJl f l)
abbrev hB (M:∀l,F l=List.map f l)(l:List α) :Hy:=.q (aZR M l)
abbrev hc (f:α→AV)(l m:List α) :Hy:=.q (aJm f l m)
abbrev hC (M:∀l,F l=List.map f l)(l m:List α) :Hy:=.q (aZS M l m)
abbrev he (f:α→AV)(l m:List α) :Hy:=.q (aJn f l m)
abbrev hE (M:∀l,F l=List.map f l)(l m:List α) :Hy:=.q (aZT M l m)
abbrev hk (f:α→AV)(l:List α)(h:∀a,keyless (f a) =true:=by exact fun _=>rfl) :Hy:=.q (aH f h l)
abbrev hK (K:∀ {l:List α},keylessL (F l) =true)(l:List α) :Hy:=.q (K (l:=l))
abbrev hz (b e:Nat)(f:α→AV)(l:List α)(x:Bool) :Hy:=.q (aHN f l (b:=b) (e:=e) (x:=x))
abbrev hZ (b e:Nat)(M:∀l,F l=List.map f l)(l:List α)(x:Bool) :Hy:=.q (aOs M l (b:=b) (e:=e) (x:=x))
abbrev rd (n:Nat)(L:List RIns) :List RIns:=replicate n RIns.d++L
abbrev gd (n j:Nat)(p:Prop)[Decidable p](t f:Tr) :Tr:=.b n j (decide p) t f
abbrev gE (n n1:Nat)(v:AV) :Tr:=.E n n1 [] v [] 0
abbrev gw (n j:Nat)(x:Int)(a:Tr) :Tr:=.i [.run n,.set j (.int .i64 x)] [hW x] a
abbrev gs (n j:Nat)(v:AV)(a:Tr) :Tr:=.i [.run n,.set j v] [hr v] a
abbrev gv (n k o:Nat)(v:AV)(a:Tr) :Tr:=.i [.run n,.cset k o v] [hr v] a
abbrev gu (n b:Nat)(x:List AV)(a:Tr) :Tr:=.i [.run n,.lset b x] [hr x] a
abbrev gl (n:Nat)(f:α→AV)(l:List α)(a:Tr) :Tr:=.i [.run n,.ans (.len (l.length:Int))] [hl f l] a
abbrev gm (n:Nat)(M:∀l,F l=List.map f l)(l:List α)(a:Tr) :Tr:=.i [.run n,.ans (.len (l.length:Int))] [hm M l] a
abbrev gi (f:α→AV)(n:Nat)(l:List α)(i:Int)(y:α)(a:Tr) :Tr:=.i [.run n,.ans (.idx (f y))] [hA (0≤i),.a (l[i.toNat]?=some y) (bC (f:=f))] a
abbrev giF (M:∀l,F l=List.map f l)(n:Nat)(l:List α)(i:Int)(y:α)(a:Tr) :Tr:=.i [.run n,.ans (.idx (f y))] [hA (0≤i),.a (l[i.toNat]?=some y) (iV M)] a
abbrev gj (f:α→AV)(n:Nat)(l:List α)(i:Nat)(y:α)(a:Tr) :Tr:=.i [.run n,.ans (.idx (f y))] [.a (l[i]?=some y) (cU (f:=f))] a
abbrev gX (f:α→AV)(n:Nat)(l:List α)(i:Int)(a:α→Tr) :Tr:=.y fun y=>gi f n l i y (a y)
abbrev gp (n f:Nat)(xs:List AV)(v:AV)(a:Tr) :Tr:=.i [.run n,.pure v] [hA (aM PP f xs v)] a
abbrev gpI (n f:Nat)(xs:List AV)(a:Int→Tr) :Tr:=.y fun y=>gp n f xs (.int .i64 y) (a y)
abbrev lO (n f:Nat)(xs:List AV)(a:Bool→Tr) :Tr:=.y fun y=>gp n f xs (.bool y) (a y)
abbrev gk (n:Nat)(c:AIn)(H:List (Nat×AObj×Bool))(k:Nat)(v:AV)(H':List (Nat×AObj×Bool))(k':Nat)(a:Tr) :Tr:=.i [.run n,.call v (aA H' k')] [hA (Spec PP c (aA H k) (.ret v) (aA H' k'))] a
abbrev ga (n:Nat)(f:α→AV)(l m:List α)(a:Tr) :Tr:=.i [.run n,.app (List.map f (l++m)) (l++m).length] [hb f l,hA ((l++m).length≤1000000),hc f l m,he f l m] a
abbrev gA (n:Nat)(M:∀l,F l=List.map f l)(l m:List α)(a:Tr) :Tr:=.i [.run n,.app (F (l++m)) (l++m).length] [hB M l,hA ((l++m).length≤1000000),hC M l m,hE M l m] a
abbrev gz (n j b e:Nat)(f:α→AV)(l:List α)(x:Bool)(a:Tr)(h:∀a,keyless (f a) =true:=by exact fun _=>rfl) :Tr:=.i [.run n,.frz j b (List.map f l)] [hk f l h,hz b e f l x] a
abbrev gy (n k o b e:Nat)(f:α→AV)(l:List α)(x:Bool)(a:Tr)(h:∀a,keyless (f a) =true:=by exact fun _=>rfl) :Tr:=.i [.run n,.cfrz k o b (List.map f l)] [hk f l h,hz b e f l x] a
abbrev gZ (n j b e:Nat)(M:∀l,F l=List.map f l)(K:∀ {l:List α},keylessL (F l) =true)(l:List α)(x:Bool)(a:Tr) :Tr:=.i [.run n,.frz j b (F l)] [.q (K (l:=l)),hZ b e M l x] a
abbrev gY (n k o b e:Nat)(M:∀l,F l=List.map f l)(K:∀ {l:List α},keylessL (F l) =true)(l:List α)(x:Bool)(a:Tr) :Tr:=.i [.run n,.cfrz k o b (F l)] [.q (K (l:=l)),hZ b e M l x] a
abbrev rX (n:Nat)(l:List Pat)(i:Int)(a:Int→Int→bX→List Pat→Tr) :Tr:=.y fun p=>.y fun q=>.y fun r=>.y fun s=>giF aE n l i (.mk p q r s) (a p q r s)
end
end
def yY(a:bX)(b:Int):TS:=⟨(tf 146 20 [(0,(dR a)),(2,(bV false)),(3,(nI b))] [kc f146 52,kl f146 52,.inBlock 0,kc f146 7]),[],[],0⟩
def aEd(a:List bX)(b:bX)(c:Int):TS:=⟨(tf 115 18 [(0,(iS a)),(1,(dR b)),(4,(bV false)),(5,(nI c))] [kc f115 52,kl f115 52,.inBlock 0,kc f115 7]),[],[],0⟩
def uO(a:List bX)(b:Int):TS:=⟨(tf 103 18 [(0,(iS a)),(2,(bV false)),(3,(nI b))] [kc f103 52,kl f103 52,.inBlock 0,kc f103 7]),[],[],0⟩
def yZ(a b:Int)(c:bX)(d:List Pat)(g e f:Int):TS:=⟨(tf 69 29 [(1,(nI e)),kp 2 0,(4,(nI 0)),(5,(nI f))] [kc f69 244,kl f69 244,.inBlock 0,kc f69 31]),[],[oC 0 [(nI a),(nI b),(dR c),(iP d)]],1⟩
def pA(a b:Int)(c:bX)(d:List Pat)(e:Int):TS:=⟨(tf 70 22 [kp 1 0,(2,(bV false)),(3,(nI e))] [kc f70 52,kl f70 52,.inBlock 0,kc f70 7]),[],[oC 0 [(nI a),(nI b),(dR c),(iP d)]],1⟩
def nR(a:Prog)(b:Int):TS:=⟨(tf 10 74 [kp 1 0,(2,(bV false)),(3,(nI b))] [kc f10 116,kl f10 116,.inBlock 0,kc f10 15]),[],[oC 0 [(iN a.nodes),(iI a.funs),(nI a.main),(iC a.cons)]],1⟩
def nS(a:Prog)(b:Int):TS:=⟨(tf 10 74 [kp 1 0,(2,(bV false)),(4,(nI b))] [kc f10 244,kl f10 244,.inBlock 2,kc f10 31]),[],[oC 0 [(iN a.nodes),(iI a.funs),(nI a.main),(iC a.cons)]],1⟩
def nT(a:Prog)(b c:Int)(d:List Int)(e:List Pat)(f g:Int):TS:=⟨(tf 10 74 [kp 1 0,(2,(bV false)),(4,(nI g)),kp 5 1,(6,(nI f))] [kc f10 62620,kl f10 62620,.inBlock 4,.inBlock 3,kc f10 979,kl f10 244,.inBlock 2,kc f10 31]),[],[oC 0 [(iN a.nodes),(iI a.funs),(nI a.main),(iC a.cons)],oC 1 [(nI b),(nI c),(iI d),(iP e)]],2⟩
def bF8(a b c:Int):=tT 0 (start PP 62 [(nI a),(nI b),(nI c)])<|gd 10 10 (a≥b) (gE 7 0 (bV (decide (a≤c))))<|gE 7 0 (bV false)
def aZY:=fun a b c d=>bF8 a b c|>.t d tv
def aZZ:=fun a b c d=>bF8 a b c|>.f d tv
def aOt (a:bX):=(tT 0 (start PP 146 [(dR a)])<|.W 11 0 [] (yY a 0)) tv
def aZ0(b:bX)(a:Int):=tT 0 (yY b a)<|gd 8 7 (a< (b.length:Int)) (.y fun c:UInt8=>.i [rn 8,.ans (.ev (.int .u8 ((c.toNat:Nat) :Int)))] [hA (0≤a),.a (0≤a∧ (b)[a.toNat]?=some c) (p':=a< (b.length:Int)) fun⟨ha,hb⟩=>(aCM (k:=a) ha hb),.a ((b)[a.toNat]?=some c) (p':=int .u8 ((mod (div (aG b) (pow 256 a.toNat)) 256:Nat) :Int) = (.int .u8 ((c.toNat:Nat) :Int))) (fun h=>(aCN (k:=a) h))]<|gd 2 14 (((c.toNat:Nat) :Int) <97) (gE 12 0 (bV false))<|.i [rn 2,.ans (.ev (.int .u8 ((c.toNat:Nat) :Int)))] [hA (0≤a),.a (0≤a∧ (b)[a.toNat]?=some c) (p':=a< (b.length:Int)) fun⟨ha,hb⟩=>(aCM (k:=a) ha hb),.a ((b)[a.toNat]?=some c) (p':=int .u8 ((mod (div (aG b) (pow 256 a.toNat)) 256:Nat) :Int) = (.int .u8 ((c.toNat:Nat) :Int))) (fun h=>(aCN (k:=a) h))]<|gd 3 19 (((c.toNat:Nat) :Int) >122) (gE 6 0 (bV false))<|gw 6 9 (a+ (1:Int))<|.W 3 0 [] (yY b (a+ (1:Int))))<|gE 7 0 (bV true)
def aOu:=fun c d e f a b g=>aZ0 c d|>.t f e a ⟨a,b⟩ b|>.t g tv
def aOv:=fun c d e f a b g i=>aZ0 c d|>.t f e a ⟨a,b⟩ b|>.f g a ⟨a,b⟩ b|>.t i tv
def aOw:=fun c d e f a b g i j=>aZ0 c d|>.t f e a ⟨a,b⟩ b|>.f g a ⟨a,b⟩ b|>.f i j tv
def aOx:=fun a b c=>aZ0 a b|>.f c tv
def aVC(a:bX):=tT 0 (start PP 102 [(dR a)])<|gd 10 6 ((a.length:Int) ≥1) (gd 5 11 ((a.length:Int) ≤8) (.y fun b:UInt8=>.i [rn 1,.ans (.ev (.int .u8 ((b.toNat:Nat) :Int)))] [.q (p:=0≤ (0:Int)) (by decide),.a ((a)[0]?=some b) (p':=(0:Int) < (a.length:Int)) (fun h=>(aCM (k:= (0:Int)) (by decide) h)),.a ((a)[0]?=some b) (p':=int .u8 ((mod (div (aG a) (pow 256 (0:Int).toNat)) 256:Nat) :Int) = (.int .u8 ((b.toNat:Nat) :Int))) (fun h=>(aCN (k:= (0:Int)) h))]<|gd 3 16 (((b.toNat:Nat) :Int) ≥65) (.i [rn 1,.ans (.ev (.int .u8 ((b.toNat:Nat) :Int)))] [.q (p:=0≤ (0:Int)) (by decide),.a ((a)[0]?=some b) (p':=(0:Int) < (a.length:Int)) (fun h=>(aCM (k:= (0:Int)) (by decide) h)),.a ((a)[0]?=some b) (p':=int .u8 ((mod (div (aG a) (pow 256 (0:Int).toNat)) 256:Nat) :Int) = (.int .u8 ((b.toNat:Nat) :Int))) (fun h=>(aCN (k:= (0:Int)) h))]<|gd 3 21 (((b.toNat:Nat) :Int) ≤90) (.i [rn 1,.ans (.ev (dR (drop 1 a)))] [.a (1≤length a) (p':=aSC PP 9 (dR a) (some (nI 1)) none (dR (drop 1 a))) (fun h=>(aDv (k:= (1:Int)) aC (by decide) h))]<|lO 0 146 [(dR (drop 1 a))]<|fun c=>gE 4 0 (bV c))<|gE 7 0 (bV false))<|gE 12 0 (bV false))<|gE 17 0 (bV false))<|gE 22 0 (bV false)
def aOy:=fun b c d e f a g i j k=>aVC b|>.t e|>.t f c a a|>.t g a a|>.t i j d k tv
def aOz:=fun b c d e a f g=>aVC b|>.t d|>.t e c a a|>.t f a a|>.f g tv
def aOA:=fun b c d e a f=>aVC b|>.t d|>.t e c a a|>.f f tv
def aOB:=fun a b c=>aVC a|>.t b|>.f c tv
def aOC:=fun a b=>aVC a|>.f b tv
def aVD (a:List bX)(b:bX):=(tT 0 (start PP 115 [(iS a),(dR b)])<|.W 11 0 [] (aEd a b 0)) tv
def bEG(a:List bX)(c:bX)(b:Int):=tT 0 (aEd a c b)<|gl 5 dR a<|gd 2 9 (b< (a.length:Int)) (gX dR 8 a b<|fun d=>.b 4 17 (kD d.length (aG d) c.length (aG c)) (gE 6 0 (bV true))<|gw 6 11 (b+1)<|.W 3 0 [] (aEd a c (b+1)))<|gE 7 0 (bV false)
def aVE:=fun a b c d e f g i=>bEG a b c|>.t e d f g|>.t i tv
def aVF:=fun a b c d e f g i j=>bEG a b c|>.t e d f g|>.f i j tv
def aVG:=fun a b c d=>bEG a b c|>.f d tv
def aLD (a:List bX):=(tT 0 (start PP 103 [(iS a)])<|.W 11 0 [] (uO a 0)) tv
def bEH(b:List bX)(a:Int):=tT 0 (uO b a)<|gl 5 dR b<|gd 2 7 (a< (b.length:Int)) (.y fun c:bX=>.y fun d:Bool=>.i [rn 5,.reg [.d,.d,.ans (.ev (iS (take a.toNat b))),.d,.d,.ans (.idx (dR c)),.d,.pure (bV d)]] [.a (0≤a∧a.toNat≤length b) (p':=aSC PP 148 (iS b) none (some (nI a)) (iS (take a.toNat b))) fun⟨ha,hb⟩=>(aVx (k:=a) aC ha hb),hA (0≤a),.a (((b)[a.toNat]?) =some c) (bC (f:=dR)),hA (aM PP 115 [(iS (take a.toNat b)),(dR c)] (bV d))]<|.b 0 17 d (gE 6 0 (bV false))<|gw 6 9 (a+1)<|.W 3 0 [] (uO b (a+1)))<|gE 7 0 (bV true)
def aLE:=fun b c d e f a g i j k=>bEH b c|>.t f d e ⟨a,g⟩ a i j|>.t k tv
def aLF:=fun b c d e f a g i j k l=>bEH b c|>.t f d e ⟨a,g⟩ a i j|>.f k l tv
def aLG:=fun a b c=>bEH a b|>.f c tv
def bF9(b c:Int)(d:bX)(e:List Pat)(a:Int):=tT 0 (start PP 69 [(.agg [(nI b),(nI c),(dR d),(iP e)]),(nI a)])<|gd 11 7 (a<1) (gE 6 1 (nI (-1)))<|gw 6 9 (a-1)<|.W 9 1 [0] (yZ b c d e a (a-1) 0)
def aOD:=fun a b c d e f=>bF9 a b c d e|>.t f tv
def aOE:=fun a b c d e f g=>bF9 a b c d e|>.f f g tv
def bEI(d e:Int)(f:bX)(a:List Pat)(g b c:Int):=tT 0 (yZ d e f a g b c)<|gm 6 aE a<|gd 2 15 (c< (a.length:Int)) (gd 4 18 (b≥0) (rX 8 a c<|fun i j k l=>gpI 2 69 [(.agg [(nI i),(nI j),(dR k),(iP l)]),(nI b)]<|fun m=>gw 6 20 (c+1)<|.W 3 1 [0] (yZ d e f a g m (c+1)))<|gE 8 1 (nI b))<|gE 12 1 (nI b)
def aOF:=fun a b c d e f g i j k l m n o p q r s=>bEI a b c d e f g|>.t n|>.t o i j k l p q m r s tv
def aOG:=fun a b c d e f g i j=>bEI a b c d e f g|>.t i|>.f j tv
def aOH:=fun a b c d e f g i=>bEI a b c d e f g|>.f i tv
def aHj (a b:Int)(c:bX)(d:List Pat):=(tT 0 (start PP 70 [(.agg [(nI a),(nI b),(dR c),(iP d)])])<|.W 12 1 [0] (pA a b c d 0)) tv
def bEJ(d e:Int)(c:bX)(a:List Pat)(b:Int):=tT 0 (pA d e c a b)<|gm 6 aE a<|gd 2 8 (b< (a.length:Int)) (rX 9 a b<|fun f g i j=>lO 1 70 [(.agg [(nI f),(nI g),(dR i),(iP j)])]<|fun k=>.b 2 17 (!k) (gE 6 1 (bV false))<|gw 6 10 (b+1)<|.W 3 1 [0] (pA d e c a (b+1)))<|gE 11 1 (bV (decide ((c.length:Int) ≤30)))
def aHk:=fun a b c d e f g i j k l m n o p=>bEJ a b c d e|>.t l f g i j m n k o|>.t p tv
def aHl:=fun a b c d e f g i j k l m n o p q=>bEJ a b c d e|>.t l f g i j m n k o|>.f p q tv
def aHm:=fun a b c d e f=>bEJ a b c d e|>.f f tv
def bGa(a b:Int)(c:bX)(d:List Pat):=tT 0 (start PP 31 [(.agg [(nI a),(nI b),(dR c),(iP d)])])<|gpI 8 69 [(.agg [(nI a),(nI b),(dR c),(iP d)]),(nI 16)]<|fun e=>gd 2 6 (e≥0) (lO 1 70 [(.agg [(nI a),(nI b),(dR c),(iP d)])]<|fun f=>gE 4 1 (bV f))<|gE 6 1 (bV false)
def aLH:=fun a b c d e f g i j=>bGa a b c d e g|>.t i f j tv
def aLI:=fun a b c d e f g=>bGa a b c d e f|>.f g tv
def aZ1(a:Prog):=tT 0 (start PP 10 [(Prog.av a)])<|gl 10 Node.av a.nodes<|gd 2 11 ((a.nodes.length:Int) >320) (gE 18 1 (bV false))<|gl 2 cC a.funs<|gd 3 17 ((a.funs.length:Int) >320) (gE 12 1 (bV false))<|gl 2 Con.av a.cons<|gd 3 22 ((a.cons.length:Int) >25) (gE 6 1 (bV false))<|.W 9 1 [0] (nR a 0)
def aFA:=fun a b=>aZ1 a|>.t b tv
def aFB:=fun a b c=>aZ1 a|>.f b|>.t c tv
def aFC:=fun a b c d=>aZ1 a|>.f b|>.f c|>.t d tv
def aFD:=fun a b c d=>aZ1 a|>.f b|>.f c|>.f d tv
def aVH(a:Prog)(b:Int):=tT 0 (nR a b)<|gl 6 Con.av a.cons<|gd 2 27 (b< (a.cons.length:Int)) (gX Con.av 9 a.cons b<|fun c=>gd 5 37 ((c.name.length:Int) >40) (gE 6 1 (bV false))<|gw 6 29 (b+1)<|.W 3 1 [0] (nR a (b+1)))<|.W 9 1 [0] (nS a 0)
def aFE:=fun a b c d e f g=>aVH a b|>.t d c e f|>.t g tv
def aFF:=fun a b c d e f g i=>aVH a b|>.t d c e f|>.f g i tv
def aFG:=fun a b c=>aVH a b|>.f c tv
def aRk(b:Prog)(c:Int):=tT 0 (nS b c)<|gl 6 Node.av b.nodes<|gd 2 42 (c< (b.nodes.length:Int)) (gX Node.av 9 b.nodes c<|fun a=>gl 9 cC a.kids<|gd 2 54 ((a.kids.length:Int) >10) (gE 12 2 (bV false))<|gm 2 aE a.pats<|gd 3 59 ((a.pats.length:Int) >10) (gE 6 2 (bV false))<|.W 8 2 [0,1] (nT b a.op a.n a.kids a.pats 0 c))<|gE 7 1 (bV true)
def aFH:=fun a b c d e f g=>aRk a b|>.t d c e f|>.t g tv
def aFI:=fun a b c d e f g i=>aRk a b|>.t d c e f|>.f g|>.t i tv
def aFJ:=fun a b c d e f g i=>aRk a b|>.t d c e f|>.f g|>.f i tv
def aFK:=fun a b c=>aRk a b|>.f c tv
def aVI(d:Prog)(e f:Int)(g:List Int)(a:List Pat)(b c:Int):=tT 0 (nT d e f g a b c)<|gm 6 aE a<|gd 2 64 (b< (a.length:Int)) (rX 9 a b<|fun i j k l=>lO 1 31 [(.agg [(nI i),(nI j),(dR k),(iP l)])]<|fun m=>.b 2 73 (!m) (gE 6 2 (bV false))<|gw 6 66 (b+1)<|.W 3 2 [0,1] (nT d e f g a (b+1) c))<|gw 6 44 (c+1)<|.W 3 2 [0] (nS d (c+1))
def aFL:=fun a b c d e f g i j k l m n o p q r=>aVI a b c d e f g|>.t n i j k l o p m q|>.t r tv
def aFM:=fun a b c d e f g i j k l m n o p q r s=>aVI a b c d e f g|>.t n i j k l o p m q|>.f r s tv
def aFN:=fun a b c d e f g i j=>aVI a b c d e f g|>.f i j tv
theorem wrap64 {e:Int}(h1: -9223372036854775808≤e)(h2:e<9223372036854775808) :IntKind.i64.wrap e=e:=by
 have a: (2:Int) ^ IntKind.i64.bits=18446744073709551616:=by decide
 have b: (2:Int) ^ (IntKind.i64.bits-1) =9223372036854775808:=by decide
 simp only [IntKind.wrap,a,b,IntKind.signed,nX,decide_eq_true_eq];split<;>omega
noncomputable def nU (P:Program)(f:Nat) :Bool:=match P.funcs[f]? with
 | some fn=>match fn.body with
  |some _=>true
  |none=>false
 |none=>false
theorem aJ {P:Program}{f:Nat}{a:List AV}{v:AV}(hb:nU P f=true)(hk:keylessL a=true)(b:keyless v=true)(he:Ends P 0 (start P f a).as (.ret v) (aA [] 0)) :aM P f a v:=by
 unfold nU at hb;split at hb
 · rename_i fn d;split at hb
   ·rename_i c hc;exact pure_of d hc hk b he
   ·cases hb
 ·cases hb
theorem bI {b:Type}{l t:List b}{i:Nat}{y:b}(h:l.drop i=y::t) :l[i]?=some y∧l.drop (i+1) =t∧i<l.length:=by
 have a:l[i]?=some y:=by rw [←List.head?_drop,h];rfl
 refine⟨a,?_,(zq0.1 a).1⟩;rw [←List.tail_drop,h];rfl
theorem bL {a:Type}{l:List a}{i:Nat}(h:l.drop i= []) :l.length≤i:=List.drop_eq_nil_iff.1 h
theorem sd {p:Prop}(h:p:=by first|assumption|rfl| (simp only [kZ];assumption) | (simp only [decide_eq_true_eq,decide_eq_false_iff_not];omega) |omega| (apply wrap64<;>omega) | (simp_all;done)) :p:=h
def eB (n lo hi:Int) :Bool:=decide (lo≤n) &&decide (n≤hi)
theorem aX (n lo a:Int) :aM PP 62 [.int .i64 n,.int .i64 lo,.int .i64 a] (.bool (eB n lo a)) :=by
 refine aJ aC rfl rfl ?_;by_cases h:n≥lo
 · have e:eB n lo a=decide (n≤a) :=by unfold eB;rw [decide_eq_true (show lo≤n from h),nX]
   rw [e];exact aZY n lo a (decide_eq_true h)
 · have e:eB n lo a=false:=by unfold eB;rw [decide_eq_false (show ¬lo≤n from h),Bool.false_and]
   rw [e];exact aZZ n lo a (decide_eq_false h)
def uP (c:UInt8) :Bool:=decide (97≤c.toNat) &&decide (c.toNat≤122)
def kG (s:bX) :Bool:=s.all uP
theorem aDx (s:bX)(d:s.length<1000000) :∀ (t:bX) (i:Nat),s.drop i=t→Ends PP 0 (yY s (i:Int)).as (.ret (.bool (kG t))) (aA [] 0)
 | [],i,h=>by
  have:=bL h;exact aOx s i sd
 | c :: t,i,h=>by
  obtain⟨k,f,j⟩ :=bI h;have b: (decide ((i:Int) < ((length s:Nat) :Int))) =true:=sd;have a:s[(i:Int).toNat]?=some c:=sd;by_cases g:c.toNat<97
  · have e:kG (c::t) =false:=by simp [kG,uP];omega
    rw [e];exact aOu s i c b sd a sd
  · by_cases l:122<c.toNat
    · have e:kG (c::t) =false:=by simp [kG,uP];omega
      rw [e];exact aOv s i c b sd a sd sd
    · have e:kG (c::t) =kG t:=by
       have:uP c=true:=by simp [uP];omega
       simp [kG,this]
      rw [e];refine(aOw s i c b sd a sd sd sd).ends ?_;exact aDx s d t (i+1) f
theorem aLJ (s:bX)(a:s.length<1000000) :aM PP 146 [dR s] (.bool (kG s)) :=
 aJ aC rfl rfl ((aOt s).ends (aDx s a s 0 rfl))
def jR (s:bX) :Bool:=match s with
 | [] =>false
 |c::t=>decide (s.length≤8) &&decide (65≤c.toNat) &&decide (c.toNat≤90) &&kG t
theorem aLK (s:bX) :aM PP 102 [dR s] (.bool (jR s)) :=by
 refine aJ aC rfl rfl ?_
 match s with
 | [] =>exact aOC [] sd
 | c :: t=>
  have b: (decide (((length (c::t) :Nat) :Int) ≥ (1:Int))) =true:=by simp only [mO];exact sd
  by_cases d: (c::t).length≤8
  · have a: (decide (((length (c::t) :Nat) :Int) ≤ (8:Int))) =true:=sd;by_cases f:65≤c.toNat
    · by_cases g:c.toNat≤90
      · have e:jR (c::t) =kG t:=by simp only [jR,decide_eq_true d,decide_eq_true f,decide_eq_true g,nX]
        rw [e];exact aOy (c::t) c _ b a rfl sd sd (by simp) (aLJ t (by simp at d;omega))
      · have e:jR (c::t) =false:=by simp only [jR,decide_eq_false g,Bool.and_false,Bool.false_and]
        rw [e];exact aOz (c::t) c b a rfl sd sd
    · have e:jR (c::t) =false:=by simp only [jR,decide_eq_false f,Bool.and_false,Bool.false_and]
      rw [e];exact aOA (c::t) c b a rfl sd
  · have e:jR (c::t) =false:=by simp only [jR,decide_eq_false d,Bool.false_and]
    rw [e];exact aOB (c::t) b sd
def uQ (l:List bX)(s:bX) :Bool:=l.any fun x=>decide (x=s)
theorem aHQ (l:List bX)(s:bX)(hl:l.length<1000000) :∀ (t:List bX) (i:Nat),l.drop i=t→Ends PP 0 (aEd l s (i:Int)).as (.ret (.bool (uQ t s))) (aA [] 0)
 | [],i,h=>by
  have:=bL h;exact aVG l s i sd
 | x ::t,i,h=>by
  obtain⟨c,a,b⟩ :=bI h;by_cases g:x=s
  · have e:uQ (x::t) s=true:=by simp [uQ,g]
    rw [e];exact aVE l s i x sd sd sd (by rw [xN];exact decide_eq_true g)
  · have e:uQ (x::t) s=uQ t s:=by simp [uQ,g]
    rw [e];refine(aVF l s i x sd sd sd (by rw [xN];exact decide_eq_false g) sd).ends ?_;exact aHQ l s hl t (i+1) a
theorem aSE (l:List bX)(s:bX)(hl:l.length<1000000) :aM PP 115 [.ilst 1 (List.map dR l) false,dR s] (.bool (uQ l s)) :=
 aJ aC rfl rfl ((aVD l s).ends (aHQ l s hl l 0 rfl))
def dO :List bX→List bX→Bool
 |_,[] =>true
 |pre,x::t=> !uQ pre x&&dO (pre++ [x]) t
def pC (l:List bX) :Bool:=dO [] l
theorem aBO (l:List bX)(hl:l.length<1000000) :∀ (t:List bX) (i:Nat),l.drop i=t→Ends PP 0 (uO l (i:Int)).as (.ret (.bool (dO (l.take i) t))) (aA [] 0)
 | [],i,h=>by
  have:=bL h;exact aLG l i sd
 | x ::t,i,h=>by
  obtain⟨c,d,f⟩ :=bI h;have b:aM PP 115 [.ilst 1 (List.map dR (l.take (i:Int).toNat)) false,dR x] (.bool (uQ (l.take i) x)) :=by
   simp only [kZ];exact aSE _ _ (by simp;omega)
  by_cases g:uQ (l.take i) x=true
  · have e:dO (l.take i) (x::t) =false:=by simp [dO,g]
    rw [e];exact aLE l i x _ sd sd sd sd b g
  · have a:uQ (l.take i) x=false:=by simpa using g
    have e:dO (l.take i) (x::t) =dO (l.take (i+1)) t:=by
     simp only [dO,a,Bool.not_false,nX];rw [List.take_add_one,c];rfl
    rw [e];refine(aLF l i x _ sd sd sd sd b a sd).ends ?_;exact aBO l hl t (i+1) d
theorem aJq (l:List bX)(hl:l.length<1000000) :aM PP 103 [.ilst 1 (List.map dR l) false] (.bool (pC l)) :=by
 refine aJ aC rfl rfl ((aLD l).ends ?_);exact aBO l hl l 0 rfl
section
variable {P :Program}
theorem bDC {s s':AS}{b:Bool}{h':Hp}(hl:Leads P s s')(y:wE P s'=some (.bool b,h')) :Ends P 0 s (.ret (.bool b)) (aA [] 0) :=by
 have n:LeadsM P 0 s s':=fun hm E fr d w a f fs r=>by
  obtain⟨i,fr',j,g,q,t,h,z,x⟩ :=hl E fr d w a f fs r;exact⟨i,fr',j,g,q,t,h,z,x.toM hm⟩
 intro hm E fr d w f fs r m a;obtain⟨k,g,i,l,⟨v,rfl,u⟩,p,c⟩ := (n.ends (mY y)) hm E fr d w f fs r m a;refine⟨_,g,i.p,l,⟨v,rfl,?_⟩,aFq p,⟨fun b hb=>absurd hb (Nat.not_lt_zero _),c.imm,c.size,c.keep,fun B C A e=>?_,le_refl _,c.os,c.tape,c.output,c.froz,c.immo,fun b o e=>?_⟩⟩
 ·simpa only [VR]using u
 ·simp [aBG,Hp.look,T.at_leaf]at e
 ·simp [aBG,Hp.look,T.at_leaf]at e
end
section
def embOf (w:World) :Emb:= ⟨fun _=>none,fun k=>match w.heap[k]? with
 |some (.cells C _ _) =>some C
 |_=>none⟩
theorem aSF {w:World}{k:Nat}{C:Array Value}{el:TypeId}{fz:Nat×Nat}(h:w.heap[k]?=some (.cells C el fz)) : (embOf w).imm k=some C:=by
 simp only [embOf,h]
theorem aHR (w:World) :Rel (embOf w) ⟨.leaf,0⟩ w.heap:=by
 refine⟨fun b o e=>?_,fun b b' o o' L L' e=>?_,fun _ _=>rfl,fun k C e=>?_,fun b o L e=>?_,fun b o e=>?_⟩
 ·simp [Hp.look,T.at_leaf]at e
 ·simp [Hp.look,T.at_leaf]at e
 · simp only [embOf]at e;split at e
   ·rename_i C' el fz h;cases e;exact⟨el,fz,h⟩
   ·cases e
 ·simp [Hp.look,T.at_leaf]at e
 ·simp [Hp.look,T.at_leaf]at e
def Elt (w:World)(e:Nat)(a:AV)(cs:List Value) :Prop:=cs.length=e∧∃u:Value,u.cells.toList=cs∧VR (embOf w) a u∧∀c∈cs,c.oneCell'=true
theorem Elt.one {w:World}{a:AV}{u:Value}(h:VR (embOf w) a u)(ha:a.one=true)(hu:u.cells= #[u]) :Elt w 1 a [u] :=
 ⟨rfl,u,by rw [hu],h,fun c hc=>by rw [zq32.1 hc];exact h.one ha⟩
variable {H :Type} {enc:TypeId×Value→H} {P:Program} {w:World} {spare:Nat→Bool} {held:Bool}
theorem aZ2 {a:Addr}{C:Array Value}{el:TypeId}{fz:Nat×Nat}(hC:w.heap[a.block]?=some (.cells C el fz))(hs:a.spot=none)(k:Nat) :w.cell? (a.add k) =C[a.off+k]?:=by
 unfold World.cell? Addr.add;by_cases h:k=0
 ·subst h;simp [hC,hs]
 ·simp [h,hC]
theorem add_add (a:Addr)(i j:Nat) : (a.add i).add j=a.add (i+j) :=by
 unfold Addr.add;by_cases hi:i=0<;>by_cases hj:j=0<;>simp [hi,hj,Nat.add_assoc]
theorem aSG (us:List Value)(u:Value) :flat (us++ [u]) =flat us++u.cells.toList:=by simp [flat]
theorem pY {α:Type}(f:α→AV){t e:TypeId}{n fuel:Nat}(ht:P.underlying t=some (.slice e))(hc:P.cellsOf e=n)(hn:0<n){cs:List Value}{x:DataW H×List MemPlace}
  (h:DataW.trod enc P w 0 spare held fuel t cs=some x) (hel:∀fu,fu<fuel→∀cs x,DataW.trod enc P w 0 spare held fu e cs=some x→∃y,Elt w n (f y) cs) :∃ (ys:List α) (c:Value),cs= [c] ∧VR (embOf w) (.ilst n (ys.map f) false) c:=by
 rcases DataW.trod_slice ht h with⟨rfl,_⟩ | ⟨a,len,cap,elems,rest,m,rfl,rfl,_,_,hlc,_,hlen,hat,_⟩
 · refine⟨[],_,rfl,?_⟩;simp only [VR];exact⟨[],by simp [VRs],⟨fun u hu=> (by cases hu),.inl ⟨rfl,none,0,rfl,fun _=>rfl,fun _=>rfl⟩⟩⟩
 · cases len with
   | zero=>
    refine⟨[],_,rfl,?_⟩;simp only [VR];exact⟨[],by simp [VRs],⟨fun u hu=> (by cases hu),.inl ⟨rfl,some a,cap,rfl,fun e=> (by cases e),fun e=> (by cases e)⟩⟩⟩
   | succ len=>
    rw [hc]at hat
    have each:∀i,i<len+1→∃cs' y,w.cells? 0 (a.add (i*n)) n=some cs'∧Elt w n (f y) cs':=fun i hi=>by
     have h1:=hat i hi;rw [kR (by omega)]at h1;obtain⟨cs',g1,g2⟩ :=Option.bind_eq_some_iff.1 h1;obtain⟨y,g3⟩ :=hel m (Nat.lt_succ_self m) cs' _ g2;exact⟨cs',y,g1,g3⟩
    obtain⟨C,el,fz,hC,hs⟩ :∃C el fz,w.heap[a.block]?=some (.cells C el fz) ∧a.spot=none:=by
     obtain⟨cs',y,g1,g2,_⟩ :=each 0 (by omega);obtain⟨_,_,g3⟩ :=World.cells?_some g1;have g4:=g3 0 hn;have: (a.add (0*n)).add 0=a:=by simp [Addr.add]
     rw [this,kR (by omega)]at g4;unfold World.cell? at g4;split at g4
     · rename_i C el fz hh;split at g4
       ·cases g4
       · rename_i hsp;refine⟨C,el,fz,hh,?_⟩;cases hq:a.spot with
         |none=>rfl
         |some q=>rw [hq]at hsp;simp at hsp
     ·cases g4
    have all:∀k,k≤len+1→∃ (ys:List α) (us:List Value),us.length=k∧VRs (embOf w) (ys.map f) us∧ (∀u∈us,okE n u) ∧∀j,j<k*n→C[a.off+j]?= (flat us)[j]?:=by
     intro k
     induction k with
     |zero=>exact fun _=> ⟨[],[],rfl,by simp [VRs],fun u hu=> (by cases hu),fun j hj=>by omega⟩
     | succ k ih=>
      intro hk;obtain⟨ys,us,q1,q2,q3,q4⟩ :=ih (by omega);obtain⟨cs',y,g1,g2,u,g3,g4,g5⟩ :=each k (by omega);obtain⟨_,g6,g7⟩ :=World.cells?_some g1;have hfl:=flat_length q3;refine⟨ys++ [y],us++ [u],by simp [q1],?_,fun v hv=>?_,fun j hj=>?_⟩
      ·rw [aG2];exact q2.append (VRs.cons g4 (VRs.nil _))
      · rcases zq28.1 hv with hv|hv
        ·exact q3 v hv
        · rw [zq32.1 hv];refine⟨?_,fun c hc=>g5 c (by rw [←g3];exact hc)⟩;rw [←Array.length_toList,g3,g2]
      · rw [aSG,g3];by_cases hj2:j<k*n
        ·rw [q4 j hj2,hP (by rw [hfl,q1];exact hj2)]
        · have hr:j-k*n<n:=by rw [Nat.succ_mul]at hj;omega
          rw [iQ (by rw [hfl,q1];omega),hfl,q1,←g7 _ hr,add_add,aZ2 hC hs];congr 2;omega
    obtain⟨ys,us,q1,q2,q3,q4⟩ :=all (len+1) (le_refl _);refine⟨ys,_,rfl,?_⟩;simp only [VR];refine⟨us,q2,q3,.inr ⟨a.block,a.off,cap,C,?_,aSF hC,by omega,fun e=> (by cases e),by rw [q1];exact q4⟩⟩;rw [q1,←hs]
theorem pZ {fuel:Nat}{t:TypeId}(ht:P.underlying t=some (.int .i64)){cs:List Value}{x:DataW H×List MemPlace}(h:DataW.trod enc P w 0 spare held fuel t cs=some x) :∃n,cs= [.int .i64 n] :=by
 obtain⟨n,h1,_⟩ :=DataW.trod_int ht h;exact⟨n,h1⟩
theorem aLL {fuel:Nat}{t:TypeId}(ht:P.underlying t=some .string){cs:List Value}{x:DataW H×List MemPlace}(h:DataW.trod enc P w 0 spare held fuel t cs=some x) :∃ (s:bX) (c:Value),cs= [c] ∧VR (embOf w) (dR s) c:=by
 obtain⟨s,h1,_⟩ :=DataW.trod_string ht h;refine⟨s.data.toList,_,h1,?_⟩;have:=fY s.data.toList;simp only [dR,VR,iH,this]
theorem four {α:Type}{cs:List α}(h:cs.length=4) :∃a b c d,cs= [a,b,c,d] :=by
 match cs,h with
 | [a,b,c,d],_=>exact⟨a,b,c,d,rfl⟩
theorem two {α:Type}{cs:List α}(h:cs.length=2) :∃a b,cs= [a,b] :=by
 match cs,h with
 | [a,b],_=>exact⟨a,b,rfl⟩
theorem aJr {l:List AV}{cs:List Value}(h:VRs (embOf w) l cs)(ho:dE l=true) :Elt w l.length (.agg l) cs:=
 ⟨h.length,.agg ⟨cs⟩,rfl,by simp only [VR];exact⟨cs,rfl,h⟩,VRs.ones h ho⟩
theorem aZ3 {a:AV}{c:Value}(h:VR (embOf w) a c)(ha:a.one=true)(hc:c.cells= #[c]) :Elt w 1 a [c] :=
 ⟨rfl,c,by rw [hc],h,fun x hx=>by rw [zq32.1 hx];exact h.one ha⟩
section
theorem cells3 :PP.cellsOf 3=1:=by kernel_rfl
theorem cells9 :PP.cellsOf 9=1:=by kernel_rfl
theorem cells22 :PP.cellsOf 22=1:=by kernel_rfl
theorem cells23 :PP.cellsOf 23=1:=by kernel_rfl
theorem cells24 :PP.cellsOf 24=1:=by kernel_rfl
theorem cells26 :PP.cellsOf 26=4:=by kernel_rfl
theorem cells53 :PP.cellsOf 53=2:=by kernel_rfl
theorem cells47 :PP.cellsOf 47=1:=by kernel_rfl
theorem cells48 :PP.cellsOf 48=1:=by kernel_rfl
theorem cells50 :PP.cellsOf 50=4:=by kernel_rfl
theorem cells55 :PP.cellsOf 55=1:=by kernel_rfl
theorem aJs :PP.cellsOf 57=4:=by kernel_rfl
theorem got {α:Type}{xs:List α}{n i:Nat}{r:Option α}(h:r=xs[i]?)(hl:xs.length=n)(hi:i<n) :∃x,r=some x:=by
 rw [kR (by omega)]at h;exact⟨_,h⟩
theorem aHS {fuel:Nat}{cs:List Value}{x:DataW H×List MemPlace}(h:DataW.trod enc PP w 0 spare held fuel 23 cs=some x) :∃ (l:List Int) (c:Value),cs= [c] ∧VR (embOf w) (.ilst 1 (l.map cC) false) c:=
 pY cC Tryz.underlying23 cells3 (by omega) h (fun fu _ cs x hx=>by
  obtain⟨n,rfl⟩ :=pZ Tryz.underlying3 hx;exact⟨n,aZ3 (by simp only [cC,VR]) rfl rfl⟩)
theorem aVJ :∀ (fuel:Nat) (cs:List Value) (x:DataW H×List MemPlace),DataW.trod enc PP w 0 spare held fuel 57 cs=some x→∃p:Pat,Elt w 4 (Pat.av p) cs:=by
 intro fuel
 induction fuel using Nat.strongRecOn with
 | ind fuel ih=>
  intro cs x h;obtain⟨xs,m,rfl,rfl,hl,hlen,hf⟩ :=DataW.trod_struct Tryz.underlying57 h;rw [aJs]at hl;obtain⟨c0,c1,c2,c3,rfl⟩ :=four hl;have h0:DataW.trod enc PP w 0 spare held m 55 (([c0,c1,c2,c3].drop 0).take (PP.cellsOf 55)) =xs[0]?:=hf 0 _ rfl;have h1:DataW.trod enc PP w 0 spare held m 3 (([c0,c1,c2,c3].drop 1).take (PP.cellsOf 3)) =xs[1]?:=hf 1 _ rfl;have h2:DataW.trod enc PP w 0 spare held m 9 (([c0,c1,c2,c3].drop 2).take (PP.cellsOf 9)) =xs[2]?:=hf 2 _ rfl;have h3:DataW.trod enc PP w 0 spare held m 48 (([c0,c1,c2,c3].drop 3).take (PP.cellsOf 48)) =xs[3]?:=hf 3 _ rfl;simp only [cells55,cells3,cells9,cells48,drop,take]at h0 h1 h2 h3;obtain⟨x0,h0⟩ :=got h0 hlen (by decide);obtain⟨x1,h1⟩ :=got h1 hlen (by decide);obtain⟨x2,h2⟩ :=got h2 hlen (by decide);obtain⟨x3,h3⟩ :=got h3 hlen (by decide);obtain⟨f,e0⟩ :=pZ Tryz.underlying55 h0;obtain⟨n,e1⟩ :=pZ Tryz.underlying3 h1;obtain⟨s,c,e2,v2⟩ :=aLL Tryz.underlying9 h2;obtain⟨ps,c',e3,v3⟩ :=pY Pat.av Tryz.underlying48 aJs (by omega) h3 (fun fu hfu cs x hx=>ih fu (by omega) cs x hx);cases e0;cases e1;cases e2;cases e3;refine⟨.mk f n s ps,?_⟩;simp only [Pat.av,aE];refine aJr (VRs.cons (by simp only [VR]) (VRs.cons (by simp only [VR]) (VRs.cons v2 (VRs.cons v3 (VRs.nil _))))) ?_;rfl
theorem aSH (fuel:Nat)(cs:List Value)(x:DataW H×List MemPlace)(h:DataW.trod enc PP w 0 spare held fuel 50 cs=some x) :∃p:Node,Elt w 4 (Node.av p) cs:=by
 obtain⟨xs,m,rfl,rfl,hl,hlen,hf⟩ :=DataW.trod_struct Tryz.underlying50 h;rw [cells50]at hl;obtain⟨c0,c1,c2,c3,rfl⟩ :=four hl;have h0:DataW.trod enc PP w 0 spare held m 47 (([c0,c1,c2,c3].drop 0).take (PP.cellsOf 47)) =xs[0]?:=hf 0 _ rfl;have h1:DataW.trod enc PP w 0 spare held m 3 (([c0,c1,c2,c3].drop 1).take (PP.cellsOf 3)) =xs[1]?:=hf 1 _ rfl;have h2:DataW.trod enc PP w 0 spare held m 23 (([c0,c1,c2,c3].drop 2).take (PP.cellsOf 23)) =xs[2]?:=hf 2 _ rfl;have h3:DataW.trod enc PP w 0 spare held m 48 (([c0,c1,c2,c3].drop 3).take (PP.cellsOf 48)) =xs[3]?:=hf 3 _ rfl;simp only [cells47,cells3,cells23,cells48,drop,take]at h0 h1 h2 h3;obtain⟨x0,h0⟩ :=got h0 hlen (by decide);obtain⟨x1,h1⟩ :=got h1 hlen (by decide);obtain⟨x2,h2⟩ :=got h2 hlen (by decide);obtain⟨x3,h3⟩ :=got h3 hlen (by decide);obtain⟨f,e0⟩ :=pZ Tryz.underlying47 h0;obtain⟨n,e1⟩ :=pZ Tryz.underlying3 h1;obtain⟨ks,c,e2,v2⟩ :=aHS h2;obtain⟨ps,c',e3,v3⟩ :=pY Pat.av Tryz.underlying48 aJs (by omega) h3 (fun fu _ cs x hx=>aVJ fu cs x hx);cases e0;cases e1;cases e2;cases e3;refine⟨⟨f,n,ks,ps⟩,?_⟩;simp only [Node.av,aE];refine aJr (VRs.cons (by simp only [VR]) (VRs.cons (by simp only [VR]) (VRs.cons v2 (VRs.cons v3 (VRs.nil _))))) ?_;rfl
theorem aVK (fuel:Nat)(cs:List Value)(x:DataW H×List MemPlace)(h:DataW.trod enc PP w 0 spare held fuel 53 cs=some x) :∃p:Con,Elt w 2 (Con.av p) cs:=by
 obtain⟨xs,m,rfl,rfl,hl,hlen,hf⟩ :=DataW.trod_struct Tryz.underlying53 h;rw [cells53]at hl;obtain⟨c0,c1,rfl⟩ :=two hl;have h0:DataW.trod enc PP w 0 spare held m 9 (([c0,c1].drop 0).take (PP.cellsOf 9)) =xs[0]?:=hf 0 _ rfl;have h1:DataW.trod enc PP w 0 spare held m 3 (([c0,c1].drop 1).take (PP.cellsOf 3)) =xs[1]?:=hf 1 _ rfl;simp only [cells9,cells3,drop,take]at h0 h1;obtain⟨x0,h0⟩ :=got h0 hlen (by decide);obtain⟨x1,h1⟩ :=got h1 hlen (by decide);obtain⟨s,c,e0,v0⟩ :=aLL Tryz.underlying9 h0;obtain⟨n,e1⟩ :=pZ Tryz.underlying3 h1;cases e0;cases e1;refine⟨⟨s,n⟩,?_⟩;simp only [Con.av];refine aJr (VRs.cons v0 (VRs.cons (by simp only [VR]) (VRs.nil _))) ?_;rfl
theorem lift_prog (fuel:Nat)(cs:List Value)(x:DataW H×List MemPlace)(h:DataW.trod enc PP w 0 spare held fuel 26 cs=some x) :∃p:Prog,VR (embOf w) (Prog.av p) (.agg ⟨cs⟩) :=by
 obtain⟨xs,m,rfl,rfl,hl,hlen,hf⟩ :=DataW.trod_struct Tryz.underlying26 h;rw [cells26]at hl;obtain⟨c0,c1,c2,c3,rfl⟩ :=four hl;have h0:DataW.trod enc PP w 0 spare held m 22 (([c0,c1,c2,c3].drop 0).take (PP.cellsOf 22)) =xs[0]?:=hf 0 _ rfl;have h1:DataW.trod enc PP w 0 spare held m 23 (([c0,c1,c2,c3].drop 1).take (PP.cellsOf 23)) =xs[1]?:=hf 1 _ rfl;have h2:DataW.trod enc PP w 0 spare held m 3 (([c0,c1,c2,c3].drop 2).take (PP.cellsOf 3)) =xs[2]?:=hf 2 _ rfl;have h3:DataW.trod enc PP w 0 spare held m 24 (([c0,c1,c2,c3].drop 3).take (PP.cellsOf 24)) =xs[3]?:=hf 3 _ rfl;simp only [cells22,cells23,cells3,cells24,drop,take]at h0 h1 h2 h3;obtain⟨x0,h0⟩ :=got h0 hlen (by decide);obtain⟨x1,h1⟩ :=got h1 hlen (by decide);obtain⟨x2,h2⟩ :=got h2 hlen (by decide);obtain⟨x3,h3⟩ :=got h3 hlen (by decide);obtain⟨ns,c,e0,v0⟩ :=pY Node.av Tryz.underlying22 cells50 (by omega) h0 (fun fu _ cs x hx=>aSH fu cs x hx);obtain⟨fs,c',e1,v1⟩ :=aHS h1;obtain⟨n,e2⟩ :=pZ Tryz.underlying3 h2;obtain⟨ks,c'',e3,v3⟩ :=pY Con.av Tryz.underlying24 cells53 (by omega) h3 (fun fu _ cs x hx=>aVK fu cs x hx);cases e0;cases e1;cases e2;cases e3;refine⟨⟨ns,fs,n,ks⟩,?_⟩;simp only [Prog.av,VR];exact⟨_,rfl,VRs.cons v0 (VRs.cons v1 (VRs.cons (by simp only [VR]) (VRs.cons v3 (VRs.nil _))))⟩
end
end
end
end Go.Hb
