/- A machine on abstract values, its soundness, ways, plain laws. -/
import Derived.Test.YtnljmgihoioocaaGreatHD
import Derived.Test.YtnljmgihoioocaaGreatHE
import Derived.KernelRfl
import Derived.Test.YtnljmgihoioocaaGreatProg
import Derived.WalkKit
import Derived.OpenShut
import Derived.ChangeArms
set_option linter.defProp false
set_option linter.unusedVariables false
set_option linter.unusedSimpArgs false
set_option linter.unusedSectionVars false
set_option maxRecDepth 100000
namespace Go.Hb
open AV (frzOk int keyless keylessL ren renL)
open List (drop length range range' replicate set take)
open Nat (beq ble ble_eq blt div le_refl lt_or_ge mod pow zero_le)
open Go.Proofs Tryz
noncomputable section
section
variable {P :Program}
def way (P:Program)(m:Nat)(is:List Ins)(s:TS)(t:TS)(ks:List Nat) :Option (Nat×Sum×List Prop) :=
 match rD P is s.as with
 |some (s1,ps) =>some (s1.h.nb,s1.sum (fK m t.nb s1.h.nb ks) t,ps)
 |none=>none
theorem aS6 {m:Nat}{is:List Ins}{s t:TS}{ks:List Nat}{n1:Nat}{ps:List Prop}(a:way P m is s t ks=some (n1,t.want (fK m t.nb n1 ks),ps))(d:dH m t ks=true)(b:eY t.hp)(hp:AllP ps) :LeadsM P m s.as t.as:=by
 unfold way at a;split at a
 · rename_i v qs k;simp only [Option.some.injEq,Prod.mk.injEq]at a;obtain⟨rfl,h,rfl⟩ :=a;refine(hM k (fun p e=>hp.mem p e)).trans ?_;simp only [AS.sum,TS.want,Sum.mk.injEq]at h;obtain⟨u,i,o,n⟩ :=h;intro hm E fr c w g f fs r;obtain⟨q,j⟩ :=lX (l:=t.hp) (nb:=t.nb) (by simpa [dH]using d) n b r;exact⟨_,fr,c,w,Steps.refl _ _,aEd u f,yZ i o fs,q,j⟩
 ·cases a
def bFS (P:Program)(m:Nat)(is:List Ins)(s:TS)(hp:List (Nat×AObj×Bool))(nb:Nat)(ks:List Nat) :Option (Nat×AV×List (Option AObj) ×List Prop) :=
 match rD P is s.as with
 | some (s1,ps) =>match wE P s1 with
  |some (v,h1) =>some (h1.nb,v,uL h1 (fK m nb h1.nb ks) hp,ps)
  |none=>none
 |none=>none
theorem aOM {m:Nat}{is:List Ins}{s:TS}{hp:List (Nat×AObj×Bool)}{nb:Nat}{ks:List Nat}{n1:Nat}{v:AV}{ps:List Prop}(a:bFS P m is s hp nb ks=some (n1,ren (fK m nb n1 ks) v,iK (fK m nb n1 ks) hp,ps))
  (g:dH m ⟨⟨0,0,[],[],[],.run,.normal,none⟩,[],hp,nb⟩ ks=true) (d:eY hp) (c:AllP ps) :Ends P m s.as (.ret v) (aA hp nb) :=by
 unfold bFS at a;split at a
 · rename_i D qs A;split at a
   · rename_i u G t;simp only [Option.some.injEq,Prod.mk.injEq]at a;obtain⟨rfl,l,B,rfl⟩ :=a;subst l;refine(hM A (fun p h=>c.mem p h)).ends ?_;intro hm E fr e w f fs r n b;obtain⟨k,x,F,y,⟨q,rfl,i⟩,z,o⟩ :=mZ (m:=m) t hm E fr e w f fs r n b;obtain⟨C,j⟩ :=lX g B d z;exact⟨_,x,_,y,⟨q,rfl,(eO _ _ _ _).1 i⟩,C,o.trans j⟩
   ·cases a
 ·cases a
def aON (P:Program)(s:AS) :Option (List (AV×Bool) ×Hp) :=
 match s.fr.mode,s.fr.defers,s.cs,P.funcs[s.fr.fn]? with
 | .pan ch,[],[],some _=>some (ch,s.h)
 |_,_,_,_=>none
theorem aLD {m:Nat}{s:AS}{i:List (AV×Bool)}{h':Hp}(c:aON P s=some (i,h')) :Ends P m s (.pan i) h':=fun hm E fr o w f fs r q j=>by
 unfold aON at c;split at c
 · rename_i k p d n g h;cases c;have a:=f.mode;rw [d]at a;simp only [MR]at a;obtain⟨l,a,e⟩ :=a;have b:=f.defers;rw [n]at b;rw [g]at fs;rw [fs.nil_inv];exact⟨_,w,E,.one (wT a b.nil_inv (by rw [f.fn];exact h)),⟨l,rfl,e⟩,r,ExtM.refl hm⟩
 ·cases c
def aVV (τ:Nat→Nat)(ch:List (AV×Bool)) :List (AV×Bool) :=ch.map fun p=> (ren τ p.1,p.2)
def start (P:Program)(f:Nat)(args:List AV) :TS:=
 match P.funcs[f]? with
 | some fn=>match fn.body with
  |some c=> ⟨⟨f,max fn.ntmps args.length,(range args.length).zip args,[.code c],[],.run,.normal,none⟩,[],[],0⟩
  |none=> ⟨⟨f,0,[],[],[],.run,.normal,none⟩,[],[],0⟩
 |none=> ⟨⟨f,0,[],[],[],.run,.normal,none⟩,[],[],0⟩
theorem aFs {E:Emb}{h:Hp}{w:World}(r:Rel E h w.heap) :Rel E.p ⟨.leaf,0⟩ w.heap:=
 ⟨fun b o e=>by simp [Hp.look,T.at_leaf]at e,fun b a o c L d e=>by simp [Hp.look,T.at_leaf]at e,fun _ _=>rfl,r.imm,fun b o L e=>by simp [Hp.look,T.at_leaf]at e,fun b o e=>by simp [Hp.look,T.at_leaf]at e⟩
theorem aBL :aA [] 0= ⟨.leaf,0⟩ :=rfl
theorem aLE {a:List AV}{k:Nat}{v:AV}(h: (k,v) ∈ (range a.length).zip a) :a[k]?=some v:=by
 obtain⟨i,b⟩ :=zq38.1 h;rw [List.getElem?_zip_eq_some]at b;obtain⟨e,d⟩ :=b;obtain⟨c,he⟩ :=zq0.1 e;rw [List.getElem_range]at he;subst he;exact d
theorem aOO {E E':Emb}{h:Hp}{w w':World}(r:Rel E h w.heap)(l:Rel E' ⟨.leaf,0⟩ w'.heap)(x:ExtM 0 E.p ⟨.leaf,0⟩ w E' ⟨.leaf,0⟩ w') :
  Rel ⟨E.loc,E'.imm⟩ h w'.heap∧ExtM h.nb E h w ⟨E.loc,E'.imm⟩ h w':=by
 have d:∀ {b o},¬ (⟨.leaf,0⟩ :Hp).look b=some o:=fun {b o} e=>by simp [Hp.look,T.at_leaf]at e
 have keep:∀i,i<w.heap.size→w'.heap[i]?=w.heap[i]?:=fun i a=>x.keep i a (fun b o L e=>absurd e d);have f:E.le ⟨E.loc,E'.imm⟩ := ⟨fun _ _ e=>e,x.imm⟩
 have c:∀k C,E'.imm k=some C→k<w.heap.size→E.imm k=some C:=fun k C e hk=>by
  rcases x.immo k C e hk with g| ⟨b,o,L,g,_⟩
  ·exact g
  ·exact absurd g d
 refine⟨⟨fun b o e=>?_,r.kin,r.fresh,l.imm,fun b o L e k i a=>?_,r.keys⟩,⟨fun _ _=>rfl,x.imm,x.size,fun i a _=>keep i a,fun b o L e k i a _=> ⟨b,o,L,e,k,a⟩,le_refl _,x.os,x.tape,x.output,x.froz,fun k C e hk=>.inl (c k C e hk),fun b o e _=> ⟨o,e⟩⟩⟩
 · rcases r.obj0 b o e with u| ⟨L,m,j⟩
   ·exact .inl u
   ·exact .inr ⟨L,m,(j.mono f).heap fun i a=>keep _ (j.lt i a)⟩
 · show E'.imm i=none;cases hc:E'.imm i with
   |none=>rfl
   | some C=>
    have:=c _ C hc (r.lt e k i a);rw [r.apart b o L e k i a]at this;cases this
theorem pure_of {f : Nat} {args : List AV} {v : AV} {fn:Func}{c:Code}(n:P.funcs[f]?=some fn)(hc:fn.body=some c)(hk:keylessL args=true)(B:keyless v=true)(he:Ends P 0 (start P f args).as (.ret v) (aA [] 0)) :aK P f args v:=fun h=>by
 have y:dG P h (.enter f args) =some ⟨f,dN .leaf 0 args,max fn.ntmps args.length,[.code c],[],.run,.normal,none⟩ :=by simp [dG,dA,n,hc]
 refine⟨_,y,fun hm E fr A w fr' fs r s b=>?_⟩;simp only at fs;rw [fs.nil_inv];have x:FR E.p (start P f args).as.fr fr:=by
  have q: (start P f args).as.fr= ⟨f,dK ((range args.length).zip args),max fn.ntmps args.length,[.code c],[],.run,.normal,none⟩ :=by simp [start,n,hc,TS.as,TF.fr]
  rw [q];refine⟨fr'.fn,⟨fr'.tm.1,fun t a e=>?_⟩,?_,?_,fr'.mode,fr'.kind,?_⟩
  · have i:=aLE (aCM e);have g:= (zq0.1 i).1;have D: (dN .leaf 0 args).at t=some a:=by
     unfold dN;rw [bB,if_pos g];exact i
    obtain⟨d,k,j⟩ :=fr'.tm.2 t a D;exact⟨d,k,eJ (keylessL_mem.1 hk a (jQ i)) j⟩
  · have:=fr'.todo;simpa [IRs,IR]using this
  · have:=fr'.defers;simpa [DRs]using this
  · have:=fr'.round;simpa [RR]using this
 have e2 : (start P f args).as.cs = [] := by unfold start;split; · split<;>rfl
                                             ·rfl
 have e3 : (start P f args).as.h = ⟨.leaf, 0⟩ := by unfold start;split; · split<;>rfl
                                                    ·rfl
 obtain⟨p,u,l,k,⟨d,rfl,j⟩,C,m⟩ :=he (zero_le _) E.p fr [] w x (by rw [e2];rfl) (by rw [e3];exact aFs r) s b;rw [e3]at m;obtain⟨z,o⟩ :=aOO r C m;exact⟨_,u,_,k,⟨d,rfl,VR.of_p (E:= ⟨E.loc,l.imm⟩) (show VR (Emb.p ⟨E.loc,l.imm⟩) v d from eJ (E:=l) B j)⟩,z,o⟩
def aX (P:Program)(f:Nat)(args:List AV)(hp:List (Nat×AObj×Bool))(nb:Nat) :TS:={(start P f args)with hp:=hp,nb:=nb}
def aRL (nb:Nat)(h1 h2:Hp) :List (Nat×AObj×Bool) →List (Option AObj)
 | [] =>[]
 |p::r=> (bif blt p.1 nb then h1.look p.1 else h2.look p.1) ::aRL nb h1 h2 r
def vX :List (Nat×AObj×Bool) →List (Option AObj)
 | [] =>[]
 |p::r=>some p.2.1::vX r
theorem aHE {nb:Nat}{h1 h2:Hp}:∀ {l:List (Nat×AObj×Bool)},aRL nb h1 h2 l=vX l→∀p∈l,(p.1<nb→h1.look p.1=some p.2.1) ∧ (nb≤p.1→h2.look p.1=some p.2.1)
 | q ::r,h,p,hp=>by
  simp only [aRL,vX,List.cons.injEq]at h;rcases zq7.1 hp with rfl|hp
  · rw [dD]at h;refine⟨fun g=>?_,fun g=>?_⟩
    ·have:=h.1;rw [decide_eq_true g]at this;exact this
    ·have:=h.1;rw [decide_eq_false (show ¬p.1<nb by omega)]at this;exact this
  ·exact aHE h.2 p hp
theorem kM {l:List (Nat×AObj×Bool)}{nb b:Nat}{o:AObj}(e: (aA l nb).look b=some o) :∃f,(b,o,f) ∈l:=by
 have: (b,o) ∈l.map fun p=> (p.1,p.2.1) :=aCM e;obtain⟨⟨pb,po,pf⟩,hp,hpe⟩ :=zq24.1 this;cases hpe;exact⟨pf,hp⟩
theorem aLF {E:Emb}{τ:Nat→Nat}{h:Hp}{f:Nat}{args:List AV}{g:AFrame}{fr:Frame}(hg:dG P h (.enter f args) =some g)(ha:renL τ args=args)(fr':FR E g fr) :FR (E.ren τ) g fr:=by
 simp only [dG,dA]at hg;split at hg
 · split at hg
   · cases hg;refine⟨fr'.fn,⟨fr'.tm.1,fun t a e=>?_⟩,?_,?_,fr'.mode,fr'.kind,?_⟩
     · obtain⟨cv,g1,g2⟩ :=fr'.tm.2 t a e;refine⟨cv,g1,(eO τ E a cv).1 ?_⟩;have ht:t<args.length∧args[t]?=some a:=by
        have e': (dN .leaf 0 args).at t=some a:=e;unfold dN at e';rw [bB]at e';split at e'
        ·rename_i hlt;exact⟨hlt,e'⟩
        ·cases e'
       have all:∀ (l:List AV),renL τ l=l→∀ (i:Nat) (x:AV),l[i]?=some x→ren τ x=x:=by
        intro l
        induction l with
        |nil=>intro _ i x hx;simp at hx
        | cons y l ih=>
         intro hl i x hx;simp only [renL,List.cons.injEq]at hl;cases i with
         |zero=>simp at hx;subst hx;exact hl.1
         |succ i=>exact ih hl.2 i x (by simpa using hx)
       rw [all args ha t a ht.2];exact g2
     ·have:=fr'.todo;simpa [IRs,IR]using this
     ·have:=fr'.defers;simpa [DRs]using this
     ·have:=fr'.round;simpa [RR]using this
   ·cases hg
 ·cases hg
theorem aFt {f:Nat}{args:List AV}{v:AV}{l l' x:List (Nat×AObj×Bool)}{nb n2:Nat}
  (h0:Spec P (.enter f args) (aA l nb) (.ret v) (aA l' nb)) (hargs:renL (fK nb nb n2 []) args=args) (hv:keyless v=true) (hle:ble nb n2=true)
  (hin:dH nb ⟨⟨0,0,[],[],[],.run,.normal,none⟩,[],l,nb⟩ [] =true) (hl:uL (aA (l++x) n2) (fK nb nb n2 []) l=iK (fK nb nb n2 []) l) (hkl:eY l)
  (hx:fZ n2 (l++x) =true) (hx':fZ n2 (l'++x) =true) (hout:aRL nb (aA l' nb) (aA (l++x) n2) (l'++x) =vX (l'++x)) :
  Spec P (.enter f args) (aA (l++x) n2) (.ret v) (aA (l'++x) n2) :=by
 obtain⟨g,hg,he⟩ :=h0;refine⟨g,hg,?_⟩;intro _ E fr ccs w fr' fs r cl base;have hle:=Nat.le_of_ble_eq_true hle
 have hkeys:∀ {b o},(aA l nb).look b=some o→b<nb∧∃o1,(aA (l++x) n2).look b=some o1∧∀L i,Own o L i→Own o1 L i:=fun {b o} e=>by
  obtain⟨fl,hm⟩ :=kM e;simp only [dH,dS]at hin;have hb:= (eK hin.2 _ hm).1;have:=sR hl _ hm;simp only [uM hb]at this;exact⟨hb,_,this,fun _ _ h=>yY h⟩
 have low:∀ {b},b<nb→ (E.ren (fK nb nb n2 [])) b=E b:=fun {b} hb=>by show E.loc (fK nb nb n2 [] b) =E.loc b;rw [uM hb]
 have nool:∀ {b o},(aA (l++x) n2).look b=some o→b<n2∧bY o= [] :=fun {b o} e=>by
  obtain⟨fl,hm⟩ :=kM e;exact eK hx _ hm
 have apart:∀ {b b' o o' L L'},(aA (l++x) n2).look b=some o→ (aA (l++x) n2).look b'=some o'→E b=some L→E b'=some L'→b≠b'→¬Meet o o' L L':=fun {b b' o o' L L'} e e' k k' hne hbl=>by
  have:=r.kin b b' o o' L L' e e' k k' hbl hne;unfold Kin at this;rw [(nool e).2,(nool e').2]at this;rcases this with⟨g,_⟩ | ⟨g,_⟩ <;>simp at g
 obtain⟨rL,_⟩ :=lX (h:=aA (l++x) n2) hin hl hkl r;have frL:=aLF (τ:=fK nb nb n2 []) hg hargs fr';rw [fs.nil_inv];obtain⟨cl',w',EL,s1,⟨cv,rfl,g2⟩,r2,x2⟩ :=he (le_refl _) (E.ren (fK nb nb n2 [])) fr [] w frL rfl rL cl base;have hnb: (aA l nb).nb=nb:=rfl;have hnb': (aA l' nb).nb=nb:=rfl;rw [hnb]at x2;have eL:∀ {b},b<nb→EL b=E b:=fun {b} hb=> (x2.low b hb).trans (low hb);have eLhi:∀ {b},nb≤b→EL b=none:=fun {b} hb=>r2.fresh b hb;have hELE:EL.le ⟨E.loc,EL.imm⟩ :=by
  refine⟨fun b L e=>?_,fun _ _ e=>e⟩;rcases lt_or_ge b nb with hb|hb
  ·rw [eL hb]at e;exact e
  ·rw [eLhi hb]at e;cases e
 have hEE:E.le ⟨E.loc,EL.imm⟩ := ⟨fun _ _ e=>e,fun k C e=>x2.imm k C e⟩
 have hlook:∀ {b o},(aA (l'++x) n2).look b=some o→b<n2∧bY o= [] ∧ (b<nb→ (aA l' nb).look b=some o) ∧ (nb≤b→ (aA (l++x) n2).look b=some o) :=fun {b o} e=>by
  obtain⟨fl,hm⟩ :=kM e;exact⟨(eK hx' _ hm).1,(eK hx' _ hm).2,aHE hout _ hm⟩
 have away:∀ {b o L},nb≤b→ (aA (l++x) n2).look b=some o→E b=some L→∀b1 o1 L1,(aA l nb).look b1=some o1→ (E.ren (fK nb nb n2 [])) b1=some L1→∀i,Own o1 L1 i→¬Own o L i:=fun {b o L} hb e k b1 o1 L1 e1 k1 i i1 i2=>by
  obtain⟨hb1,o2,e2,ho⟩ :=hkeys e1;rw [low hb1]at k1;exact apart e2 e k1 k (by omega) ⟨i,ho _ _ i1,i2⟩
 refine⟨_,w',⟨E.loc,EL.imm⟩,s1,⟨cv,rfl,?_⟩,⟨fun b o e=>?_,fun b b' o o' L L' e e' k k' hbl hne=>?_,fun b hb=>r.fresh b hb,r2.imm,fun b o L e k i hi=>?_,fun b o e=> (hlook e).1⟩,
  ⟨fun _ _=>rfl,hEE.2,x2.size,fun i hi hn=>?_,fun b' o' L' e k i hi hlt=>?_,le_refl _,x2.os,x2.tape,x2.output,x2.froz,fun k C e hk=>?_,fun b o e hb=>?_⟩⟩
 ·exact VR.of_p (E:= ⟨E.loc,EL.imm⟩) (show VR (Emb.p ⟨E.loc,EL.imm⟩) v cv from eJ (E:=EL) hv g2)
 · obtain⟨hb,_,q1,q2⟩ :=hlook e;rcases lt_or_ge b nb with g|g
   · rcases r2.obj0 b o (q1 g)with⟨u1,u2⟩ | ⟨L,k1,k2⟩
     ·rw [eL g]at u2;exact .inl ⟨u1,u2⟩
     ·rw [eL g]at k1;exact .inr ⟨L,k1,k2.mono hELE⟩
   · rcases r.obj0 b o (q2 g)with u| ⟨L,k1,k2⟩
     ·exact .inl u
     ·exact .inr ⟨L,k1,(k2.mono hEE).heap fun i hi=>x2.keep _ (k2.lt i hi) (fun b1 o1 L1 h1 h2 h3=>away g (q2 g) k1 b1 o1 L1 h1 h2 i h3 hi)⟩
 · obtain⟨hb,ho,q1,q2⟩ :=hlook e;obtain⟨hb',ho',q1',q2'⟩ :=hlook e'
   have mixed:∀ {b b' o o' L L'},b<nb→nb≤b'→ (aA l' nb).look b=some o→ (aA (l++x) n2).look b'=some o'→E b=some L→E b'=some L'→¬Meet o o' L L':=fun {b b' o o' L L'} h1 h2 e e' k k' hbl=>by
    obtain⟨i,i1,i2⟩ :=hbl;obtain⟨b1,o1,L1,a1,a2,a3⟩ :=x2.own b o L e (by rw [eL h1];exact k) i i1 (r.lt e' k' i i2);exact away h2 e' k' b1 o1 L1 a1 a2 i a3 i2
   rcases lt_or_ge b nb with g|g
   · rcases lt_or_ge b' nb with g'|g'
     ·exact r2.kin b b' o o' L L' (q1 g) (q1' g') (by rw [eL g];exact k) (by rw [eL g'];exact k') hbl hne
     ·exact absurd hbl (mixed g g' (q1 g) (q2' g') k k')
   · rcases lt_or_ge b' nb with g'|g'
     ·exact absurd hbl.symm (mixed g' g (q1' g') (q2 g) k' k)
     ·exact r.kin b b' o o' L L' (q2 g) (q2' g') k k' hbl hne
 · obtain⟨hb,_,q1,q2⟩ :=hlook e;show EL.imm i=none;rcases lt_or_ge b nb with g|g
   ·exact r2.apart b o L (q1 g) (by rw [eL g];exact k) i hi
   · cases hc:EL.imm i with
     |none=>rfl
     | some C=>
      rcases x2.immo _ C hc (r.lt (q2 g) k i hi)with a| ⟨b1,o1,L1,a1,a2,a3⟩
      · have:=r.apart b o L (q2 g) k i hi;rw [show(E.ren (fK nb nb n2 [])).imm=E.imm from rfl]at a;rw [this]at a;cases a
      ·exact absurd hi (away g (q2 g) k b1 o1 L1 a1 a2 i a3)
 · refine x2.keep i hi (fun b o L e k hh=>?_);obtain⟨hb,o1,e1,ho⟩ :=hkeys e;rw [low hb]at k;exact hn b o1 L e1 k (ho _ _ hh)
 · obtain⟨hb,_,q1,q2⟩ :=hlook e;rcases lt_or_ge b' nb with g|g
   · obtain⟨b1,o1,L1,a1,a2,a3⟩ :=x2.own b' o' L' (q1 g) (by rw [eL g];exact k) i hi hlt;obtain⟨hb1,o2,e2,ho⟩ :=hkeys a1;rw [low hb1]at a2;exact⟨b1,o2,L1,e2,a2,ho _ _ a3⟩
   ·exact⟨b',o',L',q2 g,k,hi⟩
 · rcases x2.immo k C e hk with a| ⟨b1,o1,L1,a1,a2,a3⟩
   ·exact .inl a
   · obtain⟨hb1,o2,e2,ho⟩ :=hkeys a1;rw [low hb1]at a2;exact .inr ⟨b1,o2,L1,e2,a2,ho _ _ a3⟩
 · obtain⟨_,_,q1,q2⟩ :=hlook e;rcases lt_or_ge b nb with g|g
   · obtain⟨o0,e0⟩ :=x2.keys b o (q1 g) g;exact⟨_,(hkeys e0).2.choose_spec.1⟩
   ·exact⟨o,q2 g⟩
theorem aS7 {d:Nat→Nat}{h h':Hp}{f:Nat}{b args':List AV}{g:AFrame}(m:dG P h (.enter f b) =some g)(A:renL d b=args') :
  ∃s,dG P h' (.enter f args') =some s∧∀ {E:Emb} {fr:Frame},FR E s fr→FR (E.ren d) g fr:=by
 have j:∀ (l:List AV),(renL d l).length=l.length:=by
  intro l
  induction l with
  |nil=>rfl
  |cons x l p=>simp [renL,p]
 have o:∀ (l:List AV) (i:Nat) (x:AV),l[i]?=some x→ (renL d l)[i]?=some (ren d x) :=by
  intro l
  induction l with
  |nil=>intro i x k;simp at k
  | cons y l p=>
   intro i x k;cases i with
   |zero=>simp at k;subst k;simp [renL]
   |succ i=>simp only [renL,rR]at k ⊢;exact p i x k
 subst A;simp only [dG,dA]at m ⊢;split at m
 · rename_i fn z;split at m
   · rename_i c hc;cases m;refine⟨_,rfl,fun {E fr} fr'=>?_⟩;refine⟨fr'.fn,⟨by have:=fr'.tm.1;rw [j]at this;exact this,fun t a e=>?_⟩,?_,?_,fr'.mode,fr'.kind,?_⟩
     · have r:t<b.length∧b[t]?=some a:=by
        have n: (dN .leaf 0 b).at t=some a:=e;unfold dN at n;rw [bB]at n;split at n
        ·rename_i q;exact⟨q,n⟩
        ·cases n
       obtain⟨u,w,v⟩ :=fr'.tm.2 t (ren d a) (by
        show(dN .leaf 0 (renL d b)).at t=_;unfold dN;rw [bB,if_pos (by rw [j];exact r.1)];exact o b t a r.2)
       exact⟨u,w,(eO d E a u).1 v⟩
     ·have:=fr'.todo;simpa [IRs,IR]using this
     ·have:=fr'.defers;simpa [DRs]using this
     ·have:=fr'.round;simpa [RR]using this
   ·cases m
 ·cases m
def bHA (P:Program)(c:AIn)(h:Hp)(res:Res)(h':Hp) :Prop:=∃g,dG P h c=some g∧Ends P 0 ⟨g,[],h⟩ res h'
theorem aLG {a:Nat→Nat}{E:Emb}:∀ {c:List (AV×AV×Nat)} {d:List MapEntry},ERs (E.ren a) c d→ERs E (c.map fun p=> (ren a p.1,ren a p.2.1,p.2.2)) d
 | [],_,r=>by simpa [ERs]using r
 | e::c,_,r=>by
  simp only [ERs]at r;simp only [eU,ERs];obtain⟨u,b,i,h,f,g,j⟩ :=r;exact⟨u,b,i,(eO a E _ _).2 h,(eO a E _ _).2 f,g,aLG j⟩
def plainO :AObj→Bool
 | .cells .. | .map .. | .mapx .. | .lst .. | .loop .. | .defd .. | .zone .. =>true
 |_=>false
theorem bBh {g:Nat→Nat}{E:Emb}{H:Array Obj}{L:Loc}{o:AObj}(hp:plainO o=true)(r:OR (E.ren g) H L o) :OR E H L (o.ren g) :=by
 cases o with
 | cells t n ol D=>
  obtain⟨C,x,d,f,b⟩ :=r;refine⟨C,x,d,f,fun i a e=>?_⟩;rw [aEc]at e;cases h:t.at i with
  |none=>rw [h]at e;cases e
  | some j=>
   rw [h]at e;cases e;obtain⟨s,v,m,R⟩ :=b i j h;exact⟨s,v,m,(eO g E j v).2 R⟩
 |map F c=>obtain⟨w,d,f⟩ :=r;exact⟨w,d,aLG f⟩
 | mapx F c k v=>
  obtain⟨w,d,f,b⟩ :=r;refine⟨w,d,?_,b⟩;obtain⟨I,p,K,X,z⟩ :=ERs.split f;rw [K];refine ERs.join (b (E.ren g) E I rfl X) ?_;simp only [ERs]at z ⊢;obtain⟨u,q,W,B,T,N,G⟩ :=z;exact⟨u,q,W,(eO g E _ _).2 B,(eO g E _ _).2 T,N,G⟩
 |lst e Q=>obtain⟨C,x,p,d,f,b,V⟩ :=r;exact⟨C,x,p,d,f,(nR g E Q p).2 b,V⟩
 |defd t=>exact r
 | loop st pe fn J nt Y aS bd df=>
  obtain⟨l,S,d,f,b⟩ :=r;refine⟨l,S,d,f,b.1,fun t a e=>?_⟩;rw [aEc]at e;cases h:J.at t with
  |none=>rw [h]at e;cases e
  | some j=>
   rw [h]at e;cases e;obtain⟨y,s,m⟩ :=b.2 t j h;exact⟨y,s,(eO g E j y).2 m⟩
 | zone w0 r0 Z=>
  obtain⟨O,M,U,A⟩ :=r;exact⟨O,M,by rw [List.map_map];exact U,A⟩
 |_=>cases hp
def xK :List (Nat×AObj×Bool) →Bool
 | [] =>true
 |p::r=> (p.2.2||plainO p.2.1) &&xK r
theorem aFu :∀ {l:List (Nat×AObj×Bool)},xK l=true→∀p∈l,p.2.2=true∨plainO p.2.1=true
 | q::r,h,p,a=>by
  simp only [xK,dS,Bool.or_eq_true]at h;rcases zq7.1 a with rfl|a
  ·exact h.1
  ·exact aFu h.2 p a
def namesT (τ:Nat→Nat) :List (Nat×AObj×Bool) →List Nat
 | [] =>[]
 |p::r=>τ p.1::namesT τ r
theorem aFv {a:Nat→Nat}{b:Nat}:∀ {l:List (Nat×AObj×Bool)},b∈namesT a l→∃p∈l,a p.1=b
 | q ::r,h=>by
  rcases zq7.1 h with e|h
  ·exact⟨q,cQ ..,e.symm⟩
  · obtain⟨p,c,e⟩ :=aFv h;exact⟨p,cL _ c,e⟩
def aDy (names ks:List Nat)(h1:Hp) :List (Nat×AObj×Bool) →List (Option AObj)
 | [] =>[]
 |p::r=> (bif aAf p.1 names then some p.2.1 else bif aAf p.1 ks then none else h1.look p.1) ::aDy names ks h1 r
theorem aHF {a ks:List Nat}{h1:Hp}:∀ {l:List (Nat×AObj×Bool)},aDy a ks h1 l=vX l→∀p∈l,p.1∈a∨ (p.1∉ks∧h1.look p.1=some p.2.1)
 | q ::r,h,p,b=>by
  simp only [aDy,vX,List.cons.injEq]at h;rcases zq7.1 b with rfl|b
  · cases hm:aAf p.1 a
    case true=>exact .inl ((aBK _ _).1 hm)
    have h1:=h.1;rw [hm]at h1;simp only [cond]at h1;cases hk:aAf p.1 ks
    case true=>rw [hk]at h1;cases h1
    rw [hk]at h1;exact .inr ⟨fun c=>by(rw [(aBK _ _).2 c]at hk;cases hk),h1⟩
  ·exact aHF h.2 p b
theorem CR.of_p {E:Emb}:∀ {c:List (AV×Bool)} {b:List PanicEntry},CR E.p c b→CR E c b
 | [],_,r=>by simpa [CR]using r
 | a::l,_,r=>by
  simp only [CR]at r ⊢;obtain⟨v,b,e,f,d⟩ :=r;exact⟨v,b,e,f.of_p,d.of_p⟩
def eS (P:Program)(m:Nat)(c:AIn)(h:Hp)(res:Res)(h':Hp) :Prop:=∃g,dG P h c=some g∧Ends P m ⟨g,[],h⟩ res h'
def kC (m n2:Nat)(ks:List Nat)(b:Nat) :Nat:=bif blt b m then ks.getD b 0 else b-m+n2
theorem aS8 {f:Nat}{args args':List AV}{res res':Res}{l l' lc lc':List (Nat×AObj×Bool)}{m nb d n2:Nat}{ks:List Nat}
  (h0:eS P m (.enter f args) (aA l nb) res (aA l' d)) (hres:∀ {F:Emb} {loc:Nat→Option Loc} {cl cl':Frame},F.le ((⟨loc,F.imm⟩ :Emb).ren (kC m n2 ks)) →Got F cl res cl'→Got ⟨loc,F.imm⟩ cl res' cl') (hargs:renL (fK 0 nb n2 ks) args=args') (hm:ble m nb=true) (hm':ble m d=true)
  (X:dH 0 ⟨⟨0,0,[],[],[],.run,.normal,none⟩,[],l,nb⟩ ks=true) (hl:uL (aA lc n2) (fK 0 nb n2 ks) l=iK (fK 0 nb n2 ks) l) (hkl:eY l)
  (hl':uL (aA lc' (d-m+n2)) (kC m n2 ks) l'=iK (kC m n2 ks) l') (hkl':eY l') (hpl:xK l'=true) (hk':fZ d l'=true)
  (hx:fZ n2 lc=true) (hx':fZ (d-m+n2) lc'=true) (hlt:ks.all (fun k=>blt k n2) =true) (hout:aDy (namesT (kC m n2 ks) l') (l.map fun p=>ks.getD p.1 0) (aA lc n2) lc'=vX lc') (hll:vX l'= (l'.map fun p=> (aA l' d).look p.1)) :
  Spec P (.enter f args') (aA lc n2) res' (aA lc' (d-m+n2)) :=by
 obtain⟨g,hg,he⟩ :=h0;obtain⟨g',hg',hfr⟩ :=aS7 (h':=aA lc n2) hg hargs;refine⟨g',hg',?_⟩;intro _ E fr ccs w fr' fs r cl base;have hm:=Nat.le_of_ble_eq_true hm;have hm':=Nat.le_of_ble_eq_true hm';have Q:∀ {k:Hp} {l:List (Nat×AObj×Bool)},vX l= (l.map fun p=>k.look p.1) →∀p∈l,k.look p.1=some p.2.1:=by
  intro k l
  induction l with
  |nil=>intro _ p W;cases W
  | cons q l ih=>
   intro h p W;simp only [vX,eU,List.cons.injEq]at h;rcases zq7.1 W with rfl|W
   ·exact h.1.symm
   ·exact ih h.2 p W
 have hlenks:ks.length=nb:=by
  simp only [dH,dS]at X;have:=fM X.1.1.1.2;simpa using this
 have U:∀ {b},b<nb→fK 0 nb n2 ks b=ks.getD b 0:=fun {b} hb=>by
  rw [aEe (zero_le b) hb,Nat.sub_zero]
 have gin:∀ {b},b<nb→ks.getD b 0∈ks:=fun {b} hb=>by
  rw [nY,kX (by omega)];exact List.getElem_mem ..
 have glt:∀ {b},b<nb→ks.getD b 0<n2:=fun {b} hb=>by
  have:=zq27.1 hlt _ (gin hb);rw [dD,decide_eq_true_eq]at this;exact this
 have slo:∀ {b},b<m→kC m n2 ks b=ks.getD b 0:=fun {b} hb=>by unfold kC;rw [dD,decide_eq_true hb];rfl
 have shi:∀ {b},m≤b→kC m n2 ks b=b-m+n2:=fun {b} hb=>by unfold kC;rw [dD,decide_eq_false (by omega)];rfl
 have s:∀ {b o},(aA l nb).look b=some o→b<nb∧∃z,(aA lc n2).look (fK 0 nb n2 ks b) =some z∧∀L i,Own o L i→Own z L i:=fun {b o} e=>by
  obtain⟨fl,u⟩ :=kM e;have hb:b<nb:=by
   simp only [dH,dS]at X;exact(eK X.2 _ u).1
  exact⟨hb,_,sR hl _ u,fun _ _ h=>yY h⟩
 have Y:∀ {b o},(aA lc n2).look b=some o→b<n2∧bY o= [] :=fun {b o} e=>by
  obtain⟨fl,u⟩ :=kM e;exact eK hx _ u
 have apart:∀ {b H o T L L'},(aA lc n2).look b=some o→ (aA lc n2).look H=some T→E b=some L→E H=some L'→b≠H→¬Meet o T L L':=fun {b H o T L L'} e e' k N hne A=>by
  have:=r.kin b H o T L L' e e' k N A hne;unfold Kin at this;rw [(Y e).2,(Y e').2]at this;rcases this with⟨g,_⟩ | ⟨g,_⟩ <;>simp at g
 obtain⟨rL,_⟩ :=lX (h:=aA lc n2) X hl hkl r;have frL:=hfr fr';rw [fs.nil_inv];obtain⟨cl',w',F,s1,g2,r2,I⟩ :=he hm (E.ren (fK 0 nb n2 ks)) fr [] w frL rfl rL cl base
 have eL:∀ {b},b<m→F b=E (ks.getD b 0) :=fun {b} hb=>by
  rw [I.low b hb];show E (fK 0 nb n2 ks b) =_;rw [U (by omega)]
 let E':Emb:= ⟨fun b=>if b<n2 then E b else F (b-n2+m),F.imm⟩
 have e1:∀ {b},b<n2→E' b=E b:=fun {b} hb=>if_pos hb;have e2:∀ {b},n2≤b→E' b=F (b-n2+m) :=fun {b} hb=>if_neg (by omega)
 have hE:∀b,E' (kC m n2 ks b) =F b:=fun b=>by
  rcases lt_or_ge b m with hb|hb
  ·rw [slo hb,e1 (glt (by omega)),eL hb]
  ·rw [shi hb,e2 (by omega),show b-m+n2-n2+m=b by omega]
 have hsig:F.le (E'.ren (kC m n2 ks)) := ⟨fun b L e=>by show E' (kC m n2 ks b) =some L;rw [hE];exact e,fun _ _ e=>e⟩;have hEE:E.le E':= ⟨fun b L e=>by rw [e1 (r.nb_gt e)];exact e,fun k C e=>I.imm k C e⟩
 have c:∀ {b o},(aA lc' (d-m+n2)).look b=some o→b<d-m+n2∧bY o= [] ∧ ((∃i q f,i<d∧kC m n2 ks i=b∧ (aA l' d).look i=some q∧o= (bif f then q else q.ren (kC m n2 ks)) ∧ (f=true→q.kl) ∧ (f=true∨plainO q=true)) ∨ (b∉ (l.map fun p=>ks.getD p.1 0) ∧b<n2∧ (aA lc n2).look b=some o)) :=fun {b o} e=>by
  obtain⟨fl,u⟩ :=kM e;refine⟨(eK hx' _ u).1,(eK hx' _ u).2,?_⟩;rcases aHF hout _ u with O|O
  · obtain⟨⟨i,q,f⟩,W,G⟩ :=aFv O;have S:= (eK hk' _ W).1;have hw:=sR hl' _ W;simp only at G hw S;rw [G,e]at hw;cases hw;exact .inl ⟨i,q,f,S,G,Q hll _ W,rfl,fun hf=>by subst hf;exact pK hkl' i q W,aFu hpl _ W⟩
  ·exact .inr ⟨O.1,(Y O.2).1,O.2⟩
 have away:∀ {b o L},b∉ (l.map fun p=>ks.getD p.1 0) → (aA lc n2).look b=some o→E b=some L→∀R z M,(aA l nb).look R=some z→ (E.ren (fK 0 nb n2 ks)) R=some M→∀i,Own z M i→¬Own o L i:=fun {b o L} hb e k R z M e1' k1 i i1 i2=>by
  obtain⟨hb1,o2,B,v⟩ :=s e1';obtain⟨fl,u⟩ :=kM e1';exact apart B e k1 k (fun h=>hb (h ▸ zq24.2 ⟨(R,z,fl),u,(U hb1).symm⟩)) ⟨i,v _ _ i1,i2⟩
 have Z:∀ {i H q T L L'},H∉ (l.map fun p=>ks.getD p.1 0) → (aA l' d).look i=some q→ (aA lc n2).look H=some T→F i=some L→E H=some L'→¬Meet q T L L':=fun {i H q T L L'} h2 e e' k N A=>by
  obtain⟨y,i1,i2⟩ :=A;obtain⟨R,z,M,a1,a2,a3⟩ :=I.own i q L e k y i1 (r.lt e' N y i2);exact away h2 e' N R z M a1 a2 y a3 i2
 refine⟨_,w',E',s1,hres hsig g2,⟨fun b o e=>?_,fun b H o T L L' e e' k N A hne=>?_,fun b hb=>?_,r2.imm,fun b o L e k y hy=>?_,fun b o e=> (c e).1⟩,
  ⟨fun b hb=>e1 hb,hEE.2,I.size,fun i S O=>?_,fun H T L' e k y hy hlt=>?_,?_,I.os,I.tape,I.output,I.froz,fun k C e hk=>?_,fun b o e hb=>?_⟩⟩
 · obtain ⟨hb,_,h⟩ :=c e;rcases h with⟨i,q,f,S,G,j,v,hf,V⟩ | ⟨hb',hb2,j⟩
   · subst G;rcases r2.obj0 i q j with⟨u1,u2⟩ | ⟨L,k1,k2⟩
     · refine .inl ⟨?_,by rw [hE];exact u2⟩;rw [v];cases f with
       |true=>exact u1
       | false=>cases q with
        | lst e xs=>cases xs with
         |nil=>rfl
         |cons x xs=>cases u1
        |_=>cases u1
     · refine .inr ⟨L,by rw [hE];exact k1,?_⟩;rw [v];cases f
       case true=>exact bEN (E:=F) (E':=E') rfl (hf rfl) k2
       rcases V with hh|hh
       ·cases hh
       ·exact bBh hh (k2.mono hsig)
   · rcases r.obj0 b o j with⟨u1,u2⟩ | ⟨L,k1,k2⟩
     ·exact .inl ⟨u1,by rw [e1 hb2];exact u2⟩
     ·exact .inr ⟨L,by rw [e1 hb2];exact k1,(k2.mono hEE).heap fun i S=>I.keep _ (k2.lt i S) (fun R z M h1 h2 h3=>away hb' j k1 R z M h1 h2 i h3 S)⟩
 · obtain⟨hb,hol,h⟩ :=c e;obtain⟨hb',hol',h'⟩ :=c e'
   have hkin:∀ {o:AObj} {f:Bool} {q:AObj},o= (bif f then q else q.ren (kC m n2 ks)) →bY o= [] →bY q= [] :=fun {o f q} v hol=>by
    cases f
    case true=>subst v;exact hol
    subst v;cases q with
    | cells t n ol sup=>
     have:ol.map (kC m n2 ks) = [] :=hol;exact List.map_eq_nil_iff.1 this
    |_=>rfl
   rcases h with⟨i,q,f,S,G,j,v,hf,V⟩ | ⟨O,J,j⟩
   · subst G;rw [hE]at k;rcases h' with⟨i',q',f',hi',ht',D,K,hf',hpo'⟩ | ⟨hn',hn2',D⟩
     · subst ht';rw [hE]at N;have:=r2.kin i i' q q' L L' j D k N (by obtain⟨y,i1,i2⟩ :=A;exact⟨y,sQ v i1,sQ K i2⟩) (fun e=>hne (by rw [e]));unfold Kin at this;rw [hkin v hol,hkin K hol']at this;rcases this with⟨g,_⟩ | ⟨g,_⟩ <;>simp at g
     · rw [e1 hn2']at N;obtain⟨y,i1,i2⟩ :=A;exact(Z hn' j D k N ⟨y,sQ v i1,i2⟩).elim
   · rw [e1 J]at k;rcases h' with⟨i',q',f',hi',ht',D,K,hf',hpo'⟩ | ⟨hn',hn2',D⟩
     · subst ht';rw [hE]at N;obtain⟨y,i1,i2⟩ :=A;exact(Z O D j N k ⟨y,sQ K i2,i1⟩).elim
     · rw [e1 hn2']at N;exact r.kin b H o T L L' j D k N A hne
 · have hb:d-m+n2≤b:=hb;rw [e2 (by omega)];exact r2.fresh _ (by show d≤_;omega)
 · obtain⟨hb,_,h⟩ :=c e;show F.imm y=none;rcases h with⟨i,q,f,S,G,j,v,hf,V⟩ | ⟨O,J,j⟩
   · subst G;rw [hE]at k;exact r2.apart i q L j k y (sQ v hy)
   · rw [e1 J]at k;cases hc:F.imm y with
     |none=>rfl
     | some C=>
      rcases I.immo _ C hc (r.lt j k y hy)with a| ⟨R,z,M,a1,a2,a3⟩
      · have:=r.apart b o L j k y hy;rw [show(E.ren (fK 0 nb n2 ks)).imm=E.imm from rfl]at a;rw [this]at a;cases a
      ·exact absurd hy (away O j k R z M a1 a2 y a3)
 · refine I.keep i S (fun b o L e k hh=>?_);obtain⟨hb,z,e1',v⟩ :=s e;exact O _ z L e1' k (v _ _ hh)
 · obtain⟨hb,_,h⟩ :=c e;rcases h with⟨i,q,f,S,G,j,v,hf,V⟩ | ⟨O,J,j⟩
   · subst G;rw [hE]at k;obtain⟨R,z,M,a1,a2,a3⟩ :=I.own i q L' j k y (sQ v hy) hlt;obtain⟨_,o2,B,K⟩ :=s a1;exact⟨_,o2,M,B,a2,K _ _ a3⟩
   · rw [e1 J]at k;exact⟨H,T,L',j,k,hy⟩
 ·show n2≤d-m+n2;omega
 · rcases I.immo k C e hk with a| ⟨R,z,M,a1,a2,a3⟩
   ·exact .inl a
   · obtain⟨_,o2,B,v⟩ :=s a1;exact .inr ⟨_,o2,M,B,a2,v _ _ a3⟩
 · have hb:b<n2:=hb;obtain⟨_,_,h⟩ :=c e;rcases h with⟨i,q,f,S,G,j,v,hf,V⟩ | ⟨O,J,j⟩
   · rcases lt_or_ge i m with him|him
     · obtain⟨o0,e0⟩ :=I.keys i q j him;obtain⟨hi2,o2,B,_⟩ :=s e0;rw [U hi2,←slo him,G]at B;exact⟨o2,B⟩
     · rw [shi him]at G;omega
   ·exact⟨o,j⟩
theorem aVW {f:Nat}{b args':List AV}{v:AV}{l l' lc lc':List (Nat×AObj×Bool)}{m nb a n2:Nat}{ks:List Nat}
  (z:eS P m (.enter f b) (aA l nb) (.ret v) (aA l' a)) (c:renL (fK 0 nb n2 ks) b=args') (hm:ble m nb=true) (i:ble m a=true)
  (w:dH 0 ⟨⟨0,0,[],[],[],.run,.normal,none⟩,[],l,nb⟩ ks=true) (hl:uL (aA lc n2) (fK 0 nb n2 ks) l=iK (fK 0 nb n2 ks) l) (o:eY l)
  (s:uL (aA lc' (a-m+n2)) (kC m n2 ks) l'=iK (kC m n2 ks) l') (h:eY l') (n:xK l'=true) (j:fZ a l'=true)
  (A:fZ n2 lc=true) (u:fZ (a-m+n2) lc'=true) (q:ks.all (fun k=>blt k n2) =true) (d:aDy (namesT (kC m n2 ks) l') (l.map fun p=>ks.getD p.1 0) (aA lc n2) lc'=vX lc') (t:vX l'= (l'.map fun p=> (aA l' a).look p.1)) :
  Spec P (.enter f args') (aA lc n2) (.ret (ren (kC m n2 ks) v)) (aA lc' (a-m+n2)) :=
 aS8 z (fun r g=>by
  obtain⟨x,e,y⟩ :=g;exact⟨x,e,(eO _ _ v x).2 (y.mono r)⟩) c hm i w hl o s h n j A u q d t
def aJi (fr:AFrame)(cs:List AFrame)(all:Array Oper)(i:Nat)(o:Oper)(rest:List Oper)(k:List AItem) :List (AV×Hp) →Option (List AS)
 | [] =>some []
 | p::ps=>match iG fr.tm fr.nt o.dst p.1,aJi fr cs all i o rest k ps with
  |some tm,some l=>some (⟨{fr with tm,todo:=.ops all (Nat.succ i) rest::k},cs,p.2⟩ ::l)
  |_,_=>none
def aBM (s:AS) :Option (List AS) :=
 match s.fr.mode with
 | .run=>match s.fr.todo with
  | .ops all i (o::rest) ::k=>match bX s.fr.tm all.toList o with
   | some true=>match o.op with
    | .next it false=>match bN s.fr.tm it with
     | some (.ptr r 0) =>match aHn s.h r with
      |some l=>aJi s.fr s.cs all i o rest k l
      |none=>none
     |_=>none
    |_=>none
   |_=>none
  |_=>none
 |_=>none
theorem aFw {fr:AFrame}{cs:List AFrame}{all:Array Oper}{i:Nat}{o:Oper}{rest:List Oper}{k:List AItem}:∀ {ps:List (AV×Hp)} {l:List AS},aJi fr cs all i o rest k ps=some l→∀p∈ps,∃tm,iG fr.tm fr.nt o.dst p.1=some tm∧ (⟨{fr with tm,todo:=.ops all (Nat.succ i) rest::k},cs,p.2⟩ :AS) ∈l
 | [],_,_,p,hp=>by cases hp
 | q ::ps,l,h,p,hp=>by
  simp only [aJi]at h;split at h
  · rename_i tm l' h1 h2;cases h;rcases zq7.1 hp with rfl|hp
    ·exact⟨tm,h1,cQ ..⟩
    · obtain⟨tm',g1,g2⟩ :=aFw h2 p hp;exact⟨tm',g1,cL _ g2⟩
  ·cases h
theorem Goes.then {E:Emb}{h:Hp}{fr:Frame}{ccs:List Frame}{w:World}{base:List Frame}{a b:AS}(h1:Goes P E h fr ccs w base a)(h2:Leads P a b) :Goes P E h fr ccs w base b:=by
 obtain⟨E1,fr1,cs1,w1,s1,f1,fs1,r1,x1⟩ :=h1;obtain⟨E2,fr2,cs2,w2,s2,f2,fs2,r2,x2⟩ :=h2 E1 fr1 cs1 w1 base f1 fs1 r1;exact⟨E2,fr2,cs2,w2,s1.trans s2,f2,fs2,r2,x1.trans x2⟩
theorem aFx {s s':AS}{l:List AS}(h0:aBM s=some l)(hall:∀x∈l,Leads P x s') :Leads P s s':=by
 obtain⟨fr,cs,h⟩ :=s;unfold aBM at h0;simp only at h0;split at h0
 · rename_i hm;split at h0
   · rename_i all i o rest ak htd;split at h0
     · rename_i hw;split at h0
       · rename_i it hop;split at h0
         · rename_i r ha;split at h0
           · rename_i outs hl;intro E cfr ccs w base f fs R;simp only at f fs R;have e:=f.run hm;generalize cfr.fn=fn at e;generalize cfr.tmps=tmps at e;generalize cfr.todo=todo at e;generalize cfr.defers=ds at e;generalize cfr.kind=kd at e;generalize cfr.roundOf=ro at e;subst e;have ft:=f.todo;rw [htd]at ft;obtain⟨ci,k,e,i1,i2⟩ :=ft.cons_inv;simp only at e;subst e;obtain⟨rfl,ho,i3⟩ :=aFh i1;have hd: (all[i]?).bind (·.dst) =o.dst:=by rw [ho];rfl
             have hwant:Region.wanted o (yielded all tmps) =true:=aAt f.tm hw;have hρ:=TR.reads (E:=E) f.tm fn (.inRegion all (i::range' (i+1) rest.length) ::k) ds kd ro (· ∈o.op.operands);have hv:=hρ it (by rw [hop];simp [Op.operands]) _ ha;simp only [VR]at hv;obtain⟨L,hE,hL⟩ :=hv;have hz:L.sh=0:=by
              unfold aHn at hl;split at hl
              · rename_i m since seen last hmi;obtain⟨L',g1,Lm,g2,g3,g4⟩ :=R.obj _ _ hmi;rw [hE]at g1;cases g1;exact g4
              ·cases hl
             obtain⟨v,h',g0,cv,w',g1,g2,g3,g4⟩ :=aDo (P:=P) R hl hE hz;obtain⟨tm',q1,q2⟩ :=aFw h0 _ g0;refine Goes.then ?_ (hall _ q2)
             have hnd:∀c,o.op≠ .defer c:=fun c hc=>by rw [hop]at hc;cases hc
             have hx: (execOp (rf fn tmps (.inRegion all (i::range' (i+1) rest.length) ::k) ds kd ro).eval o).run P w= .ok (.value cv) w':=by
              unfold execOp;simp only [hop];have e2: (rf fn tmps (.inRegion all (i::range' (i+1) rest.length) ::k) ds kd ro).eval it= .pointer (some ⟨L.blk,0,none⟩) :=by rw [hL,hz]
              simp only [Sem.run_bind,e2,g1,Result.andThen_ok,Sem.run_pure]
             refine Goes.one (tX ho hwant (.inr hnd) hx) ?_ (fs.mono g4.le) g3 g4;simp only [Frame.finish,hd];refine⟨f.fn,?_,IRs.cons (i3.mono g4.le) (i2.mono g4.le),f.defers.mono g4.le,by simp only [hm];exact rfl,f.kind,f.round.mono g4.le⟩;have:=aAQ (f.tm.mono g4.le) q1 g2;unfold aAP at this;exact this
           ·cases h0
         ·cases h0
       ·cases h0
     ·cases h0
   ·cases h0
 ·cases h0
theorem Rel.older {E:Emb}{h:Hp}{H:Array Obj}(r:Rel E h H){b:Nat}{t:T AV}{n:Nat}{o1 o2:List Nat}{sup:Bool}(hb:h.look b=some (.cells t n o1 sup))(hs:∀x∈o1,x∈o2) :Rel E (h.set b (.cells t n o2 sup)) H:=by
 have old:∀ {x o},(h.set b (.cells t n o2 sup)).look x=some o→∃o',h.look x=some o'∧kL o'=kL o∧jF o'=jF o∧nOf o'=nOf o∧ (∀y∈bY o',y∈bY o) ∧ (∀L,OR E H L o'→OR E H L o) ∧∀L i,Own o L i→Own o' L i:=fun {x o} e=>by
  rw [bA]at e;split at e
  · rename_i hx;subst hx;cases e;exact⟨_,hb,rfl,rfl,rfl,hs,fun L ho=>ho,fun _ _ h=>h⟩
  ·exact⟨o,e,rfl,rfl,rfl,fun _ h=>h,fun _ h=>h,fun _ _ h=>h⟩
 refine⟨fun x o e=>?_,fun x x' o o' L L' e e' k k' hbl hne=>?_,r.fresh,r.imm,fun x o L e k i hi=>?_,fun x o e=>?_⟩
 · obtain⟨o',e1,g1,_,_,_,g5,_⟩ :=old e;rcases r.obj0 x o' e1 with⟨a1,a2⟩ | ⟨L,a1,a2⟩
   ·exact .inl ⟨by rw [←g1];exact a1,a2⟩
   ·exact .inr ⟨L,a1,g5 L a2⟩
 · obtain⟨p,e1,_,g2,g3,g4,_,g6⟩ :=old e;obtain⟨p',e1',_,g2',g3',g4',_,g6'⟩ :=old e';obtain⟨i,i1,i2⟩ :=hbl;rcases r.kin x x' p p' L L' e1 e1' k k' ⟨i,g6 _ _ i1,g6' _ _ i2⟩ hne with⟨a1,a2,a3⟩ | ⟨a1,a2,a3⟩
   ·exact .inl ⟨g4 _ a1,by rw [←g2'];exact a2,by rw [←g3',←g3];exact a3⟩
   ·exact .inr ⟨g4' _ a1,by rw [←g2];exact a2,by rw [←g3,←g3'];exact a3⟩
 · obtain⟨o',e1,_,_,_,_,_,g6⟩ :=old e;exact r.apart x o' L e1 k i (g6 _ _ hi)
 · obtain⟨o',e1,_⟩ :=old e;exact r.keys x o' e1
def AS.older (s:AS)(b:Nat)(o2:List Nat) :Option AS:=
 match s.h.look b with
 |some (.cells t n o1 sup) =>bif o1.all (fun x=>aAL x o2)then some {s with h:=s.h.set b (.cells t n o2 sup)} else none
 |_=>none
theorem aLH {s s':AS}{b:Nat}{o2:List Nat}(h0:s.older b o2=some s') :Leads P s s':=fun E fr ccs w base f fs r=>by
 unfold AS.older at h0;split at h0
 · rename_i t n o1 sup hb;cases hc:o1.all (fun x=>aAL x o2)with
   |false=>rw [hc]at h0;cases h0
   | true=>
    rw [hc]at h0;simp only [cond]at h0;cases h0
    have hs:∀x∈o1,x∈o2:=fun x hx=>by
     have:=zq27.1 hc x hx;rw [rW]at this;simpa using this
    have keys:∀ {x o},(s.h.set b (.cells t n o2 sup)).look x=some o→∃o',s.h.look x=some o'∧∀L i,Own o L i→Own o' L i:=fun {x o} e=>by
     rw [bA]at e;split at e
     ·rename_i hx;subst hx;cases e;exact⟨_,hb,fun _ _ h=>h⟩
     ·exact⟨o,e,fun _ _ h=>h⟩
    exact⟨E,fr,ccs,w,Steps.refl _ _,f,fs,r.older hb hs,⟨Emb.le.refl E,le_refl _,fun _ _ _=>rfl,fun x o L h1 h2 i hi _=>by obtain⟨o',e,ho⟩ :=keys h1;exact⟨x,o',L,e,h2,ho L i hi⟩,le_refl _,rfl,rfl,rfl,fun _ _=>rfl,fun _ _=>rfl,fun _ _ e _=>.inl e,fun x o e _=>by obtain⟨o',e',_⟩ :=keys e;exact⟨o',e'⟩⟩⟩
 ·cases h0
structure LFr where
 fn:Nat
 tm:List (Nat×AV)
 nt:Nat
 todo:List AItem
 defers:List ADef
 mode:AMode
 kind:CallKind
 ro:Option Nat
structure LS where
 fr:LFr
 cs:List LFr
 hp:List (Nat×AObj)
 nb:Nat
def LFr.fr' (f:LFr) :AFrame:= ⟨f.fn,aJf f.tm,f.nt,f.todo,f.defers,f.mode,f.kind,f.ro⟩
def LS.as (s:LS) :AS:= ⟨s.fr.fr',s.cs.map LFr.fr',⟨aJf s.hp,s.nb⟩⟩
def bFT {α:Type}:List (Nat×α) →List Nat
 | [] =>[]
 |p::r=>p.1::bFT r
def aOP (f:AFrame)(l:LFr) :AFrame:={f with tm:=aJf (aFn f.tm (bFT l.tm))}
def aJj :List AFrame→List LFr→List AFrame
 |f::fs,l::ls=>aOP f l::aJj fs ls
 |fs,_=>fs
def AS.keep (s:AS)(l:LS) :AS:= ⟨aOP s.fr l.fr,aJj s.cs l.cs,⟨aJf (aFn s.h.t (bFT l.hp)),s.h.nb⟩⟩
def dV (P:Program)(call:bP)(n:Nat)(a b:LS) :Option AS:=
 match nP P call n a.as with
 |some s'=>some (s'.keep b)
 |none=>none
theorem aBN {E:Emb}{f:AFrame}{c:Frame}(h:FR E f c)(l:LFr) :FR E (aOP f l) c:=
 ⟨h.fn,⟨h.tm.1,fun t a e=>h.tm.2 t a (sP (aEb e))⟩,h.todo,h.defers,h.mode,h.kind,h.round⟩
theorem aAB {E:Emb}:∀ {fs:List AFrame} {a:List Frame} (b:List LFr),FRs E fs a→FRs E (aJj fs b) a
 | [],_,[],h=>h
 | [],_,_::_,h=>h
 |_::_,_,[],h=>h
 | f::fs,a,l::b,h=>by
  obtain⟨c,d,rfl,g,e⟩ :=FRs.cons_inv h;exact FRs.cons (aBN g l) (aAB b e)
theorem aAU (s:AS)(l:LS) :Leads P s (s.keep l) :=fun E fr c w d f fs r=>by
 have a:∀b o,(s.keep l).h.look b=some o→s.h.look b=some o:=fun b o e=>sP (aEb e);exact⟨E,fr,c,w,Steps.refl _ _,aBN f l.fr,aAB l.cs fs,r.sub a (le_refl _),⟨Emb.le.refl E,le_refl _,fun _ _ _=>rfl,fun b o L g j i h _=> ⟨b,o,L,a b o g,j,h⟩,le_refl _,rfl,rfl,rfl,fun _ _=>rfl,fun _ _=>rfl,fun _ _ e _=>.inl e,fun b o e _=> ⟨o,a b o e⟩⟩⟩
theorem aR {call:bP}(hc:eF P call){n:Nat}{a b:LS}(c:dV P call n a b=some b.as) :Leads P a.as b.as:=by
 unfold dV at c;split at c
 · rename_i e d;rw [uF]at d;rw [←Option.some.inj c];exact(rC hc d).trans (aAU e b)
 ·cases c
def aLI :List AS→List LS→List AS
 |a::l,b::ls=>a.keep b::aLI l ls
 |l,_=>l
theorem aHG :∀ {l:List AS} {e:List LS},aLI l e=e.map LS.as→∀x∈l,∃b∈e,x.keep b=b.as
 | [],_,_,x,d=>by cases d
 |a::l,[],h,x,d=>by simp [aLI]at h
 | a ::l,b::e,h,x,d=>by
  simp only [aLI,eU,List.cons.injEq]at h;rcases zq7.1 d with rfl|d
  ·exact⟨b,cQ ..,h.1⟩
  · obtain⟨c,g,f⟩ :=aHG h.2 x d;exact⟨c,cL _ g,f⟩
theorem aVq {s s':AS}{ls:List LS}(a: (aBM s).map (fun l=>aLI l ls) =some (ls.map LS.as))(h1:∀x∈ls,Leads P x.as s') :Leads P s s':=by
 cases e:aBM s with
 |none=>rw [e]at a;cases a
 | some l=>
  rw [e]at a;refine aFx e (fun x d=>?_);obtain⟨b,hb,c⟩ :=aHG (Option.some.inj a) x d;have:=aAU (P:=P) x b;rw [c]at this;exact this.trans (h1 b hb)
theorem bBi {s:AS}{b:Nat}{c:List Nat}{t:LS}(a: (s.older b c).map (fun x=>x.keep t) =some t.as) :Leads P s t.as:=by
 cases e:s.older b c with
 |none=>rw [e]at a;cases a
 | some x=>
  rw [e]at a;have:=aAU (P:=P) x t;have d:x.keep t=t.as:=Option.some.inj a;rw [d]at this;exact(aLH e).trans this
end
def Code.part :Code→List Nat→Code
 |c,[] =>c
 | .seq a b,n::p=>bif beq n 0 then Code.part a p else Code.part b p
 | .cond _ a b,n::p=>bif beq n 0 then Code.part a p else Code.part b p
 | .block _ c,_::p=>Code.part c p
 | .loop c,_::p=>Code.part c p
 | .scope c,_::p=>Code.part c p
 | .rangeFunc _ _ a b,n::p=>bif beq n 0 then Code.part a p else Code.part b p
 |c,_=>c
def cd (f:Func)(p:List Nat) :Code:=match f.body with
 |some c=>Code.part c p
 |none=>.skip
def od (f:Func)(p:List Nat) :Array Oper:=match cd f p with
 | .region _ ops _=>ops
 |_=> #[]
def bHB (f:Func)(p:List Nat)(k:Nat) :AItem:=.ops (od f p) k (drop k (od f p).toList)
abbrev cF :=List UInt8
def cG (n:Int) :AV:=.int .i64 n
def zA (b:Bool) :AV:=.bool b
def dP (s:cF) :AV:=.str (length s) (aF s)
theorem bL {a:Type}{f:a→AV}{l:List a}{i:Nat}{y:a}(h:l[i]?=some y) : (List.map f l)[i]?=some (f y) :=by rw [tJ,h];rfl
theorem cI {a:Type}{f:a→AV}{l:List a}{i:Nat}{y:a}(h:l[i]?=some y) : (List.map f l)[0+i]?=some (f y) :=by rw [fE];exact bL h
theorem aJk {a:Type}(f:a→AV)(l:List a) :0+length l≤length (List.map f l) :=by simp
theorem aJl {a:Type}(f:a→AV)(l m:List a) :take (length l) (drop 0 (List.map f l)) ++List.map f m=List.map f (l++m) :=by
 rw [List.drop_zero,aAG (by simp),aIx]
theorem aJm {a:Type}(f:a→AV)(l m:List a) :length l+length (List.map f m) =length (l++m) :=by simp
theorem oH {a:Type}(f:a→AV)(l:List a)(i:Nat)(y:a) : (List.map f l).set (0+i) (f y) =List.map f (set l i y) :=by rw [fE,List.map_set]
theorem aEf {a:Type}(f:a→AV)(n:Nat)(y:a) :replicate n (f y) =List.map f (replicate n y) :=by rw [List.map_replicate]
theorem bK {b e o n m:Nat}{x:Bool}(h:n=m) :AV.gl b e o n x= .gl b e o m x:=by rw [h]
theorem aHH {a:Type}(f:a→AV)(l:List a){b e:Nat}{x:Bool}:frzOk b e (List.map f l) (List.map f l) (.gl b e 0 (length l) x) :=by
 simp only [frzOk];intro _;exact⟨trivial,by simp,by rw [List.drop_zero,aAG (by simp)]⟩
inductive Pat where
 |mk (form n:Int) (text:cF) (parts:List Pat)
mutual
def Pat.av :Pat→AV
 | .mk f n t ps=>.agg [.int .i64 f,.int .i64 n,dP t,.ilst 4 (Pats.av ps) false]
def Pats.av :List Pat→List AV
 | [] =>[]
 |p::ps=>Pat.av p::Pats.av ps
end
theorem aH :∀l,Pats.av l=List.map Pat.av l
 | [] =>rfl
 |p::a=>by rw [Pats.av,aH a];rfl
mutual
theorem nB :∀p,keyless (Pat.av p) =true
 | .mk f n t a=>by simp only [Pat.av,keyless,keylessL,aBO a,dP,Bool.and_true]
theorem aBO :∀ (l:List Pat),keylessL (Pats.av l) =true
 | [] =>rfl
 |p::a=>by simp only [Pats.av,keylessL,nB p,aBO a,Bool.and_true]
end
theorem lY {l:List Pat}:keylessL (Pats.av l) =true:=aBO l
structure Con where
 name:cF
 args:Int
def Con.av (c:Con) :AV:=.agg [dP c.name,.int .i64 c.args]
structure Node where
 op:Int
 n:Int
 kids:List Int
 pats:List Pat
def Node.av (x:Node) :AV:=.agg [.int .i64 x.op,.int .i64 x.n,.ilst 1 (List.map cG x.kids) false,.ilst 4 (Pats.av x.pats) false]
structure Prog where
 nodes:List Node
 funs:List Int
 main:Int
 cons:List Con
def Prog.av (p:Prog) :AV:=.agg [.ilst 4 (List.map Node.av p.nodes) false,.ilst 1 (List.map cG p.funs) false,.int .i64 p.main,.ilst 2 (List.map Con.av p.cons) false]
section
theorem byte_at :∀ {s:cF} {k:Nat} {y:UInt8},s[k]?=some y→aF s / 256 ^ k % 256=y.toNat
 | c::s,0,y,h=>by
  simp only [mM,Option.some.injEq]at h;subst h;have:=c.toNat_lt;simp only [aF,Nat.pow_zero,Nat.div_one];omega
 | c::s,k+1,y,h=>by
  rw [rR]at h;have:=byte_at h;rw [←this];have hc:=c.toNat_lt;simp only [aF];rw [Nat.pow_succ',←Nat.div_div_eq_div_mul];congr 2;omega
theorem aCO {s:cF}{k:Int}{y:UInt8}(a:0≤k)(h:s[k.toNat]?=some y) :k< ((length s:Nat) :Int) :=by
 have:= (zq0.1 h).1;omega
theorem aCP {s:cF}{k:Int}{y:UInt8}(h:s[k.toNat]?=some y) :int .u8 ((mod (div (aF s) (pow 256 k.toNat)) 256:Nat) :Int) = .int .u8 ((y.toNat:Nat) :Int) :=by
 show int .u8 ((aF s / 256 ^ k.toNat % 256:Nat) :Int) =_;rw [byte_at h]
theorem aFy :∀ (s:cF) (k:Nat),aF s / 256 ^ k=aF (s.drop k)
 |s,0=>by simp
 | [],k+1=>by simp [aF]
 | c::s,k+1=>by
  rw [List.drop_succ_cons,←aFy s k,Nat.pow_succ',←Nat.div_div_eq_div_mul];congr 1;have:=c.toNat_lt;simp only [aF];omega
theorem aHI {k:IntKind}{i:Int}(h:0≤i) :gI (some (.int k i)) =some (some i.toNat) :=by
 show(if 0≤i then some (some i.toNat)else none) =_;rw [if_pos h]
theorem uN :gI none=some none:=rfl
variable {P :Program}
def aS9 (P:Program)(t:TypeId)(X:AV)(lo hi:Option AV)(V:AV) :Prop:=
 ∃l u m,gI lo=some l∧gI hi=some u∧gI none=some m∧ (tH P t X l u m=some V∨ (tH P t X l u m=none∧aCx P t X l u m=some V))
theorem aDz {t:TypeId}(a:P.underlying t=some .string){s:cF}{kk:IntKind}{k:Int}(c:0≤k)(h1:k.toNat≤s.length) :
  aS9 P t (dP s) (some (.int kk k)) none (dP (s.drop k.toNat)) :=by
 refine⟨_,_,_,aHI c,uN,uN,.inl ?_⟩;unfold tH dP;rw [a];simp only [Option.getD_some,Option.getD_none];have b:ble k.toNat s.length=true:=ble_eq ▸ h1;have e:ble s.length s.length=true:=ble_eq ▸ le_refl _;have d:div (aF s) (pow 256 k.toNat) =aF (s.drop k.toNat) :=aFy s k.toNat;rw [b,e,d];simp
theorem aTa {a:Type}{f:a→AV}{F:List a→List AV}(b:∀l,F l=List.map f l){t:TypeId}{e:Nat}(c:aAd P t e=true){xs:List a}{kk:IntKind}{k:Int}(d:0≤k)(h1:k.toNat≤xs.length) :
  aS9 P t (.ilst e (F xs) false) none (some (.int kk k)) (.ilst e (F (xs.take k.toNat)) false) :=by
 rw [b,b];refine⟨_,_,_,uN,aHI d,uN,.inr ⟨?_,?_⟩⟩
 ·unfold tH;split<;>simp_all
 · unfold aCx;simp only [c,cond,Option.getD_some,Option.getD_none,mR];rw [if_pos ⟨zero_le _,h1⟩];simp [List.map_take]
theorem aVX {a:Type}{f:a→AV}{t:TypeId}{e:Nat}(b:aAd P t e=true){xs:List a}{kk:IntKind}{k:Int}(c:0≤k)(h1:k.toNat≤xs.length) :
  aS9 P t (.ilst e (List.map f xs) false) none (some (.int kk k)) (.ilst e (List.map f (xs.take k.toNat)) false) :=aTa (fun _=>rfl) b c h1
theorem aVY {a:Type}(f:a→AV)(l:List a) : ((length (List.map f l) :Nat) :Int) = ((length l:Nat) :Int) :=by rw [mR]
section
variable {α :Type} {f:α→AV} {F:List α→List AV} (hF:∀l,F l=List.map f l)
include hF
theorem dL {l:List α}{i:Nat}{y:α}(h:l[i]?=some y) : (F l)[i]?=some (f y) :=by rw [hF];exact bL h
theorem aCQ {l:List α}{i:Nat}{y:α}(h:l[i]?=some y) : (F l)[0+i]?=some (f y) :=by rw [hF];exact cI h
theorem iY (l:List α) :0+length l≤length (F l) :=by rw [hF];exact aJk f l
theorem iZ (l m:List α) :take (length l) (drop 0 (F l)) ++F m=F (l++m) :=by rw [hF,hF,hF];exact aJl f l m
theorem jA (l m:List α) :length l+length (F m) =length (l++m) :=by rw [hF];exact aJm f l m
theorem aHJ (l:List α)(i:Nat)(y:α) : (F l).set (0+i) (f y) =F (set l i y) :=by rw [hF,hF];exact oH f l i y
theorem eM (l:List α) : ((length (F l) :Nat) :Int) = ((length l:Nat) :Int) :=by rw [hF,mR]
theorem aLJ (l:List α) :length (F l) =length l:=by rw [hF,mR]
theorem hX (l:List α){b e:Nat}{x:Bool}:frzOk b e (F l) (F l) (.gl b e 0 (length l) x) :=by rw [hF];exact aHH f l
end
theorem aFz :∀ (s:cF),aF s<256 ^ s.length
 | [] =>by simp [aF]
 | c::s=>by
  have:=aFz s;have:=c.toNat_lt;simp only [aF,qN,Nat.pow_succ];omega
theorem bytes_inj {s t:cF}(hl:s.length=t.length)(a:aF s=aF t) :s=t:=by
 rw [←fQ s,←fQ t,hl,a]
theorem xM (s t:cF) :kB (length s) (aF s) (length t) (aF t) =decide (s=t) :=by
 unfold kB;have b:mod (aF s) (pow 256 s.length) =aF s:=Nat.mod_eq_of_lt (aFz s);by_cases hl:s.length=t.length
 · rw [←hl,b];have c:mod (aF t) (pow 256 s.length) =aF t:=by rw [hl];exact Nat.mod_eq_of_lt (aFz t)
   rw [c,show beq s.length s.length=true from Nat.beq_refl _];by_cases a:aF s=aF t
   ·have:=bytes_inj hl a;subst this;simp
   · have:s≠t:=fun e=>a (by rw [e]);rw [show beq (aF s) (aF t) =false from Bool.eq_false_iff.2 (fun h=>a (fM h)),decide_eq_false this];rfl
 · have:s≠t:=fun e=>hl (by rw [e]);simp [this,hl]
theorem dM (s:cF) :kB (length s) (aF s) 0 0=decide (s= []) :=xM s []
def fG {α β:Type}(f:α→AV)(g:β→AV) :Nat→List (α×β) →List (AV×AV×Nat)
 |_,[] =>[]
 |n,e::l=> (f e.1,g e.2,n) ::fG f g (n+1) l
def nC {α β:Type}[DecidableEq α](k:α)(v:β) :List (α×β) →List (α×β)
 | [] =>[(k,v)]
 |e::l=>if k=e.1 then(k,v) ::l else e::nC k v l
def aAh {α β:Type}[DecidableEq α](k:α) :List (α×β) →Option β
 | [] =>none
 |e::l=>if k=e.1 then some e.2 else aAh k l
def bBj {α:Type}[DecidableEq α](f:α→AV) :Prop:=∀a b,pN (f a) (f b) =some (decide (a=b))
theorem bBk :bBj dP:=fun a b=>by
 simp only [pN,dP,xM]
theorem aFA {a b:Type}[DecidableEq a]{f:a→AV}{g:b→AV}(c:bBj f)(k:a) :∀ (l:List (a×b)) (n i:Nat),aAh k l=none→pO (f k) (fG f g n l) i=some none
 | [],n,i,_=>rfl
 | e ::l,n,i,h=>by
  unfold aAh at h;split at h
  ·cases h
  · rename_i hk;simp only [fG,pO,c k e.1,decide_eq_false hk];exact aFA c k l (n+1) _ h
theorem aLK {c d:Type}[DecidableEq c](f:c→AV)(g:d→AV)(k:c)(v:d) :∀ (l:List (c×d)) (n:Nat),aAh k l=none→fG f g n l++ [(f k,g v,n+l.length)] =fG f g n (nC k v l) ∧ (nC k v l).length=l.length+1
 | [],n,_=>by simp [fG,nC]
 | e ::l,n,h=>by
  unfold aAh at h;split at h
  ·cases h
  · rename_i hk;obtain⟨a,b⟩ :=aLK f g k v l (n+1) h;simp only [fG,nC,if_neg hk,wA,qN,b];refine⟨?_,trivial⟩;rw [←a,show n+1+l.length=n+ (l.length+1)by omega]
theorem aLL {d m:Type}[DecidableEq d]{f:d→AV}{g:m→AV}(o:bBj f)(k:d)(v w:m) :∀ (l:List (d×m)) (n i:Nat),aAh k l=some w→∃j,pO (f k) (fG f g n l) i=some (some (i+j,g w)) ∧setE (f k) (g v) (fG f g n l) j=fG f g n (nC k v l) ∧ (nC k v l).length=l.length
 | [],_,_,h=>by cases h
 | e ::l,n,i,h=>by
  unfold aAh at h;split at h
  · rename_i hk;cases h;refine⟨0,?_,?_,?_⟩
    ·simp only [fG,pO,o k e.1,decide_eq_true hk,Nat.add_zero]
    ·simp only [fG,setE,nC,if_pos hk]
    ·simp only [nC,if_pos hk,qN]
  · rename_i hk;obtain⟨j,a,b,c⟩ :=aLL o k v w l (n+1) (i+1) h;refine⟨j+1,?_,?_,?_⟩
    · simp only [fG,pO,o k e.1,decide_eq_false hk];rw [show i+ (j+1) =i+1+j by omega];exact a
    ·simp only [fG,setE,nC,if_neg hk,b]
    ·simp only [nC,if_neg hk,qN,c]
theorem bBl {d e:Type}[DecidableEq d]{f:d→AV}{g:e→AV}(i:bBj f)(k:d)(v:e)(l:List (d×e)) :aAS (fG f g 0 l) (length l) (f k) (g v) =some (fG f g 0 (nC k v l),length (nC k v l)) :=by
 unfold aAS;cases h:aAh k l with
 | none=>
  rw [aFA i k l 0 0 h];obtain⟨a,b⟩ :=aLK f g k v l 0 h;simp only [fE]at a;simp only [a,b]
 | some w=>
  obtain⟨j,a,b,c⟩ :=aLL i k v w l 0 0 h;rw [a];simp only [fE,b,c]
theorem aRM {a b:Type}(f:a→AV)(g:b→AV) :∀ (l:List (a×b)) (n:Nat),(fG f g n l).length=l.length
 | [],_=>rfl
 |e::l,n=>by simp only [fG,qN,aRM f g l (n+1)]
end
theorem aBP {b d:Type}{f:b→AV}{g:d→AV}(i:∀a,keyless (f a) =true)(c:∀a,keyless (g a) =true) :∀ (l:List (b×d)) (n:Nat),∀e∈fG f g n l,keyless e.1=true∧keyless e.2.1=true
 | [],_,e,h=>by simp [fG]at h
 | x::l,n,e,h=>by
  rcases zq7.1 h with rfl|h
  ·exact⟨i _,c _⟩
  ·exact aBP i c l (n+1) e h
theorem aVZ {a b:Type}(f:a→AV)(g:b→AV)(l:List (a×b)) :int .i64 ((length (fG f g 0 l) :Nat) :Int) = .int .i64 ((length l:Nat) :Int) :=by rw [aRM]
theorem bFU {b d:Type}{f:b→AV}{g:d→AV}(i:∀a,keyless (f a) =true)(h:∀a,keyless (g a) =true)(n:Nat)(l:List (b×d))(c:Nat) : (AObj.map (fG f g n l) c).kl:=by
 intro e he;exact aBP i h l n e he
theorem kZ0 {b d:Type}{f:b→AV}{g:d→AV}{n:Nat}{l:List (b×d)}{c:Nat}(h:∀a,keyless (f a) =true:=by exact fun _=>rfl)(e:∀a,keyless (g a) =true:=by exact fun _=>rfl) : (AObj.map (fG f g n l) c).kl:=bFU h e n l c
section
/-- a proposition with its proof -/
structure Pf where
  p:Prop
  h:p
def qp {p:Prop}(h:p) :Pf:= ⟨p,h⟩
theorem bEO :∀ (L:List Pf),AllP (L.map Pf.p)
  | [] =>trivial
  | [a] =>a.h
  |a::b::L=> ⟨a.h,bEO (b::L)⟩
theorem aC {p:Prop}(h:p:=by kernel_rfl) :p:=h
noncomputable abbrev PP:Program:=Tryz.prog
variable {P :Program}
theorem kk {α:Type}{f:α→AV}{l:List α}(h:∀a,keyless (f a) =true:=by exact fun _=>rfl) :keylessL (List.map f l) =true:=aN f h l
section
variable {α :Type}
def qs (b e o:Nat)(l:List α)(i:Nat)(v:α)(x:Bool) :Pf:= ⟨AV.gl b e o l.length x= .gl b e o (l.set i v).length x,bK (dZ ..).symm⟩
noncomputable abbrev aL (l:List α) :Ins:=.ans (.len (l.length:Int))
end
noncomputable abbrev rn:Nat→Ins:=.run
noncomputable abbrev bt (j:Nat) :Ins:=.b j true
noncomputable abbrev bf (j:Nat) :Ins:=.b j false
noncomputable abbrev aI (v:AV) :Ins:=.ans (.idx v)
noncomputable abbrev sI (j:Nat)(x:Int) :Ins:=.set j (.int .i64 x)
noncomputable abbrev pB (b:Bool) :Ins:=.pure (.bool b)
noncomputable abbrev nI (x:Int) :AV:=.int .i64 x
noncomputable abbrev bV (b:Bool) :AV:=.bool b
noncomputable abbrev jI (l:List Int) :List AV:=List.map cG l
noncomputable abbrev jN (l:List Node) :List AV:=List.map Node.av l
noncomputable abbrev jC (l:List Con) :List AV:=List.map Con.av l
noncomputable abbrev iI (l:List Int) :AV:=.ilst 1 (List.map cG l) false
noncomputable abbrev iS (l:List cF) :AV:=.ilst 1 (List.map dP l) false
noncomputable abbrev iN (l:List Node) :AV:=.ilst 4 (List.map Node.av l) false
noncomputable abbrev iC (l:List Con) :AV:=.ilst 2 (List.map Con.av l) false
noncomputable abbrev iP (l:List Pat) :AV:=.ilst 4 (Pats.av l) false
end
section
/-- an obligation: proved outright, or a premise with what follows from it -/
inductive Hy where
  |q {p:Prop} (h:p)
  |a (p:Prop) {p':Prop} (f:p→p')
def Hy.ob :Hy→Prop
  | @Hy.q p _=>p
  | @Hy.a _ p' _=>p'
/-- all ways from a state -/
inductive Tr :Type 1 where
  |b (n j:Nat) (c:Bool) (t f:Tr)
  |i (is:List Ins) (L:List Hy) (a:Tr)
  |y {α:Type} (f:α→Tr)
  |o (a b:Tr)
  |W (n n1:Nat) (ks:List Nat) (t:TS)
  |E (n n1:Nat) (ks:List Nat) (v:AV) (hp:List (Nat×AObj×Bool)) (nb:Nat)
  |P (n n1:Nat) (ks:List Nat) (ch:List (AV×Bool)) (hp:List (Nat×AObj×Bool)) (nb:Nat)
  |x
structure Br (c:Bool) (A B:Prop) :Prop where
  t:c=true→A
  f:c=false→B
def bBm :List Hy→Prop→Prop
  | [],Q=>Q
  | @Hy.q _ _::L,Q=>bBm L Q
  | @Hy.a p _ _::L,Q=>p→bBm L Q
variable (P :Program)
def aDA (m:Nat)(s0:AS) :Tr→Prop
  | .b _ _ c t f=>Br c (aDA m s0 t) (aDA m s0 f)
  | .i _ L a=>bBm L (aDA m s0 a)
  | .y f=>∀y,aDA m s0 (f y)
  | .o a b=>aDA m s0 a∧aDA m s0 b
  | .W _ _ _ t=>eY t.hp→LeadsM P m s0 t.as
  | .E _ _ _ v hp nb=>eY hp→Ends P m s0 (.ret v) (aA hp nb)
  | .P _ _ _ ch hp nb=>eY hp→Ends P m s0 (.pan ch) (aA hp nb)
  | .x=>True
abbrev eTS (hp:List (Nat×AObj×Bool))(nb:Nat) :TS:= ⟨⟨0,0,[],[],[],.run,.normal,none⟩,[],hp,nb⟩
def sS (m:Nat) :Tr→AS→Prop
  | .b n j c t f,s=>match nP P pY n s with
    | some s=>match s.fr.tm.at j with
      |some (.bool b) =>b=c∧sS m t ⟨{s.fr with tm:=s.fr.tm.put j (.bool true)},s.cs,s.h⟩ ∧sS m f ⟨{s.fr with tm:=s.fr.tm.put j (.bool false)},s.cs,s.h⟩
      |_=>False
    |none=>False
  | .i is L a,s=>match rD P is s with
    |some (s,ps) =>ps=L.map Hy.ob∧sS m a s
    |none=>False
  | .y f,s=>∀y,sS m (f y) s
  | .o a b,s=>sS m a s∧sS m b s
  | .W n n1 ks t,s=>match nP P pY n s with
    |some s=> (s.h.nb,s.sum (fK m t.nb s.h.nb ks) t) = (n1,t.want (fK m t.nb n1 ks)) ∧dH m t ks=true
    |none=>False
  | .E n n1 ks v hp nb,s=>match nP P pY n s with
    | some s=>match wE P s with
      |some (u,h1) => (h1.nb,u,uL h1 (fK m nb h1.nb ks) hp) = (n1,ren (fK m nb n1 ks) v,iK (fK m nb n1 ks) hp) ∧dH m (eTS hp nb) ks=true
      |none=>False
    |none=>False
  | .P n n1 ks ch hp nb,s=>match nP P pY n s with
    | some s=>match aON P s with
      |some (u,h1) => (h1.nb,u,uL h1 (fK m nb h1.nb ks) hp) = (n1,aVV (fK m nb n1 ks) ch,iK (fK m nb n1 ks) hp) ∧dH m (eTS hp nb) ks=true
      |none=>False
    |none=>False
  | .x,_=>True
/-- what it comes to -/
def okP (m:Nat) :Tr→Prop
  | .b _ _ c t f=>c=c∧okP m t∧okP m f
  | .i _ L a=>L.map Hy.ob=L.map Hy.ob∧okP m a
  | .y f=>∀y,okP m (f y)
  | .o a b=>okP m a∧okP m b
  | .W _ n1 ks t=> (n1,t.want (fK m t.nb n1 ks)) = (n1,t.want (fK m t.nb n1 ks)) ∧true=true
  | .E _ n1 ks v hp nb=> (n1,ren (fK m nb n1 ks) v,iK (fK m nb n1 ks) hp) = (n1,ren (fK m nb n1 ks) v,iK (fK m nb n1 ks) hp) ∧true=true
  | .P _ n1 ks ch hp nb=> (n1,aVV (fK m nb n1 ks) ch,iK (fK m nb n1 ks) hp) = (n1,aVV (fK m nb n1 ks) ch,iK (fK m nb n1 ks) hp) ∧true=true
  | .x=>True
variable {P :Program}
theorem uO (m:Nat) :∀t:Tr,okP m t
  | .b _ _ _ t f=> ⟨rfl,uO m t,uO m f⟩
  | .i _ _ a=> ⟨rfl,uO m a⟩
  | .y f=>fun y=>uO m (f y)
  | .o a b=> ⟨uO m a,uO m b⟩
  | .W .. => ⟨rfl,rfl⟩
  | .E .. => ⟨rfl,rfl⟩
  | .P .. => ⟨rfl,rfl⟩
  | .x=>trivial
theorem aJn :∀ {L:List Hy} {Q:Prop},((∀p∈L.map Hy.ob,p) →Q) →bBm L Q
  | [],_,h=>h (by simp)
  | @Hy.q p hp::L,_,h=>aJn (L:=L) fun g=>h fun q hq=>by
    rcases zq7.1 hq with e|e
    ·subst e;exact hp
    ·exact g q e
  | @Hy.a p p' f::L,_,h=>fun hp=>aJn (L:=L) fun g=>h fun q hq=>by
    rcases zq7.1 hq with e|e
    ·subst e;exact f hp
    ·exact g q e
theorem aBQ {m n:Nat}{s s':AS}(h:nP P pY n s=some s') :LeadsM P m s s':=by
  rw [uF]at h;exact(rC bZ h).toM
theorem aV0 {m:Nat}{s:AS}{t:TS}{ks:List Nat}(h2:s.sum (fK m t.nb s.h.nb ks) t=t.want (fK m t.nb s.h.nb ks))(hok:dH m t ks=true)(hkl:eY t.hp) :LeadsM P m s t.as:=by
  simp only [AS.sum,TS.want,Sum.mk.injEq]at h2;obtain⟨a1,a2,a3,a4⟩ :=h2;intro hm E fr ccs w base f fs r;obtain⟨q1,q2⟩ :=lX (l:=t.hp) (nb:=t.nb) (by simpa [dH]using hok) a4 hkl r;exact⟨_,fr,ccs,w,Steps.refl _ _,aEd a1 f,yZ a2 a3 fs,q1,q2⟩
theorem kZ {m:Nat}{s0:AS}:∀ (tr:Tr) {s:AS},sS P m tr s→LeadsM P m s0 s→aDA P m s0 tr
  | .x,_,_,_=>trivial
  | .b n j c t f,s,h,hl=>by
    simp only [sS]at h;split at h
    · rename_i s1 h1;split at h
      · rename_i b hj;obtain⟨rfl,h2,h3⟩ :=h;have l1:=hl.trans (aBQ h1);refine⟨fun e=>kZ t h2 (l1.trans ?_),fun e=>kZ f h3 (l1.trans ?_)⟩
        ·exact xstep_sound (i:=.b j true) (ps:=[b=true]) (by simp only [xstep,hj]) (fun p hp=>by simp only [zq32]at hp;subst hp;exact e)
        ·exact xstep_sound (i:=.b j false) (ps:=[b=false]) (by simp only [xstep,hj]) (fun p hp=>by simp only [zq32]at hp;subst hp;exact e)
      ·exact h.elim
    ·exact h.elim
  | .i is L a,s,h,hl=>by
    simp only [sS]at h;split at h
    · rename_i s1 ps h1;obtain⟨rfl,h2⟩ :=h;exact aJn fun g=>kZ a h2 (hl.trans (hM h1 g))
    ·exact h.elim
  | .y f,s,h,hl=>fun y=>kZ (f y) (h y) hl
  | .o a b,s,h,hl=> ⟨kZ a h.1 hl,kZ b h.2 hl⟩
  | .W n n1 ks t,s,h,hl=>fun hkl=>by
    simp only [sS]at h;split at h
    · rename_i s1 h1;obtain⟨h2,h3⟩ :=h;obtain⟨e,h2⟩ :=Prod.mk.inj h2;subst e;exact(hl.trans (aBQ h1)).trans (aV0 h2 h3 hkl)
    ·exact h.elim
  | .E n n1 ks v hp nb,s,h,hl=>fun hkl=>by
    simp only [sS]at h;split at h
    · rename_i s1 h1;split at h
      · rename_i u hh hf;obtain⟨h2,hok⟩ :=h;obtain⟨e,h2⟩ :=Prod.mk.inj h2;obtain⟨h3,h4⟩ :=Prod.mk.inj h2;subst e;subst h3;refine(hl.trans (aBQ h1)).ends ?_;intro hm E fr ccs w f fs r cl base;obtain⟨cl',w',E',g1,⟨cv,rfl,g2⟩,g3,g4⟩ :=mZ (m:=m) hf hm E fr ccs w f fs r cl base;obtain⟨q1,q2⟩ :=lX hok h4 hkl g3;exact⟨_,w',_,g1,⟨cv,rfl,(eO _ _ _ _).1 g2⟩,q1,g4.trans q2⟩
      ·exact h.elim
    ·exact h.elim
  | .P n n1 ks ch hp nb,s,h,hl=>fun hkl=>by
    simp only [sS]at h;split at h
    · rename_i s1 h1;split at h
      · rename_i u hh hf;obtain⟨h2,hok⟩ :=h;obtain⟨e,h2⟩ :=Prod.mk.inj h2;obtain⟨h3,h4⟩ :=Prod.mk.inj h2;subst e;subst h3;refine(hl.trans (aBQ h1)).ends ?_;intro hm E fr ccs w f fs r cl base;obtain⟨cl',w',E',g1,⟨ps',rfl,g2⟩,g3,g4⟩ :=aLD (m:=m) hf hm E fr ccs w f fs r cl base;obtain⟨q1,q2⟩ :=lX hok h4 hkl g3;exact⟨_,w',_,g1,⟨ps',rfl,aOL g2⟩,q1,g4.trans q2⟩
      ·exact h.elim
    ·exact h.elim
theorem tT (m:Nat)(s:TS)(tr:Tr)(h0:sS PP m tr s.as=okP m tr:=by kernel_rfl) :aDA PP m s.as tr:=
  kZ tr (h0 ▸ uO m tr) (LeadsM.refl _)
theorem tv :True:=trivial
def aV1 :Nat→Nat→List Nat→List Nat
  |0,_,l=>l
  |k+1,n,l=>bif beq n 1 then l else aV1 k (n / 2) (n % 2::l)
/-- a place in code by one number -/
abbrev kd (F:Func)(n:Nat) :Code:=cd F (aV1 60 n [])
abbrev kc (F:Func)(n:Nat) :AItem:=.code (kd F n)
abbrev kl (F:Func)(n:Nat) :AItem:=.inLoop (kd F n)
abbrev ko (F:Func)(n k:Nat) :AItem:=bHB F (aV1 60 n []) k
abbrev kp (j b:Nat) :Nat×AV:= (j,.ptr b 0)
abbrev tf (fn nt:Nat)(sl:List (Nat×AV))(todo:List AItem)(defers:List ADef:=[])(mode:AMode:=.run)(kind:CallKind:=.normal)(roundOf:Option Nat:=none) :TF:= ⟨fn,nt,sl,todo,defers,mode,kind,roundOf⟩
abbrev oC (k:Nat)(L:List AV) :Nat×AObj×Bool:= (k,.cells (putCells .leaf 0 L) L.length [] false,false)
abbrev oL (k e:Nat)(L:List AV) :Nat×AObj×Bool:= (k,.lst e L,true)
section
variable {α :Type} {f:α→AV} {F:List α→List AV}
abbrev hA (p:Prop) :Hy:=.a p id
abbrev hW (x:Int) :Hy:=.a (IntKind.i64.wrap x=x) (congrArg (int .i64))
abbrev hr {β:Type}(x:β) :Hy:=.q (Eq.refl x)
abbrev hl (f:α→AV)(l:List α) :Hy:=.q (aVY f l)
abbrev hm (M:∀l,F l=List.map f l)(l:List α) :Hy:=.q (eM M l)
abbrev hb (f:α→AV)(l:List α) :Hy:=.q (aJk f l)
abbrev hB (M:∀l,F l=List.map f l)(l:List α) :Hy:=.q (iY M l)
abbrev hc (f:α→AV)(l m:List α) :Hy:=.q (aJl f l m)
abbrev hC (M:∀l,F l=List.map f l)(l m:List α) :Hy:=.q (iZ M l m)
abbrev he (f:α→AV)(l m:List α) :Hy:=.q (aJm f l m)
abbrev hE (M:∀l,F l=List.map f l)(l m:List α) :Hy:=.q (jA M l m)
abbrev hk (f:α→AV)(l:List α)(h:∀a,keyless (f a) =true:=by exact fun _=>rfl) :Hy:=.q (aN f h l)
abbrev hK (K:∀ {l:List α},keylessL (F l) =true)(l:List α) :Hy:=.q (K (l:=l))
abbrev hz (b e:Nat)(f:α→AV)(l:List α)(x:Bool) :Hy:=.q (aHH f l (b:=b) (e:=e) (x:=x))
abbrev hZ (b e:Nat)(M:∀l,F l=List.map f l)(l:List α)(x:Bool) :Hy:=.q (hX M l (b:=b) (e:=e) (x:=x))
abbrev rd (n:Nat)(L:List RIns) :List RIns:=replicate n RIns.d++L
abbrev gd (n j:Nat)(p:Prop)[Decidable p](t f:Tr) :Tr:=.b n j (decide p) t f
abbrev gE (n n1:Nat)(v:AV) :Tr:=.E n n1 [] v [] 0
abbrev gw (n j:Nat)(x:Int)(a:Tr) :Tr:=.i [.run n,.set j (.int .i64 x)] [hW x] a
abbrev gs (n j:Nat)(v:AV)(a:Tr) :Tr:=.i [.run n,.set j v] [hr v] a
abbrev gv (n k o:Nat)(v:AV)(a:Tr) :Tr:=.i [.run n,.cset k o v] [hr v] a
abbrev gu (n b:Nat)(x:List AV)(a:Tr) :Tr:=.i [.run n,.lset b x] [hr x] a
abbrev gl (n:Nat)(f:α→AV)(l:List α)(a:Tr) :Tr:=.i [.run n,.ans (.len (l.length:Int))] [hl f l] a
abbrev gm (n:Nat)(M:∀l,F l=List.map f l)(l:List α)(a:Tr) :Tr:=.i [.run n,.ans (.len (l.length:Int))] [hm M l] a
abbrev gi (f:α→AV)(n:Nat)(l:List α)(i:Int)(y:α)(a:Tr) :Tr:=.i [.run n,.ans (.idx (f y))] [hA (0≤i),.a (l[i.toNat]?=some y) (bL (f:=f))] a
abbrev giF (M:∀l,F l=List.map f l)(n:Nat)(l:List α)(i:Int)(y:α)(a:Tr) :Tr:=.i [.run n,.ans (.idx (f y))] [hA (0≤i),.a (l[i.toNat]?=some y) (dL M)] a
abbrev gj (f:α→AV)(n:Nat)(l:List α)(i:Nat)(y:α)(a:Tr) :Tr:=.i [.run n,.ans (.idx (f y))] [.a (l[i]?=some y) (cI (f:=f))] a
abbrev gjF (M:∀l,F l=List.map f l)(n:Nat)(l:List α)(i:Nat)(y:α)(a:Tr) :Tr:=.i [.run n,.ans (.idx (f y))] [.a (l[i]?=some y) (aCQ M)] a
abbrev gX (f:α→AV)(n:Nat)(l:List α)(i:Int)(a:α→Tr) :Tr:=.y fun y=>gi f n l i y (a y)
abbrev gp (n f:Nat)(xs:List AV)(v:AV)(a:Tr) :Tr:=.i [.run n,.pure v] [hA (aK PP f xs v)] a
abbrev gpI (n f:Nat)(xs:List AV)(a:Int→Tr) :Tr:=.y fun y=>gp n f xs (.int .i64 y) (a y)
abbrev kJ (n f:Nat)(xs:List AV)(a:Bool→Tr) :Tr:=.y fun y=>gp n f xs (.bool y) (a y)
abbrev gk (n:Nat)(c:AIn)(H:List (Nat×AObj×Bool))(k:Nat)(v:AV)(H':List (Nat×AObj×Bool))(k':Nat)(a:Tr) :Tr:=.i [.run n,.call v (aA H' k')] [hA (Spec PP c (aA H k) (.ret v) (aA H' k'))] a
abbrev ga (n:Nat)(f:α→AV)(l m:List α)(a:Tr) :Tr:=.i [.run n,.app (List.map f (l++m)) (l++m).length] [hb f l,hA ((l++m).length≤1000000),hc f l m,he f l m] a
abbrev gA (n:Nat)(M:∀l,F l=List.map f l)(l m:List α)(a:Tr) :Tr:=.i [.run n,.app (F (l++m)) (l++m).length] [hB M l,hA ((l++m).length≤1000000),hC M l m,hE M l m] a
abbrev gz (n j b e:Nat)(f:α→AV)(l:List α)(x:Bool)(a:Tr)(h:∀a,keyless (f a) =true:=by exact fun _=>rfl) :Tr:=.i [.run n,.frz j b (List.map f l)] [hk f l h,hz b e f l x] a
abbrev gy (n k o b e:Nat)(f:α→AV)(l:List α)(x:Bool)(a:Tr)(h:∀a,keyless (f a) =true:=by exact fun _=>rfl) :Tr:=.i [.run n,.cfrz k o b (List.map f l)] [hk f l h,hz b e f l x] a
abbrev gZ (n j b e:Nat)(M:∀l,F l=List.map f l)(K:∀ {l:List α},keylessL (F l) =true)(l:List α)(x:Bool)(a:Tr) :Tr:=.i [.run n,.frz j b (F l)] [.q (K (l:=l)),hZ b e M l x] a
abbrev gY (n k o b e:Nat)(M:∀l,F l=List.map f l)(K:∀ {l:List α},keylessL (F l) =true)(l:List α)(x:Bool)(a:Tr) :Tr:=.i [.run n,.cfrz k o b (F l)] [.q (K (l:=l)),hZ b e M l x] a
abbrev uP (n:Nat)(l:List Pat)(i:Int)(a:Int→Int→cF→List Pat→Tr) :Tr:=.y fun p=>.y fun q=>.y fun r=>.y fun s=>giF aH n l i (.mk p q r s) (a p q r s)
end
end
def zB(a:cF)(b:Int):TS:=⟨(tf 146 20 [(0,(dP a)),(2,(bV false)),(3,(nI b))] [kc f146 52,kl f146 52,.inBlock 0,kc f146 7]),[],[],0⟩
def aEg(a:List cF)(b:cF)(c:Int):TS:=⟨(tf 115 18 [(0,(iS a)),(1,(dP b)),(4,(bV false)),(5,(nI c))] [kc f115 52,kl f115 52,.inBlock 0,kc f115 7]),[],[],0⟩
def uQ(a:List cF)(b:Int):TS:=⟨(tf 103 18 [(0,(iS a)),(2,(bV false)),(3,(nI b))] [kc f103 52,kl f103 52,.inBlock 0,kc f103 7]),[],[],0⟩
def zC(a b:Int)(c:cF)(d:List Pat)(g e f:Int):TS:=⟨(tf 69 29 [(1,(nI e)),kp 2 0,(4,(nI 0)),(5,(nI f))] [kc f69 244,kl f69 244,.inBlock 0,kc f69 31]),[],[oC 0 [(nI a),(nI b),(dP c),(iP d)]],1⟩
def pC(a b:Int)(c:cF)(d:List Pat)(e:Int):TS:=⟨(tf 70 22 [kp 1 0,(2,(bV false)),(3,(nI e))] [kc f70 52,kl f70 52,.inBlock 0,kc f70 7]),[],[oC 0 [(nI a),(nI b),(dP c),(iP d)]],1⟩
def nS(a:Prog)(b:Int):TS:=⟨(tf 10 74 [kp 1 0,(2,(bV false)),(3,(nI b))] [kc f10 116,kl f10 116,.inBlock 0,kc f10 15]),[],[oC 0 [(iN a.nodes),(iI a.funs),(nI a.main),(iC a.cons)]],1⟩
def nT(a:Prog)(b:Int):TS:=⟨(tf 10 74 [kp 1 0,(2,(bV false)),(4,(nI b))] [kc f10 244,kl f10 244,.inBlock 2,kc f10 31]),[],[oC 0 [(iN a.nodes),(iI a.funs),(nI a.main),(iC a.cons)]],1⟩
def nU(a:Prog)(b c:Int)(d:List Int)(e:List Pat)(f g:Int):TS:=⟨(tf 10 74 [kp 1 0,(2,(bV false)),(4,(nI g)),kp 5 1,(6,(nI f))] [kc f10 62620,kl f10 62620,.inBlock 4,.inBlock 3,kc f10 979,kl f10 244,.inBlock 2,kc f10 31]),[],[oC 0 [(iN a.nodes),(iI a.funs),(nI a.main),(iC a.cons)],oC 1 [(nI b),(nI c),(iI d),(iP e)]],2⟩
def bHC(a b c:Int):=tT 0 (start PP 62 [(nI a),(nI b),(nI c)])<|gd 10 10 (a≥b) (gE 7 0 (bV (decide (a≤c))))<|gE 7 0 (bV false)
def bBn:=fun a b c d=>bHC a b c|>.t d tv
def bBo:=fun a b c d=>bHC a b c|>.f d tv
def aOQ (a:cF):=(tT 0 (start PP 146 [(dP a)])<|.W 11 0 [] (zB a 0)) tv
def bBp(b:cF)(a:Int):=tT 0 (zB b a)<|gd 8 7 (a< (b.length:Int)) (.y fun c:UInt8=>.i [rn 8,.ans (.ev (.int .u8 ((c.toNat:Nat) :Int)))] [hA (0≤a),.a (0≤a∧ (b)[a.toNat]?=some c) (p':=a< (b.length:Int)) fun⟨ha,hb⟩=>(aCO (k:=a) ha hb),.a ((b)[a.toNat]?=some c) (p':=int .u8 ((mod (div (aF b) (pow 256 a.toNat)) 256:Nat) :Int) = (.int .u8 ((c.toNat:Nat) :Int))) (fun h=>(aCP (k:=a) h))]<|gd 2 14 (((c.toNat:Nat) :Int) <97) (gE 12 0 (bV false))<|.i [rn 2,.ans (.ev (.int .u8 ((c.toNat:Nat) :Int)))] [hA (0≤a),.a (0≤a∧ (b)[a.toNat]?=some c) (p':=a< (b.length:Int)) fun⟨ha,hb⟩=>(aCO (k:=a) ha hb),.a ((b)[a.toNat]?=some c) (p':=int .u8 ((mod (div (aF b) (pow 256 a.toNat)) 256:Nat) :Int) = (.int .u8 ((c.toNat:Nat) :Int))) (fun h=>(aCP (k:=a) h))]<|gd 3 19 (((c.toNat:Nat) :Int) >122) (gE 6 0 (bV false))<|gw 6 9 (a+ (1:Int))<|.W 3 0 [] (zB b (a+ (1:Int))))<|gE 7 0 (bV true)
def aOR:=fun c d e f a b g=>bBp c d|>.t f e a ⟨a,b⟩ b|>.t g tv
def aOS:=fun c d e f a b g i=>bBp c d|>.t f e a ⟨a,b⟩ b|>.f g a ⟨a,b⟩ b|>.t i tv
def aOT:=fun c d e f a b g i j=>bBp c d|>.t f e a ⟨a,b⟩ b|>.f g a ⟨a,b⟩ b|>.f i j tv
def aOU:=fun a b c=>bBp a b|>.f c tv
def aV2(a:cF):=tT 0 (start PP 102 [(dP a)])<|gd 10 6 ((a.length:Int) ≥1) (gd 5 11 ((a.length:Int) ≤8) (.y fun b:UInt8=>.i [rn 1,.ans (.ev (.int .u8 ((b.toNat:Nat) :Int)))] [.q (p:=0≤ (0:Int)) (by decide),.a ((a)[0]?=some b) (p':=(0:Int) < (a.length:Int)) (fun h=>(aCO (k:= (0:Int)) (by decide) h)),.a ((a)[0]?=some b) (p':=int .u8 ((mod (div (aF a) (pow 256 (0:Int).toNat)) 256:Nat) :Int) = (.int .u8 ((b.toNat:Nat) :Int))) (fun h=>(aCP (k:= (0:Int)) h))]<|gd 3 16 (((b.toNat:Nat) :Int) ≥65) (.i [rn 1,.ans (.ev (.int .u8 ((b.toNat:Nat) :Int)))] [.q (p:=0≤ (0:Int)) (by decide),.a ((a)[0]?=some b) (p':=(0:Int) < (a.length:Int)) (fun h=>(aCO (k:= (0:Int)) (by decide) h)),.a ((a)[0]?=some b) (p':=int .u8 ((mod (div (aF a) (pow 256 (0:Int).toNat)) 256:Nat) :Int) = (.int .u8 ((b.toNat:Nat) :Int))) (fun h=>(aCP (k:= (0:Int)) h))]<|gd 3 21 (((b.toNat:Nat) :Int) ≤90) (.i [rn 1,.ans (.ev (dP (drop 1 a)))] [.a (1≤length a) (p':=aS9 PP 9 (dP a) (some (nI 1)) none (dP (drop 1 a))) (fun h=>(aDz (k:= (1:Int)) aC (by decide) h))]<|kJ 0 146 [(dP (drop 1 a))]<|fun c=>gE 4 0 (bV c))<|gE 7 0 (bV false))<|gE 12 0 (bV false))<|gE 17 0 (bV false))<|gE 22 0 (bV false)
def aOV:=fun b c d e f a g i j k=>aV2 b|>.t e|>.t f c a a|>.t g a a|>.t i j d k tv
def aOW:=fun b c d e a f g=>aV2 b|>.t d|>.t e c a a|>.t f a a|>.f g tv
def aOX:=fun b c d e a f=>aV2 b|>.t d|>.t e c a a|>.f f tv
def aOY:=fun a b c=>aV2 a|>.t b|>.f c tv
def aOZ:=fun a b=>aV2 a|>.f b tv
def aV3 (a:List cF)(b:cF):=(tT 0 (start PP 115 [(iS a),(dP b)])<|.W 11 0 [] (aEg a b 0)) tv
def bFV(a:List cF)(c:cF)(b:Int):=tT 0 (aEg a c b)<|gl 5 dP a<|gd 2 9 (b< (a.length:Int)) (gX dP 8 a b<|fun d=>.b 4 17 (kB d.length (aF d) c.length (aF c)) (gE 6 0 (bV true))<|gw 6 11 (b+1)<|.W 3 0 [] (aEg a c (b+1)))<|gE 7 0 (bV false)
def aV4:=fun a b c d e f g i=>bFV a b c|>.t e d f g|>.t i tv
def aV5:=fun a b c d e f g i j=>bFV a b c|>.t e d f g|>.f i j tv
def aV6:=fun a b c d=>bFV a b c|>.f d tv
def aLN (a:List cF):=(tT 0 (start PP 103 [(iS a)])<|.W 11 0 [] (uQ a 0)) tv
def bFW(b:List cF)(a:Int):=tT 0 (uQ b a)<|gl 5 dP b<|gd 2 7 (a< (b.length:Int)) (.y fun c:cF=>.y fun d:Bool=>.i [rn 5,.reg [.d,.d,.ans (.ev (iS (take a.toNat b))),.d,.d,.ans (.idx (dP c)),.d,.pure (bV d)]] [.a (0≤a∧a.toNat≤length b) (p':=aS9 PP 148 (iS b) none (some (nI a)) (iS (take a.toNat b))) fun⟨ha,hb⟩=>(aVX (k:=a) aC ha hb),hA (0≤a),.a (((b)[a.toNat]?) =some c) (bL (f:=dP)),hA (aK PP 115 [(iS (take a.toNat b)),(dP c)] (bV d))]<|.b 0 17 d (gE 6 0 (bV false))<|gw 6 9 (a+1)<|.W 3 0 [] (uQ b (a+1)))<|gE 7 0 (bV true)
def aLO:=fun b c d e f a g i j k=>bFW b c|>.t f d e ⟨a,g⟩ a i j|>.t k tv
def aLP:=fun b c d e f a g i j k l=>bFW b c|>.t f d e ⟨a,g⟩ a i j|>.f k l tv
def aLQ:=fun a b c=>bFW a b|>.f c tv
def bHD(b c:Int)(d:cF)(e:List Pat)(a:Int):=tT 0 (start PP 69 [(.agg [(nI b),(nI c),(dP d),(iP e)]),(nI a)])<|gd 11 7 (a<1) (gE 6 1 (nI (-1)))<|gw 6 9 (a-1)<|.W 9 1 [0] (zC b c d e a (a-1) 0)
def aO0:=fun a b c d e f=>bHD a b c d e|>.t f tv
def aO1:=fun a b c d e f g=>bHD a b c d e|>.f f g tv
def bFX(d e:Int)(f:cF)(a:List Pat)(g b c:Int):=tT 0 (zC d e f a g b c)<|gm 6 aH a<|gd 2 15 (c< (a.length:Int)) (gd 4 18 (b≥0) (uP 8 a c<|fun i j k l=>gpI 2 69 [(.agg [(nI i),(nI j),(dP k),(iP l)]),(nI b)]<|fun m=>gw 6 20 (c+1)<|.W 3 1 [0] (zC d e f a g m (c+1)))<|gE 8 1 (nI b))<|gE 12 1 (nI b)
def aO2:=fun a b c d e f g i j k l m n o p q r s=>bFX a b c d e f g|>.t n|>.t o i j k l p q m r s tv
def aO3:=fun a b c d e f g i j=>bFX a b c d e f g|>.t i|>.f j tv
def aO4:=fun a b c d e f g i=>bFX a b c d e f g|>.f i tv
def aHd (a b:Int)(c:cF)(d:List Pat):=(tT 0 (start PP 70 [(.agg [(nI a),(nI b),(dP c),(iP d)])])<|.W 12 1 [0] (pC a b c d 0)) tv
def bFY(d e:Int)(c:cF)(a:List Pat)(b:Int):=tT 0 (pC d e c a b)<|gm 6 aH a<|gd 2 8 (b< (a.length:Int)) (uP 9 a b<|fun f g i j=>kJ 1 70 [(.agg [(nI f),(nI g),(dP i),(iP j)])]<|fun k=>.b 2 17 (!k) (gE 6 1 (bV false))<|gw 6 10 (b+1)<|.W 3 1 [0] (pC d e c a (b+1)))<|gE 11 1 (bV (decide ((c.length:Int) ≤30)))
def aHe:=fun a b c d e f g i j k l m n o p=>bFY a b c d e|>.t l f g i j m n k o|>.t p tv
def aHf:=fun a b c d e f g i j k l m n o p q=>bFY a b c d e|>.t l f g i j m n k o|>.f p q tv
def aHg:=fun a b c d e f=>bFY a b c d e|>.f f tv
def bHE(a b:Int)(c:cF)(d:List Pat):=tT 0 (start PP 31 [(.agg [(nI a),(nI b),(dP c),(iP d)])])<|gpI 8 69 [(.agg [(nI a),(nI b),(dP c),(iP d)]),(nI 16)]<|fun e=>gd 2 6 (e≥0) (kJ 1 70 [(.agg [(nI a),(nI b),(dP c),(iP d)])]<|fun f=>gE 4 1 (bV f))<|gE 6 1 (bV false)
def aLR:=fun a b c d e f g i j=>bHE a b c d e g|>.t i f j tv
def aLS:=fun a b c d e f g=>bHE a b c d e f|>.f g tv
def bBq(a:Prog):=tT 0 (start PP 10 [(Prog.av a)])<|gl 10 Node.av a.nodes<|gd 2 11 ((a.nodes.length:Int) >320) (gE 18 1 (bV false))<|gl 2 cG a.funs<|gd 3 17 ((a.funs.length:Int) >320) (gE 12 1 (bV false))<|gl 2 Con.av a.cons<|gd 3 22 ((a.cons.length:Int) >25) (gE 6 1 (bV false))<|.W 9 1 [0] (nS a 0)
def aFB:=fun a b=>bBq a|>.t b tv
def aFC:=fun a b c=>bBq a|>.f b|>.t c tv
def aFD:=fun a b c d=>bBq a|>.f b|>.f c|>.t d tv
def aFE:=fun a b c d=>bBq a|>.f b|>.f c|>.f d tv
def aV7(a:Prog)(b:Int):=tT 0 (nS a b)<|gl 6 Con.av a.cons<|gd 2 27 (b< (a.cons.length:Int)) (gX Con.av 9 a.cons b<|fun c=>gd 5 37 ((c.name.length:Int) >40) (gE 6 1 (bV false))<|gw 6 29 (b+1)<|.W 3 1 [0] (nS a (b+1)))<|.W 9 1 [0] (nT a 0)
def aFF:=fun a b c d e f g=>aV7 a b|>.t d c e f|>.t g tv
def aFG:=fun a b c d e f g i=>aV7 a b|>.t d c e f|>.f g i tv
def aFH:=fun a b c=>aV7 a b|>.f c tv
def aRN(b:Prog)(c:Int):=tT 0 (nT b c)<|gl 6 Node.av b.nodes<|gd 2 42 (c< (b.nodes.length:Int)) (gX Node.av 9 b.nodes c<|fun a=>gl 9 cG a.kids<|gd 2 54 ((a.kids.length:Int) >10) (gE 12 2 (bV false))<|gm 2 aH a.pats<|gd 3 59 ((a.pats.length:Int) >10) (gE 6 2 (bV false))<|.W 8 2 [0,1] (nU b a.op a.n a.kids a.pats 0 c))<|gE 7 1 (bV true)
def aFI:=fun a b c d e f g=>aRN a b|>.t d c e f|>.t g tv
def aFJ:=fun a b c d e f g i=>aRN a b|>.t d c e f|>.f g|>.t i tv
def aFK:=fun a b c d e f g i=>aRN a b|>.t d c e f|>.f g|>.f i tv
def aFL:=fun a b c=>aRN a b|>.f c tv
def aV8(d:Prog)(e f:Int)(g:List Int)(a:List Pat)(b c:Int):=tT 0 (nU d e f g a b c)<|gm 6 aH a<|gd 2 64 (b< (a.length:Int)) (uP 9 a b<|fun i j k l=>kJ 1 31 [(.agg [(nI i),(nI j),(dP k),(iP l)])]<|fun m=>.b 2 73 (!m) (gE 6 2 (bV false))<|gw 6 66 (b+1)<|.W 3 2 [0,1] (nU d e f g a (b+1) c))<|gw 6 44 (c+1)<|.W 3 2 [0] (nT d (c+1))
def aFM:=fun a b c d e f g i j k l m n o p q r=>aV8 a b c d e f g|>.t n i j k l o p m q|>.t r tv
def aFN:=fun a b c d e f g i j k l m n o p q r s=>aV8 a b c d e f g|>.t n i j k l o p m q|>.f r s tv
def aFO:=fun a b c d e f g i j=>aV8 a b c d e f g|>.f i j tv
theorem wrap64 {e:Int}(h1: -9223372036854775808≤e)(h2:e<9223372036854775808) :IntKind.i64.wrap e=e:=by
 have a: (2:Int) ^ IntKind.i64.bits=18446744073709551616:=by decide
 have b: (2:Int) ^ (IntKind.i64.bits-1) =9223372036854775808:=by decide
 simp only [IntKind.wrap,a,b,IntKind.signed,mL,decide_eq_true_eq];split<;>omega
noncomputable def uR (P:Program)(f:Nat) :Bool:=match P.funcs[f]? with
 | some fn=>match fn.body with
  |some _=>true
  |none=>false
 |none=>false
theorem aG {P:Program}{f:Nat}{a:List AV}{v:AV}(hb:uR P f=true)(hk:keylessL a=true)(b:keyless v=true)(he:Ends P 0 (start P f a).as (.ret v) (aA [] 0)) :aK P f a v:=by
 unfold uR at hb;split at hb
 · rename_i fn d;split at hb
   ·rename_i c hc;exact pure_of d hc hk b he
   ·cases hb
 ·cases hb
theorem bE {a:Type}{l t:List a}{i:Nat}{y:a}(h:l.drop i=y::t) :l[i]?=some y∧l.drop (i+1) =t∧i<l.length:=by
 have b:l[i]?=some y:=by rw [←List.head?_drop,h];rfl
 refine⟨b,?_,(zq0.1 b).1⟩;rw [←List.tail_drop,h];rfl
theorem bH {a:Type}{l:List a}{i:Nat}(h:l.drop i= []) :l.length≤i:=List.drop_eq_nil_iff.1 h
theorem sd {p:Prop}(h:p:=by first|assumption|rfl| (simp only [tI];assumption) | (simp only [decide_eq_true_eq,decide_eq_false_iff_not];omega) |omega| (apply wrap64<;>omega) | (simp_all;done)) :p:=h
def dY (n lo hi:Int) :Bool:=decide (lo≤n) &&decide (n≤hi)
theorem aY (n lo a:Int) :aK PP 62 [.int .i64 n,.int .i64 lo,.int .i64 a] (.bool (dY n lo a)) :=by
 refine aG aC rfl rfl ?_;by_cases h:n≥lo
 · have e:dY n lo a=decide (n≤a) :=by unfold dY;rw [decide_eq_true (show lo≤n from h),mL]
   rw [e];exact bBn n lo a (decide_eq_true h)
 · have e:dY n lo a=false:=by unfold dY;rw [decide_eq_false (show ¬lo≤n from h),Bool.false_and]
   rw [e];exact bBo n lo a (decide_eq_false h)
def uS (c:UInt8) :Bool:=decide (97≤c.toNat) &&decide (c.toNat≤122)
def kD (s:cF) :Bool:=s.all uS
theorem aDB (s:cF)(d:s.length<1000000) :∀ (t:cF) (i:Nat),s.drop i=t→Ends PP 0 (zB s (i:Int)).as (.ret (.bool (kD t))) (aA [] 0)
 | [],i,h=>by
  have:=bH h;exact aOU s i sd
 | c :: t,i,h=>by
  obtain⟨k,f,l⟩ :=bE h;have b: (decide ((i:Int) < ((length s:Nat) :Int))) =true:=sd;have a:s[(i:Int).toNat]?=some c:=sd;by_cases j:c.toNat<97
  · have e:kD (c::t) =false:=by simp [kD,uS];omega
    rw [e];exact aOR s i c b sd a sd
  · by_cases g:122<c.toNat
    · have e:kD (c::t) =false:=by simp [kD,uS];omega
      rw [e];exact aOS s i c b sd a sd sd
    · have e:kD (c::t) =kD t:=by
       have:uS c=true:=by simp [uS];omega
       simp [kD,this]
      rw [e];refine(aOT s i c b sd a sd sd sd).ends ?_;exact aDB s d t (i+1) f
theorem aLT (s:cF)(a:s.length<1000000) :aK PP 146 [dP s] (.bool (kD s)) :=
 aG aC rfl rfl ((aOQ s).ends (aDB s a s 0 rfl))
def jL (s:cF) :Bool:=match s with
 | [] =>false
 |c::t=>decide (s.length≤8) &&decide (65≤c.toNat) &&decide (c.toNat≤90) &&kD t
theorem aLU (s:cF) :aK PP 102 [dP s] (.bool (jL s)) :=by
 refine aG aC rfl rfl ?_
 match s with
 | [] =>exact aOZ [] sd
 | c :: t=>
  have b: (decide (((length (c::t) :Nat) :Int) ≥ (1:Int))) =true:=by simp only [qN];exact sd
  by_cases d: (c::t).length≤8
  · have a: (decide (((length (c::t) :Nat) :Int) ≤ (8:Int))) =true:=sd;by_cases g:65≤c.toNat
    · by_cases f:c.toNat≤90
      · have e:jL (c::t) =kD t:=by simp only [jL,decide_eq_true d,decide_eq_true g,decide_eq_true f,mL]
        rw [e];exact aOV (c::t) c _ b a rfl sd sd (by simp) (aLT t (by simp at d;omega))
      · have e:jL (c::t) =false:=by simp only [jL,decide_eq_false f,Bool.and_false,Bool.false_and]
        rw [e];exact aOW (c::t) c b a rfl sd sd
    · have e:jL (c::t) =false:=by simp only [jL,decide_eq_false g,Bool.and_false,Bool.false_and]
      rw [e];exact aOX (c::t) c b a rfl sd
  · have e:jL (c::t) =false:=by simp only [jL,decide_eq_false d,Bool.false_and]
    rw [e];exact aOY (c::t) b sd
def aAi (l:List cF)(s:cF) :Bool:=l.any fun x=>decide (x=s)
theorem aHK (l:List cF)(s:cF)(hl:l.length<1000000) :∀ (t:List cF) (i:Nat),l.drop i=t→Ends PP 0 (aEg l s (i:Int)).as (.ret (.bool (aAi t s))) (aA [] 0)
 | [],i,h=>by
  have:=bH h;exact aV6 l s i sd
 | x ::t,i,h=>by
  obtain⟨b,a,c⟩ :=bE h;by_cases g:x=s
  · have e:aAi (x::t) s=true:=by simp [aAi,g]
    rw [e];exact aV4 l s i x sd sd sd (by rw [xM];exact decide_eq_true g)
  · have e:aAi (x::t) s=aAi t s:=by simp [aAi,g]
    rw [e];refine(aV5 l s i x sd sd sd (by rw [xM];exact decide_eq_false g) sd).ends ?_;exact aHK l s hl t (i+1) a
theorem aTb (l:List cF)(s:cF)(hl:l.length<1000000) :aK PP 115 [.ilst 1 (List.map dP l) false,dP s] (.bool (aAi l s)) :=
 aG aC rfl rfl ((aV3 l s).ends (aHK l s hl l 0 rfl))
def eZ :List cF→List cF→Bool
 |_,[] =>true
 |pre,x::t=> !aAi pre x&&eZ (pre++ [x]) t
def pD (l:List cF) :Bool:=eZ [] l
theorem aBR (l:List cF)(hl:l.length<1000000) :∀ (t:List cF) (i:Nat),l.drop i=t→Ends PP 0 (uQ l (i:Int)).as (.ret (.bool (eZ (l.take i) t))) (aA [] 0)
 | [],i,h=>by
  have:=bH h;exact aLQ l i sd
 | x ::t,i,h=>by
  obtain⟨c,d,f⟩ :=bE h;have b:aK PP 115 [.ilst 1 (List.map dP (l.take (i:Int).toNat)) false,dP x] (.bool (aAi (l.take i) x)) :=by
   simp only [tI];exact aTb _ _ (by simp;omega)
  by_cases g:aAi (l.take i) x=true
  · have e:eZ (l.take i) (x::t) =false:=by simp [eZ,g]
    rw [e];exact aLO l i x _ sd sd sd sd b g
  · have a:aAi (l.take i) x=false:=by simpa using g
    have e:eZ (l.take i) (x::t) =eZ (l.take (i+1)) t:=by
     simp only [eZ,a,Bool.not_false,mL];rw [List.take_add_one,c];rfl
    rw [e];refine(aLP l i x _ sd sd sd sd b a sd).ends ?_;exact aBR l hl t (i+1) d
theorem aJo (l:List cF)(hl:l.length<1000000) :aK PP 103 [.ilst 1 (List.map dP l) false] (.bool (pD l)) :=by
 refine aG aC rfl rfl ((aLN l).ends ?_);exact aBR l hl l 0 rfl
section
variable {P :Program}
theorem bEQ {s s':AS}{b:Bool}{h':Hp}(hl:Leads P s s')(q:wE P s'=some (.bool b,h')) :Ends P 0 s (.ret (.bool b)) (aA [] 0) :=by
 have y:LeadsM P 0 s s':=fun hm E fr d w a f fs r=>by
  obtain⟨j,fr',i,h,m,z,g,t,x⟩ :=hl E fr d w a f fs r;exact⟨j,fr',i,h,m,z,g,t,x.toM hm⟩
 intro hm E fr d w f fs r n a;obtain⟨l,h,j,u,⟨p,rfl,k⟩,v,c⟩ := (y.ends (mZ q)) hm E fr d w f fs r n a;refine⟨_,h,j.p,u,⟨p,rfl,?_⟩,aFs v,⟨fun b hb=>absurd hb (Nat.not_lt_zero _),c.imm,c.size,c.keep,fun A B C e=>?_,le_refl _,c.os,c.tape,c.output,c.froz,c.immo,fun b o e=>?_⟩⟩
 ·simpa only [VR]using k
 ·simp [aBL,Hp.look,T.at_leaf]at e
 ·simp [aBL,Hp.look,T.at_leaf]at e
end
section
def embOf (w:World) :Emb:= ⟨fun _=>none,fun k=>match w.heap[k]? with
 |some (.cells C _ _) =>some C
 |_=>none⟩
theorem aTc {w:World}{k:Nat}{C:Array Value}{el:TypeId}{fz:Nat×Nat}(h:w.heap[k]?=some (.cells C el fz)) : (embOf w).imm k=some C:=by
 simp only [embOf,h]
theorem aTd (w:World) :Rel (embOf w) ⟨.leaf,0⟩ w.heap:=by
 refine⟨fun b o e=>?_,fun b b' o o' L L' e=>?_,fun _ _=>rfl,fun k C e=>?_,fun b o L e=>?_,fun b o e=>?_⟩
 ·simp [Hp.look,T.at_leaf]at e
 ·simp [Hp.look,T.at_leaf]at e
 · simp only [embOf]at e;split at e
   ·rename_i C' el fz h;cases e;exact⟨el,fz,h⟩
   ·cases e
 ·simp [Hp.look,T.at_leaf]at e
 ·simp [Hp.look,T.at_leaf]at e
def Elt (w:World)(e:Nat)(a:AV)(cs:List Value) :Prop:=cs.length=e∧∃u:Value,u.cells.toList=cs∧VR (embOf w) a u∧∀c∈cs,c.oneCell'=true
theorem Elt.one {w:World}{a:AV}{u:Value}(h:VR (embOf w) a u)(ha:a.one=true)(hu:u.cells= #[u]) :Elt w 1 a [u] :=
 ⟨rfl,u,by rw [hu],h,fun c hc=>by rw [zq32.1 hc];exact h.one ha⟩
variable {H :Type} {enc:TypeId×Value→H} {P:Program} {w:World} {spare:Nat→Bool} {held:Bool}
theorem bBr {a:Addr}{C:Array Value}{el:TypeId}{fz:Nat×Nat}(hC:w.heap[a.block]?=some (.cells C el fz))(hs:a.spot=none)(k:Nat) :w.cell? (a.add k) =C[a.off+k]?:=by
 unfold World.cell? Addr.add;by_cases h:k=0
 ·subst h;simp [hC,hs]
 ·simp [h,hC]
theorem add_add (a:Addr)(i j:Nat) : (a.add i).add j=a.add (i+j) :=by
 unfold Addr.add;by_cases hi:i=0<;>by_cases hj:j=0<;>simp [hi,hj,Nat.add_assoc]
theorem aTe (us:List Value)(u:Value) :flat (us++ [u]) =flat us++u.cells.toList:=by simp [flat]
theorem pZ {α:Type}(f:α→AV){t e:TypeId}{n fuel:Nat}(ht:P.underlying t=some (.slice e))(hc:P.cellsOf e=n)(hn:0<n){cs:List Value}{x:DataW H×List MemPlace}
  (h:DataW.trod enc P w 0 spare held fuel t cs=some x) (hel:∀fu,fu<fuel→∀cs x,DataW.trod enc P w 0 spare held fu e cs=some x→∃y,Elt w n (f y) cs) :∃ (ys:List α) (c:Value),cs= [c] ∧VR (embOf w) (.ilst n (ys.map f) false) c:=by
 rcases DataW.trod_slice ht h with⟨rfl,_⟩ | ⟨a,len,cap,elems,rest,m,rfl,rfl,_,_,hlc,_,hlen,hat,_⟩
 · refine⟨[],_,rfl,?_⟩;simp only [VR];exact⟨[],by simp [VRs],⟨fun u hu=> (by cases hu),.inl ⟨rfl,none,0,rfl,fun _=>rfl,fun _=>rfl⟩⟩⟩
 · cases len with
   | zero=>
    refine⟨[],_,rfl,?_⟩;simp only [VR];exact⟨[],by simp [VRs],⟨fun u hu=> (by cases hu),.inl ⟨rfl,some a,cap,rfl,fun e=> (by cases e),fun e=> (by cases e)⟩⟩⟩
   | succ len=>
    rw [hc]at hat
    have each:∀i,i<len+1→∃cs' y,w.cells? 0 (a.add (i*n)) n=some cs'∧Elt w n (f y) cs':=fun i hi=>by
     have h1:=hat i hi;rw [kX (by omega)]at h1;obtain⟨cs',g1,g2⟩ :=Option.bind_eq_some_iff.1 h1;obtain⟨y,g3⟩ :=hel m (Nat.lt_succ_self m) cs' _ g2;exact⟨cs',y,g1,g3⟩
    obtain⟨C,el,fz,hC,hs⟩ :∃C el fz,w.heap[a.block]?=some (.cells C el fz) ∧a.spot=none:=by
     obtain⟨cs',y,g1,g2,_⟩ :=each 0 (by omega);obtain⟨_,_,g3⟩ :=World.cells?_some g1;have g4:=g3 0 hn;have: (a.add (0*n)).add 0=a:=by simp [Addr.add]
     rw [this,kX (by omega)]at g4;unfold World.cell? at g4;split at g4
     · rename_i C el fz hh;split at g4
       ·cases g4
       · rename_i hsp;refine⟨C,el,fz,hh,?_⟩;cases hq:a.spot with
         |none=>rfl
         |some q=>rw [hq]at hsp;simp at hsp
     ·cases g4
    have all:∀k,k≤len+1→∃ (ys:List α) (us:List Value),us.length=k∧VRs (embOf w) (ys.map f) us∧ (∀u∈us,okE n u) ∧∀j,j<k*n→C[a.off+j]?= (flat us)[j]?:=by
     intro k
     induction k with
     |zero=>exact fun _=> ⟨[],[],rfl,by simp [VRs],fun u hu=> (by cases hu),fun j hj=>by omega⟩
     | succ k ih=>
      intro hk;obtain⟨ys,us,q1,q2,q3,q4⟩ :=ih (by omega);obtain⟨cs',y,g1,g2,u,g3,g4,g5⟩ :=each k (by omega);obtain⟨_,g6,g7⟩ :=World.cells?_some g1;have hfl:=flat_length q3;refine⟨ys++ [y],us++ [u],by simp [q1],?_,fun v hv=>?_,fun j hj=>?_⟩
      ·rw [aIx];exact q2.append (VRs.cons g4 (VRs.nil _))
      · rcases zq28.1 hv with hv|hv
        ·exact q3 v hv
        · rw [zq32.1 hv];refine⟨?_,fun c hc=>g5 c (by rw [←g3];exact hc)⟩;rw [←Array.length_toList,g3,g2]
      · rw [aTe,g3];by_cases hj2:j<k*n
        ·rw [q4 j hj2,mS (by rw [hfl,q1];exact hj2)]
        · have hr:j-k*n<n:=by rw [Nat.succ_mul]at hj;omega
          rw [pQ (by rw [hfl,q1];omega),hfl,q1,←g7 _ hr,add_add,bBr hC hs];congr 2;omega
    obtain⟨ys,us,q1,q2,q3,q4⟩ :=all (len+1) (le_refl _);refine⟨ys,_,rfl,?_⟩;simp only [VR];refine⟨us,q2,q3,.inr ⟨a.block,a.off,cap,C,?_,aTc hC,by omega,fun e=> (by cases e),by rw [q1];exact q4⟩⟩;rw [q1,←hs]
theorem qA {fuel:Nat}{t:TypeId}(ht:P.underlying t=some (.int .i64)){cs:List Value}{x:DataW H×List MemPlace}(h:DataW.trod enc P w 0 spare held fuel t cs=some x) :∃n,cs= [.int .i64 n] :=by
 obtain⟨n,h1,_⟩ :=DataW.trod_int ht h;exact⟨n,h1⟩
theorem aLV {fuel:Nat}{t:TypeId}(ht:P.underlying t=some .string){cs:List Value}{x:DataW H×List MemPlace}(h:DataW.trod enc P w 0 spare held fuel t cs=some x) :∃ (s:cF) (c:Value),cs= [c] ∧VR (embOf w) (dP s) c:=by
 obtain⟨s,h1,_⟩ :=DataW.trod_string ht h;refine⟨s.data.toList,_,h1,?_⟩;have:=fQ s.data.toList;simp only [dP,VR,hQ,this]
theorem four {α:Type}{cs:List α}(h:cs.length=4) :∃a b c d,cs= [a,b,c,d] :=by
 match cs,h with
 | [a,b,c,d],_=>exact⟨a,b,c,d,rfl⟩
theorem two {α:Type}{cs:List α}(h:cs.length=2) :∃a b,cs= [a,b] :=by
 match cs,h with
 | [a,b],_=>exact⟨a,b,rfl⟩
theorem aJp {l:List AV}{cs:List Value}(h:VRs (embOf w) l cs)(ho:cY l=true) :Elt w l.length (.agg l) cs:=
 ⟨h.length,.agg ⟨cs⟩,rfl,by simp only [VR];exact⟨cs,rfl,h⟩,VRs.ones h ho⟩
theorem bBs {a:AV}{c:Value}(h:VR (embOf w) a c)(ha:a.one=true)(hc:c.cells= #[c]) :Elt w 1 a [c] :=
 ⟨rfl,c,by rw [hc],h,fun x hx=>by rw [zq32.1 hx];exact h.one ha⟩
section
theorem cells3 :PP.cellsOf 3=1:=by kernel_rfl
theorem cells9 :PP.cellsOf 9=1:=by kernel_rfl
theorem cells22 :PP.cellsOf 22=1:=by kernel_rfl
theorem cells23 :PP.cellsOf 23=1:=by kernel_rfl
theorem cells24 :PP.cellsOf 24=1:=by kernel_rfl
theorem cells26 :PP.cellsOf 26=4:=by kernel_rfl
theorem cells53 :PP.cellsOf 53=2:=by kernel_rfl
theorem cells47 :PP.cellsOf 47=1:=by kernel_rfl
theorem cells48 :PP.cellsOf 48=1:=by kernel_rfl
theorem cells50 :PP.cellsOf 50=4:=by kernel_rfl
theorem cells55 :PP.cellsOf 55=1:=by kernel_rfl
theorem aJq :PP.cellsOf 57=4:=by kernel_rfl
theorem got {α:Type}{xs:List α}{n i:Nat}{r:Option α}(h:r=xs[i]?)(hl:xs.length=n)(hi:i<n) :∃x,r=some x:=by
 rw [kX (by omega)]at h;exact⟨_,h⟩
theorem aHL {fuel:Nat}{cs:List Value}{x:DataW H×List MemPlace}(h:DataW.trod enc PP w 0 spare held fuel 23 cs=some x) :∃ (l:List Int) (c:Value),cs= [c] ∧VR (embOf w) (.ilst 1 (l.map cG) false) c:=
 pZ cG Tryz.underlying23 cells3 (by omega) h (fun fu _ cs x hx=>by
  obtain⟨n,rfl⟩ :=qA Tryz.underlying3 hx;exact⟨n,bBs (by simp only [cG,VR]) rfl rfl⟩)
theorem aV9 :∀ (fuel:Nat) (cs:List Value) (x:DataW H×List MemPlace),DataW.trod enc PP w 0 spare held fuel 57 cs=some x→∃p:Pat,Elt w 4 (Pat.av p) cs:=by
 intro fuel
 induction fuel using Nat.strongRecOn with
 | ind fuel ih=>
  intro cs x h;obtain⟨xs,m,rfl,rfl,hl,hlen,hf⟩ :=DataW.trod_struct Tryz.underlying57 h;rw [aJq]at hl;obtain⟨c0,c1,c2,c3,rfl⟩ :=four hl;have h0:DataW.trod enc PP w 0 spare held m 55 (([c0,c1,c2,c3].drop 0).take (PP.cellsOf 55)) =xs[0]?:=hf 0 _ rfl;have h1:DataW.trod enc PP w 0 spare held m 3 (([c0,c1,c2,c3].drop 1).take (PP.cellsOf 3)) =xs[1]?:=hf 1 _ rfl;have h2:DataW.trod enc PP w 0 spare held m 9 (([c0,c1,c2,c3].drop 2).take (PP.cellsOf 9)) =xs[2]?:=hf 2 _ rfl;have h3:DataW.trod enc PP w 0 spare held m 48 (([c0,c1,c2,c3].drop 3).take (PP.cellsOf 48)) =xs[3]?:=hf 3 _ rfl;simp only [cells55,cells3,cells9,cells48,drop,take]at h0 h1 h2 h3;obtain⟨x0,h0⟩ :=got h0 hlen (by decide);obtain⟨x1,h1⟩ :=got h1 hlen (by decide);obtain⟨x2,h2⟩ :=got h2 hlen (by decide);obtain⟨x3,h3⟩ :=got h3 hlen (by decide);obtain⟨f,e0⟩ :=qA Tryz.underlying55 h0;obtain⟨n,e1⟩ :=qA Tryz.underlying3 h1;obtain⟨s,c,e2,v2⟩ :=aLV Tryz.underlying9 h2;obtain⟨ps,c',e3,v3⟩ :=pZ Pat.av Tryz.underlying48 aJq (by omega) h3 (fun fu hfu cs x hx=>ih fu (by omega) cs x hx);cases e0;cases e1;cases e2;cases e3;refine⟨.mk f n s ps,?_⟩;simp only [Pat.av,aH];refine aJp (VRs.cons (by simp only [VR]) (VRs.cons (by simp only [VR]) (VRs.cons v2 (VRs.cons v3 (VRs.nil _))))) ?_;rfl
theorem aTf (fuel:Nat)(cs:List Value)(x:DataW H×List MemPlace)(h:DataW.trod enc PP w 0 spare held fuel 50 cs=some x) :∃p:Node,Elt w 4 (Node.av p) cs:=by
 obtain⟨xs,m,rfl,rfl,hl,hlen,hf⟩ :=DataW.trod_struct Tryz.underlying50 h;rw [cells50]at hl;obtain⟨c0,c1,c2,c3,rfl⟩ :=four hl;have h0:DataW.trod enc PP w 0 spare held m 47 (([c0,c1,c2,c3].drop 0).take (PP.cellsOf 47)) =xs[0]?:=hf 0 _ rfl;have h1:DataW.trod enc PP w 0 spare held m 3 (([c0,c1,c2,c3].drop 1).take (PP.cellsOf 3)) =xs[1]?:=hf 1 _ rfl;have h2:DataW.trod enc PP w 0 spare held m 23 (([c0,c1,c2,c3].drop 2).take (PP.cellsOf 23)) =xs[2]?:=hf 2 _ rfl;have h3:DataW.trod enc PP w 0 spare held m 48 (([c0,c1,c2,c3].drop 3).take (PP.cellsOf 48)) =xs[3]?:=hf 3 _ rfl;simp only [cells47,cells3,cells23,cells48,drop,take]at h0 h1 h2 h3;obtain⟨x0,h0⟩ :=got h0 hlen (by decide);obtain⟨x1,h1⟩ :=got h1 hlen (by decide);obtain⟨x2,h2⟩ :=got h2 hlen (by decide);obtain⟨x3,h3⟩ :=got h3 hlen (by decide);obtain⟨f,e0⟩ :=qA Tryz.underlying47 h0;obtain⟨n,e1⟩ :=qA Tryz.underlying3 h1;obtain⟨ks,c,e2,v2⟩ :=aHL h2;obtain⟨ps,c',e3,v3⟩ :=pZ Pat.av Tryz.underlying48 aJq (by omega) h3 (fun fu _ cs x hx=>aV9 fu cs x hx);cases e0;cases e1;cases e2;cases e3;refine⟨⟨f,n,ks,ps⟩,?_⟩;simp only [Node.av,aH];refine aJp (VRs.cons (by simp only [VR]) (VRs.cons (by simp only [VR]) (VRs.cons v2 (VRs.cons v3 (VRs.nil _))))) ?_;rfl
theorem aWa (fuel:Nat)(cs:List Value)(x:DataW H×List MemPlace)(h:DataW.trod enc PP w 0 spare held fuel 53 cs=some x) :∃p:Con,Elt w 2 (Con.av p) cs:=by
 obtain⟨xs,m,rfl,rfl,hl,hlen,hf⟩ :=DataW.trod_struct Tryz.underlying53 h;rw [cells53]at hl;obtain⟨c0,c1,rfl⟩ :=two hl;have h0:DataW.trod enc PP w 0 spare held m 9 (([c0,c1].drop 0).take (PP.cellsOf 9)) =xs[0]?:=hf 0 _ rfl;have h1:DataW.trod enc PP w 0 spare held m 3 (([c0,c1].drop 1).take (PP.cellsOf 3)) =xs[1]?:=hf 1 _ rfl;simp only [cells9,cells3,drop,take]at h0 h1;obtain⟨x0,h0⟩ :=got h0 hlen (by decide);obtain⟨x1,h1⟩ :=got h1 hlen (by decide);obtain⟨s,c,e0,v0⟩ :=aLV Tryz.underlying9 h0;obtain⟨n,e1⟩ :=qA Tryz.underlying3 h1;cases e0;cases e1;refine⟨⟨s,n⟩,?_⟩;simp only [Con.av];refine aJp (VRs.cons v0 (VRs.cons (by simp only [VR]) (VRs.nil _))) ?_;rfl
theorem lift_prog (fuel:Nat)(cs:List Value)(x:DataW H×List MemPlace)(h:DataW.trod enc PP w 0 spare held fuel 26 cs=some x) :∃p:Prog,VR (embOf w) (Prog.av p) (.agg ⟨cs⟩) :=by
 obtain⟨xs,m,rfl,rfl,hl,hlen,hf⟩ :=DataW.trod_struct Tryz.underlying26 h;rw [cells26]at hl;obtain⟨c0,c1,c2,c3,rfl⟩ :=four hl;have h0:DataW.trod enc PP w 0 spare held m 22 (([c0,c1,c2,c3].drop 0).take (PP.cellsOf 22)) =xs[0]?:=hf 0 _ rfl;have h1:DataW.trod enc PP w 0 spare held m 23 (([c0,c1,c2,c3].drop 1).take (PP.cellsOf 23)) =xs[1]?:=hf 1 _ rfl;have h2:DataW.trod enc PP w 0 spare held m 3 (([c0,c1,c2,c3].drop 2).take (PP.cellsOf 3)) =xs[2]?:=hf 2 _ rfl;have h3:DataW.trod enc PP w 0 spare held m 24 (([c0,c1,c2,c3].drop 3).take (PP.cellsOf 24)) =xs[3]?:=hf 3 _ rfl;simp only [cells22,cells23,cells3,cells24,drop,take]at h0 h1 h2 h3;obtain⟨x0,h0⟩ :=got h0 hlen (by decide);obtain⟨x1,h1⟩ :=got h1 hlen (by decide);obtain⟨x2,h2⟩ :=got h2 hlen (by decide);obtain⟨x3,h3⟩ :=got h3 hlen (by decide);obtain⟨ns,c,e0,v0⟩ :=pZ Node.av Tryz.underlying22 cells50 (by omega) h0 (fun fu _ cs x hx=>aTf fu cs x hx);obtain⟨fs,c',e1,v1⟩ :=aHL h1;obtain⟨n,e2⟩ :=qA Tryz.underlying3 h2;obtain⟨ks,c'',e3,v3⟩ :=pZ Con.av Tryz.underlying24 cells53 (by omega) h3 (fun fu _ cs x hx=>aWa fu cs x hx);cases e0;cases e1;cases e2;cases e3;refine⟨⟨ns,fs,n,ks⟩,?_⟩;simp only [Prog.av,VR];exact⟨_,rfl,VRs.cons v0 (VRs.cons v1 (VRs.cons (by simp only [VR]) (VRs.cons v3 (VRs.nil _))))⟩
end
end
end
end Go.Hb
