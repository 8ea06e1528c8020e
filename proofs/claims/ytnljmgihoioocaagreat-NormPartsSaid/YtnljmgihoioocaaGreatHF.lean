/- A machine on abstract values, its soundness, ways, plain laws. -/
import Derived.Test.YtnljmgihoioocaaGreatHD
import Derived.Test.YtnljmgihoioocaaGreatHE
import Derived.KernelRfl
import Derived.Test.YtnljmgihoioocaaGreatProg
import Derived.WalkKit
import Derived.OpenShut
import Derived.ChangeArms
set_option linter.defProp false
set_option linter.unusedVariables false
set_option linter.unusedSimpArgs false
set_option linter.unusedSectionVars false
set_option maxRecDepth 100000
namespace Go.Hb
open AV (frzOk int keyless keylessL ren renL)
open List (drop length range replicate set take)
open Nat (beq ble ble_eq blt div le_refl lt_or_ge mod pow zero_le)
open Go.Proofs Tryz
noncomputable section
section
variable {P :Program}
def way (P:Program)(m:Nat)(is:List Ins)(s:TS)(t:TS)(ks:List Nat) :Option (Nat×Sum×List Prop) :=
 match rO P is s.as with
 |some (s1,ps) =>some (s1.h.nb,s1.sum (fE m t.nb s1.h.nb ks) t,ps)
 |none=>none
theorem aT2 {m:Nat}{is:List Ins}{s t:TS}{ks:List Nat}{n1:Nat}{ps:List Prop}(a:way P m is s t ks=some (n1,t.want (fE m t.nb n1 ks),ps))(c:cR m t ks=true)(d:fJ t.hp)(hp:AllP ps) :LeadsM P m s.as t.as:=by
 unfold way at a;split at a
 · rename_i v qs u;simp only [Option.some.injEq,Prod.mk.injEq]at a;obtain⟨rfl,h,rfl⟩ :=a;refine(iD u (fun p e=>hp.mem p e)).trans ?_;simp only [AS.sum,TS.want,Sum.mk.injEq]at h;obtain⟨k,q,j,i⟩ :=h;intro hm E fr b w g f fs r;obtain⟨n,o⟩ :=kT (l:=t.hp) (nb:=t.nb) (by simpa [cR]using c) i d r;exact⟨_,fr,b,w,Steps.refl _ _,aES k f,zP q j fs,n,o⟩
 ·cases a
def bGb (P:Program)(m:Nat)(is:List Ins)(s:TS)(hp:List (Nat×AObj×Bool))(nb:Nat)(ks:List Nat) :Option (Nat×AV×List (Option AObj) ×List Prop) :=
 match rO P is s.as with
 | some (s1,ps) =>match xC P s1 with
  |some (v,h1) =>some (h1.nb,v,tG h1 (fE m nb h1.nb ks) hp,ps)
  |none=>none
 |none=>none
theorem aPD {m:Nat}{is:List Ins}{s:TS}{hp:List (Nat×AObj×Bool)}{nb:Nat}{ks:List Nat}{n1:Nat}{v:AV}{ps:List Prop}(a:bGb P m is s hp nb ks=some (n1,ren (fE m nb n1 ks) v,iE (fE m nb n1 ks) hp,ps))
  (e:cR m ⟨⟨0,0,[],[],[],.run,.normal,none⟩,[],hp,nb⟩ ks=true) (g:fJ hp) (d:AllP ps) :Ends P m s.as (.ret v) (aA hp nb) :=by
 unfold bGb at a;split at a
 · rename_i G qs q;split at a
   · rename_i u F k;simp only [Option.some.injEq,Prod.mk.injEq]at a;obtain⟨rfl,t,A,rfl⟩ :=a;subst t;refine(iD q (fun p h=>d.mem p h)).ends ?_;intro hm E fr c w f fs r B b;obtain⟨i,j,D,o,⟨x,rfl,y⟩,l,C⟩ :=nG (m:=m) k hm E fr c w f fs r B b;obtain⟨n,z⟩ :=kT e A g l;exact⟨_,j,_,o,⟨x,rfl,(gU _ _ _ _).1 y⟩,n,C.trans z⟩
   ·cases a
 ·cases a
def aPE (P:Program)(s:AS) :Option (List (AV×Bool) ×Hp) :=
 match s.fr.mode,s.fr.defers,s.cs,P.funcs[s.fr.fn]? with
 | .pan ch,[],[],some _=>some (ch,s.h)
 |_,_,_,_=>none
theorem aME {m:Nat}{s:AS}{j:List (AV×Bool)}{h':Hp}(c:aPE P s=some (j,h')) :Ends P m s (.pan j) h':=fun hm E fr k w f fs r p i=>by
 unfold aPE at c;split at c
 · rename_i l o g hd h d;cases c;have a:=f.mode;rw [g]at a;simp only [MR]at a;obtain⟨n,a,e⟩ :=a;have b:=f.defers;rw [hd]at b;rw [h]at fs;rw [fs.nil_inv];exact⟨_,w,E,.one (xU a b.nil_inv (by rw [f.fn];exact d)),⟨n,rfl,e⟩,r,ExtM.refl hm⟩
 ·cases c
def aWx (τ:Nat→Nat)(ch:List (AV×Bool)) :List (AV×Bool) :=ch.map fun p=> (ren τ p.1,p.2)
def start (P:Program)(f:Nat)(args:List AV) :TS:=
 match P.funcs[f]? with
 | some fn=>match fn.body with
  |some c=> ⟨⟨f,max fn.ntmps args.length,(range args.length).zip args,[.code c],[],.run,.normal,none⟩,[],[],0⟩
  |none=> ⟨⟨f,0,[],[],[],.run,.normal,none⟩,[],[],0⟩
 |none=> ⟨⟨f,0,[],[],[],.run,.normal,none⟩,[],[],0⟩
theorem aF6 {E:Emb}{h:Hp}{w:World}(r:Rel E h w.heap) :Rel E.p ⟨.leaf,0⟩ w.heap:=
 ⟨fun b o e=>by simp [Hp.look,T.at_leaf]at e,fun b a o c L d e=>by simp [Hp.look,T.at_leaf]at e,fun _ _=>rfl,r.imm,fun b o L e=>by simp [Hp.look,T.at_leaf]at e,fun b o e=>by simp [Hp.look,T.at_leaf]at e⟩
theorem aBV :aA [] 0= ⟨.leaf,0⟩ :=rfl
theorem aMF {a:List AV}{k:Nat}{v:AV}(h: (k,v) ∈ (range a.length).zip a) :a[k]?=some v:=by
 obtain⟨i,b⟩ :=zq38.1 h;rw [List.getElem?_zip_eq_some]at b;obtain⟨e,d⟩ :=b;obtain⟨c,he⟩ :=zq0.1 e;rw [List.getElem_range]at he;subst he;exact d
theorem aPF {E E':Emb}{h:Hp}{w w':World}(r:Rel E h w.heap)(m:Rel E' ⟨.leaf,0⟩ w'.heap)(x:ExtM 0 E.p ⟨.leaf,0⟩ w E' ⟨.leaf,0⟩ w') :
  Rel ⟨E.loc,E'.imm⟩ h w'.heap∧ExtM h.nb E h w ⟨E.loc,E'.imm⟩ h w':=by
 have d:∀ {b o},¬ (⟨.leaf,0⟩ :Hp).look b=some o:=fun {b o} e=>by simp [Hp.look,T.at_leaf]at e
 have keep:∀i,i<w.heap.size→w'.heap[i]?=w.heap[i]?:=fun i a=>x.keep i a (fun b o L e=>absurd e d);have f:E.le ⟨E.loc,E'.imm⟩ := ⟨fun _ _ e=>e,x.imm⟩
 have c:∀k C,E'.imm k=some C→k<w.heap.size→E.imm k=some C:=fun k C e hk=>by
  rcases x.immo k C e hk with g| ⟨b,o,L,g,_⟩
  ·exact g
  ·exact absurd g d
 refine⟨⟨fun b o e=>?_,r.kin,r.fresh,m.imm,fun b o L e k i a=>?_,r.keys⟩,⟨fun _ _=>rfl,x.imm,x.size,fun i a _=>keep i a,fun b o L e k i a _=> ⟨b,o,L,e,k,a⟩,le_refl _,x.os,x.tape,x.output,x.froz,fun k C e hk=>.inl (c k C e hk),fun b o e _=> ⟨o,e⟩⟩⟩
 · rcases r.obj0 b o e with u| ⟨L,l,j⟩
   ·exact .inl u
   ·exact .inr ⟨L,l,(j.mono f).heap fun i a=>keep _ (j.lt i a)⟩
 · show E'.imm i=none;cases hc:E'.imm i with
   |none=>rfl
   | some C=>
    have:=c _ C hc (r.lt e k i a);rw [r.apart b o L e k i a]at this;cases this
theorem pure_of {f : Nat} {args : List AV} {v : AV} {fn:Func}{c:Code}(m:P.funcs[f]?=some fn)(hc:fn.body=some c)(hk:keylessL args=true)(C:keyless v=true)(he:Ends P 0 (start P f args).as (.ret v) (aA [] 0)) :aJ P f args v:=fun h=>by
 have s:dW P h (.enter f args) =some ⟨f,eO .leaf 0 args,max fn.ntmps args.length,[.code c],[],.run,.normal,none⟩ :=by simp [dW,dV,m,hc]
 refine⟨_,s,fun hm E fr u w fr' fs r q b=>?_⟩;simp only at fs;rw [fs.nil_inv];have A:FR E.p (start P f args).as.fr fr:=by
  have x: (start P f args).as.fr= ⟨f,dO ((range args.length).zip args),max fn.ntmps args.length,[.code c],[],.run,.normal,none⟩ :=by simp [start,m,hc,TS.as,TF.fr]
  rw [x];refine⟨fr'.fn,⟨fr'.tm.1,fun t a e=>?_⟩,?_,?_,fr'.mode,fr'.kind,?_⟩
  · have k:=aMF (aDf e);have j:= (zq0.1 k).1;have B: (eO .leaf 0 args).at t=some a:=by
     unfold eO;rw [bH,if_pos j];exact k
    obtain⟨d,i,l⟩ :=fr'.tm.2 t a B;exact⟨d,i,gR (keylessL_mem.1 hk a (iO k)) l⟩
  · have:=fr'.todo;simpa [IRs,IR]using this
  · have:=fr'.defers;simpa [DRs]using this
  · have:=fr'.round;simpa [RR]using this
 have e2 : (start P f args).as.cs = [] := by unfold start;split; · split<;>rfl
                                             ·rfl
 have e3 : (start P f args).as.h = ⟨.leaf, 0⟩ := by unfold start;split; · split<;>rfl
                                                    ·rfl
 obtain⟨o,y,g,i,⟨d,rfl,l⟩,p,n⟩ :=he (zero_le _) E.p fr [] w A (by rw [e2];rfl) (by rw [e3];exact aF6 r) q b;rw [e3]at n;obtain⟨z,D⟩ :=aPF r p n;exact⟨_,y,_,i,⟨d,rfl,VR.of_p (E:= ⟨E.loc,g.imm⟩) (show VR (Emb.p ⟨E.loc,g.imm⟩) v d from gR (E:=g) C l)⟩,z,D⟩
def cO (P:Program)(f:Nat)(args:List AV)(hp:List (Nat×AObj×Bool))(nb:Nat) :TS:={(start P f args)with hp:=hp,nb:=nb}
def aSt (nb:Nat)(h1 h2:Hp) :List (Nat×AObj×Bool) →List (Option AObj)
 | [] =>[]
 |p::r=> (bif blt p.1 nb then h1.look p.1 else h2.look p.1) ::aSt nb h1 h2 r
def qX :List (Nat×AObj×Bool) →List (Option AObj)
 | [] =>[]
 |p::r=>some p.2.1::qX r
theorem aIE {nb:Nat}{h1 h2:Hp}:∀ {l:List (Nat×AObj×Bool)},aSt nb h1 h2 l=qX l→∀p∈l,(p.1<nb→h1.look p.1=some p.2.1) ∧ (nb≤p.1→h2.look p.1=some p.2.1)
 | q ::r,h,p,hp=>by
  simp only [aSt,qX,List.cons.injEq]at h;rcases zq7.1 hp with rfl|hp
  · rw [dK]at h;refine⟨fun g=>?_,fun g=>?_⟩
    ·have:=h.1;rw [decide_eq_true g]at this;exact this
    ·have:=h.1;rw [decide_eq_false (show ¬p.1<nb by omega)]at this;exact this
  ·exact aIE h.2 p hp
theorem hU {l:List (Nat×AObj×Bool)}{nb b:Nat}{o:AObj}(e: (aA l nb).look b=some o) :∃f,(b,o,f) ∈l:=by
 have: (b,o) ∈l.map fun p=> (p.1,p.2.1) :=aDf e;obtain⟨⟨pb,po,pf⟩,hp,hpe⟩ :=zq24.1 this;cases hpe;exact⟨pf,hp⟩
theorem aMG {E:Emb}{τ:Nat→Nat}{h:Hp}{f:Nat}{args:List AV}{g:AFrame}{fr:Frame}(hg:dW P h (.enter f args) =some g)(ha:renL τ args=args)(fr':FR E g fr) :FR (E.ren τ) g fr:=by
 simp only [dW,dV]at hg;split at hg
 · split at hg
   · cases hg;refine⟨fr'.fn,⟨fr'.tm.1,fun t a e=>?_⟩,?_,?_,fr'.mode,fr'.kind,?_⟩
     · obtain⟨cv,g1,g2⟩ :=fr'.tm.2 t a e;refine⟨cv,g1,(gU τ E a cv).1 ?_⟩;have ht:t<args.length∧args[t]?=some a:=by
        have e': (eO .leaf 0 args).at t=some a:=e;unfold eO at e';rw [bH]at e';split at e'
        ·rename_i hlt;exact⟨hlt,e'⟩
        ·cases e'
       have all:∀ (l:List AV),renL τ l=l→∀ (i:Nat) (x:AV),l[i]?=some x→ren τ x=x:=by
        intro l
        induction l with
        |nil=>intro _ i x hx;simp at hx
        | cons y l ih=>
         intro hl i x hx;simp only [renL,List.cons.injEq]at hl;cases i with
         |zero=>simp at hx;subst hx;exact hl.1
         |succ i=>exact ih hl.2 i x (by simpa using hx)
       rw [all args ha t a ht.2];exact g2
     ·have:=fr'.todo;simpa [IRs,IR]using this
     ·have:=fr'.defers;simpa [DRs]using this
     ·have:=fr'.round;simpa [RR]using this
   ·cases hg
 ·cases hg
theorem aF7 {f:Nat}{args:List AV}{v:AV}{l l' x:List (Nat×AObj×Bool)}{nb n2:Nat}
  (h0:Spec P (.enter f args) (aA l nb) (.ret v) (aA l' nb)) (hargs:renL (fE nb nb n2 []) args=args) (hv:keyless v=true) (hle:ble nb n2=true)
  (hin:cR nb ⟨⟨0,0,[],[],[],.run,.normal,none⟩,[],l,nb⟩ [] =true) (hl:tG (aA (l++x) n2) (fE nb nb n2 []) l=iE (fE nb nb n2 []) l) (hkl:fJ l)
  (hx:fS n2 (l++x) =true) (hx':fS n2 (l'++x) =true) (hout:aSt nb (aA l' nb) (aA (l++x) n2) (l'++x) =qX (l'++x)) :
  Spec P (.enter f args) (aA (l++x) n2) (.ret v) (aA (l'++x) n2) :=by
 obtain⟨g,hg,he⟩ :=h0;refine⟨g,hg,?_⟩;intro _ E fr ccs w fr' fs r cl base;have hle:=Nat.le_of_ble_eq_true hle
 have hkeys:∀ {b o},(aA l nb).look b=some o→b<nb∧∃o1,(aA (l++x) n2).look b=some o1∧∀L i,Own o L i→Own o1 L i:=fun {b o} e=>by
  obtain⟨fl,hm⟩ :=hU e;simp only [cR,cF]at hin;have hb:= (dZ hin.2 _ hm).1;have:=pT hl _ hm;simp only [uX hb]at this;exact⟨hb,_,this,fun _ _ h=>uW h⟩
 have low:∀ {b},b<nb→ (E.ren (fE nb nb n2 [])) b=E b:=fun {b} hb=>by show E.loc (fE nb nb n2 [] b) =E.loc b;rw [uX hb]
 have nool:∀ {b o},(aA (l++x) n2).look b=some o→b<n2∧bW o= [] :=fun {b o} e=>by
  obtain⟨fl,hm⟩ :=hU e;exact dZ hx _ hm
 have apart:∀ {b b' o o' L L'},(aA (l++x) n2).look b=some o→ (aA (l++x) n2).look b'=some o'→E b=some L→E b'=some L'→b≠b'→¬Meet o o' L L':=fun {b b' o o' L L'} e e' k k' hne hbl=>by
  have:=r.kin b b' o o' L L' e e' k k' hbl hne;unfold Kin at this;rw [(nool e).2,(nool e').2]at this;rcases this with⟨g,_⟩ | ⟨g,_⟩ <;>simp at g
 obtain⟨rL,_⟩ :=kT (h:=aA (l++x) n2) hin hl hkl r;have frL:=aMG (τ:=fE nb nb n2 []) hg hargs fr';rw [fs.nil_inv];obtain⟨cl',w',EL,s1,⟨cv,rfl,g2⟩,r2,x2⟩ :=he (le_refl _) (E.ren (fE nb nb n2 [])) fr [] w frL rfl rL cl base;have hnb: (aA l nb).nb=nb:=rfl;have hnb': (aA l' nb).nb=nb:=rfl;rw [hnb]at x2;have eL:∀ {b},b<nb→EL b=E b:=fun {b} hb=> (x2.low b hb).trans (low hb);have eLhi:∀ {b},nb≤b→EL b=none:=fun {b} hb=>r2.fresh b hb;have hELE:EL.le ⟨E.loc,EL.imm⟩ :=by
  refine⟨fun b L e=>?_,fun _ _ e=>e⟩;rcases lt_or_ge b nb with hb|hb
  ·rw [eL hb]at e;exact e
  ·rw [eLhi hb]at e;cases e
 have hEE:E.le ⟨E.loc,EL.imm⟩ := ⟨fun _ _ e=>e,fun k C e=>x2.imm k C e⟩
 have hlook:∀ {b o},(aA (l'++x) n2).look b=some o→b<n2∧bW o= [] ∧ (b<nb→ (aA l' nb).look b=some o) ∧ (nb≤b→ (aA (l++x) n2).look b=some o) :=fun {b o} e=>by
  obtain⟨fl,hm⟩ :=hU e;exact⟨(dZ hx' _ hm).1,(dZ hx' _ hm).2,aIE hout _ hm⟩
 have away:∀ {b o L},nb≤b→ (aA (l++x) n2).look b=some o→E b=some L→∀b1 o1 L1,(aA l nb).look b1=some o1→ (E.ren (fE nb nb n2 [])) b1=some L1→∀i,Own o1 L1 i→¬Own o L i:=fun {b o L} hb e k b1 o1 L1 e1 k1 i i1 i2=>by
  obtain⟨hb1,o2,e2,ho⟩ :=hkeys e1;rw [low hb1]at k1;exact apart e2 e k1 k (by omega) ⟨i,ho _ _ i1,i2⟩
 refine⟨_,w',⟨E.loc,EL.imm⟩,s1,⟨cv,rfl,?_⟩,⟨fun b o e=>?_,fun b b' o o' L L' e e' k k' hbl hne=>?_,fun b hb=>r.fresh b hb,r2.imm,fun b o L e k i hi=>?_,fun b o e=> (hlook e).1⟩,
  ⟨fun _ _=>rfl,hEE.2,x2.size,fun i hi hn=>?_,fun b' o' L' e k i hi hlt=>?_,le_refl _,x2.os,x2.tape,x2.output,x2.froz,fun k C e hk=>?_,fun b o e hb=>?_⟩⟩
 ·exact VR.of_p (E:= ⟨E.loc,EL.imm⟩) (show VR (Emb.p ⟨E.loc,EL.imm⟩) v cv from gR (E:=EL) hv g2)
 · obtain⟨hb,_,q1,q2⟩ :=hlook e;rcases lt_or_ge b nb with g|g
   · rcases r2.obj0 b o (q1 g)with⟨u1,u2⟩ | ⟨L,k1,k2⟩
     ·rw [eL g]at u2;exact .inl ⟨u1,u2⟩
     ·rw [eL g]at k1;exact .inr ⟨L,k1,k2.mono hELE⟩
   · rcases r.obj0 b o (q2 g)with u| ⟨L,k1,k2⟩
     ·exact .inl u
     ·exact .inr ⟨L,k1,(k2.mono hEE).heap fun i hi=>x2.keep _ (k2.lt i hi) (fun b1 o1 L1 h1 h2 h3=>away g (q2 g) k1 b1 o1 L1 h1 h2 i h3 hi)⟩
 · obtain⟨hb,ho,q1,q2⟩ :=hlook e;obtain⟨hb',ho',q1',q2'⟩ :=hlook e'
   have mixed:∀ {b b' o o' L L'},b<nb→nb≤b'→ (aA l' nb).look b=some o→ (aA (l++x) n2).look b'=some o'→E b=some L→E b'=some L'→¬Meet o o' L L':=fun {b b' o o' L L'} h1 h2 e e' k k' hbl=>by
    obtain⟨i,i1,i2⟩ :=hbl;obtain⟨b1,o1,L1,a1,a2,a3⟩ :=x2.own b o L e (by rw [eL h1];exact k) i i1 (r.lt e' k' i i2);exact away h2 e' k' b1 o1 L1 a1 a2 i a3 i2
   rcases lt_or_ge b nb with g|g
   · rcases lt_or_ge b' nb with g'|g'
     ·exact r2.kin b b' o o' L L' (q1 g) (q1' g') (by rw [eL g];exact k) (by rw [eL g'];exact k') hbl hne
     ·exact absurd hbl (mixed g g' (q1 g) (q2' g') k k')
   · rcases lt_or_ge b' nb with g'|g'
     ·exact absurd hbl.symm (mixed g' g (q1' g') (q2 g) k' k)
     ·exact r.kin b b' o o' L L' (q2 g) (q2' g') k k' hbl hne
 · obtain⟨hb,_,q1,q2⟩ :=hlook e;show EL.imm i=none;rcases lt_or_ge b nb with g|g
   ·exact r2.apart b o L (q1 g) (by rw [eL g];exact k) i hi
   · cases hc:EL.imm i with
     |none=>rfl
     | some C=>
      rcases x2.immo _ C hc (r.lt (q2 g) k i hi)with a| ⟨b1,o1,L1,a1,a2,a3⟩
      · have:=r.apart b o L (q2 g) k i hi;rw [show(E.ren (fE nb nb n2 [])).imm=E.imm from rfl]at a;rw [this]at a;cases a
      ·exact absurd hi (away g (q2 g) k b1 o1 L1 a1 a2 i a3)
 · refine x2.keep i hi (fun b o L e k hh=>?_);obtain⟨hb,o1,e1,ho⟩ :=hkeys e;rw [low hb]at k;exact hn b o1 L e1 k (ho _ _ hh)
 · obtain⟨hb,_,q1,q2⟩ :=hlook e;rcases lt_or_ge b' nb with g|g
   · obtain⟨b1,o1,L1,a1,a2,a3⟩ :=x2.own b' o' L' (q1 g) (by rw [eL g];exact k) i hi hlt;obtain⟨hb1,o2,e2,ho⟩ :=hkeys a1;rw [low hb1]at a2;exact⟨b1,o2,L1,e2,a2,ho _ _ a3⟩
   ·exact⟨b',o',L',q2 g,k,hi⟩
 · rcases x2.immo k C e hk with a| ⟨b1,o1,L1,a1,a2,a3⟩
   ·exact .inl a
   · obtain⟨hb1,o2,e2,ho⟩ :=hkeys a1;rw [low hb1]at a2;exact .inr ⟨b1,o2,L1,e2,a2,ho _ _ a3⟩
 · obtain⟨_,_,q1,q2⟩ :=hlook e;rcases lt_or_ge b nb with g|g
   · obtain⟨o0,e0⟩ :=x2.keys b o (q1 g) g;exact⟨_,(hkeys e0).2.choose_spec.1⟩
   ·exact⟨o,q2 g⟩
theorem yK {o:AObj}(h:o.kl) :bW o= [] :=by cases o<;>first|rfl|exact h.elim
def aET (nb nb':Nat) :List (Nat×AObj×Bool) →Bool
 | [] =>true
 |p::r=>ble nb p.1&&blt p.1 nb'&&p.2.2&&aET nb nb' r
theorem aD4 {nb a:Nat}:∀ {l:List (Nat×AObj×Bool)},aET nb a l=true→∀p∈l,nb≤p.1∧p.1<a∧p.2.2=true
 | q::r,h,p,b=>by
  simp only [aET,cF,dK,jG,decide_eq_true_eq]at h;rcases zq7.1 b with rfl|b
  ·exact⟨h.1.1.1,h.1.1.2,h.1.2⟩
  ·exact aD4 h.2 p b
def aWy (n2:Nat)(l:List (Nat×AObj×Bool)) :List (Nat×AObj×Bool) :=l.map fun p=> (p.1+n2,p.2.1,p.2.2)
def aBW (ks:List Nat) :List (Nat×AObj×Bool) →Bool
 | [] =>true
 |p::r=> !(xA p.1 ks) &&aBW ks r
theorem aBX {ks:List Nat}:∀ {l:List (Nat×AObj×Bool)},aBW ks l=true→∀p∈l,p.1∉ks
 | q ::r,h,p,a=>by
  simp only [aBW,cF,Bool.not_eq_true']at h;rcases zq7.1 a with rfl|a
  · intro hm;rw [(yJ _ _).2 hm]at h;cases h.1
  ·exact aBX h.2 p a
theorem aIF {j:Nat→Nat}{h h':Hp}{f:Nat}{b args':List AV}{g:AFrame}(k:dW P h (.enter f b) =some g)(w:renL j b=args') :
  ∃u,dW P h' (.enter f args') =some u∧∀ {E:Emb} {fr:Frame},FR E u fr→FR (E.ren j) g fr:=by
 have d:∀ (l:List AV),(renL j l).length=l.length:=by
  intro l
  induction l with
  |nil=>rfl
  |cons x l p=>simp [renL,p]
 have n:∀ (l:List AV) (i:Nat) (x:AV),l[i]?=some x→ (renL j l)[i]?=some (ren j x) :=by
  intro l
  induction l with
  |nil=>intro i x m;simp at m
  | cons y l p=>
   intro i x m;cases i with
   |zero=>simp at m;subst m;simp [renL]
   |succ i=>simp only [renL,lV]at m ⊢;exact p i x m
 subst w;simp only [dW,dV]at k ⊢;split at k
 · rename_i fn v;split at k
   · rename_i c hc;cases k;refine⟨_,rfl,fun {E fr} fr'=>?_⟩;refine⟨fr'.fn,⟨by have:=fr'.tm.1;rw [d]at this;exact this,fun t a e=>?_⟩,?_,?_,fr'.mode,fr'.kind,?_⟩
     · have r:t<b.length∧b[t]?=some a:=by
        have o: (eO .leaf 0 b).at t=some a:=e;unfold eO at o;rw [bH]at o;split at o
        ·rename_i q;exact⟨q,o⟩
        ·cases o
       obtain⟨s,A,z⟩ :=fr'.tm.2 t (ren j a) (by
        show(eO .leaf 0 (renL j b)).at t=_;unfold eO;rw [bH,if_pos (by rw [d];exact r.1)];exact n b t a r.2)
       exact⟨s,A,(gU j E a s).1 z⟩
     ·have:=fr'.todo;simpa [IRs,IR]using this
     ·have:=fr'.defers;simpa [DRs]using this
     ·have:=fr'.round;simpa [RR]using this
   ·cases k
 ·cases k
def aSu (P:Program)(c:AIn)(h:Hp)(res:Res)(h':Hp) :Prop:=∃g,dW P h c=some g∧Ends P 0 ⟨g,[],h⟩ res h'
theorem aBY {f:Nat}{S args':List AV}{v:AV}{l l' lc x:List (Nat×AObj×Bool)}{nb j n2:Nat}{ks:List Nat}
  (h0:aSu P (.enter f S) (aA l nb) (.ret v) (aA l' j)) (Z:renL (fE 0 nb n2 ks) S=args')
  (K:cR 0 ⟨⟨0,0,[],[],[],.run,.normal,none⟩,[],l,nb⟩ ks=true) (hl:tG (aA lc n2) (fE 0 nb n2 ks) l=iE (fE 0 nb n2 ks) l) (hkl:fJ l)
  (hx:fS n2 lc=true) (hxs:qX x= (x.map fun p=> (aA lc n2).look p.1)) (hxk:aBW ks x=true)
  (hnew:aET 0 j l'=true) (hkl':fJ l') (hll:qX l'= (l'.map fun p=> (aA l' j).look p.1)) :
  Spec P (.enter f args') (aA lc n2) (.ret (ren (fun b=>b+n2) v)) (aA (aWy n2 l'++x) (j+n2)) :=by
 obtain⟨g,hg,he⟩ :=h0;obtain⟨g',hg',hfr⟩ :=aIF (h':=aA lc n2) hg Z;refine⟨g',hg',?_⟩;intro _ E fr ccs w fr' fs r cl base;have m:∀ {k:Hp} {l:List (Nat×AObj×Bool)},qX l= (l.map fun p=>k.look p.1) →∀p∈l,k.look p.1=some p.2.1:=by
  intro k l
  induction l with
  |nil=>intro _ p O;cases O
  | cons q l ih=>
   intro h p O;simp only [qX,dJ,List.cons.injEq]at h;rcases zq7.1 O with rfl|O
   ·exact h.1.symm
   ·exact ih h.2 p O
 have hlenks:ks.length=nb:=by
  simp only [cR,cF]at K;have:=iF K.1.1.1.2;simpa using this
 have s:∀ {b o},(aA l nb).look b=some o→b<nb∧fE 0 nb n2 ks b∈ks∧∃y,(aA lc n2).look (fE 0 nb n2 ks b) =some y∧∀L i,Own o L i→Own y L i:=fun {b o} e=>by
  obtain⟨fl,hm⟩ :=hU e;have hb:b<nb:=by
   simp only [cR,cF]at K;exact(dZ K.2 _ hm).1
  refine⟨hb,?_,_,pT hl _ hm,fun _ _ h=>uW h⟩;rw [aBU (zero_le b) hb];rw [Nat.sub_zero,hQ,kH (by omega)];exact List.getElem_mem ..
 have I:∀ {b o},(aA lc n2).look b=some o→b<n2∧bW o= [] :=fun {b o} e=>by
  obtain⟨fl,hm⟩ :=hU e;exact dZ hx _ hm
 have W:∀ {b z o A L L'},(aA lc n2).look b=some o→ (aA lc n2).look z=some A→E b=some L→E z=some L'→b≠z→¬Meet o A L L':=fun {b z o A L L'} e T k D V t=>by
  have:=r.kin b z o A L L' e T k D t V;unfold Kin at this;rw [(I e).2,(I T).2]at this;rcases this with⟨g,_⟩ | ⟨g,_⟩ <;>simp at g
 obtain⟨rL,_⟩ :=kT (h:=aA lc n2) K hl hkl r;have frL:=hfr fr';rw [fs.nil_inv];obtain⟨cl',w',U,s1,⟨cv,rfl,g2⟩,r2,G⟩ :=he (zero_le _) (E.ren (fE 0 nb n2 ks)) fr [] w frL rfl rL cl base
 let E':Emb:= ⟨fun b=>if b<n2 then E b else U (b-n2),U.imm⟩
 have Q:∀ {b},b<n2→E' b=E b:=fun {b} hb=>if_pos hb;have R:∀ {b},n2≤b→E' b=U (b-n2) :=fun {b} hb=>if_neg (by omega);have hEE:E.le E':= ⟨fun b L e=>by rw [Q (r.nb_gt e)];exact e,fun k C e=>G.imm k C e⟩;have hsig:U.le (E'.ren (fun b=>b+n2)) :=by
  refine⟨fun b L e=>?_,fun _ _ e=>e⟩;show E' (b+n2) =some L;rw [R (by omega),show b+n2-n2=b by omega];exact e
 have c:∀ {b o},(aA (aWy n2 l'++x) (j+n2)).look b=some o→ (n2≤b∧b<j+n2∧ (aA l' j).look (b-n2) =some o∧o.kl) ∨ (b∉ks∧b<n2∧ (aA lc n2).look b=some o) :=fun {b o} e=>by
  obtain⟨fl,hm⟩ :=hU e;rcases zq28.1 hm with hm|hm
  · obtain⟨⟨pb,po,pf⟩,O,hpe⟩ :=zq24.1 hm;cases hpe;obtain⟨n,u,d⟩ :=aD4 hnew _ O;simp only at n u d;subst d;refine .inl ⟨by omega,by omega,?_,nJ hkl' pb po O⟩;rw [show pb+n2-n2=pb by omega];exact m hll _ O
  · have q:=m hxs _ hm;exact .inr ⟨aBX hxk _ hm,(I q).1,q⟩
 have H:∀ {b o L},b∉ks→ (aA lc n2).look b=some o→E b=some L→∀J y B,(aA l nb).look J=some y→ (E.ren (fE 0 nb n2 ks)) J=some B→∀i,Own y B i→¬Own o L i:=fun {b o L} hb e k J y B e1' k1 i i1 i2=>by
  obtain⟨_,hin1,o2,N,ho⟩ :=s e1';exact W N e k1 k (fun h=>hb (h ▸ hin1)) ⟨i,ho _ _ i1,i2⟩
 have M:∀ {b z o A L L'},z∉ks→ (aA l' j).look (b-n2) =some o→ (aA lc n2).look z=some A→U (b-n2) =some L→E z=some L'→¬Meet o A L L':=fun {b z o A L L'} h2 e T k D t=>by
  obtain⟨i,i1,i2⟩ :=t;obtain⟨J,y,B,a1,a2,X⟩ :=G.own _ o L e k i i1 (r.lt T D i i2);exact H h2 T D J y B a1 a2 i X i2
 have hnb2: (aA lc n2).nb=n2:=rfl
 refine⟨_,w',E',s1,⟨cv,rfl,(gU _ E' v cv).2 (g2.mono hsig)⟩,⟨fun b o e=>?_,fun b z o A L L' e T k D t V=>?_,fun b hb=>?_,r2.imm,fun b o L e k i F=>?_,fun b o e=>?_⟩,
  ⟨fun b hb=>Q hb,hEE.2,G.size,fun i F hn=>?_,fun z A L' e k i F hlt=>?_,?_,G.os,G.tape,G.output,G.froz,fun k C e hk=>?_,fun b o e hb=>?_⟩⟩
 · rcases c e with⟨n,u,d,q4⟩ | ⟨n,u,d⟩
   · rcases r2.obj0 _ o d with⟨u1,u2⟩ | ⟨L,k1,k2⟩
     ·exact .inl ⟨u1,by rw [R n];exact u2⟩
     ·exact .inr ⟨L,by rw [R n];exact k1,aWv (E:=U) (E':=E') rfl q4 k2⟩
   · rcases r.obj0 b o d with⟨u1,u2⟩ | ⟨L,k1,k2⟩
     ·exact .inl ⟨u1,by rw [Q u];exact u2⟩
     ·exact .inr ⟨L,by rw [Q u];exact k1,(k2.mono hEE).heap fun i F=>G.keep _ (k2.lt i F) (fun J y B h1 h2 h3=>H n d k1 J y B h1 h2 i h3 F)⟩
 · rcases c e with⟨n,u,d,q4⟩ | ⟨n,u,d⟩
   · rw [R n]at k;rcases c T with⟨p1,p2,Y,p4⟩ | ⟨p1,p2,Y⟩
     · rw [R p1]at D;exact absurd (r2.kin (b-n2) (z-n2) o A L L' d Y k D t (by omega)) (by unfold Kin;rw [yK q4,yK p4];simp)
     · rw [Q p2]at D;exact absurd t (M p1 d Y k D)
   · rw [Q u]at k;rcases c T with⟨p1,p2,Y,p4⟩ | ⟨p1,p2,Y⟩
     · rw [R p1]at D;exact absurd t.symm (M n Y d D k)
     · rw [Q p2]at D;exact r.kin b z o A L L' d Y k D t V
 · have hb:j+n2≤b:=hb;rw [R (by omega)];exact r2.fresh _ (by show j≤_;omega)
 · show U.imm i=none;rcases c e with⟨n,u,d,q4⟩ | ⟨n,u,d⟩
   · rw [R n]at k;exact r2.apart _ o L d k i F
   · rw [Q u]at k;cases hc:U.imm i with
     |none=>rfl
     | some C=>
      rcases G.immo _ C hc (r.lt d k i F)with a| ⟨J,y,B,a1,a2,X⟩
      · have:=r.apart b o L d k i F;rw [show(E.ren (fE 0 nb n2 ks)).imm=E.imm from rfl]at a;rw [this]at a;cases a
      ·exact absurd F (H n d k J y B a1 a2 i X)
 · rcases c e with⟨n,u,_⟩ | ⟨n,u,_⟩
   ·exact u
   ·show b<j+n2;omega
 · refine G.keep i F (fun b o L e k hh=>?_);obtain⟨_,_,y,e1',ho⟩ :=s e;exact hn _ y L e1' k (ho _ _ hh)
 · rcases c e with⟨n,u,d,q4⟩ | ⟨n,u,d⟩
   · rw [R n]at k;obtain⟨J,y,B,a1,a2,X⟩ :=G.own _ A L' d k i F hlt;obtain⟨_,_,o2,N,ho⟩ :=s a1;exact⟨_,o2,B,N,a2,ho _ _ X⟩
   · rw [Q u]at k;exact⟨z,A,L',d,k,F⟩
 ·show n2≤j+n2;omega
 · rcases G.immo k C e hk with a| ⟨J,y,B,a1,a2,X⟩
   ·exact .inl a
   · obtain⟨_,_,o2,N,ho⟩ :=s a1;exact .inr ⟨_,o2,B,N,a2,ho _ _ X⟩
 · have hb:b<n2:=hb;rcases c e with⟨n,_⟩ | ⟨_,_,d⟩
   ·omega
   ·exact⟨o,d⟩
theorem aMH {a:Nat→Nat}{E:Emb}:∀ {c:List (AV×AV×Nat)} {d:List MapEntry},ERs (E.ren a) c d→ERs E (c.map fun p=> (ren a p.1,ren a p.2.1,p.2.2)) d
 | [],_,r=>by simpa [ERs]using r
 | e::c,_,r=>by
  simp only [ERs]at r;simp only [dJ,ERs];obtain⟨u,b,j,f,i,g,h⟩ :=r;exact⟨u,b,j,(gU a E _ _).2 f,(gU a E _ _).2 i,g,aMH h⟩
def plainO :AObj→Bool
 | .cells .. | .map .. | .lst .. | .loop .. | .defd .. | .zone .. =>true
 |_=>false
theorem bAQ {k:Nat→Nat}{E:Emb}{H:Array Obj}{L:Loc}{o:AObj}(hp:plainO o=true)(r:OR (E.ren k) H L o) :OR E H L (o.ren k) :=by
 cases o with
 | cells t n K A=>
  obtain⟨C,m,d,b,g⟩ :=r;refine⟨C,m,d,b,fun i a e=>?_⟩;rw [aER]at e;cases f:t.at i with
  |none=>rw [f]at e;cases e
  | some j=>
   rw [f]at e;cases e;obtain⟨l,v,p,u⟩ :=g i j f;exact⟨l,v,p,(gU k E j v).2 u⟩
 |map O c=>obtain⟨y,d,b⟩ :=r;exact⟨y,d,aMH b⟩
 |lst e w=>obtain⟨C,m,s,d,b,g,F⟩ :=r;exact⟨C,m,s,d,b,(nZ k E w s).2 g,F⟩
 |defd t=>exact r
 | loop st U fn x R N J T S=>
  obtain⟨h,G,d,b,g⟩ :=r;refine⟨h,G,d,b,g.1,fun t a e=>?_⟩;rw [aER]at e;cases f:x.at t with
  |none=>rw [f]at e;cases e
  | some j=>
   rw [f]at e;cases e;obtain⟨q,l,p⟩ :=g.2 t j f;exact⟨q,l,(gU k E j q).2 p⟩
 | zone Q M Z=>
  obtain⟨z,D,B,I⟩ :=r;exact⟨z,D,by rw [aMh];exact B,I⟩
 |_=>cases hp
def yL :List (Nat×AObj×Bool) →Bool
 | [] =>true
 |p::r=> (p.2.2||plainO p.2.1) &&yL r
theorem aF8 :∀ {l:List (Nat×AObj×Bool)},yL l=true→∀p∈l,p.2.2=true∨plainO p.2.1=true
 | q::r,h,p,a=>by
  simp only [yL,cF,Bool.or_eq_true]at h;rcases zq7.1 a with rfl|a
  ·exact h.1
  ·exact aF8 h.2 p a
def namesT (τ:Nat→Nat) :List (Nat×AObj×Bool) →List Nat
 | [] =>[]
 |p::r=>τ p.1::namesT τ r
theorem aF9 {a:Nat→Nat}{b:Nat}:∀ {l:List (Nat×AObj×Bool)},b∈namesT a l→∃p∈l,a p.1=b
 | q ::r,h=>by
  rcases zq7.1 h with e|h
  ·exact⟨q,dT ..,e.symm⟩
  · obtain⟨p,c,e⟩ :=aF9 h;exact⟨p,eD _ c,e⟩
def aD5 (names ks:List Nat)(h1:Hp) :List (Nat×AObj×Bool) →List (Option AObj)
 | [] =>[]
 |p::r=> (bif xA p.1 names then some p.2.1 else bif xA p.1 ks then none else h1.look p.1) ::aD5 names ks h1 r
theorem aIG {a ks:List Nat}{h1:Hp}:∀ {l:List (Nat×AObj×Bool)},aD5 a ks h1 l=qX l→∀p∈l,p.1∈a∨ (p.1∉ks∧h1.look p.1=some p.2.1)
 | q ::r,h,p,b=>by
  simp only [aD5,qX,List.cons.injEq]at h;rcases zq7.1 b with rfl|b
  · cases hm:xA p.1 a
    case true=>exact .inl ((yJ _ _).1 hm)
    have h1:=h.1;rw [hm]at h1;simp only [cond]at h1;cases hk:xA p.1 ks
    case true=>rw [hk]at h1;cases h1
    rw [hk]at h1;exact .inr ⟨fun c=>by(rw [(yJ _ _).2 c]at hk;cases hk),h1⟩
  ·exact aIG h.2 p b
theorem CR.of_p {E:Emb}:∀ {c:List (AV×Bool)} {b:List PanicEntry},CR E.p c b→CR E c b
 | [],_,r=>by simpa [CR]using r
 | a::l,_,r=>by
  simp only [CR]at r ⊢;obtain⟨v,b,f,d,e⟩ :=r;exact⟨v,b,f,d.of_p,e.of_p⟩
def gI (P:Program)(m:Nat)(c:AIn)(h:Hp)(res:Res)(h':Hp) :Prop:=∃g,dW P h c=some g∧Ends P m ⟨g,[],h⟩ res h'
def kL (m n2:Nat)(ks:List Nat)(b:Nat) :Nat:=bif blt b m then ks.getD b 0 else b-m+n2
theorem aT3 {f:Nat}{args args':List AV}{res res':Res}{l l' lc lc':List (Nat×AObj×Bool)}{m nb c n2:Nat}{ks:List Nat}
  (h0:gI P m (.enter f args) (aA l nb) res (aA l' c)) (hres:∀ {F:Emb} {loc:Nat→Option Loc} {cl cl':Frame},F.le ((⟨loc,F.imm⟩ :Emb).ren (kL m n2 ks)) →Got F cl res cl'→Got ⟨loc,F.imm⟩ cl res' cl') (hargs:renL (fE 0 nb n2 ks) args=args') (hm:ble m nb=true) (hm':ble m c=true)
  (V:cR 0 ⟨⟨0,0,[],[],[],.run,.normal,none⟩,[],l,nb⟩ ks=true) (hl:tG (aA lc n2) (fE 0 nb n2 ks) l=iE (fE 0 nb n2 ks) l) (hkl:fJ l)
  (hl':tG (aA lc' (c-m+n2)) (kL m n2 ks) l'=iE (kL m n2 ks) l') (hkl':fJ l') (hpl:yL l'=true) (hk':fS c l'=true)
  (hx:fS n2 lc=true) (hx':fS (c-m+n2) lc'=true) (hlt:ks.all (fun k=>blt k n2) =true) (hout:aD5 (namesT (kL m n2 ks) l') (l.map fun p=>ks.getD p.1 0) (aA lc n2) lc'=qX lc') (hll:qX l'= (l'.map fun p=> (aA l' c).look p.1)) :
  Spec P (.enter f args') (aA lc n2) res' (aA lc' (c-m+n2)) :=by
 obtain⟨g,hg,he⟩ :=h0;obtain⟨g',hg',hfr⟩ :=aIF (h':=aA lc n2) hg hargs;refine⟨g',hg',?_⟩;intro _ E fr ccs w fr' fs r cl base;have hm:=Nat.le_of_ble_eq_true hm;have hm':=Nat.le_of_ble_eq_true hm';have K:∀ {k:Hp} {l:List (Nat×AObj×Bool)},qX l= (l.map fun p=>k.look p.1) →∀p∈l,k.look p.1=some p.2.1:=by
  intro k l
  induction l with
  |nil=>intro _ p hp;cases hp
  | cons q l ih=>
   intro h p hp;simp only [qX,dJ,List.cons.injEq]at h;rcases zq7.1 hp with rfl|hp
   ·exact h.1.symm
   ·exact ih h.2 p hp
 have hlenks:ks.length=nb:=by
  simp only [cR,cF]at V;have:=iF V.1.1.1.2;simpa using this
 have X:∀ {b},b<nb→fE 0 nb n2 ks b=ks.getD b 0:=fun {b} hb=>by
  rw [aBU (zero_le b) hb,Nat.sub_zero]
 have gin:∀ {b},b<nb→ks.getD b 0∈ks:=fun {b} hb=>by
  rw [hQ,kH (by omega)];exact List.getElem_mem ..
 have glt:∀ {b},b<nb→ks.getD b 0<n2:=fun {b} hb=>by
  have:=zq27.1 hlt _ (gin hb);rw [dK,decide_eq_true_eq]at this;exact this
 have slo:∀ {b},b<m→kL m n2 ks b=ks.getD b 0:=fun {b} hb=>by unfold kL;rw [dK,decide_eq_true hb];rfl
 have shi:∀ {b},m≤b→kL m n2 ks b=b-m+n2:=fun {b} hb=>by unfold kL;rw [dK,decide_eq_false (by omega)];rfl
 have s:∀ {b o},(aA l nb).look b=some o→b<nb∧∃z,(aA lc n2).look (fE 0 nb n2 ks b) =some z∧∀L i,Own o L i→Own z L i:=fun {b o} e=>by
  obtain⟨fl,u⟩ :=hU e;have hb:b<nb:=by
   simp only [cR,cF]at V;exact(dZ V.2 _ u).1
  exact⟨hb,_,pT hl _ u,fun _ _ h=>uW h⟩
 have U:∀ {b o},(aA lc n2).look b=some o→b<n2∧bW o= [] :=fun {b o} e=>by
  obtain⟨fl,u⟩ :=hU e;exact dZ hx _ u
 have apart:∀ {b G o S L L'},(aA lc n2).look b=some o→ (aA lc n2).look G=some S→E b=some L→E G=some L'→b≠G→¬Meet o S L L':=fun {b G o S L L'} e e' k Q hne A=>by
  have:=r.kin b G o S L L' e e' k Q A hne;unfold Kin at this;rw [(U e).2,(U e').2]at this;rcases this with⟨g,_⟩ | ⟨g,_⟩ <;>simp at g
 obtain⟨rL,_⟩ :=kT (h:=aA lc n2) V hl hkl r;have frL:=hfr fr';rw [fs.nil_inv];obtain⟨cl',w',F,s1,g2,r2,H⟩ :=he hm (E.ren (fE 0 nb n2 ks)) fr [] w frL rfl rL cl base
 have eL:∀ {b},b<m→F b=E (ks.getD b 0) :=fun {b} hb=>by
  rw [H.low b hb];show E (fE 0 nb n2 ks b) =_;rw [X (by omega)]
 let E':Emb:= ⟨fun b=>if b<n2 then E b else F (b-n2+m),F.imm⟩
 have e1:∀ {b},b<n2→E' b=E b:=fun {b} hb=>if_pos hb;have e2:∀ {b},n2≤b→E' b=F (b-n2+m) :=fun {b} hb=>if_neg (by omega)
 have hE:∀b,E' (kL m n2 ks b) =F b:=fun b=>by
  rcases lt_or_ge b m with hb|hb
  ·rw [slo hb,e1 (glt (by omega)),eL hb]
  ·rw [shi hb,e2 (by omega),show b-m+n2-n2+m=b by omega]
 have hsig:F.le (E'.ren (kL m n2 ks)) := ⟨fun b L e=>by show E' (kL m n2 ks b) =some L;rw [hE];exact e,fun _ _ e=>e⟩;have hEE:E.le E':= ⟨fun b L e=>by rw [e1 (r.nb_gt e)];exact e,fun k C e=>H.imm k C e⟩
 have d:∀ {b o},(aA lc' (c-m+n2)).look b=some o→b<c-m+n2∧bW o= [] ∧ ((∃i q f,i<c∧kL m n2 ks i=b∧ (aA l' c).look i=some q∧o= (bif f then q else q.ren (kL m n2 ks)) ∧ (f=true→q.kl) ∧ (f=true∨plainO q=true)) ∨ (b∉ (l.map fun p=>ks.getD p.1 0) ∧b<n2∧ (aA lc n2).look b=some o)) :=fun {b o} e=>by
  obtain⟨fl,u⟩ :=hU e;refine⟨(dZ hx' _ u).1,(dZ hx' _ u).2,?_⟩;rcases aIG hout _ u with J|J
  · obtain⟨⟨i,q,f⟩,hp,I⟩ :=aF9 J;have R:= (dZ hk' _ hp).1;have hw:=pT hl' _ hp;simp only at I hw R;rw [I,e]at hw;cases hw;exact .inl ⟨i,q,f,R,I,K hll _ hp,rfl,fun hf=>by subst hf;exact nJ hkl' i q hp,aF8 hpl _ hp⟩
  ·exact .inr ⟨J.1,(U J.2).1,J.2⟩
 have Y:∀ {b o L},b∉ (l.map fun p=>ks.getD p.1 0) → (aA lc n2).look b=some o→E b=some L→∀T z N,(aA l nb).look T=some z→ (E.ren (fE 0 nb n2 ks)) T=some N→∀i,Own z N i→¬Own o L i:=fun {b o L} hb e k T z N e1' k1 i i1 i2=>by
  obtain⟨hb1,o2,B,v⟩ :=s e1';obtain⟨fl,u⟩ :=hU e1';exact apart B e k1 k (fun h=>hb (h ▸ zq24.2 ⟨(T,z,fl),u,(X hb1).symm⟩)) ⟨i,v _ _ i1,i2⟩
 have mixed:∀ {i G q S L L'},G∉ (l.map fun p=>ks.getD p.1 0) → (aA l' c).look i=some q→ (aA lc n2).look G=some S→F i=some L→E G=some L'→¬Meet q S L L':=fun {i G q S L L'} h2 e e' k Q A=>by
  obtain⟨y,i1,i2⟩ :=A;obtain⟨T,z,N,a1,a2,a3⟩ :=H.own i q L e k y i1 (r.lt e' Q y i2);exact Y h2 e' Q T z N a1 a2 y a3 i2
 refine⟨_,w',E',s1,hres hsig g2,⟨fun b o e=>?_,fun b G o S L L' e e' k Q A hne=>?_,fun b hb=>?_,r2.imm,fun b o L e k y hy=>?_,fun b o e=> (d e).1⟩,
  ⟨fun b hb=>e1 hb,hEE.2,H.size,fun i R J=>?_,fun G S L' e k y hy hlt=>?_,?_,H.os,H.tape,H.output,H.froz,fun k C e hk=>?_,fun b o e hb=>?_⟩⟩
 · obtain ⟨hb,_,h⟩ :=d e;rcases h with⟨i,q,f,R,I,j,v,hf,W⟩ | ⟨hb',hb2,j⟩
   · subst I;rcases r2.obj0 i q j with⟨u1,u2⟩ | ⟨L,k1,k2⟩
     · refine .inl ⟨?_,by rw [hE];exact u2⟩;rw [v];cases f with
       |true=>exact u1
       | false=>cases q with
        | lst e xs=>cases xs with
         |nil=>rfl
         |cons x xs=>cases u1
        |_=>cases u1
     · refine .inr ⟨L,by rw [hE];exact k1,?_⟩;rw [v];cases f
       case true=>exact aWv (E:=F) (E':=E') rfl (hf rfl) k2
       rcases W with hh|hh
       ·cases hh
       ·exact bAQ hh (k2.mono hsig)
   · rcases r.obj0 b o j with⟨u1,u2⟩ | ⟨L,k1,k2⟩
     ·exact .inl ⟨u1,by rw [e1 hb2];exact u2⟩
     ·exact .inr ⟨L,by rw [e1 hb2];exact k1,(k2.mono hEE).heap fun i R=>H.keep _ (k2.lt i R) (fun T z N h1 h2 h3=>Y hb' j k1 T z N h1 h2 i h3 R)⟩
 · obtain⟨hb,hol,h⟩ :=d e;obtain⟨hb',hol',h'⟩ :=d e'
   have hkin:∀ {o:AObj} {f:Bool} {q:AObj},o= (bif f then q else q.ren (kL m n2 ks)) →bW o= [] →bW q= [] :=fun {o f q} v hol=>by
    cases f
    case true=>subst v;exact hol
    subst v;cases q with
    | cells t n ol sup=>
     have:ol.map (kL m n2 ks) = [] :=hol;exact List.map_eq_nil_iff.1 this
    |_=>rfl
   rcases h with⟨i,q,f,R,I,j,v,hf,W⟩ | ⟨J,O,j⟩
   · subst I;rw [hE]at k;rcases h' with⟨i',q',f',hi',ht',D,M,hf',hpo'⟩ | ⟨hn',Z,D⟩
     · subst ht';rw [hE]at Q;have:=r2.kin i i' q q' L L' j D k Q (by obtain⟨y,i1,i2⟩ :=A;exact⟨y,tD v i1,tD M i2⟩) (fun e=>hne (by rw [e]));unfold Kin at this;rw [hkin v hol,hkin M hol']at this;rcases this with⟨g,_⟩ | ⟨g,_⟩ <;>simp at g
     · rw [e1 Z]at Q;obtain⟨y,i1,i2⟩ :=A;exact(mixed hn' j D k Q ⟨y,tD v i1,i2⟩).elim
   · rw [e1 O]at k;rcases h' with⟨i',q',f',hi',ht',D,M,hf',hpo'⟩ | ⟨hn',Z,D⟩
     · subst ht';rw [hE]at Q;obtain⟨y,i1,i2⟩ :=A;exact(mixed J D j Q k ⟨y,tD M i2,i1⟩).elim
     · rw [e1 Z]at Q;exact r.kin b G o S L L' j D k Q A hne
 · have hb:c-m+n2≤b:=hb;rw [e2 (by omega)];exact r2.fresh _ (by show c≤_;omega)
 · obtain⟨hb,_,h⟩ :=d e;show F.imm y=none;rcases h with⟨i,q,f,R,I,j,v,hf,W⟩ | ⟨J,O,j⟩
   · subst I;rw [hE]at k;exact r2.apart i q L j k y (tD v hy)
   · rw [e1 O]at k;cases hc:F.imm y with
     |none=>rfl
     | some C=>
      rcases H.immo _ C hc (r.lt j k y hy)with a| ⟨T,z,N,a1,a2,a3⟩
      · have:=r.apart b o L j k y hy;rw [show(E.ren (fE 0 nb n2 ks)).imm=E.imm from rfl]at a;rw [this]at a;cases a
      ·exact absurd hy (Y J j k T z N a1 a2 y a3)
 · refine H.keep i R (fun b o L e k hh=>?_);obtain⟨hb,z,e1',v⟩ :=s e;exact J _ z L e1' k (v _ _ hh)
 · obtain⟨hb,_,h⟩ :=d e;rcases h with⟨i,q,f,R,I,j,v,hf,W⟩ | ⟨J,O,j⟩
   · subst I;rw [hE]at k;obtain⟨T,z,N,a1,a2,a3⟩ :=H.own i q L' j k y (tD v hy) hlt;obtain⟨_,o2,B,M⟩ :=s a1;exact⟨_,o2,N,B,a2,M _ _ a3⟩
   · rw [e1 O]at k;exact⟨G,S,L',j,k,hy⟩
 ·show n2≤c-m+n2;omega
 · rcases H.immo k C e hk with a| ⟨T,z,N,a1,a2,a3⟩
   ·exact .inl a
   · obtain⟨_,o2,B,v⟩ :=s a1;exact .inr ⟨_,o2,N,B,a2,v _ _ a3⟩
 · have hb:b<n2:=hb;obtain⟨_,_,h⟩ :=d e;rcases h with⟨i,q,f,R,I,j,v,hf,W⟩ | ⟨J,O,j⟩
   · rcases lt_or_ge i m with him|him
     · obtain⟨o0,e0⟩ :=H.keys i q j him;obtain⟨hi2,o2,B,_⟩ :=s e0;rw [X hi2,←slo him,I]at B;exact⟨o2,B⟩
     · rw [shi him]at I;omega
   ·exact⟨o,j⟩
theorem aWz {f:Nat}{b args':List AV}{v:AV}{l l' lc lc':List (Nat×AObj×Bool)}{m nb a n2:Nat}{ks:List Nat}
  (y:gI P m (.enter f b) (aA l nb) (.ret v) (aA l' a)) (c:renL (fE 0 nb n2 ks) b=args') (hm:ble m nb=true) (t:ble m a=true)
  (o:cR 0 ⟨⟨0,0,[],[],[],.run,.normal,none⟩,[],l,nb⟩ ks=true) (hl:tG (aA lc n2) (fE 0 nb n2 ks) l=iE (fE 0 nb n2 ks) l) (w:fJ l)
  (i:tG (aA lc' (a-m+n2)) (kL m n2 ks) l'=iE (kL m n2 ks) l') (d:fJ l') (u:yL l'=true) (r:fS a l'=true)
  (A:fS n2 lc=true) (s:fS (a-m+n2) lc'=true) (n:ks.all (fun k=>blt k n2) =true) (h:aD5 (namesT (kL m n2 ks) l') (l.map fun p=>ks.getD p.1 0) (aA lc n2) lc'=qX lc') (j:qX l'= (l'.map fun p=> (aA l' a).look p.1)) :
  Spec P (.enter f args') (aA lc n2) (.ret (ren (kL m n2 ks) v)) (aA lc' (a-m+n2)) :=
 aT3 y (fun q g=>by
  obtain⟨x,e,z⟩ :=g;exact⟨x,e,(gU _ _ v x).2 (z.mono q)⟩) c hm t o hl w i d u r A s n h j
theorem Goes.then {E:Emb}{h:Hp}{fr:Frame}{ccs:List Frame}{w:World}{base:List Frame}{a b:AS}(h1:Goes P E h fr ccs w base a)(h2:Leads P a b) :Goes P E h fr ccs w base b:=by
 obtain⟨E1,fr1,cs1,w1,s1,f1,fs1,r1,x1⟩ :=h1;obtain⟨E2,fr2,cs2,w2,s2,f2,fs2,r2,x2⟩ :=h2 E1 fr1 cs1 w1 base f1 fs1 r1;exact⟨E2,fr2,cs2,w2,s1.trans s2,f2,fs2,r2,x1.trans x2⟩
theorem Rel.older {E:Emb}{h:Hp}{H:Array Obj}(r:Rel E h H){b:Nat}{t:T AV}{n:Nat}{o1 o2:List Nat}{sup:Bool}(hb:h.look b=some (.cells t n o1 sup))(hs:∀x∈o1,x∈o2) :Rel E (h.set b (.cells t n o2 sup)) H:=by
 have old:∀ {x o},(h.set b (.cells t n o2 sup)).look x=some o→∃o',h.look x=some o'∧lN o'=lN o∧jO o'=jO o∧nOf o'=nOf o∧ (∀y∈bW o',y∈bW o) ∧ (∀L,OR E H L o'→OR E H L o) ∧∀L i,Own o L i→Own o' L i:=fun {x o} e=>by
  rw [aY]at e;split at e
  · rename_i hx;subst hx;cases e;exact⟨_,hb,rfl,rfl,rfl,hs,fun L ho=>ho,fun _ _ h=>h⟩
  ·exact⟨o,e,rfl,rfl,rfl,fun _ h=>h,fun _ h=>h,fun _ _ h=>h⟩
 refine⟨fun x o e=>?_,fun x x' o o' L L' e e' k k' hbl hne=>?_,r.fresh,r.imm,fun x o L e k i hi=>?_,fun x o e=>?_⟩
 · obtain⟨o',e1,g1,_,_,_,g5,_⟩ :=old e;rcases r.obj0 x o' e1 with⟨a1,a2⟩ | ⟨L,a1,a2⟩
   ·exact .inl ⟨by rw [←g1];exact a1,a2⟩
   ·exact .inr ⟨L,a1,g5 L a2⟩
 · obtain⟨p,e1,_,g2,g3,g4,_,g6⟩ :=old e;obtain⟨p',e1',_,g2',g3',g4',_,g6'⟩ :=old e';obtain⟨i,i1,i2⟩ :=hbl;rcases r.kin x x' p p' L L' e1 e1' k k' ⟨i,g6 _ _ i1,g6' _ _ i2⟩ hne with⟨a1,a2,a3⟩ | ⟨a1,a2,a3⟩
   ·exact .inl ⟨g4 _ a1,by rw [←g2'];exact a2,by rw [←g3',←g3];exact a3⟩
   ·exact .inr ⟨g4' _ a1,by rw [←g2];exact a2,by rw [←g3,←g3'];exact a3⟩
 · obtain⟨o',e1,_,_,_,_,_,g6⟩ :=old e;exact r.apart x o' L e1 k i (g6 _ _ hi)
 · obtain⟨o',e1,_⟩ :=old e;exact r.keys x o' e1
def AS.older (s:AS)(b:Nat)(o2:List Nat) :Option AS:=
 match s.h.look b with
 |some (.cells t n o1 sup) =>bif o1.all (fun x=>bHH x o2)then some {s with h:=s.h.set b (.cells t n o2 sup)} else none
 |_=>none
structure LFr where
 fn:Nat
 tm:List (Nat×AV)
 nt:Nat
 todo:List AItem
 defers:List ADef
 mode:AMode
 kind:CallKind
 ro:Option Nat
structure LS where
 fr:LFr
 cs:List LFr
 hp:List (Nat×AObj)
 nb:Nat
def LFr.fr' (f:LFr) :AFrame:= ⟨f.fn,aJ9 f.tm,f.nt,f.todo,f.defers,f.mode,f.kind,f.ro⟩
def LS.as (s:LS) :AS:= ⟨s.fr.fr',s.cs.map LFr.fr',⟨aJ9 s.hp,s.nb⟩⟩
def bGc {α:Type}:List (Nat×α) →List Nat
 | [] =>[]
 |p::r=>p.1::bGc r
def aPG (f:AFrame)(l:LFr) :AFrame:={f with tm:=aJ9 (aF1 f.tm (bGc l.tm))}
def aKc :List AFrame→List LFr→List AFrame
 |f::fs,l::ls=>aPG f l::aKc fs ls
 |fs,_=>fs
def AS.keep (s:AS)(l:LS) :AS:= ⟨aPG s.fr l.fr,aKc s.cs l.cs,⟨aJ9 (aF1 s.h.t (bGc l.hp)),s.h.nb⟩⟩
def eF (P:Program)(call:bR)(n:Nat)(a b:LS) :Option AS:=
 match nV P call n a.as with
 |some s'=>some (s'.keep b)
 |none=>none
theorem aBZ {E:Emb}{f:AFrame}{c:Frame}(h:FR E f c)(l:LFr) :FR E (aPG f l) c:=
 ⟨h.fn,⟨h.tm.1,fun t a e=>h.tm.2 t a (tC (aEQ e))⟩,h.todo,h.defers,h.mode,h.kind,h.round⟩
theorem aAK {E:Emb}:∀ {fs:List AFrame} {a:List Frame} (b:List LFr),FRs E fs a→FRs E (aKc fs b) a
 | [],_,[],h=>h
 | [],_,_::_,h=>h
 |_::_,_,[],h=>h
 | f::fs,a,l::b,h=>by
  obtain⟨c,e,rfl,g,d⟩ :=FRs.cons_inv h;exact FRs.cons (aBZ g l) (aAK b d)
theorem aPH (s:AS)(l:LS) :Leads P s (s.keep l) :=fun E fr a w d f fs r=>by
 have c:∀b o,(s.keep l).h.look b=some o→s.h.look b=some o:=fun b o e=>tC (aEQ e);exact⟨E,fr,a,w,Steps.refl _ _,aBZ f l.fr,aAK l.cs fs,r.sub c (le_refl _),⟨Emb.le.refl E,le_refl _,fun _ _ _=>rfl,fun b o L j h i g _=> ⟨b,o,L,c b o j,h,g⟩,le_refl _,rfl,rfl,rfl,fun _ _=>rfl,fun _ _=>rfl,fun _ _ e _=>.inl e,fun b o e _=> ⟨o,c b o e⟩⟩⟩
theorem aR {call:bR}(hc:eP P call){n:Nat}{a b:LS}(c:eF P call n a b=some b.as) :Leads P a.as b.as:=by
 unfold eF at c;split at c
 · rename_i e d;rw [uR]at d;rw [←Option.some.inj c];exact(rM hc d).trans (aPH e b)
 ·cases c
end
def Code.part :Code→List Nat→Code
 |c,[] =>c
 | .seq a b,n::p=>bif beq n 0 then Code.part a p else Code.part b p
 | .cond _ a b,n::p=>bif beq n 0 then Code.part a p else Code.part b p
 | .block _ c,_::p=>Code.part c p
 | .loop c,_::p=>Code.part c p
 | .scope c,_::p=>Code.part c p
 | .rangeFunc _ _ a b,n::p=>bif beq n 0 then Code.part a p else Code.part b p
 |c,_=>c
def cd (f:Func)(p:List Nat) :Code:=match f.body with
 |some c=>Code.part c p
 |none=>.skip
def od (f:Func)(p:List Nat) :Array Oper:=match cd f p with
 | .region _ ops _=>ops
 |_=> #[]
def bHJ (f:Func)(p:List Nat)(k:Nat) :AItem:=.ops (od f p) k (drop k (od f p).toList)
abbrev cA :=List UInt8
def bU (n:Int) :AV:=.int .i64 n
def kU (b:Bool) :AV:=.bool b
def dP (s:cA) :AV:=.str (length s) (aF s)
theorem bP {a:Type}{f:a→AV}{l:List a}{i:Nat}{y:a}(h:l[i]?=some y) : (List.map f l)[i]?=some (f y) :=by rw [mZ,h];rfl
theorem cU {a:Type}{f:a→AV}{l:List a}{i:Nat}{y:a}(h:l[i]?=some y) : (List.map f l)[0+i]?=some (f y) :=by rw [eX];exact bP h
theorem aKd {a:Type}(f:a→AV)(l:List a) :0+length l≤length (List.map f l) :=by simp
theorem aKe {a:Type}(f:a→AV)(l m:List a) :take (length l) (drop 0 (List.map f l)) ++List.map f m=List.map f (l++m) :=by
 rw [List.drop_zero,aHY (by simp),wX]
theorem aKf {a:Type}(f:a→AV)(l m:List a) :length l+length (List.map f m) =length (l++m) :=by simp
theorem mE {a:Type}(f:a→AV)(l:List a)(i:Nat)(y:a) : (List.map f l).set (0+i) (f y) =List.map f (set l i y) :=by rw [eX,List.map_set]
theorem aEU {a:Type}(f:a→AV)(n:Nat)(y:a) :replicate n (f y) =List.map f (replicate n y) :=by rw [List.map_replicate]
theorem bT {b e o n m:Nat}{x:Bool}(h:n=m) :AV.gl b e o n x= .gl b e o m x:=by rw [h]
theorem aIH {a:Type}(f:a→AV)(l:List a){b e:Nat}{x:Bool}:frzOk b e (List.map f l) (List.map f l) (.gl b e 0 (length l) x) :=by
 simp only [frzOk];intro _;exact⟨trivial,by simp,by rw [List.drop_zero,aHY (by simp)]⟩
inductive Pat where
 |mk (form n:Int) (text:cA) (parts:List Pat)
mutual
def Pat.av :Pat→AV
 | .mk f n t ps=>.agg [.int .i64 f,.int .i64 n,dP t,.ilst 4 (Pats.av ps) false]
def Pats.av :List Pat→List AV
 | [] =>[]
 |p::ps=>Pat.av p::Pats.av ps
end
theorem aH :∀l,Pats.av l=List.map Pat.av l
 | [] =>rfl
 |p::a=>by rw [Pats.av,aH a];rfl
mutual
theorem mF :∀p,keyless (Pat.av p) =true
 | .mk f n t a=>by simp only [Pat.av,keyless,keylessL,aB0 a,dP,Bool.and_true]
theorem aB0 :∀ (l:List Pat),keylessL (Pats.av l) =true
 | [] =>rfl
 |p::a=>by simp only [Pats.av,keylessL,mF p,aB0 a,Bool.and_true]
end
theorem fP {l:List Pat}:keylessL (Pats.av l) =true:=aB0 l
structure Con where
 name:cA
 args:Int
def Con.av (c:Con) :AV:=.agg [dP c.name,.int .i64 c.args]
structure Node where
 op:Int
 n:Int
 kids:List Int
 pats:List Pat
def Node.av (x:Node) :AV:=.agg [.int .i64 x.op,.int .i64 x.n,.ilst 1 (List.map bU x.kids) false,.ilst 4 (Pats.av x.pats) false]
structure Prog where
 nodes:List Node
 funs:List Int
 main:Int
 cons:List Con
def Prog.av (p:Prog) :AV:=.agg [.ilst 4 (List.map Node.av p.nodes) false,.ilst 1 (List.map bU p.funs) false,.int .i64 p.main,.ilst 2 (List.map Con.av p.cons) false]
section
theorem byte_at :∀ {s:cA} {k:Nat} {y:UInt8},s[k]?=some y→aF s / 256 ^ k % 256=y.toNat
 | c::s,0,y,h=>by
  simp only [lF,Option.some.injEq]at h;subst h;have:=c.toNat_lt;simp only [aF,Nat.pow_zero,Nat.div_one];omega
 | c::s,k+1,y,h=>by
  rw [lV]at h;have:=byte_at h;rw [←this];have hc:=c.toNat_lt;simp only [aF];rw [Nat.pow_succ',←Nat.div_div_eq_div_mul];congr 2;omega
theorem aDh {s:cA}{k:Int}{y:UInt8}(a:0≤k)(h:s[k.toNat]?=some y) :k< ((length s:Nat) :Int) :=by
 have:= (zq0.1 h).1;omega
theorem aDi {s:cA}{k:Int}{y:UInt8}(h:s[k.toNat]?=some y) :int .u8 ((mod (div (aF s) (pow 256 k.toNat)) 256:Nat) :Int) = .int .u8 ((y.toNat:Nat) :Int) :=by
 show int .u8 ((aF s / 256 ^ k.toNat % 256:Nat) :Int) =_;rw [byte_at h]
theorem aGa :∀ (s:cA) (k:Nat),aF s / 256 ^ k=aF (s.drop k)
 |s,0=>by simp
 | [],k+1=>by simp [aF]
 | c::s,k+1=>by
  rw [List.drop_succ_cons,←aGa s k,Nat.pow_succ',←Nat.div_div_eq_div_mul];congr 1;have:=c.toNat_lt;simp only [aF];omega
theorem aII {k:IntKind}{i:Int}(h:0≤i) :hM (some (.int k i)) =some (some i.toNat) :=by
 show(if 0≤i then some (some i.toNat)else none) =_;rw [if_pos h]
theorem uY :hM none=some none:=rfl
variable {P :Program}
def aT4 (P:Program)(t:TypeId)(X:AV)(lo hi:Option AV)(V:AV) :Prop:=
 ∃l u m,hM lo=some l∧hM hi=some u∧hM none=some m∧ (tW P t X l u m=some V∨ (tW P t X l u m=none∧aCX P t X l u m=some V))
theorem aD6 {t:TypeId}(b:P.underlying t=some .string){s:cA}{kk:IntKind}{k:Int}(d:0≤k)(h1:k.toNat≤s.length) :
  aT4 P t (dP s) (some (.int kk k)) none (dP (s.drop k.toNat)) :=by
 refine⟨_,_,_,aII d,uY,uY,.inl ?_⟩;unfold tW dP;rw [b];simp only [Option.getD_some,Option.getD_none];have c:ble k.toNat s.length=true:=ble_eq ▸ h1;have a:ble s.length s.length=true:=ble_eq ▸ le_refl _;have e:div (aF s) (pow 256 k.toNat) =aF (s.drop k.toNat) :=aGa s k.toNat;rw [c,a,e];simp
theorem aT5 {a:Type}{f:a→AV}{F:List a→List AV}(b:∀l,F l=List.map f l){t:TypeId}{e:Nat}(c:aAu P t e=true){xs:List a}{kk:IntKind}{k:Int}(d:0≤k)(h1:k.toNat≤xs.length) :
  aT4 P t (.ilst e (F xs) false) none (some (.int kk k)) (.ilst e (F (xs.take k.toNat)) false) :=by
 rw [b,b];refine⟨_,_,_,uY,aII d,uY,.inr ⟨?_,?_⟩⟩
 ·unfold tW;split<;>simp_all
 · unfold aCX;simp only [c,cond,Option.getD_some,Option.getD_none,hJ];rw [if_pos ⟨zero_le _,h1⟩];simp [List.map_take]
theorem aWA {a:Type}{f:a→AV}{t:TypeId}{e:Nat}(b:aAu P t e=true){xs:List a}{kk:IntKind}{k:Int}(c:0≤k)(h1:k.toNat≤xs.length) :
  aT4 P t (.ilst e (List.map f xs) false) none (some (.int kk k)) (.ilst e (List.map f (xs.take k.toNat)) false) :=aT5 (fun _=>rfl) b c h1
theorem aMI {a:Type}(f:a→AV)(l:List a) : ((length (List.map f l) :Nat) :Int) = ((length l:Nat) :Int) :=by rw [hJ]
section
variable {α :Type} {f:α→AV} {F:List α→List AV} (hF:∀l,F l=List.map f l)
include hF
theorem iV {l:List α}{i:Nat}{y:α}(h:l[i]?=some y) : (F l)[i]?=some (f y) :=by rw [hF];exact bP h
theorem bAR (l:List α) :0+length l≤length (F l) :=by rw [hF];exact aKd f l
theorem bAS (l m:List α) :take (length l) (drop 0 (F l)) ++F m=F (l++m) :=by rw [hF,hF,hF];exact aKe f l m
theorem bAT (l m:List α) :length l+length (F m) =length (l++m) :=by rw [hF];exact aKf f l m
theorem kM (l:List α) : ((length (F l) :Nat) :Int) = ((length l:Nat) :Int) :=by rw [hF,hJ]
theorem aPI (l:List α){b e:Nat}{x:Bool}:frzOk b e (F l) (F l) (.gl b e 0 (length l) x) :=by rw [hF];exact aIH f l
end
theorem aGb :∀ (s:cA),aF s<256 ^ s.length
 | [] =>by simp [aF]
 | c::s=>by
  have:=aGb s;have:=c.toNat_lt;simp only [aF,oK,Nat.pow_succ];omega
theorem bytes_inj {s t:cA}(hl:s.length=t.length)(a:aF s=aF t) :s=t:=by
 rw [←fZ s,←fZ t,hl,a]
theorem qF (s t:cA) :jL (length s) (aF s) (length t) (aF t) =decide (s=t) :=by
 unfold jL;have c:mod (aF s) (pow 256 s.length) =aF s:=Nat.mod_eq_of_lt (aGb s);by_cases hl:s.length=t.length
 · rw [←hl,c];have b:mod (aF t) (pow 256 s.length) =aF t:=by rw [hl];exact Nat.mod_eq_of_lt (aGb t)
   rw [b,show beq s.length s.length=true from Nat.beq_refl _];by_cases a:aF s=aF t
   ·have:=bytes_inj hl a;subst this;simp
   · have:s≠t:=fun e=>a (by rw [e]);rw [show beq (aF s) (aF t) =false from Bool.eq_false_iff.2 (fun h=>a (iF h)),decide_eq_false this];rfl
 · have:s≠t:=fun e=>hl (by rw [e]);simp [this,hl]
theorem dR (s:cA) :jL (length s) (aF s) 0 0=decide (s= []) :=qF s []
def fQ {α β:Type}(f:α→AV)(g:β→AV) :Nat→List (α×β) →List (AV×AV×Nat)
 |_,[] =>[]
 |n,e::l=> (f e.1,g e.2,n) ::fQ f g (n+1) l
def lH {α β:Type}[DecidableEq α](k:α)(v:β) :List (α×β) →List (α×β)
 | [] =>[(k,v)]
 |e::l=>if k=e.1 then(k,v) ::l else e::lH k v l
def mR {α β:Type}[DecidableEq α](k:α) :List (α×β) →Option β
 | [] =>none
 |e::l=>if k=e.1 then some e.2 else mR k l
def bAU {α:Type}[DecidableEq α](f:α→AV) :Prop:=∀a b,pX (f a) (f b) =some (decide (a=b))
theorem bAV :bAU dP:=fun a b=>by
 simp only [pX,dP,qF]
theorem aGc {a b:Type}[DecidableEq a]{f:a→AV}{g:b→AV}(c:bAU f)(k:a) :∀ (l:List (a×b)) (n i:Nat),mR k l=none→rC (f k) (fQ f g n l) i=some none
 | [],n,i,_=>rfl
 | e ::l,n,i,h=>by
  unfold mR at h;split at h
  ·cases h
  · rename_i hk;simp only [fQ,rC,c k e.1,decide_eq_false hk];exact aGc c k l (n+1) _ h
theorem aMJ {c d:Type}[DecidableEq c](f:c→AV)(g:d→AV)(k:c)(v:d) :∀ (l:List (c×d)) (n:Nat),mR k l=none→fQ f g n l++ [(f k,g v,n+l.length)] =fQ f g n (lH k v l) ∧ (lH k v l).length=l.length+1
 | [],n,_=>by simp [fQ,lH]
 | e ::l,n,h=>by
  unfold mR at h;split at h
  ·cases h
  · rename_i hk;obtain⟨a,b⟩ :=aMJ f g k v l (n+1) h;simp only [fQ,lH,if_neg hk,sT,oK,b];refine⟨?_,trivial⟩;rw [←a,show n+1+l.length=n+ (l.length+1)by omega]
theorem aMK {d m:Type}[DecidableEq d]{f:d→AV}{g:m→AV}(o:bAU f)(k:d)(v w:m) :∀ (l:List (d×m)) (n i:Nat),mR k l=some w→∃j,rC (f k) (fQ f g n l) i=some (some (i+j,g w)) ∧setE (f k) (g v) (fQ f g n l) j=fQ f g n (lH k v l) ∧ (lH k v l).length=l.length
 | [],_,_,h=>by cases h
 | e ::l,n,i,h=>by
  unfold mR at h;split at h
  · rename_i hk;cases h;refine⟨0,?_,?_,?_⟩
    ·simp only [fQ,rC,o k e.1,decide_eq_true hk,Nat.add_zero]
    ·simp only [fQ,setE,lH,if_pos hk]
    ·simp only [lH,if_pos hk,oK]
  · rename_i hk;obtain⟨j,a,b,c⟩ :=aMK o k v w l (n+1) (i+1) h;refine⟨j+1,?_,?_,?_⟩
    · simp only [fQ,rC,o k e.1,decide_eq_false hk];rw [show i+ (j+1) =i+1+j by omega];exact a
    ·simp only [fQ,setE,lH,if_neg hk,b]
    ·simp only [lH,if_neg hk,oK,c]
theorem bAW {d e:Type}[DecidableEq d]{f:d→AV}{g:e→AV}(i:bAU f)(k:d)(v:e)(l:List (d×e)) :aFX (fQ f g 0 l) (length l) (f k) (g v) =some (fQ f g 0 (lH k v l),length (lH k v l)) :=by
 unfold aFX;cases h:mR k l with
 | none=>
  rw [aGc i k l 0 0 h];obtain⟨a,b⟩ :=aMJ f g k v l 0 h;simp only [eX]at a;simp only [a,b]
 | some w=>
  obtain⟨j,a,b,c⟩ :=aMK i k v w l 0 0 h;rw [a];simp only [eX,b,c]
theorem aSv {b a:Type}(f:b→AV)(g:a→AV) :∀ (l:List (b×a)) (n:Nat),(fQ f g n l).length=l.length
 | [],_=>rfl
 |e::l,n=>by simp only [fQ,oK,aSv f g l (n+1)]
end
theorem aB1 {d c:Type}{f:d→AV}{g:c→AV}(i:∀a,keyless (f a) =true)(b:∀a,keyless (g a) =true) :∀ (l:List (d×c)) (n:Nat),∀e∈fQ f g n l,keyless e.1=true∧keyless e.2.1=true
 | [],_,e,h=>by simp [fQ]at h
 | x::l,n,e,h=>by
  rcases zq7.1 h with rfl|h
  ·exact⟨i _,b _⟩
  ·exact aB1 i b l (n+1) e h
theorem aWB {b a:Type}(f:b→AV)(g:a→AV)(l:List (b×a)) :int .i64 ((length (fQ f g 0 l) :Nat) :Int) = .int .i64 ((length l:Nat) :Int) :=by rw [aSv]
theorem bGd {d b:Type}{f:d→AV}{g:b→AV}(i:∀a,keyless (f a) =true)(h:∀a,keyless (g a) =true)(n:Nat)(l:List (d×b))(c:Nat) : (AObj.map (fQ f g n l) c).kl:=by
 intro e he;exact aB1 i h l n e he
theorem kZ0 {d b:Type}{f:d→AV}{g:b→AV}{n:Nat}{l:List (d×b)}{c:Nat}(h:∀a,keyless (f a) =true:=by exact fun _=>rfl)(e:∀a,keyless (g a) =true:=by exact fun _=>rfl) : (AObj.map (fQ f g n l) c).kl:=bGd h e n l c
section
/-- a proposition with its proof -/
structure Pf where
  p:Prop
  h:p
def qp {p:Prop}(h:p) :Pf:= ⟨p,h⟩
theorem bE3 :∀ (L:List Pf),AllP (L.map Pf.p)
  | [] =>trivial
  | [a] =>a.h
  |a::b::L=> ⟨a.h,bE3 (b::L)⟩
theorem aC {p:Prop}(h:p:=by kernel_rfl) :p:=h
noncomputable abbrev PP:Program:=Tryz.prog
variable {P :Program}
theorem kk {α:Type}{f:α→AV}{l:List α}(h:∀a,keyless (f a) =true:=by exact fun _=>rfl) :keylessL (List.map f l) =true:=aG f h l
section
variable {α :Type}
def qs (b e o:Nat)(l:List α)(i:Nat)(v:α)(x:Bool) :Pf:= ⟨AV.gl b e o l.length x= .gl b e o (l.set i v).length x,bT (eG ..).symm⟩
noncomputable abbrev aL (l:List α) :Ins:=.ans (.len (l.length:Int))
end
noncomputable abbrev rn:Nat→Ins:=.run
noncomputable abbrev bt (j:Nat) :Ins:=.b j true
noncomputable abbrev bf (j:Nat) :Ins:=.b j false
noncomputable abbrev aI (v:AV) :Ins:=.ans (.idx v)
noncomputable abbrev sI (j:Nat)(x:Int) :Ins:=.set j (.int .i64 x)
noncomputable abbrev pB (b:Bool) :Ins:=.pure (.bool b)
noncomputable abbrev nI (x:Int) :AV:=.int .i64 x
noncomputable abbrev bV (b:Bool) :AV:=.bool b
noncomputable abbrev jI (l:List Int) :List AV:=List.map bU l
noncomputable abbrev jN (l:List Node) :List AV:=List.map Node.av l
noncomputable abbrev jC (l:List Con) :List AV:=List.map Con.av l
noncomputable abbrev iI (l:List Int) :AV:=.ilst 1 (List.map bU l) false
noncomputable abbrev iS (l:List cA) :AV:=.ilst 1 (List.map dP l) false
noncomputable abbrev iN (l:List Node) :AV:=.ilst 4 (List.map Node.av l) false
noncomputable abbrev iC (l:List Con) :AV:=.ilst 2 (List.map Con.av l) false
noncomputable abbrev iP (l:List Pat) :AV:=.ilst 4 (Pats.av l) false
end
section
/-- an obligation: proved outright, or a premise with what follows from it -/
inductive Hy where
  |q {p:Prop} (h:p)
  |a (p:Prop) {p':Prop} (f:p→p')
def Hy.ob :Hy→Prop
  | @Hy.q p _=>p
  | @Hy.a _ p' _=>p'
/-- all ways from a state -/
inductive Tr :Type 1 where
  |b (n j:Nat) (c:Bool) (t f:Tr)
  |i (is:List Ins) (L:List Hy) (a:Tr)
  |y {α:Type} (f:α→Tr)
  |o (a b:Tr)
  |W (n n1:Nat) (ks:List Nat) (t:TS)
  |E (n n1:Nat) (ks:List Nat) (v:AV) (hp:List (Nat×AObj×Bool)) (nb:Nat)
  |P (n n1:Nat) (ks:List Nat) (ch:List (AV×Bool)) (hp:List (Nat×AObj×Bool)) (nb:Nat)
  |x
structure Br (c:Bool) (A B:Prop) :Prop where
  t:c=true→A
  f:c=false→B
def bAX :List Hy→Prop→Prop
  | [],Q=>Q
  | @Hy.q _ _::L,Q=>bAX L Q
  | @Hy.a p _ _::L,Q=>p→bAX L Q
variable (P :Program)
def aD7 (m:Nat)(s0:AS) :Tr→Prop
  | .b _ _ c t f=>Br c (aD7 m s0 t) (aD7 m s0 f)
  | .i _ L a=>bAX L (aD7 m s0 a)
  | .y f=>∀y,aD7 m s0 (f y)
  | .o a b=>aD7 m s0 a∧aD7 m s0 b
  | .W _ _ _ t=>fJ t.hp→LeadsM P m s0 t.as
  | .E _ _ _ v hp nb=>fJ hp→Ends P m s0 (.ret v) (aA hp nb)
  | .P _ _ _ ch hp nb=>fJ hp→Ends P m s0 (.pan ch) (aA hp nb)
  | .x=>True
abbrev eTS (hp:List (Nat×AObj×Bool))(nb:Nat) :TS:= ⟨⟨0,0,[],[],[],.run,.normal,none⟩,[],hp,nb⟩
def tH (m:Nat) :Tr→AS→Prop
  | .b n j c t f,s=>match nV P qE n s with
    | some s=>match s.fr.tm.at j with
      |some (.bool b) =>b=c∧tH m t ⟨{s.fr with tm:=s.fr.tm.put j (.bool true)},s.cs,s.h⟩ ∧tH m f ⟨{s.fr with tm:=s.fr.tm.put j (.bool false)},s.cs,s.h⟩
      |_=>False
    |none=>False
  | .i is L a,s=>match rO P is s with
    |some (s,ps) =>ps=L.map Hy.ob∧tH m a s
    |none=>False
  | .y f,s=>∀y,tH m (f y) s
  | .o a b,s=>tH m a s∧tH m b s
  | .W n n1 ks t,s=>match nV P qE n s with
    |some s=> (s.h.nb,s.sum (fE m t.nb s.h.nb ks) t) = (n1,t.want (fE m t.nb n1 ks)) ∧cR m t ks=true
    |none=>False
  | .E n n1 ks v hp nb,s=>match nV P qE n s with
    | some s=>match xC P s with
      |some (u,h1) => (h1.nb,u,tG h1 (fE m nb h1.nb ks) hp) = (n1,ren (fE m nb n1 ks) v,iE (fE m nb n1 ks) hp) ∧cR m (eTS hp nb) ks=true
      |none=>False
    |none=>False
  | .P n n1 ks ch hp nb,s=>match nV P qE n s with
    | some s=>match aPE P s with
      |some (u,h1) => (h1.nb,u,tG h1 (fE m nb h1.nb ks) hp) = (n1,aWx (fE m nb n1 ks) ch,iE (fE m nb n1 ks) hp) ∧cR m (eTS hp nb) ks=true
      |none=>False
    |none=>False
  | .x,_=>True
/-- what it comes to -/
def okP (m:Nat) :Tr→Prop
  | .b _ _ c t f=>c=c∧okP m t∧okP m f
  | .i _ L a=>L.map Hy.ob=L.map Hy.ob∧okP m a
  | .y f=>∀y,okP m (f y)
  | .o a b=>okP m a∧okP m b
  | .W _ n1 ks t=> (n1,t.want (fE m t.nb n1 ks)) = (n1,t.want (fE m t.nb n1 ks)) ∧true=true
  | .E _ n1 ks v hp nb=> (n1,ren (fE m nb n1 ks) v,iE (fE m nb n1 ks) hp) = (n1,ren (fE m nb n1 ks) v,iE (fE m nb n1 ks) hp) ∧true=true
  | .P _ n1 ks ch hp nb=> (n1,aWx (fE m nb n1 ks) ch,iE (fE m nb n1 ks) hp) = (n1,aWx (fE m nb n1 ks) ch,iE (fE m nb n1 ks) hp) ∧true=true
  | .x=>True
variable {P :Program}
theorem uZ (m:Nat) :∀t:Tr,okP m t
  | .b _ _ _ t f=> ⟨rfl,uZ m t,uZ m f⟩
  | .i _ _ a=> ⟨rfl,uZ m a⟩
  | .y f=>fun y=>uZ m (f y)
  | .o a b=> ⟨uZ m a,uZ m b⟩
  | .W .. => ⟨rfl,rfl⟩
  | .E .. => ⟨rfl,rfl⟩
  | .P .. => ⟨rfl,rfl⟩
  | .x=>trivial
theorem aKg :∀ {L:List Hy} {Q:Prop},((∀p∈L.map Hy.ob,p) →Q) →bAX L Q
  | [],_,h=>h (by simp)
  | @Hy.q p hp::L,_,h=>aKg (L:=L) fun g=>h fun q hq=>by
    rcases zq7.1 hq with e|e
    ·subst e;exact hp
    ·exact g q e
  | @Hy.a p p' f::L,_,h=>fun hp=>aKg (L:=L) fun g=>h fun q hq=>by
    rcases zq7.1 hq with e|e
    ·subst e;exact f hp
    ·exact g q e
theorem aB2 {m n:Nat}{s s':AS}(h:nV P qE n s=some s') :LeadsM P m s s':=by
  rw [uR]at h;exact(rM cH h).toM
theorem aWC {m:Nat}{s:AS}{t:TS}{ks:List Nat}(h2:s.sum (fE m t.nb s.h.nb ks) t=t.want (fE m t.nb s.h.nb ks))(hok:cR m t ks=true)(hkl:fJ t.hp) :LeadsM P m s t.as:=by
  simp only [AS.sum,TS.want,Sum.mk.injEq]at h2;obtain⟨a1,a2,a3,a4⟩ :=h2;intro hm E fr ccs w base f fs r;obtain⟨q1,q2⟩ :=kT (l:=t.hp) (nb:=t.nb) (by simpa [cR]using hok) a4 hkl r;exact⟨_,fr,ccs,w,Steps.refl _ _,aES a1 f,zP a2 a3 fs,q1,q2⟩
theorem lI {m:Nat}{s0:AS}:∀ (tr:Tr) {s:AS},tH P m tr s→LeadsM P m s0 s→aD7 P m s0 tr
  | .x,_,_,_=>trivial
  | .b n j c t f,s,h,hl=>by
    simp only [tH]at h;split at h
    · rename_i s1 h1;split at h
      · rename_i b hj;obtain⟨rfl,h2,h3⟩ :=h;have l1:=hl.trans (aB2 h1);refine⟨fun e=>lI t h2 (l1.trans ?_),fun e=>lI f h3 (l1.trans ?_)⟩
        ·exact xstep_sound (i:=.b j true) (ps:=[b=true]) (by simp only [xstep,hj]) (fun p hp=>by simp only [zq32]at hp;subst hp;exact e)
        ·exact xstep_sound (i:=.b j false) (ps:=[b=false]) (by simp only [xstep,hj]) (fun p hp=>by simp only [zq32]at hp;subst hp;exact e)
      ·exact h.elim
    ·exact h.elim
  | .i is L a,s,h,hl=>by
    simp only [tH]at h;split at h
    · rename_i s1 ps h1;obtain⟨rfl,h2⟩ :=h;exact aKg fun g=>lI a h2 (hl.trans (iD h1 g))
    ·exact h.elim
  | .y f,s,h,hl=>fun y=>lI (f y) (h y) hl
  | .o a b,s,h,hl=> ⟨lI a h.1 hl,lI b h.2 hl⟩
  | .W n n1 ks t,s,h,hl=>fun hkl=>by
    simp only [tH]at h;split at h
    · rename_i s1 h1;obtain⟨h2,h3⟩ :=h;obtain⟨e,h2⟩ :=Prod.mk.inj h2;subst e;exact(hl.trans (aB2 h1)).trans (aWC h2 h3 hkl)
    ·exact h.elim
  | .E n n1 ks v hp nb,s,h,hl=>fun hkl=>by
    simp only [tH]at h;split at h
    · rename_i s1 h1;split at h
      · rename_i u hh hf;obtain⟨h2,hok⟩ :=h;obtain⟨e,h2⟩ :=Prod.mk.inj h2;obtain⟨h3,h4⟩ :=Prod.mk.inj h2;subst e;subst h3;refine(hl.trans (aB2 h1)).ends ?_;intro hm E fr ccs w f fs r cl base;obtain⟨cl',w',E',g1,⟨cv,rfl,g2⟩,g3,g4⟩ :=nG (m:=m) hf hm E fr ccs w f fs r cl base;obtain⟨q1,q2⟩ :=kT hok h4 hkl g3;exact⟨_,w',_,g1,⟨cv,rfl,(gU _ _ _ _).1 g2⟩,q1,g4.trans q2⟩
      ·exact h.elim
    ·exact h.elim
  | .P n n1 ks ch hp nb,s,h,hl=>fun hkl=>by
    simp only [tH]at h;split at h
    · rename_i s1 h1;split at h
      · rename_i u hh hf;obtain⟨h2,hok⟩ :=h;obtain⟨e,h2⟩ :=Prod.mk.inj h2;obtain⟨h3,h4⟩ :=Prod.mk.inj h2;subst e;subst h3;refine(hl.trans (aB2 h1)).ends ?_;intro hm E fr ccs w f fs r cl base;obtain⟨cl',w',E',g1,⟨ps',rfl,g2⟩,g3,g4⟩ :=aME (m:=m) hf hm E fr ccs w f fs r cl base;obtain⟨q1,q2⟩ :=kT hok h4 hkl g3;exact⟨_,w',_,g1,⟨ps',rfl,aPC g2⟩,q1,g4.trans q2⟩
      ·exact h.elim
    ·exact h.elim
theorem tT (m:Nat)(s:TS)(tr:Tr)(h0:tH PP m tr s.as=okP m tr:=by kernel_rfl) :aD7 PP m s.as tr:=
  lI tr (h0 ▸ uZ m tr) (LeadsM.refl _)
theorem tv :True:=trivial
def aWD :Nat→Nat→List Nat→List Nat
  |0,_,l=>l
  |k+1,n,l=>bif beq n 1 then l else aWD k (n / 2) (n % 2::l)
/-- a place in code by one number -/
abbrev kd (F:Func)(n:Nat) :Code:=cd F (aWD 60 n [])
abbrev kc (F:Func)(n:Nat) :AItem:=.code (kd F n)
abbrev kl (F:Func)(n:Nat) :AItem:=.inLoop (kd F n)
abbrev ko (F:Func)(n k:Nat) :AItem:=bHJ F (aWD 60 n []) k
abbrev kp (j b:Nat) :Nat×AV:= (j,.ptr b 0)
abbrev tf (fn nt:Nat)(sl:List (Nat×AV))(todo:List AItem)(defers:List ADef:=[])(mode:AMode:=.run)(kind:CallKind:=.normal)(roundOf:Option Nat:=none) :TF:= ⟨fn,nt,sl,todo,defers,mode,kind,roundOf⟩
abbrev oC (k:Nat)(L:List AV) :Nat×AObj×Bool:= (k,.cells (putCells .leaf 0 L) L.length [] false,false)
abbrev oL (k e:Nat)(L:List AV) :Nat×AObj×Bool:= (k,.lst e L,true)
section
variable {α :Type} {f:α→AV} {F:List α→List AV}
abbrev hA (p:Prop) :Hy:=.a p id
abbrev hW (x:Int) :Hy:=.a (IntKind.i64.wrap x=x) (congrArg (int .i64))
abbrev hr {β:Type}(x:β) :Hy:=.q (Eq.refl x)
abbrev hl (f:α→AV)(l:List α) :Hy:=.q (aMI f l)
abbrev hm (M:∀l,F l=List.map f l)(l:List α) :Hy:=.q (kM M l)
abbrev hb (f:α→AV)(l:List α) :Hy:=.q (aKd f l)
abbrev hB (M:∀l,F l=List.map f l)(l:List α) :Hy:=.q (bAR M l)
abbrev hc (f:α→AV)(l m:List α) :Hy:=.q (aKe f l m)
abbrev hC (M:∀l,F l=List.map f l)(l m:List α) :Hy:=.q (bAS M l m)
abbrev he (f:α→AV)(l m:List α) :Hy:=.q (aKf f l m)
abbrev hE (M:∀l,F l=List.map f l)(l m:List α) :Hy:=.q (bAT M l m)
abbrev hk (f:α→AV)(l:List α)(h:∀a,keyless (f a) =true:=by exact fun _=>rfl) :Hy:=.q (aG f h l)
abbrev hK (K:∀ {l:List α},keylessL (F l) =true)(l:List α) :Hy:=.q (K (l:=l))
abbrev hz (b e:Nat)(f:α→AV)(l:List α)(x:Bool) :Hy:=.q (aIH f l (b:=b) (e:=e) (x:=x))
abbrev hZ (b e:Nat)(M:∀l,F l=List.map f l)(l:List α)(x:Bool) :Hy:=.q (aPI M l (b:=b) (e:=e) (x:=x))
abbrev rd (n:Nat)(L:List RIns) :List RIns:=replicate n RIns.d++L
abbrev gd (n j:Nat)(p:Prop)[Decidable p](t f:Tr) :Tr:=.b n j (decide p) t f
abbrev gE (n n1:Nat)(v:AV) :Tr:=.E n n1 [] v [] 0
abbrev gw (n j:Nat)(x:Int)(a:Tr) :Tr:=.i [.run n,.set j (.int .i64 x)] [hW x] a
abbrev gs (n j:Nat)(v:AV)(a:Tr) :Tr:=.i [.run n,.set j v] [hr v] a
abbrev gv (n k o:Nat)(v:AV)(a:Tr) :Tr:=.i [.run n,.cset k o v] [hr v] a
abbrev gu (n b:Nat)(x:List AV)(a:Tr) :Tr:=.i [.run n,.lset b x] [hr x] a
abbrev gl (n:Nat)(f:α→AV)(l:List α)(a:Tr) :Tr:=.i [.run n,.ans (.len (l.length:Int))] [hl f l] a
abbrev gm (n:Nat)(M:∀l,F l=List.map f l)(l:List α)(a:Tr) :Tr:=.i [.run n,.ans (.len (l.length:Int))] [hm M l] a
abbrev gi (f:α→AV)(n:Nat)(l:List α)(i:Int)(y:α)(a:Tr) :Tr:=.i [.run n,.ans (.idx (f y))] [hA (0≤i),.a (l[i.toNat]?=some y) (bP (f:=f))] a
abbrev giF (M:∀l,F l=List.map f l)(n:Nat)(l:List α)(i:Int)(y:α)(a:Tr) :Tr:=.i [.run n,.ans (.idx (f y))] [hA (0≤i),.a (l[i.toNat]?=some y) (iV M)] a
abbrev gj (f:α→AV)(n:Nat)(l:List α)(i:Nat)(y:α)(a:Tr) :Tr:=.i [.run n,.ans (.idx (f y))] [.a (l[i]?=some y) (cU (f:=f))] a
abbrev gX (f:α→AV)(n:Nat)(l:List α)(i:Int)(a:α→Tr) :Tr:=.y fun y=>gi f n l i y (a y)
abbrev gp (n f:Nat)(xs:List AV)(v:AV)(a:Tr) :Tr:=.i [.run n,.pure v] [hA (aJ PP f xs v)] a
abbrev gpI (n f:Nat)(xs:List AV)(a:Int→Tr) :Tr:=.y fun y=>gp n f xs (.int .i64 y) (a y)
abbrev lW (n f:Nat)(xs:List AV)(a:Bool→Tr) :Tr:=.y fun y=>gp n f xs (.bool y) (a y)
abbrev gk (n:Nat)(c:AIn)(H:List (Nat×AObj×Bool))(k:Nat)(v:AV)(H':List (Nat×AObj×Bool))(k':Nat)(a:Tr) :Tr:=.i [.run n,.call v (aA H' k')] [hA (Spec PP c (aA H k) (.ret v) (aA H' k'))] a
abbrev ga (n:Nat)(f:α→AV)(l m:List α)(a:Tr) :Tr:=.i [.run n,.app (List.map f (l++m)) (l++m).length] [hb f l,hA ((l++m).length≤1000000),hc f l m,he f l m] a
abbrev gA (n:Nat)(M:∀l,F l=List.map f l)(l m:List α)(a:Tr) :Tr:=.i [.run n,.app (F (l++m)) (l++m).length] [hB M l,hA ((l++m).length≤1000000),hC M l m,hE M l m] a
abbrev gz (n j b e:Nat)(f:α→AV)(l:List α)(x:Bool)(a:Tr)(h:∀a,keyless (f a) =true:=by exact fun _=>rfl) :Tr:=.i [.run n,.frz j b (List.map f l)] [hk f l h,hz b e f l x] a
abbrev gy (n k o b e:Nat)(f:α→AV)(l:List α)(x:Bool)(a:Tr)(h:∀a,keyless (f a) =true:=by exact fun _=>rfl) :Tr:=.i [.run n,.cfrz k o b (List.map f l)] [hk f l h,hz b e f l x] a
abbrev gZ (n j b e:Nat)(M:∀l,F l=List.map f l)(K:∀ {l:List α},keylessL (F l) =true)(l:List α)(x:Bool)(a:Tr) :Tr:=.i [.run n,.frz j b (F l)] [.q (K (l:=l)),hZ b e M l x] a
abbrev gY (n k o b e:Nat)(M:∀l,F l=List.map f l)(K:∀ {l:List α},keylessL (F l) =true)(l:List α)(x:Bool)(a:Tr) :Tr:=.i [.run n,.cfrz k o b (F l)] [.q (K (l:=l)),hZ b e M l x] a
abbrev vA (n:Nat)(l:List Pat)(i:Int)(a:Int→Int→cA→List Pat→Tr) :Tr:=.y fun p=>.y fun q=>.y fun r=>.y fun s=>giF aH n l i (.mk p q r s) (a p q r s)
end
end
def zQ(a:cA)(b:Int):TS:=⟨(tf 146 20 [(0,(dP a)),(2,(bV false)),(3,(nI b))] [kc f146 52,kl f146 52,.inBlock 0,kc f146 7]),[],[],0⟩
def aEV(a:List cA)(b:cA)(c:Int):TS:=⟨(tf 115 18 [(0,(iS a)),(1,(dP b)),(4,(bV false)),(5,(nI c))] [kc f115 52,kl f115 52,.inBlock 0,kc f115 7]),[],[],0⟩
def vB(a:List cA)(b:Int):TS:=⟨(tf 103 18 [(0,(iS a)),(2,(bV false)),(3,(nI b))] [kc f103 52,kl f103 52,.inBlock 0,kc f103 7]),[],[],0⟩
def zR(a b:Int)(c:cA)(d:List Pat)(g e f:Int):TS:=⟨(tf 69 29 [(1,(nI e)),kp 2 0,(4,(nI 0)),(5,(nI f))] [kc f69 244,kl f69 244,.inBlock 0,kc f69 31]),[],[oC 0 [(nI a),(nI b),(dP c),(iP d)]],1⟩
def pK(a b:Int)(c:cA)(d:List Pat)(e:Int):TS:=⟨(tf 70 22 [kp 1 0,(2,(bV false)),(3,(nI e))] [kc f70 52,kl f70 52,.inBlock 0,kc f70 7]),[],[oC 0 [(nI a),(nI b),(dP c),(iP d)]],1⟩
def oD(a:Prog)(b:Int):TS:=⟨(tf 10 74 [kp 1 0,(2,(bV false)),(3,(nI b))] [kc f10 116,kl f10 116,.inBlock 0,kc f10 15]),[],[oC 0 [(iN a.nodes),(iI a.funs),(nI a.main),(iC a.cons)]],1⟩
def oG(a:Prog)(b:Int):TS:=⟨(tf 10 74 [kp 1 0,(2,(bV false)),(4,(nI b))] [kc f10 244,kl f10 244,.inBlock 2,kc f10 31]),[],[oC 0 [(iN a.nodes),(iI a.funs),(nI a.main),(iC a.cons)]],1⟩
def oH(a:Prog)(b c:Int)(d:List Int)(e:List Pat)(f g:Int):TS:=⟨(tf 10 74 [kp 1 0,(2,(bV false)),(4,(nI g)),kp 5 1,(6,(nI f))] [kc f10 62620,kl f10 62620,.inBlock 4,.inBlock 3,kc f10 979,kl f10 244,.inBlock 2,kc f10 31]),[],[oC 0 [(iN a.nodes),(iI a.funs),(nI a.main),(iC a.cons)],oC 1 [(nI b),(nI c),(iI d),(iP e)]],2⟩
def bHK(a b c:Int):=tT 0 (start PP 62 [(nI a),(nI b),(nI c)])<|gd 10 10 (a≥b) (gE 7 0 (bV (decide (a≤c))))<|gE 7 0 (bV false)
def bAY:=fun a b c d=>bHK a b c|>.t d tv
def bAZ:=fun a b c d=>bHK a b c|>.f d tv
def aPK (a:cA):=(tT 0 (start PP 146 [(dP a)])<|.W 11 0 [] (zQ a 0)) tv
def bA0(b:cA)(a:Int):=tT 0 (zQ b a)<|gd 8 7 (a< (b.length:Int)) (.y fun c:UInt8=>.i [rn 8,.ans (.ev (.int .u8 ((c.toNat:Nat) :Int)))] [hA (0≤a),.a (0≤a∧ (b)[a.toNat]?=some c) (p':=a< (b.length:Int)) fun⟨ha,hb⟩=>(aDh (k:=a) ha hb),.a ((b)[a.toNat]?=some c) (p':=int .u8 ((mod (div (aF b) (pow 256 a.toNat)) 256:Nat) :Int) = (.int .u8 ((c.toNat:Nat) :Int))) (fun h=>(aDi (k:=a) h))]<|gd 2 14 (((c.toNat:Nat) :Int) <97) (gE 12 0 (bV false))<|.i [rn 2,.ans (.ev (.int .u8 ((c.toNat:Nat) :Int)))] [hA (0≤a),.a (0≤a∧ (b)[a.toNat]?=some c) (p':=a< (b.length:Int)) fun⟨ha,hb⟩=>(aDh (k:=a) ha hb),.a ((b)[a.toNat]?=some c) (p':=int .u8 ((mod (div (aF b) (pow 256 a.toNat)) 256:Nat) :Int) = (.int .u8 ((c.toNat:Nat) :Int))) (fun h=>(aDi (k:=a) h))]<|gd 3 19 (((c.toNat:Nat) :Int) >122) (gE 6 0 (bV false))<|gw 6 9 (a+ (1:Int))<|.W 3 0 [] (zQ b (a+ (1:Int))))<|gE 7 0 (bV true)
def aPL:=fun c d e f a b g=>bA0 c d|>.t f e a ⟨a,b⟩ b|>.t g tv
def aPM:=fun c d e f a b g i=>bA0 c d|>.t f e a ⟨a,b⟩ b|>.f g a ⟨a,b⟩ b|>.t i tv
def aPN:=fun c d e f a b g i j=>bA0 c d|>.t f e a ⟨a,b⟩ b|>.f g a ⟨a,b⟩ b|>.f i j tv
def aPO:=fun a b c=>bA0 a b|>.f c tv
def aWE(a:cA):=tT 0 (start PP 102 [(dP a)])<|gd 10 6 ((a.length:Int) ≥1) (gd 5 11 ((a.length:Int) ≤8) (.y fun b:UInt8=>.i [rn 1,.ans (.ev (.int .u8 ((b.toNat:Nat) :Int)))] [.q (p:=0≤ (0:Int)) (by decide),.a ((a)[0]?=some b) (p':=(0:Int) < (a.length:Int)) (fun h=>(aDh (k:= (0:Int)) (by decide) h)),.a ((a)[0]?=some b) (p':=int .u8 ((mod (div (aF a) (pow 256 (0:Int).toNat)) 256:Nat) :Int) = (.int .u8 ((b.toNat:Nat) :Int))) (fun h=>(aDi (k:= (0:Int)) h))]<|gd 3 16 (((b.toNat:Nat) :Int) ≥65) (.i [rn 1,.ans (.ev (.int .u8 ((b.toNat:Nat) :Int)))] [.q (p:=0≤ (0:Int)) (by decide),.a ((a)[0]?=some b) (p':=(0:Int) < (a.length:Int)) (fun h=>(aDh (k:= (0:Int)) (by decide) h)),.a ((a)[0]?=some b) (p':=int .u8 ((mod (div (aF a) (pow 256 (0:Int).toNat)) 256:Nat) :Int) = (.int .u8 ((b.toNat:Nat) :Int))) (fun h=>(aDi (k:= (0:Int)) h))]<|gd 3 21 (((b.toNat:Nat) :Int) ≤90) (.i [rn 1,.ans (.ev (dP (drop 1 a)))] [.a (1≤length a) (p':=aT4 PP 9 (dP a) (some (nI 1)) none (dP (drop 1 a))) (fun h=>(aD6 (k:= (1:Int)) aC (by decide) h))]<|lW 0 146 [(dP (drop 1 a))]<|fun c=>gE 4 0 (bV c))<|gE 7 0 (bV false))<|gE 12 0 (bV false))<|gE 17 0 (bV false))<|gE 22 0 (bV false)
def aPP:=fun b c d e f a g i j k=>aWE b|>.t e|>.t f c a a|>.t g a a|>.t i j d k tv
def aPQ:=fun b c d e a f g=>aWE b|>.t d|>.t e c a a|>.t f a a|>.f g tv
def aPR:=fun b c d e a f=>aWE b|>.t d|>.t e c a a|>.f f tv
def aPS:=fun a b c=>aWE a|>.t b|>.f c tv
def aPT:=fun a b=>aWE a|>.f b tv
def aWF (a:List cA)(b:cA):=(tT 0 (start PP 115 [(iS a),(dP b)])<|.W 11 0 [] (aEV a b 0)) tv
def bGe(a:List cA)(c:cA)(b:Int):=tT 0 (aEV a c b)<|gl 5 dP a<|gd 2 9 (b< (a.length:Int)) (gX dP 8 a b<|fun d=>.b 4 17 (jL d.length (aF d) c.length (aF c)) (gE 6 0 (bV true))<|gw 6 11 (b+1)<|.W 3 0 [] (aEV a c (b+1)))<|gE 7 0 (bV false)
def aWG:=fun a b c d e f g i=>bGe a b c|>.t e d f g|>.t i tv
def aWH:=fun a b c d e f g i j=>bGe a b c|>.t e d f g|>.f i j tv
def aWI:=fun a b c d=>bGe a b c|>.f d tv
def aML (a:List cA):=(tT 0 (start PP 103 [(iS a)])<|.W 11 0 [] (vB a 0)) tv
def bGf(b:List cA)(a:Int):=tT 0 (vB b a)<|gl 5 dP b<|gd 2 7 (a< (b.length:Int)) (.y fun c:cA=>.y fun d:Bool=>.i [rn 5,.reg [.d,.d,.ans (.ev (iS (take a.toNat b))),.d,.d,.ans (.idx (dP c)),.d,.pure (bV d)]] [.a (0≤a∧a.toNat≤length b) (p':=aT4 PP 148 (iS b) none (some (nI a)) (iS (take a.toNat b))) fun⟨ha,hb⟩=>(aWA (k:=a) aC ha hb),hA (0≤a),.a (((b)[a.toNat]?) =some c) (bP (f:=dP)),hA (aJ PP 115 [(iS (take a.toNat b)),(dP c)] (bV d))]<|.b 0 17 d (gE 6 0 (bV false))<|gw 6 9 (a+1)<|.W 3 0 [] (vB b (a+1)))<|gE 7 0 (bV true)
def aMM:=fun b c d e f a g i j k=>bGf b c|>.t f d e ⟨a,g⟩ a i j|>.t k tv
def aMN:=fun b c d e f a g i j k l=>bGf b c|>.t f d e ⟨a,g⟩ a i j|>.f k l tv
def aMO:=fun a b c=>bGf a b|>.f c tv
def bHL(b c:Int)(d:cA)(e:List Pat)(a:Int):=tT 0 (start PP 69 [(.agg [(nI b),(nI c),(dP d),(iP e)]),(nI a)])<|gd 11 7 (a<1) (gE 6 1 (nI (-1)))<|gw 6 9 (a-1)<|.W 9 1 [0] (zR b c d e a (a-1) 0)
def aPU:=fun a b c d e f=>bHL a b c d e|>.t f tv
def aPV:=fun a b c d e f g=>bHL a b c d e|>.f f g tv
def bGg(d e:Int)(f:cA)(a:List Pat)(g b c:Int):=tT 0 (zR d e f a g b c)<|gm 6 aH a<|gd 2 15 (c< (a.length:Int)) (gd 4 18 (b≥0) (vA 8 a c<|fun i j k l=>gpI 2 69 [(.agg [(nI i),(nI j),(dP k),(iP l)]),(nI b)]<|fun m=>gw 6 20 (c+1)<|.W 3 1 [0] (zR d e f a g m (c+1)))<|gE 8 1 (nI b))<|gE 12 1 (nI b)
def aPW:=fun a b c d e f g i j k l m n o p q r s=>bGg a b c d e f g|>.t n|>.t o i j k l p q m r s tv
def aPX:=fun a b c d e f g i j=>bGg a b c d e f g|>.t i|>.f j tv
def aPY:=fun a b c d e f g i=>bGg a b c d e f g|>.f i tv
def aId (a b:Int)(c:cA)(d:List Pat):=(tT 0 (start PP 70 [(.agg [(nI a),(nI b),(dP c),(iP d)])])<|.W 12 1 [0] (pK a b c d 0)) tv
def bGh(d e:Int)(c:cA)(a:List Pat)(b:Int):=tT 0 (pK d e c a b)<|gm 6 aH a<|gd 2 8 (b< (a.length:Int)) (vA 9 a b<|fun f g i j=>lW 1 70 [(.agg [(nI f),(nI g),(dP i),(iP j)])]<|fun k=>.b 2 17 (!k) (gE 6 1 (bV false))<|gw 6 10 (b+1)<|.W 3 1 [0] (pK d e c a (b+1)))<|gE 11 1 (bV (decide ((c.length:Int) ≤30)))
def aIe:=fun a b c d e f g i j k l m n o p=>bGh a b c d e|>.t l f g i j m n k o|>.t p tv
def aIf:=fun a b c d e f g i j k l m n o p q=>bGh a b c d e|>.t l f g i j m n k o|>.f p q tv
def aIg:=fun a b c d e f=>bGh a b c d e|>.f f tv
def bHM(a b:Int)(c:cA)(d:List Pat):=tT 0 (start PP 31 [(.agg [(nI a),(nI b),(dP c),(iP d)])])<|gpI 8 69 [(.agg [(nI a),(nI b),(dP c),(iP d)]),(nI 16)]<|fun e=>gd 2 6 (e≥0) (lW 1 70 [(.agg [(nI a),(nI b),(dP c),(iP d)])]<|fun f=>gE 4 1 (bV f))<|gE 6 1 (bV false)
def aMP:=fun a b c d e f g i j=>bHM a b c d e g|>.t i f j tv
def aMQ:=fun a b c d e f g=>bHM a b c d e f|>.f g tv
def bA1(a:Prog):=tT 0 (start PP 10 [(Prog.av a)])<|gl 10 Node.av a.nodes<|gd 2 11 ((a.nodes.length:Int) >320) (gE 18 1 (bV false))<|gl 2 bU a.funs<|gd 3 17 ((a.funs.length:Int) >320) (gE 12 1 (bV false))<|gl 2 Con.av a.cons<|gd 3 22 ((a.cons.length:Int) >25) (gE 6 1 (bV false))<|.W 9 1 [0] (oD a 0)
def aGd:=fun a b=>bA1 a|>.t b tv
def aGe:=fun a b c=>bA1 a|>.f b|>.t c tv
def aGf:=fun a b c d=>bA1 a|>.f b|>.f c|>.t d tv
def aGg:=fun a b c d=>bA1 a|>.f b|>.f c|>.f d tv
def aWJ(a:Prog)(b:Int):=tT 0 (oD a b)<|gl 6 Con.av a.cons<|gd 2 27 (b< (a.cons.length:Int)) (gX Con.av 9 a.cons b<|fun c=>gd 5 37 ((c.name.length:Int) >40) (gE 6 1 (bV false))<|gw 6 29 (b+1)<|.W 3 1 [0] (oD a (b+1)))<|.W 9 1 [0] (oG a 0)
def aGh:=fun a b c d e f g=>aWJ a b|>.t d c e f|>.t g tv
def aGi:=fun a b c d e f g i=>aWJ a b|>.t d c e f|>.f g i tv
def aGj:=fun a b c=>aWJ a b|>.f c tv
def aSw(b:Prog)(c:Int):=tT 0 (oG b c)<|gl 6 Node.av b.nodes<|gd 2 42 (c< (b.nodes.length:Int)) (gX Node.av 9 b.nodes c<|fun a=>gl 9 bU a.kids<|gd 2 54 ((a.kids.length:Int) >10) (gE 12 2 (bV false))<|gm 2 aH a.pats<|gd 3 59 ((a.pats.length:Int) >10) (gE 6 2 (bV false))<|.W 8 2 [0,1] (oH b a.op a.n a.kids a.pats 0 c))<|gE 7 1 (bV true)
def aGk:=fun a b c d e f g=>aSw a b|>.t d c e f|>.t g tv
def aGl:=fun a b c d e f g i=>aSw a b|>.t d c e f|>.f g|>.t i tv
def aGm:=fun a b c d e f g i=>aSw a b|>.t d c e f|>.f g|>.f i tv
def aGn:=fun a b c=>aSw a b|>.f c tv
def aWK(d:Prog)(e f:Int)(g:List Int)(a:List Pat)(b c:Int):=tT 0 (oH d e f g a b c)<|gm 6 aH a<|gd 2 64 (b< (a.length:Int)) (vA 9 a b<|fun i j k l=>lW 1 31 [(.agg [(nI i),(nI j),(dP k),(iP l)])]<|fun m=>.b 2 73 (!m) (gE 6 2 (bV false))<|gw 6 66 (b+1)<|.W 3 2 [0,1] (oH d e f g a (b+1) c))<|gw 6 44 (c+1)<|.W 3 2 [0] (oG d (c+1))
def aGo:=fun a b c d e f g i j k l m n o p q r=>aWK a b c d e f g|>.t n i j k l o p m q|>.t r tv
def aGp:=fun a b c d e f g i j k l m n o p q r s=>aWK a b c d e f g|>.t n i j k l o p m q|>.f r s tv
def aGq:=fun a b c d e f g i j=>aWK a b c d e f g|>.f i j tv
theorem wrap64 {e:Int}(h1: -9223372036854775808≤e)(h2:e<9223372036854775808) :IntKind.i64.wrap e=e:=by
 have a: (2:Int) ^ IntKind.i64.bits=18446744073709551616:=by decide
 have b: (2:Int) ^ (IntKind.i64.bits-1) =9223372036854775808:=by decide
 simp only [IntKind.wrap,a,b,IntKind.signed,mY,decide_eq_true_eq];split<;>omega
noncomputable def vC (P:Program)(f:Nat) :Bool:=match P.funcs[f]? with
 | some fn=>match fn.body with
  |some _=>true
  |none=>false
 |none=>false
theorem aO {P:Program}{f:Nat}{a:List AV}{v:AV}(hb:vC P f=true)(hk:keylessL a=true)(b:keyless v=true)(he:Ends P 0 (start P f a).as (.ret v) (aA [] 0)) :aJ P f a v:=by
 unfold vC at hb;split at hb
 · rename_i fn d;split at hb
   ·rename_i c hc;exact pure_of d hc hk b he
   ·cases hb
 ·cases hb
theorem bE {a:Type}{l t:List a}{i:Nat}{y:a}(h:l.drop i=y::t) :l[i]?=some y∧l.drop (i+1) =t∧i<l.length:=by
 have b:l[i]?=some y:=by rw [←List.head?_drop,h];rfl
 refine⟨b,?_,(zq0.1 b).1⟩;rw [←List.tail_drop,h];rfl
theorem bJ {a:Type}{l:List a}{i:Nat}(h:l.drop i= []) :l.length≤i:=List.drop_eq_nil_iff.1 h
theorem sd {p:Prop}(h:p:=by first|assumption|rfl| (simp only [oM];assumption) | (simp only [decide_eq_true_eq,decide_eq_false_iff_not];omega) |omega| (apply wrap64<;>omega) | (simp_all;done)) :p:=h
def dH (n lo hi:Int) :Bool:=decide (lo≤n) &&decide (n≤hi)
theorem aX (n lo a:Int) :aJ PP 62 [.int .i64 n,.int .i64 lo,.int .i64 a] (.bool (dH n lo a)) :=by
 refine aO aC rfl rfl ?_;by_cases h:n≥lo
 · have e:dH n lo a=decide (n≤a) :=by unfold dH;rw [decide_eq_true (show lo≤n from h),mY]
   rw [e];exact bAY n lo a (decide_eq_true h)
 · have e:dH n lo a=false:=by unfold dH;rw [decide_eq_false (show ¬lo≤n from h),Bool.false_and]
   rw [e];exact bAZ n lo a (decide_eq_false h)
def vD (c:UInt8) :Bool:=decide (97≤c.toNat) &&decide (c.toNat≤122)
def kN (s:cA) :Bool:=s.all vD
theorem aD8 (s:cA)(d:s.length<1000000) :∀ (t:cA) (i:Nat),s.drop i=t→Ends PP 0 (zQ s (i:Int)).as (.ret (.bool (kN t))) (aA [] 0)
 | [],i,h=>by
  have:=bJ h;exact aPO s i sd
 | c :: t,i,h=>by
  obtain⟨l,f,g⟩ :=bE h;have b: (decide ((i:Int) < ((length s:Nat) :Int))) =true:=sd;have a:s[(i:Int).toNat]?=some c:=sd;by_cases j:c.toNat<97
  · have e:kN (c::t) =false:=by simp [kN,vD];omega
    rw [e];exact aPL s i c b sd a sd
  · by_cases k:122<c.toNat
    · have e:kN (c::t) =false:=by simp [kN,vD];omega
      rw [e];exact aPM s i c b sd a sd sd
    · have e:kN (c::t) =kN t:=by
       have:vD c=true:=by simp [vD];omega
       simp [kN,this]
      rw [e];refine(aPN s i c b sd a sd sd sd).ends ?_;exact aD8 s d t (i+1) f
theorem aMR (s:cA)(a:s.length<1000000) :aJ PP 146 [dP s] (.bool (kN s)) :=
 aO aC rfl rfl ((aPK s).ends (aD8 s a s 0 rfl))
def jU (s:cA) :Bool:=match s with
 | [] =>false
 |c::t=>decide (s.length≤8) &&decide (65≤c.toNat) &&decide (c.toNat≤90) &&kN t
theorem aMS (s:cA) :aJ PP 102 [dP s] (.bool (jU s)) :=by
 refine aO aC rfl rfl ?_
 match s with
 | [] =>exact aPT [] sd
 | c :: t=>
  have b: (decide (((length (c::t) :Nat) :Int) ≥ (1:Int))) =true:=by simp only [oK];exact sd
  by_cases d: (c::t).length≤8
  · have a: (decide (((length (c::t) :Nat) :Int) ≤ (8:Int))) =true:=sd;by_cases f:65≤c.toNat
    · by_cases g:c.toNat≤90
      · have e:jU (c::t) =kN t:=by simp only [jU,decide_eq_true d,decide_eq_true f,decide_eq_true g,mY]
        rw [e];exact aPP (c::t) c _ b a rfl sd sd (by simp) (aMR t (by simp at d;omega))
      · have e:jU (c::t) =false:=by simp only [jU,decide_eq_false g,Bool.and_false,Bool.false_and]
        rw [e];exact aPQ (c::t) c b a rfl sd sd
    · have e:jU (c::t) =false:=by simp only [jU,decide_eq_false f,Bool.and_false,Bool.false_and]
      rw [e];exact aPR (c::t) c b a rfl sd
  · have e:jU (c::t) =false:=by simp only [jU,decide_eq_false d,Bool.false_and]
    rw [e];exact aPS (c::t) b sd
def vE (l:List cA)(s:cA) :Bool:=l.any fun x=>decide (x=s)
theorem aIJ (l:List cA)(s:cA)(hl:l.length<1000000) :∀ (t:List cA) (i:Nat),l.drop i=t→Ends PP 0 (aEV l s (i:Int)).as (.ret (.bool (vE t s))) (aA [] 0)
 | [],i,h=>by
  have:=bJ h;exact aWI l s i sd
 | x ::t,i,h=>by
  obtain⟨c,a,b⟩ :=bE h;by_cases g:x=s
  · have e:vE (x::t) s=true:=by simp [vE,g]
    rw [e];exact aWG l s i x sd sd sd (by rw [qF];exact decide_eq_true g)
  · have e:vE (x::t) s=vE t s:=by simp [vE,g]
    rw [e];refine(aWH l s i x sd sd sd (by rw [qF];exact decide_eq_false g) sd).ends ?_;exact aIJ l s hl t (i+1) a
theorem aT6 (l:List cA)(s:cA)(hl:l.length<1000000) :aJ PP 115 [.ilst 1 (List.map dP l) false,dP s] (.bool (vE l s)) :=
 aO aC rfl rfl ((aWF l s).ends (aIJ l s hl l 0 rfl))
def dM :List cA→List cA→Bool
 |_,[] =>true
 |pre,x::t=> !vE pre x&&dM (pre++ [x]) t
def pL (l:List cA) :Bool:=dM [] l
theorem aB3 (l:List cA)(hl:l.length<1000000) :∀ (t:List cA) (i:Nat),l.drop i=t→Ends PP 0 (vB l (i:Int)).as (.ret (.bool (dM (l.take i) t))) (aA [] 0)
 | [],i,h=>by
  have:=bJ h;exact aMO l i sd
 | x ::t,i,h=>by
  obtain⟨d,c,f⟩ :=bE h;have a:aJ PP 115 [.ilst 1 (List.map dP (l.take (i:Int).toNat)) false,dP x] (.bool (vE (l.take i) x)) :=by
   simp only [oM];exact aT6 _ _ (by simp;omega)
  by_cases g:vE (l.take i) x=true
  · have e:dM (l.take i) (x::t) =false:=by simp [dM,g]
    rw [e];exact aMM l i x _ sd sd sd sd a g
  · have b:vE (l.take i) x=false:=by simpa using g
    have e:dM (l.take i) (x::t) =dM (l.take (i+1)) t:=by
     simp only [dM,b,Bool.not_false,mY];rw [List.take_add_one,d];rfl
    rw [e];refine(aMN l i x _ sd sd sd sd a b sd).ends ?_;exact aB3 l hl t (i+1) c
theorem aKh (l:List cA)(hl:l.length<1000000) :aJ PP 103 [.ilst 1 (List.map dP l) false] (.bool (pL l)) :=by
 refine aO aC rfl rfl ((aML l).ends ?_);exact aB3 l hl l 0 rfl
section
variable {P :Program}
theorem bE6 {s s':AS}{b:Bool}{h':Hp}(hl:Leads P s s')(l:xC P s'=some (.bool b,h')) :Ends P 0 s (.ret (.bool b)) (aA [] 0) :=by
 have q:LeadsM P 0 s s':=fun hm E fr d w a f fs r=>by
  obtain⟨g,fr',i,h,z,n,j,t,x⟩ :=hl E fr d w a f fs r;exact⟨g,fr',i,h,z,n,j,t,x.toM hm⟩
 intro hm E fr d w f fs r y a;obtain⟨k,h,g,p,⟨u,rfl,v⟩,m,c⟩ := (q.ends (nG l)) hm E fr d w f fs r y a;refine⟨_,h,g.p,p,⟨u,rfl,?_⟩,aF6 m,⟨fun b hb=>absurd hb (Nat.not_lt_zero _),c.imm,c.size,c.keep,fun A B C e=>?_,le_refl _,c.os,c.tape,c.output,c.froz,c.immo,fun b o e=>?_⟩⟩
 ·simpa only [VR]using v
 ·simp [aBV,Hp.look,T.at_leaf]at e
 ·simp [aBV,Hp.look,T.at_leaf]at e
end
section
def embOf (w:World) :Emb:= ⟨fun _=>none,fun k=>match w.heap[k]? with
 |some (.cells C _ _) =>some C
 |_=>none⟩
theorem aT7 {w:World}{k:Nat}{C:Array Value}{el:TypeId}{fz:Nat×Nat}(h:w.heap[k]?=some (.cells C el fz)) : (embOf w).imm k=some C:=by
 simp only [embOf,h]
theorem aT8 (w:World) :Rel (embOf w) ⟨.leaf,0⟩ w.heap:=by
 refine⟨fun b o e=>?_,fun b b' o o' L L' e=>?_,fun _ _=>rfl,fun k C e=>?_,fun b o L e=>?_,fun b o e=>?_⟩
 ·simp [Hp.look,T.at_leaf]at e
 ·simp [Hp.look,T.at_leaf]at e
 · simp only [embOf]at e;split at e
   ·rename_i C' el fz h;cases e;exact⟨el,fz,h⟩
   ·cases e
 ·simp [Hp.look,T.at_leaf]at e
 ·simp [Hp.look,T.at_leaf]at e
def Elt (w:World)(e:Nat)(a:AV)(cs:List Value) :Prop:=cs.length=e∧∃u:Value,u.cells.toList=cs∧VR (embOf w) a u∧∀c∈cs,c.oneCell'=true
theorem Elt.one {w:World}{a:AV}{u:Value}(h:VR (embOf w) a u)(ha:a.one=true)(hu:u.cells= #[u]) :Elt w 1 a [u] :=
 ⟨rfl,u,by rw [hu],h,fun c hc=>by rw [zq32.1 hc];exact h.one ha⟩
variable {H :Type} {enc:TypeId×Value→H} {P:Program} {w:World} {spare:Nat→Bool} {held:Bool}
theorem bA2 {a:Addr}{C:Array Value}{el:TypeId}{fz:Nat×Nat}(hC:w.heap[a.block]?=some (.cells C el fz))(hs:a.spot=none)(k:Nat) :w.cell? (a.add k) =C[a.off+k]?:=by
 unfold World.cell? Addr.add;by_cases h:k=0
 ·subst h;simp [hC,hs]
 ·simp [h,hC]
theorem add_add (a:Addr)(i j:Nat) : (a.add i).add j=a.add (i+j) :=by
 unfold Addr.add;by_cases hi:i=0<;>by_cases hj:j=0<;>simp [hi,hj,Nat.add_assoc]
theorem aT9 (us:List Value)(u:Value) :flat (us++ [u]) =flat us++u.cells.toList:=by simp [flat]
theorem qG {α:Type}(f:α→AV){t e:TypeId}{n fuel:Nat}(ht:P.underlying t=some (.slice e))(hc:P.cellsOf e=n)(hn:0<n){cs:List Value}{x:DataW H×List MemPlace}
  (h:DataW.trod enc P w 0 spare held fuel t cs=some x) (hel:∀fu,fu<fuel→∀cs x,DataW.trod enc P w 0 spare held fu e cs=some x→∃y,Elt w n (f y) cs) :∃ (ys:List α) (c:Value),cs= [c] ∧VR (embOf w) (.ilst n (ys.map f) false) c:=by
 rcases DataW.trod_slice ht h with⟨rfl,_⟩ | ⟨a,len,cap,elems,rest,m,rfl,rfl,_,_,hlc,_,hlen,hat,_⟩
 · refine⟨[],_,rfl,?_⟩;simp only [VR];exact⟨[],by simp [VRs],⟨fun u hu=> (by cases hu),.inl ⟨rfl,none,0,rfl,fun _=>rfl,fun _=>rfl⟩⟩⟩
 · cases len with
   | zero=>
    refine⟨[],_,rfl,?_⟩;simp only [VR];exact⟨[],by simp [VRs],⟨fun u hu=> (by cases hu),.inl ⟨rfl,some a,cap,rfl,fun e=> (by cases e),fun e=> (by cases e)⟩⟩⟩
   | succ len=>
    rw [hc]at hat
    have each:∀i,i<len+1→∃cs' y,w.cells? 0 (a.add (i*n)) n=some cs'∧Elt w n (f y) cs':=fun i hi=>by
     have h1:=hat i hi;rw [kH (by omega)]at h1;obtain⟨cs',g1,g2⟩ :=Option.bind_eq_some_iff.1 h1;obtain⟨y,g3⟩ :=hel m (Nat.lt_succ_self m) cs' _ g2;exact⟨cs',y,g1,g3⟩
    obtain⟨C,el,fz,hC,hs⟩ :∃C el fz,w.heap[a.block]?=some (.cells C el fz) ∧a.spot=none:=by
     obtain⟨cs',y,g1,g2,_⟩ :=each 0 (by omega);obtain⟨_,_,g3⟩ :=World.cells?_some g1;have g4:=g3 0 hn;have: (a.add (0*n)).add 0=a:=by simp [Addr.add]
     rw [this,kH (by omega)]at g4;unfold World.cell? at g4;split at g4
     · rename_i C el fz hh;split at g4
       ·cases g4
       · rename_i hsp;refine⟨C,el,fz,hh,?_⟩;cases hq:a.spot with
         |none=>rfl
         |some q=>rw [hq]at hsp;simp at hsp
     ·cases g4
    have all:∀k,k≤len+1→∃ (ys:List α) (us:List Value),us.length=k∧VRs (embOf w) (ys.map f) us∧ (∀u∈us,okE n u) ∧∀j,j<k*n→C[a.off+j]?= (flat us)[j]?:=by
     intro k
     induction k with
     |zero=>exact fun _=> ⟨[],[],rfl,by simp [VRs],fun u hu=> (by cases hu),fun j hj=>by omega⟩
     | succ k ih=>
      intro hk;obtain⟨ys,us,q1,q2,q3,q4⟩ :=ih (by omega);obtain⟨cs',y,g1,g2,u,g3,g4,g5⟩ :=each k (by omega);obtain⟨_,g6,g7⟩ :=World.cells?_some g1;have hfl:=flat_length q3;refine⟨ys++ [y],us++ [u],by simp [q1],?_,fun v hv=>?_,fun j hj=>?_⟩
      ·rw [wX];exact q2.append (VRs.cons g4 (VRs.nil _))
      · rcases zq28.1 hv with hv|hv
        ·exact q3 v hv
        · rw [zq32.1 hv];refine⟨?_,fun c hc=>g5 c (by rw [←g3];exact hc)⟩;rw [←Array.length_toList,g3,g2]
      · rw [aT9,g3];by_cases hj2:j<k*n
        ·rw [q4 j hj2,iQ (by rw [hfl,q1];exact hj2)]
        · have hr:j-k*n<n:=by rw [Nat.succ_mul]at hj;omega
          rw [kR (by rw [hfl,q1];omega),hfl,q1,←g7 _ hr,add_add,bA2 hC hs];congr 2;omega
    obtain⟨ys,us,q1,q2,q3,q4⟩ :=all (len+1) (le_refl _);refine⟨ys,_,rfl,?_⟩;simp only [VR];refine⟨us,q2,q3,.inr ⟨a.block,a.off,cap,C,?_,aT7 hC,by omega,fun e=> (by cases e),by rw [q1];exact q4⟩⟩;rw [q1,←hs]
theorem qH {fuel:Nat}{t:TypeId}(ht:P.underlying t=some (.int .i64)){cs:List Value}{x:DataW H×List MemPlace}(h:DataW.trod enc P w 0 spare held fuel t cs=some x) :∃n,cs= [.int .i64 n] :=by
 obtain⟨n,h1,_⟩ :=DataW.trod_int ht h;exact⟨n,h1⟩
theorem aMT {fuel:Nat}{t:TypeId}(ht:P.underlying t=some .string){cs:List Value}{x:DataW H×List MemPlace}(h:DataW.trod enc P w 0 spare held fuel t cs=some x) :∃ (s:cA) (c:Value),cs= [c] ∧VR (embOf w) (dP s) c:=by
 obtain⟨s,h1,_⟩ :=DataW.trod_string ht h;refine⟨s.data.toList,_,h1,?_⟩;have:=fZ s.data.toList;simp only [dP,VR,iG,this]
theorem four {α:Type}{cs:List α}(h:cs.length=4) :∃a b c d,cs= [a,b,c,d] :=by
 match cs,h with
 | [a,b,c,d],_=>exact⟨a,b,c,d,rfl⟩
theorem two {α:Type}{cs:List α}(h:cs.length=2) :∃a b,cs= [a,b] :=by
 match cs,h with
 | [a,b],_=>exact⟨a,b,rfl⟩
theorem aKi {l:List AV}{cs:List Value}(h:VRs (embOf w) l cs)(ho:dF l=true) :Elt w l.length (.agg l) cs:=
 ⟨h.length,.agg ⟨cs⟩,rfl,by simp only [VR];exact⟨cs,rfl,h⟩,VRs.ones h ho⟩
theorem bA3 {a:AV}{c:Value}(h:VR (embOf w) a c)(ha:a.one=true)(hc:c.cells= #[c]) :Elt w 1 a [c] :=
 ⟨rfl,c,by rw [hc],h,fun x hx=>by rw [zq32.1 hx];exact h.one ha⟩
section
theorem cells3 :PP.cellsOf 3=1:=by kernel_rfl
theorem cells9 :PP.cellsOf 9=1:=by kernel_rfl
theorem cells22 :PP.cellsOf 22=1:=by kernel_rfl
theorem cells23 :PP.cellsOf 23=1:=by kernel_rfl
theorem cells24 :PP.cellsOf 24=1:=by kernel_rfl
theorem cells26 :PP.cellsOf 26=4:=by kernel_rfl
theorem cells53 :PP.cellsOf 53=2:=by kernel_rfl
theorem cells47 :PP.cellsOf 47=1:=by kernel_rfl
theorem cells48 :PP.cellsOf 48=1:=by kernel_rfl
theorem cells50 :PP.cellsOf 50=4:=by kernel_rfl
theorem cells55 :PP.cellsOf 55=1:=by kernel_rfl
theorem aKj :PP.cellsOf 57=4:=by kernel_rfl
theorem got {α:Type}{xs:List α}{n i:Nat}{r:Option α}(h:r=xs[i]?)(hl:xs.length=n)(hi:i<n) :∃x,r=some x:=by
 rw [kH (by omega)]at h;exact⟨_,h⟩
theorem aIK {fuel:Nat}{cs:List Value}{x:DataW H×List MemPlace}(h:DataW.trod enc PP w 0 spare held fuel 23 cs=some x) :∃ (l:List Int) (c:Value),cs= [c] ∧VR (embOf w) (.ilst 1 (l.map bU) false) c:=
 qG bU Tryz.underlying23 cells3 (by omega) h (fun fu _ cs x hx=>by
  obtain⟨n,rfl⟩ :=qH Tryz.underlying3 hx;exact⟨n,bA3 (by simp only [bU,VR]) rfl rfl⟩)
theorem aWL :∀ (fuel:Nat) (cs:List Value) (x:DataW H×List MemPlace),DataW.trod enc PP w 0 spare held fuel 57 cs=some x→∃p:Pat,Elt w 4 (Pat.av p) cs:=by
 intro fuel
 induction fuel using Nat.strongRecOn with
 | ind fuel ih=>
  intro cs x h;obtain⟨xs,m,rfl,rfl,hl,hlen,hf⟩ :=DataW.trod_struct Tryz.underlying57 h;rw [aKj]at hl;obtain⟨c0,c1,c2,c3,rfl⟩ :=four hl;have h0:DataW.trod enc PP w 0 spare held m 55 (([c0,c1,c2,c3].drop 0).take (PP.cellsOf 55)) =xs[0]?:=hf 0 _ rfl;have h1:DataW.trod enc PP w 0 spare held m 3 (([c0,c1,c2,c3].drop 1).take (PP.cellsOf 3)) =xs[1]?:=hf 1 _ rfl;have h2:DataW.trod enc PP w 0 spare held m 9 (([c0,c1,c2,c3].drop 2).take (PP.cellsOf 9)) =xs[2]?:=hf 2 _ rfl;have h3:DataW.trod enc PP w 0 spare held m 48 (([c0,c1,c2,c3].drop 3).take (PP.cellsOf 48)) =xs[3]?:=hf 3 _ rfl;simp only [cells55,cells3,cells9,cells48,drop,take]at h0 h1 h2 h3;obtain⟨x0,h0⟩ :=got h0 hlen (by decide);obtain⟨x1,h1⟩ :=got h1 hlen (by decide);obtain⟨x2,h2⟩ :=got h2 hlen (by decide);obtain⟨x3,h3⟩ :=got h3 hlen (by decide);obtain⟨f,e0⟩ :=qH Tryz.underlying55 h0;obtain⟨n,e1⟩ :=qH Tryz.underlying3 h1;obtain⟨s,c,e2,v2⟩ :=aMT Tryz.underlying9 h2;obtain⟨ps,c',e3,v3⟩ :=qG Pat.av Tryz.underlying48 aKj (by omega) h3 (fun fu hfu cs x hx=>ih fu (by omega) cs x hx);cases e0;cases e1;cases e2;cases e3;refine⟨.mk f n s ps,?_⟩;simp only [Pat.av,aH];refine aKi (VRs.cons (by simp only [VR]) (VRs.cons (by simp only [VR]) (VRs.cons v2 (VRs.cons v3 (VRs.nil _))))) ?_;rfl
theorem aUa (fuel:Nat)(cs:List Value)(x:DataW H×List MemPlace)(h:DataW.trod enc PP w 0 spare held fuel 50 cs=some x) :∃p:Node,Elt w 4 (Node.av p) cs:=by
 obtain⟨xs,m,rfl,rfl,hl,hlen,hf⟩ :=DataW.trod_struct Tryz.underlying50 h;rw [cells50]at hl;obtain⟨c0,c1,c2,c3,rfl⟩ :=four hl;have h0:DataW.trod enc PP w 0 spare held m 47 (([c0,c1,c2,c3].drop 0).take (PP.cellsOf 47)) =xs[0]?:=hf 0 _ rfl;have h1:DataW.trod enc PP w 0 spare held m 3 (([c0,c1,c2,c3].drop 1).take (PP.cellsOf 3)) =xs[1]?:=hf 1 _ rfl;have h2:DataW.trod enc PP w 0 spare held m 23 (([c0,c1,c2,c3].drop 2).take (PP.cellsOf 23)) =xs[2]?:=hf 2 _ rfl;have h3:DataW.trod enc PP w 0 spare held m 48 (([c0,c1,c2,c3].drop 3).take (PP.cellsOf 48)) =xs[3]?:=hf 3 _ rfl;simp only [cells47,cells3,cells23,cells48,drop,take]at h0 h1 h2 h3;obtain⟨x0,h0⟩ :=got h0 hlen (by decide);obtain⟨x1,h1⟩ :=got h1 hlen (by decide);obtain⟨x2,h2⟩ :=got h2 hlen (by decide);obtain⟨x3,h3⟩ :=got h3 hlen (by decide);obtain⟨f,e0⟩ :=qH Tryz.underlying47 h0;obtain⟨n,e1⟩ :=qH Tryz.underlying3 h1;obtain⟨ks,c,e2,v2⟩ :=aIK h2;obtain⟨ps,c',e3,v3⟩ :=qG Pat.av Tryz.underlying48 aKj (by omega) h3 (fun fu _ cs x hx=>aWL fu cs x hx);cases e0;cases e1;cases e2;cases e3;refine⟨⟨f,n,ks,ps⟩,?_⟩;simp only [Node.av,aH];refine aKi (VRs.cons (by simp only [VR]) (VRs.cons (by simp only [VR]) (VRs.cons v2 (VRs.cons v3 (VRs.nil _))))) ?_;rfl
theorem aWM (fuel:Nat)(cs:List Value)(x:DataW H×List MemPlace)(h:DataW.trod enc PP w 0 spare held fuel 53 cs=some x) :∃p:Con,Elt w 2 (Con.av p) cs:=by
 obtain⟨xs,m,rfl,rfl,hl,hlen,hf⟩ :=DataW.trod_struct Tryz.underlying53 h;rw [cells53]at hl;obtain⟨c0,c1,rfl⟩ :=two hl;have h0:DataW.trod enc PP w 0 spare held m 9 (([c0,c1].drop 0).take (PP.cellsOf 9)) =xs[0]?:=hf 0 _ rfl;have h1:DataW.trod enc PP w 0 spare held m 3 (([c0,c1].drop 1).take (PP.cellsOf 3)) =xs[1]?:=hf 1 _ rfl;simp only [cells9,cells3,drop,take]at h0 h1;obtain⟨x0,h0⟩ :=got h0 hlen (by decide);obtain⟨x1,h1⟩ :=got h1 hlen (by decide);obtain⟨s,c,e0,v0⟩ :=aMT Tryz.underlying9 h0;obtain⟨n,e1⟩ :=qH Tryz.underlying3 h1;cases e0;cases e1;refine⟨⟨s,n⟩,?_⟩;simp only [Con.av];refine aKi (VRs.cons v0 (VRs.cons (by simp only [VR]) (VRs.nil _))) ?_;rfl
theorem lift_prog (fuel:Nat)(cs:List Value)(x:DataW H×List MemPlace)(h:DataW.trod enc PP w 0 spare held fuel 26 cs=some x) :∃p:Prog,VR (embOf w) (Prog.av p) (.agg ⟨cs⟩) :=by
 obtain⟨xs,m,rfl,rfl,hl,hlen,hf⟩ :=DataW.trod_struct Tryz.underlying26 h;rw [cells26]at hl;obtain⟨c0,c1,c2,c3,rfl⟩ :=four hl;have h0:DataW.trod enc PP w 0 spare held m 22 (([c0,c1,c2,c3].drop 0).take (PP.cellsOf 22)) =xs[0]?:=hf 0 _ rfl;have h1:DataW.trod enc PP w 0 spare held m 23 (([c0,c1,c2,c3].drop 1).take (PP.cellsOf 23)) =xs[1]?:=hf 1 _ rfl;have h2:DataW.trod enc PP w 0 spare held m 3 (([c0,c1,c2,c3].drop 2).take (PP.cellsOf 3)) =xs[2]?:=hf 2 _ rfl;have h3:DataW.trod enc PP w 0 spare held m 24 (([c0,c1,c2,c3].drop 3).take (PP.cellsOf 24)) =xs[3]?:=hf 3 _ rfl;simp only [cells22,cells23,cells3,cells24,drop,take]at h0 h1 h2 h3;obtain⟨x0,h0⟩ :=got h0 hlen (by decide);obtain⟨x1,h1⟩ :=got h1 hlen (by decide);obtain⟨x2,h2⟩ :=got h2 hlen (by decide);obtain⟨x3,h3⟩ :=got h3 hlen (by decide);obtain⟨ns,c,e0,v0⟩ :=qG Node.av Tryz.underlying22 cells50 (by omega) h0 (fun fu _ cs x hx=>aUa fu cs x hx);obtain⟨fs,c',e1,v1⟩ :=aIK h1;obtain⟨n,e2⟩ :=qH Tryz.underlying3 h2;obtain⟨ks,c'',e3,v3⟩ :=qG Con.av Tryz.underlying24 cells53 (by omega) h3 (fun fu _ cs x hx=>aWM fu cs x hx);cases e0;cases e1;cases e2;cases e3;refine⟨⟨ns,fs,n,ks⟩,?_⟩;simp only [Prog.av,VR];exact⟨_,rfl,VRs.cons v0 (VRs.cons v1 (VRs.cons (by simp only [VR]) (VRs.cons v3 (VRs.nil _))))⟩
end
end
section
variable {P :Program}
theorem Rel.swap {E E':Emb}{h h':Hp}{w:World}(r:Rel E h w.heap)(K:Nat→Prop)(W:h.nb≤h'.nb)(s:∀b,b<h.nb→E' b=E b)(d:E'.imm=E.imm)(Q:∀b,h'.nb≤b→E' b=none)
  (A:∀b o,h.look b=some o→¬K b→bW o= [] ∧jO o=false)
  (c:∀b o,h'.look b=some o→ (K b∧h.look b=some o) ∨ (b<h'.nb∧bW o= [] ∧jO o=false∧ (b<h.nb→¬K b∧∃f,h.look b=some f) ∧∃L,E' b=some L∧OR E' w.heap L o∧∀i,Own o L i→∃j f p,¬K j∧h.look j=some f∧E j=some p∧Own f p i))
  (I:∀b a o l L t,¬ (K b∧h.look b=some o) →¬ (K a∧h.look a=some l) →h'.look b=some o→h'.look a=some l→E' b=some L→E' a=some t→b≠a→¬Meet o l L t) :
  E.le E'∧Rel E' h' w.heap∧∀m,m≤h.nb→ExtM m E h w E' h' w:=by
 have D:E.le E':= ⟨fun b L e=>by rw [s b (r.nb_gt e)];exact e,fun k C e=>by rw [d];exact e⟩;have hK:∀ {b o},K b∧h.look b=some o→E' b=E b:=fun {b o} g=>s b (r.keys b o g.2)
 have z:∀ {b o L},h'.look b=some o→E' b=some L→∀i,Own o L i→∃j f p,h.look j=some f∧E j=some p∧Own f p i:=fun {b o L} e k i F=>by
  rcases c b o e with g| ⟨_,_,_,_,Y,B,_,S⟩
  ·exact⟨b,o,L,g.2,by rw [←hK g];exact k,F⟩
  · rw [k]at B;cases B;obtain⟨j,f,p,_,G,N,J⟩ :=S i F;exact⟨j,f,p,G,N,J⟩
 have n:∀ {b a o l L t},¬ (K b∧h.look b=some o) →K a∧h.look a=some l→h'.look b=some o→E' b=some L→E a=some t→∀i,Own o L i→¬Own l t i:=fun {b a o l L t} g u e k y i O M=>by
  rcases c b o e with q| ⟨_,_,_,_,Y,B,_,S⟩
  ·exact g q
  · rw [k]at B;cases B;obtain⟨j,f,p,V,G,N,J⟩ :=S i O;obtain⟨T,R⟩ :=A j f G V;rcases r.kin j a f l p t G u.2 N y ⟨i,J,M⟩ (fun e=>V (e ▸ u.1))with⟨x,_⟩ | ⟨_,x,_⟩
    ·rw [T]at x;cases x
    ·rw [R]at x;cases x
 refine⟨D,⟨fun b o e=>?_,fun b a o l L t e U k y v H=>?_,Q,fun k C e=>by rw [d]at e;exact r.imm k C e,fun b o L e k i F=>?_,fun b o e=>?_⟩,fun m hm=> ⟨fun b hb=>s b (by omega),D.2,le_refl _,fun _ _ _=>rfl,fun b o L e k i F _=>z e k i F,by omega,rfl,rfl,rfl,fun _ _=>rfl,fun k C e _=>.inl (by rw [d]at e;exact e),fun b o e hb=>?_⟩⟩
 · rcases c b o e with g| ⟨_,_,_,_,L,B,g2,_⟩
   · rcases r.obj0 b o g.2 with⟨T,R⟩ | ⟨L,Z,X⟩
     ·exact .inl ⟨T,by rw [hK g];exact R⟩
     ·exact .inr ⟨L,by rw [hK g];exact Z,X.mono D⟩
   ·exact .inr ⟨L,B,g2⟩
 · by_cases g:K b∧h.look b=some o
   · by_cases u:K a∧h.look a=some l
     · rw [hK g]at k;rw [hK u]at y;exact r.kin b a o l L t g.2 u.2 k y v H
     · rw [hK g]at k;obtain⟨i,O,M⟩ :=v;exact absurd O (n u g U y k i M)
   · by_cases u:K a∧h.look a=some l
     · rw [hK u]at y;obtain⟨i,O,M⟩ :=v;exact absurd M (n g u e k y i O)
     ·exact absurd v (I b a o l L t g u e U k y H)
 · rw [d];obtain⟨j,f,p,G,N,J⟩ :=z e k i F;exact r.apart j f p G N i J
 · rcases c b o e with g| ⟨g,_⟩
   ·have:=r.keys b o g.2;omega
   ·exact g
 · rcases c b o e with g| ⟨_,_,_,g,_⟩
   ·exact⟨o,g.2⟩
   ·exact(g (by omega)).2
end
end
end Go.Hb
