/- A machine on abstract values, its soundness, ways, plain laws. -/
import Derived.Test.YtnljmgihoioocaaGreatHD
import Derived.Test.YtnljmgihoioocaaGreatHE
import Derived.KernelRfl
import Derived.Test.YtnljmgihoioocaaGreatProg
set_option linter.defProp false
set_option linter.unusedVariables false
set_option linter.unusedSimpArgs false
set_option linter.unusedSectionVars false
set_option maxRecDepth 100000
namespace Go.Hb
open AV (frzOk int keyless keylessL ren renL)
open List (drop length length_cons length_map map_cons mem_cons_self range range' replicate set take)
open Nat (beq ble ble_eq blt div le_refl lt_or_ge mod pow zero_add zero_le)
open Go.Proofs Tryz
noncomputable section
section
variable {P :Program}
def way (P:Program)(m:Nat)(is:List Ins)(s:TS)(t:TS)(ks:List Nat) :Option (Nat×Sum×List Prop) :=
 match pX P is s.as with
 |some (s1,ps) =>some (s1.h.nb,s1.sum (eR m t.nb s1.h.nb ks) t,ps)
 |none=>none
theorem aQW {m:Nat}{is:List Ins}{s t:TS}{ks:List Nat}{n1:Nat}{ps:List Prop}(h0:way P m is s t ks=some (n1,t.want (eR m t.nb n1 ks),ps))(hok:cT m t ks=true)(hkl:eF t.hp)(hp:AllP ps) :LeadsM P m s.as t.as:=by
 unfold way at h0;split at h0
 · rename_i s1 qs h1;simp only [Option.some.injEq,Prod.mk.injEq]at h0;obtain⟨rfl,h2,rfl⟩ :=h0;refine(fR h1 (fun p hpp=>hp.mem p hpp)).trans ?_;simp only [AS.sum,TS.want,Sum.mk.injEq]at h2;obtain⟨a1,a2,a3,a4⟩ :=h2;intro hm E fr ccs w base f fs r;obtain⟨q1,q2⟩ :=kZ (l:=t.hp) (nb:=t.nb) (by simpa [cT]using hok) a4 hkl r;exact⟨_,fr,ccs,w,Steps.refl _ _,aDg a1 f,xB a2 a3 fs,q1,q2⟩
 ·cases h0
def bDc (P:Program)(m:Nat)(is:List Ins)(s:TS)(hp:List (Nat×AObj×Bool))(nb:Nat)(ks:List Nat) :Option (Nat×AV×List (Option AObj) ×List Prop) :=
 match pX P is s.as with
 | some (s1,ps) =>match uP P s1 with
  |some (v,h1) =>some (h1.nb,v,sV h1 (eR m nb h1.nb ks) hp,ps)
  |none=>none
 |none=>none
theorem aM6 {m:Nat}{is:List Ins}{s:TS}{hp:List (Nat×AObj×Bool)}{nb:Nat}{ks:List Nat}{n1:Nat}{v:AV}{ps:List Prop}(h0:bDc P m is s hp nb ks=some (n1,ren (eR m nb n1 ks) v,gK (eR m nb n1 ks) hp,ps))
  (hok:cT m ⟨⟨0,0,[],[],[],.run,.normal,none⟩,[],hp,nb⟩ ks=true) (hkl:eF hp) (hps:AllP ps) :Ends P m s.as (.ret v) (aA hp nb) :=by
 unfold bDc at h0;split at h0
 · rename_i s1 qs h1;split at h0
   · rename_i u h2 hf;simp only [Option.some.injEq,Prod.mk.injEq]at h0;obtain⟨rfl,h3,h4,rfl⟩ :=h0;subst h3;refine(fR h1 (fun p hpp=>hps.mem p hpp)).ends ?_;intro hm E fr ccs w f fs r cl base;obtain⟨cl',w',E',g1,⟨cv,rfl,g2⟩,g3,g4⟩ :=lT (m:=m) hf hm E fr ccs w f fs r cl base;obtain⟨q1,q2⟩ :=kZ hok h4 hkl g3;exact⟨_,w',_,g1,⟨cv,rfl,(eC _ _ _ _).1 g2⟩,q1,g4.trans q2⟩
   ·cases h0
 ·cases h0
def aM7 (P:Program)(s:AS) :Option (List (AV×Bool) ×Hp) :=
 match s.fr.mode,s.fr.defers,s.cs,P.funcs[s.fr.fn]? with
 | .pan ch,[],[],some _=>some (ch,s.h)
 |_,_,_,_=>none
theorem aJ7 {m:Nat}{s:AS}{ch:List (AV×Bool)}{h':Hp}(h0:aM7 P s=some (ch,h')) :Ends P m s (.pan ch) h':=fun hm E fr ccs w f fs r cl base=>by
 unfold aM7 at h0;split at h0
 · rename_i ch' fd hmo hd hcs hfn;cases h0;have fm:=f.mode;rw [hmo]at fm;simp only [MR]at fm;obtain⟨ps,fm,hcr⟩ :=fm;have fdd:=f.defers;rw [hd]at fdd;rw [hcs]at fs;rw [fs.nil_inv];exact⟨_,w,E,.one (vE fm fdd.nil_inv (by rw [f.fn];exact hfn)),⟨ps,rfl,hcr⟩,r,ExtM.refl hm⟩
 ·cases h0
def aTL (τ:Nat→Nat)(ch:List (AV×Bool)) :List (AV×Bool) :=ch.map fun p=> (ren τ p.1,p.2)
def start (P:Program)(f:Nat)(args:List AV) :TS:=
 match P.funcs[f]? with
 | some fn=>match fn.body with
  |some c=> ⟨⟨f,max fn.ntmps args.length,(range args.length).zip args,[.code c],[],.run,.normal,none⟩,[],[],0⟩
  |none=> ⟨⟨f,0,[],[],[],.run,.normal,none⟩,[],[],0⟩
 |none=> ⟨⟨f,0,[],[],[],.run,.normal,none⟩,[],[],0⟩
theorem aEq {E:Emb}{h:Hp}{w:World}(r:Rel E h w.heap) :Rel E.p ⟨.leaf,0⟩ w.heap:=
 ⟨fun b o e=>by simp [Hp.look,T.at_leaf]at e,fun b b' o o' L L' e=>by simp [Hp.look,T.at_leaf]at e,fun _ _=>rfl,r.imm,fun b o L e=>by simp [Hp.look,T.at_leaf]at e,fun b o e=>by simp [Hp.look,T.at_leaf]at e⟩
theorem aAX :aA [] 0= ⟨.leaf,0⟩ :=rfl
theorem aJ8 {args:List AV}{k:Nat}{v:AV}(h: (k,v) ∈ (range args.length).zip args) :args[k]?=some v:=by
 obtain⟨i,hi⟩ :=List.mem_iff_getElem?.1 h;rw [List.getElem?_zip_eq_some]at hi;obtain⟨h1,h2⟩ :=hi;obtain⟨hlt,he⟩ :=List.getElem?_eq_some_iff.1 h1;rw [List.getElem_range]at he;subst he;exact h2
theorem aM8 {E E':Emb}{h:Hp}{w w':World}(r:Rel E h w.heap)(r':Rel E' ⟨.leaf,0⟩ w'.heap)(x:ExtM 0 E.p ⟨.leaf,0⟩ w E' ⟨.leaf,0⟩ w') :
  Rel ⟨E.loc,E'.imm⟩ h w'.heap∧ExtM h.nb E h w ⟨E.loc,E'.imm⟩ h w':=by
 have hno:∀ {b o},¬ (⟨.leaf,0⟩ :Hp).look b=some o:=fun {b o} e=>by simp [Hp.look,T.at_leaf]at e
 have keep:∀i,i<w.heap.size→w'.heap[i]?=w.heap[i]?:=fun i hi=>x.keep i hi (fun b o L e=>absurd e hno);have hle:E.le ⟨E.loc,E'.imm⟩ := ⟨fun _ _ e=>e,x.imm⟩
 have immo:∀k C,E'.imm k=some C→k<w.heap.size→E.imm k=some C:=fun k C e hk=>by
  rcases x.immo k C e hk with g| ⟨b,o,L,g,_⟩
  ·exact g
  ·exact absurd g hno
 refine⟨⟨fun b o e=>?_,r.kin,r.fresh,r'.imm,fun b o L e k i hi=>?_,r.keys⟩,⟨fun _ _=>rfl,x.imm,x.size,fun i hi _=>keep i hi,fun b o L e k i hi _=> ⟨b,o,L,e,k,hi⟩,le_refl _,x.os,x.tape,x.output,x.froz,fun k C e hk=>.inl (immo k C e hk),fun b o e _=> ⟨o,e⟩⟩⟩
 · rcases r.obj0 b o e with u| ⟨L,g1,g2⟩
   ·exact .inl u
   ·exact .inr ⟨L,g1,(g2.mono hle).heap fun i hi=>keep _ (g2.lt i hi)⟩
 · show E'.imm i=none;cases hc:E'.imm i with
   |none=>rfl
   | some C=>
    have:=immo _ C hc (r.lt e k i hi);rw [r.apart b o L e k i hi]at this;cases this
theorem pure_of {f : Nat} {args : List AV} {v : AV} {fn:Func}{c:Code}(hf:P.funcs[f]?=some fn)(hc:fn.body=some c)(hk:keylessL args=true)(hv:keyless v=true)(he:Ends P 0 (start P f args).as (.ret v) (aA [] 0)) :aJ P f args v:=fun h=>by
 have hg:dB P h (.enter f args) =some ⟨f,dA .leaf 0 args,max fn.ntmps args.length,[.code c],[],.run,.normal,none⟩ :=by simp [dB,cL,hf,hc]
 refine⟨_,hg,fun hm E fr ccs w fr' fs r cl base=>?_⟩;simp only at fs;rw [fs.nil_inv];have f1:FR E.p (start P f args).as.fr fr:=by
  have e1: (start P f args).as.fr= ⟨f,cP ((range args.length).zip args),max fn.ntmps args.length,[.code c],[],.run,.normal,none⟩ :=by simp [start,hf,hc,TS.as,TF.fr]
  rw [e1];refine⟨fr'.fn,⟨fr'.tm.1,fun t a e=>?_⟩,?_,?_,fr'.mode,fr'.kind,?_⟩
  · have h1:=aJ8 (aBV e);have hlt:= (List.getElem?_eq_some_iff.1 h1).1;have h2: (dA .leaf 0 args).at t=some a:=by
     unfold dA;rw [aY,if_pos hlt];exact h1
    obtain⟨cv,g1,g2⟩ :=fr'.tm.2 t a h2;exact⟨cv,g1,dW (keylessL_mem.1 hk a (List.mem_of_getElem? h1)) g2⟩
  · have:=fr'.todo;simpa [IRs,IR]using this
  · have:=fr'.defers;simpa [DRs]using this
  · have:=fr'.round;simpa [RR]using this
 have e2 : (start P f args).as.cs = [] := by unfold start;split; · split<;>rfl
                                             ·rfl
 have e3 : (start P f args).as.h = ⟨.leaf, 0⟩ := by unfold start;split; · split<;>rfl
                                                    ·rfl
 obtain⟨cl',w',E',g1,⟨cv,rfl,g2⟩,g3,g4⟩ :=he (zero_le _) E.p fr [] w f1 (by rw [e2];rfl) (by rw [e3];exact aEq r) cl base;rw [e3]at g4;obtain⟨q1,q2⟩ :=aM8 r g3 g4;exact⟨_,w',_,g1,⟨cv,rfl,VR.of_p (E:= ⟨E.loc,E'.imm⟩) (show VR (Emb.p ⟨E.loc,E'.imm⟩) v cv from dW (E:=E') hv g2)⟩,q1,q2⟩
def bC (P:Program)(f:Nat)(args:List AV)(hp:List (Nat×AObj×Bool))(nb:Nat) :TS:={(start P f args)with hp:=hp,nb:=nb}
def aPQ (nb:Nat)(h1 h2:Hp) :List (Nat×AObj×Bool) →List (Option AObj)
 | [] =>[]
 |p::r=> (bif blt p.1 nb then h1.look p.1 else h2.look p.1) ::aPQ nb h1 h2 r
def uL :List (Nat×AObj×Bool) →List (Option AObj)
 | [] =>[]
 |p::r=>some p.2.1::uL r
theorem aGq {nb:Nat}{h1 h2:Hp}:∀ {l:List (Nat×AObj×Bool)},aPQ nb h1 h2 l=uL l→∀p∈l,(p.1<nb→h1.look p.1=some p.2.1) ∧ (nb≤p.1→h2.look p.1=some p.2.1)
 | q ::r,h,p,hp=>by
  simp only [aPQ,uL,List.cons.injEq]at h;rcases List.mem_cons.1 hp with rfl|hp
  · rw [cO]at h;refine⟨fun g=>?_,fun g=>?_⟩
    ·have:=h.1;rw [decide_eq_true g]at this;exact this
    ·have:=h.1;rw [decide_eq_false (show ¬p.1<nb by omega)]at this;exact this
  ·exact aGq h.2 p hp
theorem jL {l:List (Nat×AObj×Bool)}{nb b:Nat}{o:AObj}(e: (aA l nb).look b=some o) :∃f,(b,o,f) ∈l:=by
 have: (b,o) ∈l.map fun p=> (p.1,p.2.1) :=aBV e;obtain⟨⟨pb,po,pf⟩,hp,hpe⟩ :=List.mem_map.1 this;cases hpe;exact⟨pf,hp⟩
theorem aJ9 {E:Emb}{τ:Nat→Nat}{h:Hp}{f:Nat}{args:List AV}{g:AFrame}{fr:Frame}(hg:dB P h (.enter f args) =some g)(ha:renL τ args=args)(fr':FR E g fr) :FR (E.ren τ) g fr:=by
 simp only [dB,cL]at hg;split at hg
 · split at hg
   · cases hg;refine⟨fr'.fn,⟨fr'.tm.1,fun t a e=>?_⟩,?_,?_,fr'.mode,fr'.kind,?_⟩
     · obtain⟨cv,g1,g2⟩ :=fr'.tm.2 t a e;refine⟨cv,g1,(eC τ E a cv).1 ?_⟩;have ht:t<args.length∧args[t]?=some a:=by
        have e': (dA .leaf 0 args).at t=some a:=e;unfold dA at e';rw [aY]at e';split at e'
        ·rename_i hlt;exact⟨hlt,e'⟩
        ·cases e'
       have all:∀ (l:List AV),renL τ l=l→∀ (i:Nat) (x:AV),l[i]?=some x→ren τ x=x:=by
        intro l
        induction l with
        |nil=>intro _ i x hx;simp at hx
        | cons y l ih=>
         intro hl i x hx;simp only [renL,List.cons.injEq]at hl;cases i with
         |zero=>simp at hx;subst hx;exact hl.1
         |succ i=>exact ih hl.2 i x (by simpa using hx)
       rw [all args ha t a ht.2];exact g2
     ·have:=fr'.todo;simpa [IRs,IR]using this
     ·have:=fr'.defers;simpa [DRs]using this
     ·have:=fr'.round;simpa [RR]using this
   ·cases hg
 ·cases hg
theorem aEr {f:Nat}{args:List AV}{v:AV}{l l' x:List (Nat×AObj×Bool)}{nb n2:Nat}
  (h0:Spec P (.enter f args) (aA l nb) (.ret v) (aA l' nb)) (hargs:renL (eR nb nb n2 []) args=args) (hv:keyless v=true) (hle:ble nb n2=true)
  (hin:cT nb ⟨⟨0,0,[],[],[],.run,.normal,none⟩,[],l,nb⟩ [] =true) (hl:sV (aA (l++x) n2) (eR nb nb n2 []) l=gK (eR nb nb n2 []) l) (hkl:eF l)
  (hx:fC n2 (l++x) =true) (hx':fC n2 (l'++x) =true) (hout:aPQ nb (aA l' nb) (aA (l++x) n2) (l'++x) =uL (l'++x)) :
  Spec P (.enter f args) (aA (l++x) n2) (.ret v) (aA (l'++x) n2) :=by
 obtain⟨g,hg,he⟩ :=h0;refine⟨g,hg,?_⟩;intro _ E fr ccs w fr' fs r cl base;have hle:=Nat.le_of_ble_eq_true hle
 have hkeys:∀ {b o},(aA l nb).look b=some o→b<nb∧∃o1,(aA (l++x) n2).look b=some o1∧∀L i,Own o L i→Own o1 L i:=fun {b o} e=>by
  obtain⟨fl,hm⟩ :=jL e;simp only [cT,Bool.and_eq_true]at hin;have hb:= (dX hin.2 _ hm).1;have:=rH hl _ hm;simp only [sW hb]at this;exact⟨hb,_,this,fun _ _ h=>xA h⟩
 have low:∀ {b},b<nb→ (E.ren (eR nb nb n2 [])) b=E b:=fun {b} hb=>by show E.loc (eR nb nb n2 [] b) =E.loc b;rw [sW hb]
 have nool:∀ {b o},(aA (l++x) n2).look b=some o→b<n2∧bQ o= [] :=fun {b o} e=>by
  obtain⟨fl,hm⟩ :=jL e;exact dX hx _ hm
 have apart:∀ {b b' o o' L L'},(aA (l++x) n2).look b=some o→ (aA (l++x) n2).look b'=some o'→E b=some L→E b'=some L'→b≠b'→¬Meet o o' L L':=fun {b b' o o' L L'} e e' k k' hne hbl=>by
  have:=r.kin b b' o o' L L' e e' k k' hbl hne;unfold Kin at this;rw [(nool e).2,(nool e').2]at this;rcases this with⟨g,_⟩ | ⟨g,_⟩ <;>simp at g
 obtain⟨rL,_⟩ :=kZ (h:=aA (l++x) n2) hin hl hkl r;have frL:=aJ9 (τ:=eR nb nb n2 []) hg hargs fr';rw [fs.nil_inv];obtain⟨cl',w',EL,s1,⟨cv,rfl,g2⟩,r2,x2⟩ :=he (le_refl _) (E.ren (eR nb nb n2 [])) fr [] w frL rfl rL cl base;have hnb: (aA l nb).nb=nb:=rfl;have hnb': (aA l' nb).nb=nb:=rfl;rw [hnb]at x2;have eL:∀ {b},b<nb→EL b=E b:=fun {b} hb=> (x2.low b hb).trans (low hb);have eLhi:∀ {b},nb≤b→EL b=none:=fun {b} hb=>r2.fresh b hb;have hELE:EL.le ⟨E.loc,EL.imm⟩ :=by
  refine⟨fun b L e=>?_,fun _ _ e=>e⟩;rcases lt_or_ge b nb with hb|hb
  ·rw [eL hb]at e;exact e
  ·rw [eLhi hb]at e;cases e
 have hEE:E.le ⟨E.loc,EL.imm⟩ := ⟨fun _ _ e=>e,fun k C e=>x2.imm k C e⟩
 have hlook:∀ {b o},(aA (l'++x) n2).look b=some o→b<n2∧bQ o= [] ∧ (b<nb→ (aA l' nb).look b=some o) ∧ (nb≤b→ (aA (l++x) n2).look b=some o) :=fun {b o} e=>by
  obtain⟨fl,hm⟩ :=jL e;exact⟨(dX hx' _ hm).1,(dX hx' _ hm).2,aGq hout _ hm⟩
 have away:∀ {b o L},nb≤b→ (aA (l++x) n2).look b=some o→E b=some L→∀b1 o1 L1,(aA l nb).look b1=some o1→ (E.ren (eR nb nb n2 [])) b1=some L1→∀i,Own o1 L1 i→¬Own o L i:=fun {b o L} hb e k b1 o1 L1 e1 k1 i i1 i2=>by
  obtain⟨hb1,o2,e2,ho⟩ :=hkeys e1;rw [low hb1]at k1;exact apart e2 e k1 k (by omega) ⟨i,ho _ _ i1,i2⟩
 refine⟨_,w',⟨E.loc,EL.imm⟩,s1,⟨cv,rfl,?_⟩,⟨fun b o e=>?_,fun b b' o o' L L' e e' k k' hbl hne=>?_,fun b hb=>r.fresh b hb,r2.imm,fun b o L e k i hi=>?_,fun b o e=> (hlook e).1⟩,
  ⟨fun _ _=>rfl,hEE.2,x2.size,fun i hi hn=>?_,fun b' o' L' e k i hi hlt=>?_,le_refl _,x2.os,x2.tape,x2.output,x2.froz,fun k C e hk=>?_,fun b o e hb=>?_⟩⟩
 ·exact VR.of_p (E:= ⟨E.loc,EL.imm⟩) (show VR (Emb.p ⟨E.loc,EL.imm⟩) v cv from dW (E:=EL) hv g2)
 · obtain⟨hb,_,q1,q2⟩ :=hlook e;rcases lt_or_ge b nb with g|g
   · rcases r2.obj0 b o (q1 g)with⟨u1,u2⟩ | ⟨L,k1,k2⟩
     ·rw [eL g]at u2;exact .inl ⟨u1,u2⟩
     ·rw [eL g]at k1;exact .inr ⟨L,k1,k2.mono hELE⟩
   · rcases r.obj0 b o (q2 g)with u| ⟨L,k1,k2⟩
     ·exact .inl u
     ·exact .inr ⟨L,k1,(k2.mono hEE).heap fun i hi=>x2.keep _ (k2.lt i hi) (fun b1 o1 L1 h1 h2 h3=>away g (q2 g) k1 b1 o1 L1 h1 h2 i h3 hi)⟩
 · obtain⟨hb,ho,q1,q2⟩ :=hlook e;obtain⟨hb',ho',q1',q2'⟩ :=hlook e'
   have mixed:∀ {b b' o o' L L'},b<nb→nb≤b'→ (aA l' nb).look b=some o→ (aA (l++x) n2).look b'=some o'→E b=some L→E b'=some L'→¬Meet o o' L L':=fun {b b' o o' L L'} h1 h2 e e' k k' hbl=>by
    obtain⟨i,i1,i2⟩ :=hbl;obtain⟨b1,o1,L1,a1,a2,a3⟩ :=x2.own b o L e (by rw [eL h1];exact k) i i1 (r.lt e' k' i i2);exact away h2 e' k' b1 o1 L1 a1 a2 i a3 i2
   rcases lt_or_ge b nb with g|g
   · rcases lt_or_ge b' nb with g'|g'
     ·exact r2.kin b b' o o' L L' (q1 g) (q1' g') (by rw [eL g];exact k) (by rw [eL g'];exact k') hbl hne
     ·exact absurd hbl (mixed g g' (q1 g) (q2' g') k k')
   · rcases lt_or_ge b' nb with g'|g'
     ·exact absurd hbl.symm (mixed g' g (q1' g') (q2 g) k' k)
     ·exact r.kin b b' o o' L L' (q2 g) (q2' g') k k' hbl hne
 · obtain⟨hb,_,q1,q2⟩ :=hlook e;show EL.imm i=none;rcases lt_or_ge b nb with g|g
   ·exact r2.apart b o L (q1 g) (by rw [eL g];exact k) i hi
   · cases hc:EL.imm i with
     |none=>rfl
     | some C=>
      rcases x2.immo _ C hc (r.lt (q2 g) k i hi)with a| ⟨b1,o1,L1,a1,a2,a3⟩
      · have:=r.apart b o L (q2 g) k i hi;rw [show(E.ren (eR nb nb n2 [])).imm=E.imm from rfl]at a;rw [this]at a;cases a
      ·exact absurd hi (away g (q2 g) k b1 o1 L1 a1 a2 i a3)
 · refine x2.keep i hi (fun b o L e k hh=>?_);obtain⟨hb,o1,e1,ho⟩ :=hkeys e;rw [low hb]at k;exact hn b o1 L e1 k (ho _ _ hh)
 · obtain⟨hb,_,q1,q2⟩ :=hlook e;rcases lt_or_ge b' nb with g|g
   · obtain⟨b1,o1,L1,a1,a2,a3⟩ :=x2.own b' o' L' (q1 g) (by rw [eL g];exact k) i hi hlt;obtain⟨hb1,o2,e2,ho⟩ :=hkeys a1;rw [low hb1]at a2;exact⟨b1,o2,L1,e2,a2,ho _ _ a3⟩
   ·exact⟨b',o',L',q2 g,k,hi⟩
 · rcases x2.immo k C e hk with a| ⟨b1,o1,L1,a1,a2,a3⟩
   ·exact .inl a
   · obtain⟨hb1,o2,e2,ho⟩ :=hkeys a1;rw [low hb1]at a2;exact .inr ⟨b1,o2,L1,e2,a2,ho _ _ a3⟩
 · obtain⟨_,_,q1,q2⟩ :=hlook e;rcases lt_or_ge b nb with g|g
   · obtain⟨o0,e0⟩ :=x2.keys b o (q1 g) g;exact⟨_,(hkeys e0).2.choose_spec.1⟩
   ·exact⟨o,q2 g⟩
theorem aQX {τ:Nat→Nat}{h h':Hp}{f:Nat}{args args':List AV}{g:AFrame}(hg:dB P h (.enter f args) =some g)(ha:renL τ args=args') :
  ∃g',dB P h' (.enter f args') =some g'∧∀ {E:Emb} {fr:Frame},FR E g' fr→FR (E.ren τ) g fr:=by
 have hlen:∀ (l:List AV),(renL τ l).length=l.length:=by
  intro l
  induction l with
  |nil=>rfl
  |cons x l ih=>simp [renL,ih]
 have hget:∀ (l:List AV) (i:Nat) (x:AV),l[i]?=some x→ (renL τ l)[i]?=some (ren τ x) :=by
  intro l
  induction l with
  |nil=>intro i x hx;simp at hx
  | cons y l ih=>
   intro i x hx;cases i with
   |zero=>simp at hx;subst hx;simp [renL]
   |succ i=>simp only [renL,List.getElem?_cons_succ]at hx ⊢;exact ih i x hx
 subst ha;simp only [dB,cL]at hg ⊢;split at hg
 · rename_i fn hfn;split at hg
   · rename_i c hc;cases hg;refine⟨_,rfl,fun {E fr} fr'=>?_⟩;refine⟨fr'.fn,⟨by have:=fr'.tm.1;rw [hlen]at this;exact this,fun t a e=>?_⟩,?_,?_,fr'.mode,fr'.kind,?_⟩
     · have ht:t<args.length∧args[t]?=some a:=by
        have e': (dA .leaf 0 args).at t=some a:=e;unfold dA at e';rw [aY]at e';split at e'
        ·rename_i hlt;exact⟨hlt,e'⟩
        ·cases e'
       obtain⟨cv,g1,g2⟩ :=fr'.tm.2 t (ren τ a) (by
        show(dA .leaf 0 (renL τ args)).at t=_;unfold dA;rw [aY,if_pos (by rw [hlen];exact ht.1)];exact hget args t a ht.2)
       exact⟨cv,g1,(eC τ E a cv).1 g2⟩
     ·have:=fr'.todo;simpa [IRs,IR]using this
     ·have:=fr'.defers;simpa [DRs]using this
     ·have:=fr'.round;simpa [RR]using this
   ·cases hg
 ·cases hg
def bEG (P:Program)(c:AIn)(h:Hp)(res:Res)(h':Hp) :Prop:=∃g,dB P h c=some g∧Ends P 0 ⟨g,[],h⟩ res h'
theorem aKa {τ:Nat→Nat}{E:Emb}:∀ {es:List (AV×AV×Nat)} {us:List MapEntry},ERs (E.ren τ) es us→ERs E (es.map fun p=> (ren τ p.1,ren τ p.2.1,p.2.2)) us
 | [],_,r=>by simpa [ERs]using r
 | e::es,_,r=>by
  simp only [ERs]at r;simp only [map_cons,ERs];obtain⟨u,us',h1,h2,h3,h4,h5⟩ :=r;exact⟨u,us',h1,(eC τ E _ _).2 h2,(eC τ E _ _).2 h3,h4,aKa h5⟩
def plainO :AObj→Bool
 | .cells .. | .map .. | .mapx .. | .lst .. | .loop .. | .defd .. | .zone .. =>true
 |_=>false
theorem aYZ {τ:Nat→Nat}{E:Emb}{H:Array Obj}{L:Loc}{o:AObj}(hp:plainO o=true)(r:OR (E.ren τ) H L o) :OR E H L (o.ren τ) :=by
 cases o with
 | cells t n ol sup=>
  obtain⟨C,el,h1,h2,h3⟩ :=r;refine⟨C,el,h1,h2,fun i a e=>?_⟩;rw [aDf]at e;cases ht:t.at i with
  |none=>rw [ht]at e;cases e
  | some a0=>
   rw [ht]at e;cases e;obtain⟨g1,v,g2,g3⟩ :=h3 i a0 ht;exact⟨g1,v,g2,(eC τ E a0 v).2 g3⟩
 |map es c=>obtain⟨ES,h1,h2⟩ :=r;exact⟨ES,h1,aKa h2⟩
 | mapx es c k v=>
  obtain⟨ES,h1,h2,h3⟩ :=r;refine⟨ES,h1,?_,h3⟩;obtain⟨us,vs,e1,e2,e3⟩ :=ERs.split h2;rw [e1];refine ERs.join (h3 (E.ren τ) E us rfl e2) ?_;simp only [ERs]at e3 ⊢;obtain⟨u,us',q1,q2,q3,q4,q5⟩ :=e3;exact⟨u,us',q1,(eC τ E _ _).2 q2,(eC τ E _ _).2 q3,q4,q5⟩
 |lst e xs=>obtain⟨C,el,vs,h1,h2,h3,h4⟩ :=r;exact⟨C,el,vs,h1,h2,(mM τ E xs vs).2 h3,h4⟩
 |defd t=>exact r
 | loop st pe fn tm nt ps aS bd df=>
  obtain⟨tmps,Ld,h1,h2,h3⟩ :=r;refine⟨tmps,Ld,h1,h2,h3.1,fun t a e=>?_⟩;rw [aDf]at e;cases ht:tm.at t with
  |none=>rw [ht]at e;cases e
  | some a0=>
   rw [ht]at e;cases e;obtain⟨cv,g1,g2⟩ :=h3.2 t a0 ht;exact⟨cv,g1,(eC τ E a0 cv).2 g2⟩
 | zone w0 r0 Z=>
  obtain⟨r1,Ls,r2,r3⟩ :=r;exact⟨r1,Ls,by rw [List.map_map];exact r2,r3⟩
 |_=>cases hp
def vU :List (Nat×AObj×Bool) →Bool
 | [] =>true
 |p::r=> (p.2.2||plainO p.2.1) &&vU r
theorem aEs :∀ {l:List (Nat×AObj×Bool)},vU l=true→∀p∈l,p.2.2=true∨plainO p.2.1=true
 | q::r,h,p,hp=>by
  simp only [vU,Bool.and_eq_true,Bool.or_eq_true]at h;rcases List.mem_cons.1 hp with rfl|hp
  ·exact h.1
  ·exact aEs h.2 p hp
def namesT (τ:Nat→Nat) :List (Nat×AObj×Bool) →List Nat
 | [] =>[]
 |p::r=>τ p.1::namesT τ r
theorem aEt {τ:Nat→Nat}{b:Nat}:∀ {l:List (Nat×AObj×Bool)},b∈namesT τ l→∃p∈l,τ p.1=b
 | q ::r,h=>by
  rcases List.mem_cons.1 h with e|h
  ·exact⟨q,mem_cons_self ..,e.symm⟩
  · obtain⟨p,hp,e⟩ :=aEt h;exact⟨p,List.mem_cons_of_mem _ hp,e⟩
def aCG (names ks:List Nat)(h1:Hp) :List (Nat×AObj×Bool) →List (Option AObj)
 | [] =>[]
 |p::r=> (bif yN p.1 names then some p.2.1 else bif yN p.1 ks then none else h1.look p.1) ::aCG names ks h1 r
theorem aGr {names ks:List Nat}{h1:Hp}:∀ {l:List (Nat×AObj×Bool)},aCG names ks h1 l=uL l→∀p∈l,p.1∈names∨ (p.1∉ks∧h1.look p.1=some p.2.1)
 | q ::r,h,p,hp=>by
  simp only [aCG,uL,List.cons.injEq]at h;rcases List.mem_cons.1 hp with rfl|hp
  · cases hm:yN p.1 names
    case true=>exact .inl ((aAW _ _).1 hm)
    have h1:=h.1;rw [hm]at h1;simp only [cond]at h1;cases hk:yN p.1 ks
    case true=>rw [hk]at h1;cases h1
    rw [hk]at h1;exact .inr ⟨fun hh=>by(rw [(aAW _ _).2 hh]at hk;cases hk),h1⟩
  ·exact aGr h.2 p hp
theorem CR.of_p {E:Emb}:∀ {ch:List (AV×Bool)} {ps:List PanicEntry},CR E.p ch ps→CR E ch ps
 | [],_,r=>by simpa [CR]using r
 | a::l,_,r=>by
  simp only [CR]at r ⊢;obtain⟨v,ps,h1,h2,h3⟩ :=r;exact⟨v,ps,h1,h2.of_p,h3.of_p⟩
def eK (P:Program)(m:Nat)(c:AIn)(h:Hp)(res:Res)(h':Hp) :Prop:=∃g,dB P h c=some g∧Ends P m ⟨g,[],h⟩ res h'
def jA (m n2:Nat)(ks:List Nat)(b:Nat) :Nat:=bif blt b m then ks.getD b 0 else b-m+n2
theorem aQY {f:Nat}{args args':List AV}{res res':Res}{l l' lc lc':List (Nat×AObj×Bool)}{m nb nb' n2:Nat}{ks:List Nat}
  (h0:eK P m (.enter f args) (aA l nb) res (aA l' nb')) (hres:∀ {EL:Emb} {loc:Nat→Option Loc} {cl cl':Frame},EL.le ((⟨loc,EL.imm⟩ :Emb).ren (jA m n2 ks)) →Got EL cl res cl'→Got ⟨loc,EL.imm⟩ cl res' cl') (hargs:renL (eR 0 nb n2 ks) args=args') (hm:ble m nb=true) (hm':ble m nb'=true)
  (hin:cT 0 ⟨⟨0,0,[],[],[],.run,.normal,none⟩,[],l,nb⟩ ks=true) (hl:sV (aA lc n2) (eR 0 nb n2 ks) l=gK (eR 0 nb n2 ks) l) (hkl:eF l)
  (hl':sV (aA lc' (nb'-m+n2)) (jA m n2 ks) l'=gK (jA m n2 ks) l') (hkl':eF l') (hpl:vU l'=true) (hk':fC nb' l'=true)
  (hx:fC n2 lc=true) (hx':fC (nb'-m+n2) lc'=true) (hlt:ks.all (fun k=>blt k n2) =true) (hout:aCG (namesT (jA m n2 ks) l') (l.map fun p=>ks.getD p.1 0) (aA lc n2) lc'=uL lc') (hll:uL l'= (l'.map fun p=> (aA l' nb').look p.1)) :
  Spec P (.enter f args') (aA lc n2) res' (aA lc' (nb'-m+n2)) :=by
 obtain⟨g,hg,he⟩ :=h0;obtain⟨g',hg',hfr⟩ :=aQX (h':=aA lc n2) hg hargs;refine⟨g',hg',?_⟩;intro _ E fr ccs w fr' fs r cl base;have hm:=Nat.le_of_ble_eq_true hm;have hm':=Nat.le_of_ble_eq_true hm';have allH_get:∀ {k:Hp} {l:List (Nat×AObj×Bool)},uL l= (l.map fun p=>k.look p.1) →∀p∈l,k.look p.1=some p.2.1:=by
  intro k l
  induction l with
  |nil=>intro _ p hp;cases hp
  | cons q l ih=>
   intro h p hp;simp only [uL,map_cons,List.cons.injEq]at h;rcases List.mem_cons.1 hp with rfl|hp
   ·exact h.1.symm
   ·exact ih h.2 p hp
 have hlenks:ks.length=nb:=by
  simp only [cT,Bool.and_eq_true]at hin;have:=Nat.eq_of_beq_eq_true hin.1.1.1.2;simpa using this
 have tget:∀ {b},b<nb→eR 0 nb n2 ks b=ks.getD b 0:=fun {b} hb=>by
  rw [aDh (zero_le b) hb,Nat.sub_zero]
 have gin:∀ {b},b<nb→ks.getD b 0∈ks:=fun {b} hb=>by
  rw [List.getD_eq_getElem?_getD,List.getElem?_eq_getElem (by omega)];exact List.getElem_mem ..
 have glt:∀ {b},b<nb→ks.getD b 0<n2:=fun {b} hb=>by
  have:=List.all_eq_true.1 hlt _ (gin hb);rw [cO,decide_eq_true_eq]at this;exact this
 have slo:∀ {b},b<m→jA m n2 ks b=ks.getD b 0:=fun {b} hb=>by unfold jA;rw [cO,decide_eq_true hb];rfl
 have shi:∀ {b},m≤b→jA m n2 ks b=b-m+n2:=fun {b} hb=>by unfold jA;rw [cO,decide_eq_false (by omega)];rfl
 have hkeys:∀ {b o},(aA l nb).look b=some o→b<nb∧∃o1,(aA lc n2).look (eR 0 nb n2 ks b) =some o1∧∀L i,Own o L i→Own o1 L i:=fun {b o} e=>by
  obtain⟨fl,hmm⟩ :=jL e;have hb:b<nb:=by
   simp only [cT,Bool.and_eq_true]at hin;exact(dX hin.2 _ hmm).1
  exact⟨hb,_,rH hl _ hmm,fun _ _ h=>xA h⟩
 have nool:∀ {b o},(aA lc n2).look b=some o→b<n2∧bQ o= [] :=fun {b o} e=>by
  obtain⟨fl,hmm⟩ :=jL e;exact dX hx _ hmm
 have apart:∀ {b b' o o' L L'},(aA lc n2).look b=some o→ (aA lc n2).look b'=some o'→E b=some L→E b'=some L'→b≠b'→¬Meet o o' L L':=fun {b b' o o' L L'} e e' k k' hne hbl=>by
  have:=r.kin b b' o o' L L' e e' k k' hbl hne;unfold Kin at this;rw [(nool e).2,(nool e').2]at this;rcases this with⟨g,_⟩ | ⟨g,_⟩ <;>simp at g
 obtain⟨rL,_⟩ :=kZ (h:=aA lc n2) hin hl hkl r;have frL:=hfr fr';rw [fs.nil_inv];obtain⟨cl',w',EL,s1,g2,r2,x2⟩ :=he hm (E.ren (eR 0 nb n2 ks)) fr [] w frL rfl rL cl base
 have eL:∀ {b},b<m→EL b=E (ks.getD b 0) :=fun {b} hb=>by
  rw [x2.low b hb];show E (eR 0 nb n2 ks b) =_;rw [tget (by omega)]
 let E':Emb:= ⟨fun b=>if b<n2 then E b else EL (b-n2+m),EL.imm⟩
 have e1:∀ {b},b<n2→E' b=E b:=fun {b} hb=>if_pos hb;have e2:∀ {b},n2≤b→E' b=EL (b-n2+m) :=fun {b} hb=>if_neg (by omega)
 have hE:∀b,E' (jA m n2 ks b) =EL b:=fun b=>by
  rcases lt_or_ge b m with hb|hb
  ·rw [slo hb,e1 (glt (by omega)),eL hb]
  ·rw [shi hb,e2 (by omega),show b-m+n2-n2+m=b by omega]
 have hsig:EL.le (E'.ren (jA m n2 ks)) := ⟨fun b L e=>by show E' (jA m n2 ks b) =some L;rw [hE];exact e,fun _ _ e=>e⟩;have hEE:E.le E':= ⟨fun b L e=>by rw [e1 (r.nb_gt e)];exact e,fun k C e=>x2.imm k C e⟩
 have hlook:∀ {b o},(aA lc' (nb'-m+n2)).look b=some o→b<nb'-m+n2∧bQ o= [] ∧ ((∃i q f,i<nb'∧jA m n2 ks i=b∧ (aA l' nb').look i=some q∧o= (bif f then q else q.ren (jA m n2 ks)) ∧ (f=true→q.kl) ∧ (f=true∨plainO q=true)) ∨ (b∉ (l.map fun p=>ks.getD p.1 0) ∧b<n2∧ (aA lc n2).look b=some o)) :=fun {b o} e=>by
  obtain⟨fl,hmm⟩ :=jL e;refine⟨(dX hx' _ hmm).1,(dX hx' _ hmm).2,?_⟩;rcases aGr hout _ hmm with hn|hn
  · obtain⟨⟨i,q,f⟩,hp,ht⟩ :=aEt hn;have hi:= (dX hk' _ hp).1;have hw:=rH hl' _ hp;simp only at ht hw hi;rw [ht,e]at hw;cases hw;exact .inl ⟨i,q,f,hi,ht,allH_get hll _ hp,rfl,fun hf=>by subst hf;exact nU hkl' i q hp,aEs hpl _ hp⟩
  ·exact .inr ⟨hn.1,(nool hn.2).1,hn.2⟩
 have away:∀ {b o L},b∉ (l.map fun p=>ks.getD p.1 0) → (aA lc n2).look b=some o→E b=some L→∀b1 o1 L1,(aA l nb).look b1=some o1→ (E.ren (eR 0 nb n2 ks)) b1=some L1→∀i,Own o1 L1 i→¬Own o L i:=fun {b o L} hb e k b1 o1 L1 e1' k1 i i1 i2=>by
  obtain⟨hb1,o2,e2',ho⟩ :=hkeys e1';obtain⟨fl,hmm⟩ :=jL e1';exact apart e2' e k1 k (fun h=>hb (h ▸ List.mem_map.2 ⟨(b1,o1,fl),hmm,(tget hb1).symm⟩)) ⟨i,ho _ _ i1,i2⟩
 have mixed:∀ {i b' q o' L L'},b'∉ (l.map fun p=>ks.getD p.1 0) → (aA l' nb').look i=some q→ (aA lc n2).look b'=some o'→EL i=some L→E b'=some L'→¬Meet q o' L L':=fun {i b' q o' L L'} h2 e e' k k' hbl=>by
  obtain⟨y,i1,i2⟩ :=hbl;obtain⟨b1,o1,L1,a1,a2,a3⟩ :=x2.own i q L e k y i1 (r.lt e' k' y i2);exact away h2 e' k' b1 o1 L1 a1 a2 y a3 i2
 refine⟨_,w',E',s1,hres hsig g2,⟨fun b o e=>?_,fun b b' o o' L L' e e' k k' hbl hne=>?_,fun b hb=>?_,r2.imm,fun b o L e k y hy=>?_,fun b o e=> (hlook e).1⟩,
  ⟨fun b hb=>e1 hb,hEE.2,x2.size,fun i hi hn=>?_,fun b' o' L' e k y hy hlt=>?_,?_,x2.os,x2.tape,x2.output,x2.froz,fun k C e hk=>?_,fun b o e hb=>?_⟩⟩
 · obtain ⟨hb,_,h⟩ :=hlook e;rcases h with⟨i,q,f,hi,ht,hq,ho,hf,hpo⟩ | ⟨hb',hb2,hq⟩
   · subst ht;rcases r2.obj0 i q hq with⟨u1,u2⟩ | ⟨L,k1,k2⟩
     · refine .inl ⟨?_,by rw [hE];exact u2⟩;rw [ho];cases f with
       |true=>exact u1
       | false=>cases q with
        | lst e xs=>cases xs with
         |nil=>rfl
         |cons x xs=>cases u1
        |_=>cases u1
     · refine .inr ⟨L,by rw [hE];exact k1,?_⟩;rw [ho];cases f
       case true=>exact bCc (E:=EL) (E':=E') rfl (hf rfl) k2
       rcases hpo with hh|hh
       ·cases hh
       ·exact aYZ hh (k2.mono hsig)
   · rcases r.obj0 b o hq with⟨u1,u2⟩ | ⟨L,k1,k2⟩
     ·exact .inl ⟨u1,by rw [e1 hb2];exact u2⟩
     ·exact .inr ⟨L,by rw [e1 hb2];exact k1,(k2.mono hEE).heap fun i hi=>x2.keep _ (k2.lt i hi) (fun b1 o1 L1 h1 h2 h3=>away hb' hq k1 b1 o1 L1 h1 h2 i h3 hi)⟩
 · obtain⟨hb,hol,h⟩ :=hlook e;obtain⟨hb',hol',h'⟩ :=hlook e'
   have hkin:∀ {o:AObj} {f:Bool} {q:AObj},o= (bif f then q else q.ren (jA m n2 ks)) →bQ o= [] →bQ q= [] :=fun {o f q} ho hol=>by
    cases f
    case true=>subst ho;exact hol
    subst ho;cases q with
    | cells t n ol sup=>
     have:ol.map (jA m n2 ks) = [] :=hol;exact List.map_eq_nil_iff.1 this
    |_=>rfl
   rcases h with⟨i,q,f,hi,ht,hq,ho,hf,hpo⟩ | ⟨hn,hn2,hq⟩
   · subst ht;rw [hE]at k;rcases h' with⟨i',q',f',hi',ht',hq',ho',hf',hpo'⟩ | ⟨hn',hn2',hq'⟩
     · subst ht';rw [hE]at k';have:=r2.kin i i' q q' L L' hq hq' k k' (by obtain⟨y,i1,i2⟩ :=hbl;exact⟨y,rG ho i1,rG ho' i2⟩) (fun e=>hne (by rw [e]));unfold Kin at this;rw [hkin ho hol,hkin ho' hol']at this;rcases this with⟨g,_⟩ | ⟨g,_⟩ <;>simp at g
     · rw [e1 hn2']at k';obtain⟨y,i1,i2⟩ :=hbl;exact(mixed hn' hq hq' k k' ⟨y,rG ho i1,i2⟩).elim
   · rw [e1 hn2]at k;rcases h' with⟨i',q',f',hi',ht',hq',ho',hf',hpo'⟩ | ⟨hn',hn2',hq'⟩
     · subst ht';rw [hE]at k';obtain⟨y,i1,i2⟩ :=hbl;exact(mixed hn hq' hq k' k ⟨y,rG ho' i2,i1⟩).elim
     · rw [e1 hn2']at k';exact r.kin b b' o o' L L' hq hq' k k' hbl hne
 · have hb:nb'-m+n2≤b:=hb;rw [e2 (by omega)];exact r2.fresh _ (by show nb'≤_;omega)
 · obtain⟨hb,_,h⟩ :=hlook e;show EL.imm y=none;rcases h with⟨i,q,f,hi,ht,hq,ho,hf,hpo⟩ | ⟨hn,hn2,hq⟩
   · subst ht;rw [hE]at k;exact r2.apart i q L hq k y (rG ho hy)
   · rw [e1 hn2]at k;cases hc:EL.imm y with
     |none=>rfl
     | some C=>
      rcases x2.immo _ C hc (r.lt hq k y hy)with a| ⟨b1,o1,L1,a1,a2,a3⟩
      · have:=r.apart b o L hq k y hy;rw [show(E.ren (eR 0 nb n2 ks)).imm=E.imm from rfl]at a;rw [this]at a;cases a
      ·exact absurd hy (away hn hq k b1 o1 L1 a1 a2 y a3)
 · refine x2.keep i hi (fun b o L e k hh=>?_);obtain⟨hb,o1,e1',ho⟩ :=hkeys e;exact hn _ o1 L e1' k (ho _ _ hh)
 · obtain⟨hb,_,h⟩ :=hlook e;rcases h with⟨i,q,f,hi,ht,hq,ho,hf,hpo⟩ | ⟨hn,hn2,hq⟩
   · subst ht;rw [hE]at k;obtain⟨b1,o1,L1,a1,a2,a3⟩ :=x2.own i q L' hq k y (rG ho hy) hlt;obtain⟨_,o2,e2',ho'⟩ :=hkeys a1;exact⟨_,o2,L1,e2',a2,ho' _ _ a3⟩
   · rw [e1 hn2]at k;exact⟨b',o',L',hq,k,hy⟩
 ·show n2≤nb'-m+n2;omega
 · rcases x2.immo k C e hk with a| ⟨b1,o1,L1,a1,a2,a3⟩
   ·exact .inl a
   · obtain⟨_,o2,e2',ho⟩ :=hkeys a1;exact .inr ⟨_,o2,L1,e2',a2,ho _ _ a3⟩
 · have hb:b<n2:=hb;obtain⟨_,_,h⟩ :=hlook e;rcases h with⟨i,q,f,hi,ht,hq,ho,hf,hpo⟩ | ⟨hn,hn2,hq⟩
   · rcases lt_or_ge i m with him|him
     · obtain⟨o0,e0⟩ :=x2.keys i q hq him;obtain⟨hi2,o2,e2',_⟩ :=hkeys e0;rw [tget hi2,←slo him,ht]at e2';exact⟨o2,e2'⟩
     · rw [shi him]at ht;omega
   ·exact⟨o,hq⟩
theorem aTM {f:Nat}{args args':List AV}{v:AV}{l l' lc lc':List (Nat×AObj×Bool)}{m nb nb' n2:Nat}{ks:List Nat}
  (h0:eK P m (.enter f args) (aA l nb) (.ret v) (aA l' nb')) (hargs:renL (eR 0 nb n2 ks) args=args') (hm:ble m nb=true) (hm':ble m nb'=true)
  (hin:cT 0 ⟨⟨0,0,[],[],[],.run,.normal,none⟩,[],l,nb⟩ ks=true) (hl:sV (aA lc n2) (eR 0 nb n2 ks) l=gK (eR 0 nb n2 ks) l) (hkl:eF l)
  (hl':sV (aA lc' (nb'-m+n2)) (jA m n2 ks) l'=gK (jA m n2 ks) l') (hkl':eF l') (hpl:vU l'=true) (hk':fC nb' l'=true)
  (hx:fC n2 lc=true) (hx':fC (nb'-m+n2) lc'=true) (hlt:ks.all (fun k=>blt k n2) =true) (hout:aCG (namesT (jA m n2 ks) l') (l.map fun p=>ks.getD p.1 0) (aA lc n2) lc'=uL lc') (hll:uL l'= (l'.map fun p=> (aA l' nb').look p.1)) :
  Spec P (.enter f args') (aA lc n2) (.ret (ren (jA m n2 ks) v)) (aA lc' (nb'-m+n2)) :=
 aQY h0 (fun hle g=>by
  obtain⟨cv,e,g2⟩ :=g;exact⟨cv,e,(eC _ _ v cv).2 (g2.mono hle)⟩) hargs hm hm' hin hl hkl hl' hkl' hpl hk' hx hx' hlt hout hll
def aHX (fr:AFrame)(cs:List AFrame)(all:Array Oper)(i:Nat)(o:Oper)(rest:List Oper)(k:List AItem) :List (AV×Hp) →Option (List AS)
 | [] =>some []
 | p::ps=>match gG fr.tm fr.nt o.dst p.1,aHX fr cs all i o rest k ps with
  |some tm,some l=>some (⟨{fr with tm,todo:=.ops all (Nat.succ i) rest::k},cs,p.2⟩ ::l)
  |_,_=>none
def aAY (s:AS) :Option (List AS) :=
 match s.fr.mode with
 | .run=>match s.fr.todo with
  | .ops all i (o::rest) ::k=>match bP s.fr.tm all.toList o with
   | some true=>match o.op with
    | .next it false=>match bI s.fr.tm it with
     | some (.ptr r 0) =>match aF9 s.h r with
      |some l=>aHX s.fr s.cs all i o rest k l
      |none=>none
     |_=>none
    |_=>none
   |_=>none
  |_=>none
 |_=>none
theorem aEu {fr:AFrame}{cs:List AFrame}{all:Array Oper}{i:Nat}{o:Oper}{rest:List Oper}{k:List AItem}:∀ {ps:List (AV×Hp)} {l:List AS},aHX fr cs all i o rest k ps=some l→∀p∈ps,∃tm,gG fr.tm fr.nt o.dst p.1=some tm∧ (⟨{fr with tm,todo:=.ops all (Nat.succ i) rest::k},cs,p.2⟩ :AS) ∈l
 | [],_,_,p,hp=>by cases hp
 | q ::ps,l,h,p,hp=>by
  simp only [aHX]at h;split at h
  · rename_i tm l' h1 h2;cases h;rcases List.mem_cons.1 hp with rfl|hp
    ·exact⟨tm,h1,mem_cons_self ..⟩
    · obtain⟨tm',g1,g2⟩ :=aEu h2 p hp;exact⟨tm',g1,List.mem_cons_of_mem _ g2⟩
  ·cases h
theorem Goes.then {E:Emb}{h:Hp}{fr:Frame}{ccs:List Frame}{w:World}{base:List Frame}{a b:AS}(h1:Goes P E h fr ccs w base a)(h2:Leads P a b) :Goes P E h fr ccs w base b:=by
 obtain⟨E1,fr1,cs1,w1,s1,f1,fs1,r1,x1⟩ :=h1;obtain⟨E2,fr2,cs2,w2,s2,f2,fs2,r2,x2⟩ :=h2 E1 fr1 cs1 w1 base f1 fs1 r1;exact⟨E2,fr2,cs2,w2,s1.trans s2,f2,fs2,r2,x1.trans x2⟩
theorem aEv {s s':AS}{l:List AS}(h0:aAY s=some l)(hall:∀x∈l,Leads P x s') :Leads P s s':=by
 obtain⟨fr,cs,h⟩ :=s;unfold aAY at h0;simp only at h0;split at h0
 · rename_i hm;split at h0
   · rename_i all i o rest ak htd;split at h0
     · rename_i hw;split at h0
       · rename_i it hop;split at h0
         · rename_i r ha;split at h0
           · rename_i outs hl;intro E cfr ccs w base f fs R;simp only at f fs R;have e:=f.run hm;generalize cfr.fn=fn at e;generalize cfr.tmps=tmps at e;generalize cfr.todo=todo at e;generalize cfr.defers=ds at e;generalize cfr.kind=kd at e;generalize cfr.roundOf=ro at e;subst e;have ft:=f.todo;rw [htd]at ft;obtain⟨ci,k,e,i1,i2⟩ :=ft.cons_inv;simp only at e;subst e;obtain⟨rfl,ho,i3⟩ :=aEf i1;have hd: (all[i]?).bind (·.dst) =o.dst:=by rw [ho];rfl
             have hwant:Region.wanted o (yielded all tmps) =true:=zA f.tm hw;have hρ:=TR.reads (E:=E) f.tm fn (.inRegion all (i::range' (i+1) rest.length) ::k) ds kd ro (· ∈o.op.operands);have hv:=hρ it (by rw [hop];simp [Op.operands]) _ ha;simp only [VR]at hv;obtain⟨L,hE,hL⟩ :=hv;have hz:L.sh=0:=by
              unfold aF9 at hl;split at hl
              · rename_i m since seen last hmi;obtain⟨L',g1,Lm,g2,g3,g4⟩ :=R.obj _ _ hmi;rw [hE]at g1;cases g1;exact g4
              ·cases hl
             obtain⟨v,h',g0,cv,w',g1,g2,g3,g4⟩ :=aCw (P:=P) R hl hE hz;obtain⟨tm',q1,q2⟩ :=aEu h0 _ g0;refine Goes.then ?_ (hall _ q2)
             have hnd:∀c,o.op≠ .defer c:=fun c hc=>by rw [hop]at hc;cases hc
             have hx: (execOp (rf fn tmps (.inRegion all (i::range' (i+1) rest.length) ::k) ds kd ro).eval o).run P w= .ok (.value cv) w':=by
              unfold execOp;simp only [hop];have e2: (rf fn tmps (.inRegion all (i::range' (i+1) rest.length) ::k) ds kd ro).eval it= .pointer (some ⟨L.blk,0,none⟩) :=by rw [hL,hz]
              simp only [Sem.run_bind,e2,g1,Result.andThen_ok,Sem.run_pure]
             refine Goes.one (sG ho hwant (.inr hnd) hx) ?_ (fs.mono g4.le) g3 g4;simp only [Frame.finish,hd];refine⟨f.fn,?_,IRs.cons (i3.mono g4.le) (i2.mono g4.le),f.defers.mono g4.le,by simp only [hm];exact rfl,f.kind,f.round.mono g4.le⟩;have:=zV (f.tm.mono g4.le) q1 g2;unfold zU at this;exact this
           ·cases h0
         ·cases h0
       ·cases h0
     ·cases h0
   ·cases h0
 ·cases h0
theorem Rel.older {E:Emb}{h:Hp}{H:Array Obj}(r:Rel E h H){b:Nat}{t:T AV}{n:Nat}{o1 o2:List Nat}{sup:Bool}(hb:h.look b=some (.cells t n o1 sup))(hs:∀x∈o1,x∈o2) :Rel E (h.set b (.cells t n o2 sup)) H:=by
 have old:∀ {x o},(h.set b (.cells t n o2 sup)).look x=some o→∃o',h.look x=some o'∧jK o'=jK o∧hU o'=hU o∧nOf o'=nOf o∧ (∀y∈bQ o',y∈bQ o) ∧ (∀L,OR E H L o'→OR E H L o) ∧∀L i,Own o L i→Own o' L i:=fun {x o} e=>by
  rw [aX]at e;split at e
  · rename_i hx;subst hx;cases e;exact⟨_,hb,rfl,rfl,rfl,hs,fun L ho=>ho,fun _ _ h=>h⟩
  ·exact⟨o,e,rfl,rfl,rfl,fun _ h=>h,fun _ h=>h,fun _ _ h=>h⟩
 refine⟨fun x o e=>?_,fun x x' o o' L L' e e' k k' hbl hne=>?_,r.fresh,r.imm,fun x o L e k i hi=>?_,fun x o e=>?_⟩
 · obtain⟨o',e1,g1,_,_,_,g5,_⟩ :=old e;rcases r.obj0 x o' e1 with⟨a1,a2⟩ | ⟨L,a1,a2⟩
   ·exact .inl ⟨by rw [←g1];exact a1,a2⟩
   ·exact .inr ⟨L,a1,g5 L a2⟩
 · obtain⟨p,e1,_,g2,g3,g4,_,g6⟩ :=old e;obtain⟨p',e1',_,g2',g3',g4',_,g6'⟩ :=old e';obtain⟨i,i1,i2⟩ :=hbl;rcases r.kin x x' p p' L L' e1 e1' k k' ⟨i,g6 _ _ i1,g6' _ _ i2⟩ hne with⟨a1,a2,a3⟩ | ⟨a1,a2,a3⟩
   ·exact .inl ⟨g4 _ a1,by rw [←g2'];exact a2,by rw [←g3',←g3];exact a3⟩
   ·exact .inr ⟨g4' _ a1,by rw [←g2];exact a2,by rw [←g3,←g3'];exact a3⟩
 · obtain⟨o',e1,_,_,_,_,_,g6⟩ :=old e;exact r.apart x o' L e1 k i (g6 _ _ hi)
 · obtain⟨o',e1,_⟩ :=old e;exact r.keys x o' e1
def AS.older (s:AS)(b:Nat)(o2:List Nat) :Option AS:=
 match s.h.look b with
 |some (.cells t n o1 sup) =>bif o1.all (fun x=>zP x o2)then some {s with h:=s.h.set b (.cells t n o2 sup)} else none
 |_=>none
theorem aKb {s s':AS}{b:Nat}{o2:List Nat}(h0:s.older b o2=some s') :Leads P s s':=fun E fr ccs w base f fs r=>by
 unfold AS.older at h0;split at h0
 · rename_i t n o1 sup hb;cases hc:o1.all (fun x=>zP x o2)with
   |false=>rw [hc]at h0;cases h0
   | true=>
    rw [hc]at h0;simp only [cond]at h0;cases h0
    have hs:∀x∈o1,x∈o2:=fun x hx=>by
     have:=List.all_eq_true.1 hc x hx;rw [qL]at this;simpa using this
    have keys:∀ {x o},(s.h.set b (.cells t n o2 sup)).look x=some o→∃o',s.h.look x=some o'∧∀L i,Own o L i→Own o' L i:=fun {x o} e=>by
     rw [aX]at e;split at e
     ·rename_i hx;subst hx;cases e;exact⟨_,hb,fun _ _ h=>h⟩
     ·exact⟨o,e,fun _ _ h=>h⟩
    exact⟨E,fr,ccs,w,Steps.refl _ _,f,fs,r.older hb hs,⟨Emb.le.refl E,le_refl _,fun _ _ _=>rfl,fun x o L h1 h2 i hi _=>by obtain⟨o',e,ho⟩ :=keys h1;exact⟨x,o',L,e,h2,ho L i hi⟩,le_refl _,rfl,rfl,rfl,fun _ _=>rfl,fun _ _=>rfl,fun _ _ e _=>.inl e,fun x o e _=>by obtain⟨o',e',_⟩ :=keys e;exact⟨o',e'⟩⟩⟩
 ·cases h0
structure LFr where
 fn:Nat
 tm:List (Nat×AV)
 nt:Nat
 todo:List AItem
 defers:List ADef
 mode:AMode
 kind:CallKind
 ro:Option Nat
structure LS where
 fr:LFr
 cs:List LFr
 hp:List (Nat×AObj)
 nb:Nat
def LFr.fr' (f:LFr) :AFrame:= ⟨f.fn,aHU f.tm,f.nt,f.todo,f.defers,f.mode,f.kind,f.ro⟩
def LS.as (s:LS) :AS:= ⟨s.fr.fr',s.cs.map LFr.fr',⟨aHU s.hp,s.nb⟩⟩
def bDd {α:Type}:List (Nat×α) →List Nat
 | [] =>[]
 |p::r=>p.1::bDd r
def aM9 (f:AFrame)(l:LFr) :AFrame:={f with tm:=aHU (aEl f.tm (bDd l.tm))}
def aHY :List AFrame→List LFr→List AFrame
 |f::fs,l::ls=>aM9 f l::aHY fs ls
 |fs,_=>fs
def AS.keep (s:AS)(l:LS) :AS:= ⟨aM9 s.fr l.fr,aHY s.cs l.cs,⟨aHU (aEl s.h.t (bDd l.hp)),s.h.nb⟩⟩
def dN (P:Program)(call:bK)(n:Nat)(a b:LS) :Option AS:=
 match mK P call n a.as with
 |some s'=>some (s'.keep b)
 |none=>none
theorem aAZ {E:Emb}{f:AFrame}{c:Frame}(h:FR E f c)(l:LFr) :FR E (aM9 f l) c:=
 ⟨h.fn,⟨h.tm.1,fun t a e=>h.tm.2 t a (rF (aDe e))⟩,h.todo,h.defers,h.mode,h.kind,h.round⟩
theorem zJ {E:Emb}:∀ {fs:List AFrame} {cs:List Frame} (ls:List LFr),FRs E fs cs→FRs E (aHY fs ls) cs
 | [],_,[],h=>h
 | [],_,_::_,h=>h
 |_::_,_,[],h=>h
 | f::fs,cs,l::ls,h=>by
  obtain⟨c,cs',rfl,h1,h2⟩ :=FRs.cons_inv h;exact FRs.cons (aAZ h1 l) (zJ ls h2)
theorem zZ (s:AS)(l:LS) :Leads P s (s.keep l) :=fun E fr ccs w base f fs r=>by
 have hs:∀b o,(s.keep l).h.look b=some o→s.h.look b=some o:=fun b o e=>rF (aDe e);exact⟨E,fr,ccs,w,Steps.refl _ _,aAZ f l.fr,zJ l.cs fs,r.sub hs (le_refl _),⟨Emb.le.refl E,le_refl _,fun _ _ _=>rfl,fun b o L h1 h2 i hi _=> ⟨b,o,L,hs b o h1,h2,hi⟩,le_refl _,rfl,rfl,rfl,fun _ _=>rfl,fun _ _=>rfl,fun _ _ e _=>.inl e,fun b o e _=> ⟨o,hs b o e⟩⟩⟩
theorem aP {call:bK}(hc:dT P call){n:Nat}{a b:LS}(h0:dN P call n a b=some b.as) :Leads P a.as b.as:=by
 unfold dN at h0;split at h0
 · rename_i s1 h1;rw [sP]at h1;rw [←Option.some.inj h0];exact(pW hc h1).trans (zZ s1 b)
 ·cases h0
def aKc :List AS→List LS→List AS
 |a::l,b::ls=>a.keep b::aKc l ls
 |l,_=>l
theorem aGs :∀ {l:List AS} {ls:List LS},aKc l ls=ls.map LS.as→∀x∈l,∃b∈ls,x.keep b=b.as
 | [],_,_,x,hx=>by cases hx
 |a::l,[],h,x,hx=>by simp [aKc]at h
 | a ::l,b::ls,h,x,hx=>by
  simp only [aKc,map_cons,List.cons.injEq]at h;rcases List.mem_cons.1 hx with rfl|hx
  ·exact⟨b,mem_cons_self ..,h.1⟩
  · obtain⟨c,h1,h2⟩ :=aGs h.2 x hx;exact⟨c,List.mem_cons_of_mem _ h1,h2⟩
theorem aTh {s s':AS}{ls:List LS}(h0: (aAY s).map (fun l=>aKc l ls) =some (ls.map LS.as))(h1:∀x∈ls,Leads P x.as s') :Leads P s s':=by
 cases e:aAY s with
 |none=>rw [e]at h0;cases h0
 | some l=>
  rw [e]at h0;refine aEv e (fun x hx=>?_);obtain⟨b,hb,e1⟩ :=aGs (Option.some.inj h0) x hx;have:=zZ (P:=P) x b;rw [e1]at this;exact this.trans (h1 b hb)
theorem aY0 {s:AS}{b:Nat}{o2:List Nat}{t:LS}(h0: (s.older b o2).map (fun x=>x.keep t) =some t.as) :Leads P s t.as:=by
 cases e:s.older b o2 with
 |none=>rw [e]at h0;cases h0
 | some x=>
  rw [e]at h0;have:=zZ (P:=P) x t;have h2:x.keep t=t.as:=Option.some.inj h0;rw [h2]at this;exact(aKb e).trans this
end
def Code.part :Code→List Nat→Code
 |c,[] =>c
 | .seq a b,n::p=>bif beq n 0 then Code.part a p else Code.part b p
 | .cond _ a b,n::p=>bif beq n 0 then Code.part a p else Code.part b p
 | .block _ c,_::p=>Code.part c p
 | .loop c,_::p=>Code.part c p
 | .scope c,_::p=>Code.part c p
 | .rangeFunc _ _ a b,n::p=>bif beq n 0 then Code.part a p else Code.part b p
 |c,_=>c
def cd (f:Func)(p:List Nat) :Code:=match f.body with
 |some c=>Code.part c p
 |none=>.skip
def od (f:Func)(p:List Nat) :Array Oper:=match cd f p with
 | .region _ ops _=>ops
 |_=> #[]
def bEH (f:Func)(p:List Nat)(k:Nat) :AItem:=.ops (od f p) k (drop k (od f p).toList)
abbrev cA :=List UInt8
def bU (n:Int) :AV:=.int .i64 n
def xC (b:Bool) :AV:=.bool b
def dD (s:cA) :AV:=.str (length s) (aC s)
theorem aZ {α:Type}{f:α→AV}{l:List α}{i:Nat}{y:α}(h:l[i]?=some y) : (List.map f l)[i]?=some (f y) :=by rw [List.getElem?_map,h];rfl
theorem cB {α:Type}{f:α→AV}{l:List α}{i:Nat}{y:α}(h:l[i]?=some y) : (List.map f l)[0+i]?=some (f y) :=by rw [zero_add];exact aZ h
theorem aHZ {α:Type}(f:α→AV)(l:List α) :0+length l≤length (List.map f l) :=by simp
theorem aH0 {α:Type}(f:α→AV)(l m:List α) :take (length l) (drop 0 (List.map f l)) ++List.map f m=List.map f (l++m) :=by
 rw [List.drop_zero,List.take_of_length_le (by simp),List.map_append]
theorem aH1 {α:Type}(f:α→AV)(l m:List α) :length l+length (List.map f m) =length (l++m) :=by simp
theorem mX {α:Type}(f:α→AV)(l:List α)(i:Nat)(y:α) : (List.map f l).set (0+i) (f y) =List.map f (set l i y) :=by rw [zero_add,List.map_set]
theorem aDi {α:Type}(f:α→AV)(n:Nat)(y:α) :replicate n (f y) =List.map f (replicate n y) :=by rw [List.map_replicate]
theorem bG {b e o n m:Nat}{x:Bool}(h:n=m) :AV.gl b e o n x= .gl b e o m x:=by rw [h]
theorem aGt {α:Type}(f:α→AV)(l:List α){b e:Nat}{x:Bool}:frzOk b e (List.map f l) (List.map f l) (.gl b e 0 (length l) x) :=by
 simp only [frzOk];intro _;exact⟨trivial,by simp,by rw [List.drop_zero,List.take_of_length_le (by simp)]⟩
inductive Pat where
 |mk (form n:Int) (text:cA) (parts:List Pat)
mutual
def Pat.av :Pat→AV
 | .mk f n t ps=>.agg [.int .i64 f,.int .i64 n,dD t,.ilst 4 (Pats.av ps) false]
def Pats.av :List Pat→List AV
 | [] =>[]
 |p::ps=>Pat.av p::Pats.av ps
end
theorem aD :∀l,Pats.av l=List.map Pat.av l
 | [] =>rfl
 |p::ps=>by rw [Pats.av,aD ps];rfl
mutual
theorem lV :∀p,keyless (Pat.av p) =true
 | .mk f n t ps=>by simp only [Pat.av,keyless,keylessL,aA0 ps,dD,Bool.and_true]
theorem aA0 :∀ (l:List Pat),keylessL (Pats.av l) =true
 | [] =>rfl
 |p::ps=>by simp only [Pats.av,keylessL,lV p,aA0 ps,Bool.and_true]
end
theorem pY {l:List Pat}:keylessL (Pats.av l) =true:=aA0 l
structure Con where
 name:cA
 args:Int
def Con.av (c:Con) :AV:=.agg [dD c.name,.int .i64 c.args]
structure Node where
 op:Int
 n:Int
 kids:List Int
 pats:List Pat
def Node.av (x:Node) :AV:=.agg [.int .i64 x.op,.int .i64 x.n,.ilst 1 (List.map bU x.kids) false,.ilst 4 (Pats.av x.pats) false]
structure Prog where
 nodes:List Node
 funs:List Int
 main:Int
 cons:List Con
def Prog.av (p:Prog) :AV:=.agg [.ilst 4 (List.map Node.av p.nodes) false,.ilst 1 (List.map bU p.funs) false,.int .i64 p.main,.ilst 2 (List.map Con.av p.cons) false]
section
theorem byte_at :∀ {s:cA} {k:Nat} {y:UInt8},s[k]?=some y→aC s / 256 ^ k % 256=y.toNat
 | c::s,0,y,h=>by
  simp only [List.getElem?_cons_zero,Option.some.injEq]at h;subst h;have:=c.toNat_lt;simp only [aC,Nat.pow_zero,Nat.div_one];omega
 | c::s,k+1,y,h=>by
  rw [List.getElem?_cons_succ]at h;have:=byte_at h;rw [←this];have hc:=c.toNat_lt;simp only [aC];rw [Nat.pow_succ',←Nat.div_div_eq_div_mul];congr 2;omega
theorem aBX {s:cA}{k:Int}{y:UInt8}(h0:0≤k)(h:s[k.toNat]?=some y) :k< ((length s:Nat) :Int) :=by
 have:= (List.getElem?_eq_some_iff.1 h).1;omega
theorem aBY {s:cA}{k:Int}{y:UInt8}(h:s[k.toNat]?=some y) :int .u8 ((mod (div (aC s) (pow 256 k.toNat)) 256:Nat) :Int) = .int .u8 ((y.toNat:Nat) :Int) :=by
 show int .u8 ((aC s / 256 ^ k.toNat % 256:Nat) :Int) =_;rw [byte_at h]
theorem aEw :∀ (s:cA) (k:Nat),aC s / 256 ^ k=aC (s.drop k)
 |s,0=>by simp
 | [],k+1=>by simp [aC]
 | c::s,k+1=>by
  rw [List.drop_succ_cons,←aEw s k,Nat.pow_succ',←Nat.div_div_eq_div_mul];congr 1;have:=c.toNat_lt;simp only [aC];omega
theorem aGu {k:IntKind}{i:Int}(h:0≤i) :fG (some (.int k i)) =some (some i.toNat) :=by
 show(if 0≤i then some (some i.toNat)else none) =_;rw [if_pos h]
theorem sX :fG none=some none:=rfl
variable {P :Program}
def aQZ (P:Program)(t:TypeId)(X:AV)(lo hi:Option AV)(V:AV) :Prop:=
 ∃l u m,fG lo=some l∧fG hi=some u∧fG none=some m∧ (rV P t X l u m=some V∨ (rV P t X l u m=none∧aBG P t X l u m=some V))
theorem aCH {t:TypeId}(hu:P.underlying t=some .string){s:cA}{kk:IntKind}{k:Int}(h0:0≤k)(h1:k.toNat≤s.length) :
  aQZ P t (dD s) (some (.int kk k)) none (dD (s.drop k.toNat)) :=by
 refine⟨_,_,_,aGu h0,sX,sX,.inl ?_⟩;unfold rV dD;rw [hu];simp only [Option.getD_some,Option.getD_none];have e1:ble k.toNat s.length=true:=ble_eq ▸ h1;have e2:ble s.length s.length=true:=ble_eq ▸ le_refl _;have e3:div (aC s) (pow 256 k.toNat) =aC (s.drop k.toNat) :=aEw s k.toNat;rw [e1,e2,e3];simp
theorem aQ0 {α:Type}{f:α→AV}{F:List α→List AV}(hF:∀l,F l=List.map f l){t:TypeId}{e:Nat}(hu:yL P t e=true){xs:List α}{kk:IntKind}{k:Int}(h0:0≤k)(h1:k.toNat≤xs.length) :
  aQZ P t (.ilst e (F xs) false) none (some (.int kk k)) (.ilst e (F (xs.take k.toNat)) false) :=by
 rw [hF,hF];refine⟨_,_,_,sX,aGu h0,sX,.inr ⟨?_,?_⟩⟩
 ·unfold rV;split<;>simp_all
 · unfold aBG;simp only [hu,cond,Option.getD_some,Option.getD_none,length_map];rw [if_pos ⟨zero_le _,h1⟩];simp [List.map_take]
theorem aTN {α:Type}{f:α→AV}{t:TypeId}{e:Nat}(hu:yL P t e=true){xs:List α}{kk:IntKind}{k:Int}(h0:0≤k)(h1:k.toNat≤xs.length) :
  aQZ P t (.ilst e (List.map f xs) false) none (some (.int kk k)) (.ilst e (List.map f (xs.take k.toNat)) false) :=aQ0 (fun _=>rfl) hu h0 h1
theorem aTO {α:Type}(f:α→AV)(l:List α) : ((length (List.map f l) :Nat) :Int) = ((length l:Nat) :Int) :=by rw [length_map]
section
variable {α :Type} {f:α→AV} {F:List α→List AV} (hF:∀l,F l=List.map f l)
include hF
theorem eM {l:List α}{i:Nat}{y:α}(h:l[i]?=some y) : (F l)[i]?=some (f y) :=by rw [hF];exact aZ h
theorem aBZ {l:List α}{i:Nat}{y:α}(h:l[i]?=some y) : (F l)[0+i]?=some (f y) :=by rw [hF];exact cB h
theorem sY (l:List α) :0+length l≤length (F l) :=by rw [hF];exact aHZ f l
theorem sZ (l m:List α) :take (length l) (drop 0 (F l)) ++F m=F (l++m) :=by rw [hF,hF,hF];exact aH0 f l m
theorem tA (l m:List α) :length l+length (F m) =length (l++m) :=by rw [hF];exact aH1 f l m
theorem aGv (l:List α)(i:Nat)(y:α) : (F l).set (0+i) (f y) =F (set l i y) :=by rw [hF,hF];exact mX f l i y
theorem fD (l:List α) : ((length (F l) :Nat) :Int) = ((length l:Nat) :Int) :=by rw [hF,length_map]
theorem oR (l:List α){b e:Nat}{x:Bool}:frzOk b e (F l) (F l) (.gl b e 0 (length l) x) :=by rw [hF];exact aGt f l
end
theorem aEx :∀ (s:cA),aC s<256 ^ s.length
 | [] =>by simp [aC]
 | c::s=>by
  have:=aEx s;have:=c.toNat_lt;simp only [aC,length_cons,Nat.pow_succ];omega
theorem bytes_inj {s t:cA}(hl:s.length=t.length)(hn:aC s=aC t) :s=t:=by
 rw [←eU s,←eU t,hl,hn]
theorem vV (s t:cA) :iZ (length s) (aC s) (length t) (aC t) =decide (s=t) :=by
 unfold iZ;have e1:mod (aC s) (pow 256 s.length) =aC s:=Nat.mod_eq_of_lt (aEx s);by_cases hl:s.length=t.length
 · rw [←hl,e1];have e2:mod (aC t) (pow 256 s.length) =aC t:=by rw [hl];exact Nat.mod_eq_of_lt (aEx t)
   rw [e2,show beq s.length s.length=true from Nat.beq_refl _];by_cases hn:aC s=aC t
   ·have:=bytes_inj hl hn;subst this;simp
   · have:s≠t:=fun e=>hn (by rw [e]);rw [show beq (aC s) (aC t) =false from Bool.eq_false_iff.2 (fun h=>hn (Nat.eq_of_beq_eq_true h)),decide_eq_false this];rfl
 · have:s≠t:=fun e=>hl (by rw [e]);simp [this,hl]
theorem cY (s:cA) :iZ (length s) (aC s) 0 0=decide (s= []) :=vV s []
def eX {α β:Type}(f:α→AV)(g:β→AV) :Nat→List (α×β) →List (AV×AV×Nat)
 |_,[] =>[]
 |n,e::l=> (f e.1,g e.2,n) ::eX f g (n+1) l
def lW {α β:Type}[DecidableEq α](k:α)(v:β) :List (α×β) →List (α×β)
 | [] =>[(k,v)]
 |e::l=>if k=e.1 then(k,v) ::l else e::lW k v l
def yP {α β:Type}[DecidableEq α](k:α) :List (α×β) →Option β
 | [] =>none
 |e::l=>if k=e.1 then some e.2 else yP k l
def aY1 {α:Type}[DecidableEq α](f:α→AV) :Prop:=∀a b,oD (f a) (f b) =some (decide (a=b))
theorem aY2 :aY1 dD:=fun a b=>by
 simp only [oD,dD,vV]
theorem aEy {α β:Type}[DecidableEq α]{f:α→AV}{g:β→AV}(hf:aY1 f)(k:α) :∀ (l:List (α×β)) (n i:Nat),yP k l=none→oG (f k) (eX f g n l) i=some none
 | [],n,i,_=>rfl
 | e ::l,n,i,h=>by
  unfold yP at h;split at h
  ·cases h
  · rename_i hk;simp only [eX,oG,hf k e.1,decide_eq_false hk];exact aEy hf k l (n+1) _ h
theorem aKd {α β:Type}[DecidableEq α](f:α→AV)(g:β→AV)(k:α)(v:β) :∀ (l:List (α×β)) (n:Nat),yP k l=none→eX f g n l++ [(f k,g v,n+l.length)] =eX f g n (lW k v l) ∧ (lW k v l).length=l.length+1
 | [],n,_=>by simp [eX,lW]
 | e ::l,n,h=>by
  unfold yP at h;split at h
  ·cases h
  · rename_i hk;obtain⟨a,b⟩ :=aKd f g k v l (n+1) h;simp only [eX,lW,if_neg hk,List.cons_append,length_cons,b];refine⟨?_,trivial⟩;rw [←a,show n+1+l.length=n+ (l.length+1)by omega]
theorem aKe {α β:Type}[DecidableEq α]{f:α→AV}{g:β→AV}(hf:aY1 f)(k:α)(v w:β) :∀ (l:List (α×β)) (n i:Nat),yP k l=some w→∃j,oG (f k) (eX f g n l) i=some (some (i+j,g w)) ∧setE (f k) (g v) (eX f g n l) j=eX f g n (lW k v l) ∧ (lW k v l).length=l.length
 | [],_,_,h=>by cases h
 | e ::l,n,i,h=>by
  unfold yP at h;split at h
  · rename_i hk;cases h;refine⟨0,?_,?_,?_⟩
    ·simp only [eX,oG,hf k e.1,decide_eq_true hk,Nat.add_zero]
    ·simp only [eX,setE,lW,if_pos hk]
    ·simp only [lW,if_pos hk,length_cons]
  · rename_i hk;obtain⟨j,a,b,c⟩ :=aKe hf k v w l (n+1) (i+1) h;refine⟨j+1,?_,?_,?_⟩
    · simp only [eX,oG,hf k e.1,decide_eq_false hk];rw [show i+ (j+1) =i+1+j by omega];exact a
    ·simp only [eX,setE,lW,if_neg hk,b]
    ·simp only [lW,if_neg hk,length_cons,c]
theorem aY3 {α β:Type}[DecidableEq α]{f:α→AV}{g:β→AV}(hf:aY1 f)(k:α)(v:β)(l:List (α×β)) :zX (eX f g 0 l) (length l) (f k) (g v) =some (eX f g 0 (lW k v l),length (lW k v l)) :=by
 unfold zX;cases h:yP k l with
 | none=>
  rw [aEy hf k l 0 0 h];obtain⟨a,b⟩ :=aKd f g k v l 0 h;simp only [zero_add]at a;simp only [a,b]
 | some w=>
  obtain⟨j,a,b,c⟩ :=aKe hf k v w l 0 0 h;rw [a];simp only [zero_add,b,c]
theorem aPR {α β:Type}(f:α→AV)(g:β→AV) :∀ (l:List (α×β)) (n:Nat),(eX f g n l).length=l.length
 | [],_=>rfl
 |e::l,n=>by simp only [eX,length_cons,aPR f g l (n+1)]
end
theorem aA1 {α β:Type}{f:α→AV}{g:β→AV}(hf:∀a,keyless (f a) =true)(hg:∀a,keyless (g a) =true) :∀ (l:List (α×β)) (n:Nat),∀e∈eX f g n l,keyless e.1=true∧keyless e.2.1=true
 | [],_,e,h=>by simp [eX]at h
 | x::l,n,e,h=>by
  rcases List.mem_cons.1 h with rfl|h
  ·exact⟨hf _,hg _⟩
  ·exact aA1 hf hg l (n+1) e h
theorem aTP {α β:Type}(f:α→AV)(g:β→AV)(l:List (α×β)) :int .i64 ((length (eX f g 0 l) :Nat) :Int) = .int .i64 ((length l:Nat) :Int) :=by rw [aPR]
theorem aTQ {α β:Type}{f:α→AV}{g:β→AV}(hf:∀a,keyless (f a) =true)(hg:∀a,keyless (g a) =true)(n:Nat)(l:List (α×β))(c:Nat) : (AObj.map (eX f g n l) c).kl:=by
 intro e he;exact aA1 hf hg l n e he
section
/-- a proposition with its proof -/
structure Pf where
  p:Prop
  h:p
def qp {p:Prop}(h:p) :Pf:= ⟨p,h⟩
theorem bCd :∀ (L:List Pf),AllP (L.map Pf.p)
  | [] =>trivial
  | [a] =>a.h
  |a::b::L=> ⟨a.h,bCd (b::L)⟩
noncomputable abbrev PP:Program:=Tryz.prog
variable {P :Program}
theorem kk {α:Type}{f:α→AV}{l:List α}(h:∀a,keyless (f a) =true:=by exact fun _=>rfl) :keylessL (List.map f l) =true:=aG f h l
section
variable {α :Type}
def qs (b e o:Nat)(l:List α)(i:Nat)(v:α)(x:Bool) :Pf:= ⟨AV.gl b e o l.length x= .gl b e o (l.set i v).length x,bG (List.length_set ..).symm⟩
noncomputable abbrev aL (l:List α) :Ins:=.ans (.len (l.length:Int))
end
noncomputable abbrev rn:Nat→Ins:=.run
noncomputable abbrev bt (j:Nat) :Ins:=.b j true
noncomputable abbrev bf (j:Nat) :Ins:=.b j false
noncomputable abbrev aI (v:AV) :Ins:=.ans (.idx v)
noncomputable abbrev sI (j:Nat)(x:Int) :Ins:=.set j (.int .i64 x)
noncomputable abbrev pB (b:Bool) :Ins:=.pure (.bool b)
noncomputable abbrev nI (x:Int) :AV:=.int .i64 x
noncomputable abbrev bV (b:Bool) :AV:=.bool b
noncomputable abbrev jI (l:List Int) :List AV:=List.map bU l
noncomputable abbrev jN (l:List Node) :List AV:=List.map Node.av l
noncomputable abbrev jC (l:List Con) :List AV:=List.map Con.av l
noncomputable abbrev iI (l:List Int) :AV:=.ilst 1 (List.map bU l) false
noncomputable abbrev iS (l:List cA) :AV:=.ilst 1 (List.map dD l) false
noncomputable abbrev iN (l:List Node) :AV:=.ilst 4 (List.map Node.av l) false
noncomputable abbrev iC (l:List Con) :AV:=.ilst 2 (List.map Con.av l) false
noncomputable abbrev iP (l:List Pat) :AV:=.ilst 4 (Pats.av l) false
end
section
/-- an obligation: proved outright, or a premise with what follows from it -/
inductive Hy where
  |q {p:Prop} (h:p)
  |a (p:Prop) {p':Prop} (f:p→p')
def Hy.ob :Hy→Prop
  | @Hy.q p _=>p
  | @Hy.a _ p' _=>p'
/-- all ways from a state -/
inductive Tr :Type 1 where
  |b (n j:Nat) (c:Bool) (t f:Tr)
  |i (is:List Ins) (L:List Hy) (a:Tr)
  |y {α:Type} (f:α→Tr)
  |o (a b:Tr)
  |W (n n1:Nat) (ks:List Nat) (t:TS)
  |E (n n1:Nat) (ks:List Nat) (v:AV) (hp:List (Nat×AObj×Bool)) (nb:Nat)
  |P (n n1:Nat) (ks:List Nat) (ch:List (AV×Bool)) (hp:List (Nat×AObj×Bool)) (nb:Nat)
  |x
structure Br (c:Bool) (A B:Prop) :Prop where
  t:c=true→A
  f:c=false→B
def aY4 :List Hy→Prop→Prop
  | [],Q=>Q
  | @Hy.q _ _::L,Q=>aY4 L Q
  | @Hy.a p _ _::L,Q=>p→aY4 L Q
variable (P :Program)
def aCI (m:Nat)(s0:AS) :Tr→Prop
  | .b _ _ c t f=>Br c (aCI m s0 t) (aCI m s0 f)
  | .i _ L a=>aY4 L (aCI m s0 a)
  | .y f=>∀y,aCI m s0 (f y)
  | .o a b=>aCI m s0 a∧aCI m s0 b
  | .W _ _ _ t=>eF t.hp→LeadsM P m s0 t.as
  | .E _ _ _ v hp nb=>eF hp→Ends P m s0 (.ret v) (aA hp nb)
  | .P _ _ _ ch hp nb=>eF hp→Ends P m s0 (.pan ch) (aA hp nb)
  | .x=>True
abbrev eTS (hp:List (Nat×AObj×Bool))(nb:Nat) :TS:= ⟨⟨0,0,[],[],[],.run,.normal,none⟩,[],hp,nb⟩
def rI (m:Nat) :Tr→AS→Prop
  | .b n j c t f,s=>match mK P oQ n s with
    | some s=>match s.fr.tm.at j with
      |some (.bool b) =>b=c∧rI m t ⟨{s.fr with tm:=s.fr.tm.put j (.bool true)},s.cs,s.h⟩ ∧rI m f ⟨{s.fr with tm:=s.fr.tm.put j (.bool false)},s.cs,s.h⟩
      |_=>False
    |none=>False
  | .i is L a,s=>match pX P is s with
    |some (s,ps) =>ps=L.map Hy.ob∧rI m a s
    |none=>False
  | .y f,s=>∀y,rI m (f y) s
  | .o a b,s=>rI m a s∧rI m b s
  | .W n n1 ks t,s=>match mK P oQ n s with
    |some s=> (s.h.nb,s.sum (eR m t.nb s.h.nb ks) t) = (n1,t.want (eR m t.nb n1 ks)) ∧cT m t ks=true
    |none=>False
  | .E n n1 ks v hp nb,s=>match mK P oQ n s with
    | some s=>match uP P s with
      |some (u,h1) => (h1.nb,u,sV h1 (eR m nb h1.nb ks) hp) = (n1,ren (eR m nb n1 ks) v,gK (eR m nb n1 ks) hp) ∧cT m (eTS hp nb) ks=true
      |none=>False
    |none=>False
  | .P n n1 ks ch hp nb,s=>match mK P oQ n s with
    | some s=>match aM7 P s with
      |some (u,h1) => (h1.nb,u,sV h1 (eR m nb h1.nb ks) hp) = (n1,aTL (eR m nb n1 ks) ch,gK (eR m nb n1 ks) hp) ∧cT m (eTS hp nb) ks=true
      |none=>False
    |none=>False
  | .x,_=>True
/-- what it comes to -/
def okP (m:Nat) :Tr→Prop
  | .b _ _ c t f=>c=c∧okP m t∧okP m f
  | .i _ L a=>L.map Hy.ob=L.map Hy.ob∧okP m a
  | .y f=>∀y,okP m (f y)
  | .o a b=>okP m a∧okP m b
  | .W _ n1 ks t=> (n1,t.want (eR m t.nb n1 ks)) = (n1,t.want (eR m t.nb n1 ks)) ∧true=true
  | .E _ n1 ks v hp nb=> (n1,ren (eR m nb n1 ks) v,gK (eR m nb n1 ks) hp) = (n1,ren (eR m nb n1 ks) v,gK (eR m nb n1 ks) hp) ∧true=true
  | .P _ n1 ks ch hp nb=> (n1,aTL (eR m nb n1 ks) ch,gK (eR m nb n1 ks) hp) = (n1,aTL (eR m nb n1 ks) ch,gK (eR m nb n1 ks) hp) ∧true=true
  | .x=>True
variable {P :Program}
theorem tB (m:Nat) :∀t:Tr,okP m t
  | .b _ _ _ t f=> ⟨rfl,tB m t,tB m f⟩
  | .i _ _ a=> ⟨rfl,tB m a⟩
  | .y f=>fun y=>tB m (f y)
  | .o a b=> ⟨tB m a,tB m b⟩
  | .W .. => ⟨rfl,rfl⟩
  | .E .. => ⟨rfl,rfl⟩
  | .P .. => ⟨rfl,rfl⟩
  | .x=>trivial
theorem aH2 :∀ {L:List Hy} {Q:Prop},((∀p∈L.map Hy.ob,p) →Q) →aY4 L Q
  | [],_,h=>h (by simp)
  | @Hy.q p hp::L,_,h=>aH2 (L:=L) fun g=>h fun q hq=>by
    rcases List.mem_cons.1 hq with e|e
    ·subst e;exact hp
    ·exact g q e
  | @Hy.a p p' f::L,_,h=>fun hp=>aH2 (L:=L) fun g=>h fun q hq=>by
    rcases List.mem_cons.1 hq with e|e
    ·subst e;exact f hp
    ·exact g q e
theorem aA2 {m n:Nat}{s s':AS}(h:mK P oQ n s=some s') :LeadsM P m s s':=by
  rw [sP]at h;exact(pW bR h).toM
theorem aTR {m:Nat}{s:AS}{t:TS}{ks:List Nat}(h2:s.sum (eR m t.nb s.h.nb ks) t=t.want (eR m t.nb s.h.nb ks))(hok:cT m t ks=true)(hkl:eF t.hp) :LeadsM P m s t.as:=by
  simp only [AS.sum,TS.want,Sum.mk.injEq]at h2;obtain⟨a1,a2,a3,a4⟩ :=h2;intro hm E fr ccs w base f fs r;obtain⟨q1,q2⟩ :=kZ (l:=t.hp) (nb:=t.nb) (by simpa [cT]using hok) a4 hkl r;exact⟨_,fr,ccs,w,Steps.refl _ _,aDg a1 f,xB a2 a3 fs,q1,q2⟩
theorem jX {m:Nat}{s0:AS}:∀ (tr:Tr) {s:AS},rI P m tr s→LeadsM P m s0 s→aCI P m s0 tr
  | .x,_,_,_=>trivial
  | .b n j c t f,s,h,hl=>by
    simp only [rI]at h;split at h
    · rename_i s1 h1;split at h
      · rename_i b hj;obtain⟨rfl,h2,h3⟩ :=h;have l1:=hl.trans (aA2 h1);refine⟨fun e=>jX t h2 (l1.trans ?_),fun e=>jX f h3 (l1.trans ?_)⟩
        ·exact xstep_sound (i:=.b j true) (ps:=[b=true]) (by simp only [xstep,hj]) (fun p hp=>by simp only [List.mem_singleton]at hp;subst hp;exact e)
        ·exact xstep_sound (i:=.b j false) (ps:=[b=false]) (by simp only [xstep,hj]) (fun p hp=>by simp only [List.mem_singleton]at hp;subst hp;exact e)
      ·exact h.elim
    ·exact h.elim
  | .i is L a,s,h,hl=>by
    simp only [rI]at h;split at h
    · rename_i s1 ps h1;obtain⟨rfl,h2⟩ :=h;exact aH2 fun g=>jX a h2 (hl.trans (fR h1 g))
    ·exact h.elim
  | .y f,s,h,hl=>fun y=>jX (f y) (h y) hl
  | .o a b,s,h,hl=> ⟨jX a h.1 hl,jX b h.2 hl⟩
  | .W n n1 ks t,s,h,hl=>fun hkl=>by
    simp only [rI]at h;split at h
    · rename_i s1 h1;obtain⟨h2,h3⟩ :=h;obtain⟨e,h2⟩ :=Prod.mk.inj h2;subst e;exact(hl.trans (aA2 h1)).trans (aTR h2 h3 hkl)
    ·exact h.elim
  | .E n n1 ks v hp nb,s,h,hl=>fun hkl=>by
    simp only [rI]at h;split at h
    · rename_i s1 h1;split at h
      · rename_i u hh hf;obtain⟨h2,hok⟩ :=h;obtain⟨e,h2⟩ :=Prod.mk.inj h2;obtain⟨h3,h4⟩ :=Prod.mk.inj h2;subst e;subst h3;refine(hl.trans (aA2 h1)).ends ?_;intro hm E fr ccs w f fs r cl base;obtain⟨cl',w',E',g1,⟨cv,rfl,g2⟩,g3,g4⟩ :=lT (m:=m) hf hm E fr ccs w f fs r cl base;obtain⟨q1,q2⟩ :=kZ hok h4 hkl g3;exact⟨_,w',_,g1,⟨cv,rfl,(eC _ _ _ _).1 g2⟩,q1,g4.trans q2⟩
      ·exact h.elim
    ·exact h.elim
  | .P n n1 ks ch hp nb,s,h,hl=>fun hkl=>by
    simp only [rI]at h;split at h
    · rename_i s1 h1;split at h
      · rename_i u hh hf;obtain⟨h2,hok⟩ :=h;obtain⟨e,h2⟩ :=Prod.mk.inj h2;obtain⟨h3,h4⟩ :=Prod.mk.inj h2;subst e;subst h3;refine(hl.trans (aA2 h1)).ends ?_;intro hm E fr ccs w f fs r cl base;obtain⟨cl',w',E',g1,⟨ps',rfl,g2⟩,g3,g4⟩ :=aJ7 (m:=m) hf hm E fr ccs w f fs r cl base;obtain⟨q1,q2⟩ :=kZ hok h4 hkl g3;exact⟨_,w',_,g1,⟨ps',rfl,aM5 g2⟩,q1,g4.trans q2⟩
      ·exact h.elim
    ·exact h.elim
theorem tT (m:Nat)(s:TS)(tr:Tr)(h0:rI PP m tr s.as=okP m tr:=by kernel_rfl) :aCI PP m s.as tr:=
  jX tr (h0 ▸ tB m tr) (LeadsM.refl _)
theorem tv :True:=trivial
def aTS :Nat→Nat→List Nat→List Nat
  |0,_,l=>l
  |k+1,n,l=>bif beq n 1 then l else aTS k (n / 2) (n % 2::l)
/-- a place in code by one number -/
abbrev kd (F:Func)(n:Nat) :Code:=cd F (aTS 60 n [])
abbrev kc (F:Func)(n:Nat) :AItem:=.code (kd F n)
abbrev kl (F:Func)(n:Nat) :AItem:=.inLoop (kd F n)
abbrev ko (F:Func)(n k:Nat) :AItem:=bEH F (aTS 60 n []) k
abbrev kp (j b:Nat) :Nat×AV:= (j,.ptr b 0)
abbrev tf (fn nt:Nat)(sl:List (Nat×AV))(todo:List AItem)(defers:List ADef:=[])(mode:AMode:=.run)(kind:CallKind:=.normal)(roundOf:Option Nat:=none) :TF:= ⟨fn,nt,sl,todo,defers,mode,kind,roundOf⟩
abbrev oC (k:Nat)(L:List AV) :Nat×AObj×Bool:= (k,.cells (putCells .leaf 0 L) L.length [] false,false)
abbrev oL (k e:Nat)(L:List AV) :Nat×AObj×Bool:= (k,.lst e L,true)
section
variable {α :Type} {f:α→AV} {F:List α→List AV}
abbrev hA (p:Prop) :Hy:=.a p id
abbrev hW (x:Int) :Hy:=.a (IntKind.i64.wrap x=x) (congrArg (int .i64))
abbrev hr {β:Type}(x:β) :Hy:=.q (Eq.refl x)
abbrev hl (f:α→AV)(l:List α) :Hy:=.q (aTO f l)
abbrev hm (M:∀l,F l=List.map f l)(l:List α) :Hy:=.q (fD M l)
abbrev hb (f:α→AV)(l:List α) :Hy:=.q (aHZ f l)
abbrev hB (M:∀l,F l=List.map f l)(l:List α) :Hy:=.q (sY M l)
abbrev hc (f:α→AV)(l m:List α) :Hy:=.q (aH0 f l m)
abbrev hC (M:∀l,F l=List.map f l)(l m:List α) :Hy:=.q (sZ M l m)
abbrev he (f:α→AV)(l m:List α) :Hy:=.q (aH1 f l m)
abbrev hE (M:∀l,F l=List.map f l)(l m:List α) :Hy:=.q (tA M l m)
abbrev hk (f:α→AV)(l:List α)(h:∀a,keyless (f a) =true:=by exact fun _=>rfl) :Hy:=.q (aG f h l)
abbrev hK (K:∀ {l:List α},keylessL (F l) =true)(l:List α) :Hy:=.q (K (l:=l))
abbrev hz (b e:Nat)(f:α→AV)(l:List α)(x:Bool) :Hy:=.q (aGt f l (b:=b) (e:=e) (x:=x))
abbrev hZ (b e:Nat)(M:∀l,F l=List.map f l)(l:List α)(x:Bool) :Hy:=.q (oR M l (b:=b) (e:=e) (x:=x))
abbrev rd (n:Nat)(L:List RIns) :List RIns:=replicate n RIns.d++L
abbrev gd (n j:Nat)(p:Prop)[Decidable p](t f:Tr) :Tr:=.b n j (decide p) t f
abbrev gE (n n1:Nat)(v:AV) :Tr:=.E n n1 [] v [] 0
abbrev gw (n j:Nat)(x:Int)(a:Tr) :Tr:=.i [.run n,.set j (.int .i64 x)] [hW x] a
abbrev gs (n j:Nat)(v:AV)(a:Tr) :Tr:=.i [.run n,.set j v] [hr v] a
abbrev gv (n k o:Nat)(v:AV)(a:Tr) :Tr:=.i [.run n,.cset k o v] [hr v] a
abbrev gu (n b:Nat)(x:List AV)(a:Tr) :Tr:=.i [.run n,.lset b x] [hr x] a
abbrev gl (n:Nat)(f:α→AV)(l:List α)(a:Tr) :Tr:=.i [.run n,.ans (.len (l.length:Int))] [hl f l] a
abbrev gm (n:Nat)(M:∀l,F l=List.map f l)(l:List α)(a:Tr) :Tr:=.i [.run n,.ans (.len (l.length:Int))] [hm M l] a
abbrev gi (f:α→AV)(n:Nat)(l:List α)(i:Int)(y:α)(a:Tr) :Tr:=.i [.run n,.ans (.idx (f y))] [hA (0≤i),.a (l[i.toNat]?=some y) (aZ (f:=f))] a
abbrev giF (M:∀l,F l=List.map f l)(n:Nat)(l:List α)(i:Int)(y:α)(a:Tr) :Tr:=.i [.run n,.ans (.idx (f y))] [hA (0≤i),.a (l[i.toNat]?=some y) (eM M)] a
abbrev gj (f:α→AV)(n:Nat)(l:List α)(i:Nat)(y:α)(a:Tr) :Tr:=.i [.run n,.ans (.idx (f y))] [.a (l[i]?=some y) (cB (f:=f))] a
abbrev gjF (M:∀l,F l=List.map f l)(n:Nat)(l:List α)(i:Nat)(y:α)(a:Tr) :Tr:=.i [.run n,.ans (.idx (f y))] [.a (l[i]?=some y) (aBZ M)] a
abbrev gX (f:α→AV)(n:Nat)(l:List α)(i:Int)(a:α→Tr) :Tr:=.y fun y=>gi f n l i y (a y)
abbrev gp (n f:Nat)(xs:List AV)(v:AV)(a:Tr) :Tr:=.i [.run n,.pure v] [hA (aJ PP f xs v)] a
abbrev gpI (n f:Nat)(xs:List AV)(a:Int→Tr) :Tr:=.y fun y=>gp n f xs (.int .i64 y) (a y)
abbrev jR (n f:Nat)(xs:List AV)(a:Bool→Tr) :Tr:=.y fun y=>gp n f xs (.bool y) (a y)
abbrev gk (n:Nat)(c:AIn)(H:List (Nat×AObj×Bool))(k:Nat)(v:AV)(H':List (Nat×AObj×Bool))(k':Nat)(a:Tr) :Tr:=.i [.run n,.call v (aA H' k')] [hA (Spec PP c (aA H k) (.ret v) (aA H' k'))] a
abbrev ga (n:Nat)(f:α→AV)(l m:List α)(a:Tr) :Tr:=.i [.run n,.app (List.map f (l++m)) (l++m).length] [hb f l,hA ((l++m).length≤1000000),hc f l m,he f l m] a
abbrev gA (n:Nat)(M:∀l,F l=List.map f l)(l m:List α)(a:Tr) :Tr:=.i [.run n,.app (F (l++m)) (l++m).length] [hB M l,hA ((l++m).length≤1000000),hC M l m,hE M l m] a
abbrev gz (n j b e:Nat)(f:α→AV)(l:List α)(x:Bool)(a:Tr)(h:∀a,keyless (f a) =true:=by exact fun _=>rfl) :Tr:=.i [.run n,.frz j b (List.map f l)] [hk f l h,hz b e f l x] a
abbrev gy (n k o b e:Nat)(f:α→AV)(l:List α)(x:Bool)(a:Tr)(h:∀a,keyless (f a) =true:=by exact fun _=>rfl) :Tr:=.i [.run n,.cfrz k o b (List.map f l)] [hk f l h,hz b e f l x] a
abbrev gZ (n j b e:Nat)(M:∀l,F l=List.map f l)(K:∀ {l:List α},keylessL (F l) =true)(l:List α)(x:Bool)(a:Tr) :Tr:=.i [.run n,.frz j b (F l)] [.q (K (l:=l)),hZ b e M l x] a
abbrev gY (n k o b e:Nat)(M:∀l,F l=List.map f l)(K:∀ {l:List α},keylessL (F l) =true)(l:List α)(x:Bool)(a:Tr) :Tr:=.i [.run n,.cfrz k o b (F l)] [.q (K (l:=l)),hZ b e M l x] a
abbrev tC (n:Nat)(l:List Pat)(i:Int)(a:Int→Int→cA→List Pat→Tr) :Tr:=.y fun p=>.y fun q=>.y fun r=>.y fun s=>giF aD n l i (.mk p q r s) (a p q r s)
end
end
def xE(a:cA)(b:Int):TS:=⟨(tf 146 20 [(0,(dD a)),(2,(bV false)),(3,(nI b))] [kc f146 52,kl f146 52,.inBlock 0,kc f146 7]),[],[],0⟩
def aDk(a:List cA)(b:cA)(c:Int):TS:=⟨(tf 115 18 [(0,(iS a)),(1,(dD b)),(4,(bV false)),(5,(nI c))] [kc f115 52,kl f115 52,.inBlock 0,kc f115 7]),[],[],0⟩
def tD(a:List cA)(b:Int):TS:=⟨(tf 103 18 [(0,(iS a)),(2,(bV false)),(3,(nI b))] [kc f103 52,kl f103 52,.inBlock 0,kc f103 7]),[],[],0⟩
def xF(a b:Int)(c:cA)(d:List Pat)(g e f:Int):TS:=⟨(tf 69 29 [(1,(nI e)),kp 2 0,(4,(nI 0)),(5,(nI f))] [kc f69 244,kl f69 244,.inBlock 0,kc f69 31]),[],[oC 0 [(nI a),(nI b),(dD c),(iP d)]],1⟩
def nM(a b:Int)(c:cA)(d:List Pat)(e:Int):TS:=⟨(tf 70 22 [kp 1 0,(2,(bV false)),(3,(nI e))] [kc f70 52,kl f70 52,.inBlock 0,kc f70 7]),[],[oC 0 [(nI a),(nI b),(dD c),(iP d)]],1⟩
def mO(a:Prog)(b:Int):TS:=⟨(tf 10 74 [kp 1 0,(2,(bV false)),(3,(nI b))] [kc f10 116,kl f10 116,.inBlock 0,kc f10 15]),[],[oC 0 [(iN a.nodes),(iI a.funs),(nI a.main),(iC a.cons)]],1⟩
def mP(a:Prog)(b:Int):TS:=⟨(tf 10 74 [kp 1 0,(2,(bV false)),(4,(nI b))] [kc f10 244,kl f10 244,.inBlock 2,kc f10 31]),[],[oC 0 [(iN a.nodes),(iI a.funs),(nI a.main),(iC a.cons)]],1⟩
def mQ(a:Prog)(b c:Int)(d:List Int)(e:List Pat)(f g:Int):TS:=⟨(tf 10 74 [kp 1 0,(2,(bV false)),(4,(nI g)),kp 5 1,(6,(nI f))] [kc f10 62620,kl f10 62620,.inBlock 4,.inBlock 3,kc f10 979,kl f10 244,.inBlock 2,kc f10 31]),[],[oC 0 [(iN a.nodes),(iI a.funs),(nI a.main),(iC a.cons)],oC 1 [(nI b),(nI c),(iI d),(iP e)]],2⟩
def bEI(a b c:Int):=tT 0 (start PP 62 [(nI a),(nI b),(nI c)])<|gd 10 10 (a≥b) (gE 7 0 (bV (decide (a≤c))))<|gE 7 0 (bV false)
def aY5:=fun a b c d=>bEI a b c|>.t d tv
def aY6:=fun a b c d=>bEI a b c|>.f d tv
def aNa (a:cA):=(tT 0 (start PP 146 [(dD a)])<|.W 11 0 [] (xE a 0)) tv
def aY7(b:cA)(a:Int):=tT 0 (xE b a)<|gd 8 7 (a< (b.length:Int)) (.y fun c:UInt8=>.i [rn 8,.ans (.ev (.int .u8 ((c.toNat:Nat) :Int)))] [hA (0≤a),.a (0≤a∧ (b)[a.toNat]?=some c) (p':=a< (b.length:Int)) fun⟨ha,hb⟩=>(aBX (k:=a) ha hb),.a ((b)[a.toNat]?=some c) (p':=int .u8 ((mod (div (aC b) (pow 256 a.toNat)) 256:Nat) :Int) = (.int .u8 ((c.toNat:Nat) :Int))) (fun h=>(aBY (k:=a) h))]<|gd 2 14 (((c.toNat:Nat) :Int) <97) (gE 12 0 (bV false))<|.i [rn 2,.ans (.ev (.int .u8 ((c.toNat:Nat) :Int)))] [hA (0≤a),.a (0≤a∧ (b)[a.toNat]?=some c) (p':=a< (b.length:Int)) fun⟨ha,hb⟩=>(aBX (k:=a) ha hb),.a ((b)[a.toNat]?=some c) (p':=int .u8 ((mod (div (aC b) (pow 256 a.toNat)) 256:Nat) :Int) = (.int .u8 ((c.toNat:Nat) :Int))) (fun h=>(aBY (k:=a) h))]<|gd 3 19 (((c.toNat:Nat) :Int) >122) (gE 6 0 (bV false))<|gw 6 9 (a+ (1:Int))<|.W 3 0 [] (xE b (a+ (1:Int))))<|gE 7 0 (bV true)
def aNb:=fun c d e f a b g=>aY7 c d|>.t f e a ⟨a,b⟩ b|>.t g tv
def aNc:=fun c d e f a b g i=>aY7 c d|>.t f e a ⟨a,b⟩ b|>.f g a ⟨a,b⟩ b|>.t i tv
def aNd:=fun c d e f a b g i j=>aY7 c d|>.t f e a ⟨a,b⟩ b|>.f g a ⟨a,b⟩ b|>.f i j tv
def aNe:=fun a b c=>aY7 a b|>.f c tv
def aTT(a:cA):=tT 0 (start PP 102 [(dD a)])<|gd 10 6 ((a.length:Int) ≥1) (gd 5 11 ((a.length:Int) ≤8) (.y fun b:UInt8=>.i [rn 1,.ans (.ev (.int .u8 ((b.toNat:Nat) :Int)))] [.q (p:=0≤ (0:Int)) (by decide),.a ((a)[0]?=some b) (p':=(0:Int) < (a.length:Int)) (fun h=>(aBX (k:= (0:Int)) (by decide) h)),.a ((a)[0]?=some b) (p':=int .u8 ((mod (div (aC a) (pow 256 (0:Int).toNat)) 256:Nat) :Int) = (.int .u8 ((b.toNat:Nat) :Int))) (fun h=>(aBY (k:= (0:Int)) h))]<|gd 3 16 (((b.toNat:Nat) :Int) ≥65) (.i [rn 1,.ans (.ev (.int .u8 ((b.toNat:Nat) :Int)))] [.q (p:=0≤ (0:Int)) (by decide),.a ((a)[0]?=some b) (p':=(0:Int) < (a.length:Int)) (fun h=>(aBX (k:= (0:Int)) (by decide) h)),.a ((a)[0]?=some b) (p':=int .u8 ((mod (div (aC a) (pow 256 (0:Int).toNat)) 256:Nat) :Int) = (.int .u8 ((b.toNat:Nat) :Int))) (fun h=>(aBY (k:= (0:Int)) h))]<|gd 3 21 (((b.toNat:Nat) :Int) ≤90) (.i [rn 1,.ans (.ev (dD (drop 1 a)))] [.a (1≤length a) (p':=aQZ PP 9 (dD a) (some (nI 1)) none (dD (drop 1 a))) (fun h=>(aCH (k:= (1:Int)) (by kernel_rfl) (by decide) h))]<|jR 0 146 [(dD (drop 1 a))]<|fun c=>gE 4 0 (bV c))<|gE 7 0 (bV false))<|gE 12 0 (bV false))<|gE 17 0 (bV false))<|gE 22 0 (bV false)
def aNf:=fun b c d e f a g i j k=>aTT b|>.t e|>.t f c a a|>.t g a a|>.t i j d k tv
def aNg:=fun b c d e a f g=>aTT b|>.t d|>.t e c a a|>.t f a a|>.f g tv
def aNh:=fun b c d e a f=>aTT b|>.t d|>.t e c a a|>.f f tv
def aNi:=fun a b c=>aTT a|>.t b|>.f c tv
def aNj:=fun a b=>aTT a|>.f b tv
def aTU (a:List cA)(b:cA):=(tT 0 (start PP 115 [(iS a),(dD b)])<|.W 11 0 [] (aDk a b 0)) tv
def bDe(a:List cA)(c:cA)(b:Int):=tT 0 (aDk a c b)<|gl 5 dD a<|gd 2 9 (b< (a.length:Int)) (gX dD 8 a b<|fun d=>.b 4 17 (iZ d.length (aC d) c.length (aC c)) (gE 6 0 (bV true))<|gw 6 11 (b+1)<|.W 3 0 [] (aDk a c (b+1)))<|gE 7 0 (bV false)
def aTV:=fun a b c d e f g i=>bDe a b c|>.t e d f g|>.t i tv
def aTW:=fun a b c d e f g i j=>bDe a b c|>.t e d f g|>.f i j tv
def aTX:=fun a b c d=>bDe a b c|>.f d tv
def aKf (a:List cA):=(tT 0 (start PP 103 [(iS a)])<|.W 11 0 [] (tD a 0)) tv
def bDf(b:List cA)(a:Int):=tT 0 (tD b a)<|gl 5 dD b<|gd 2 7 (a< (b.length:Int)) (.y fun c:cA=>.y fun d:Bool=>.i [rn 5,.reg [.d,.d,.ans (.ev (iS (take a.toNat b))),.d,.d,.ans (.idx (dD c)),.d,.pure (bV d)]] [.a (0≤a∧a.toNat≤length b) (p':=aQZ PP 148 (iS b) none (some (nI a)) (iS (take a.toNat b))) fun⟨ha,hb⟩=>(aTN (k:=a) (by kernel_rfl) ha hb),hA (0≤a),.a (((b)[a.toNat]?) =some c) (aZ (f:=dD)),hA (aJ PP 115 [(iS (take a.toNat b)),(dD c)] (bV d))]<|.b 0 17 d (gE 6 0 (bV false))<|gw 6 9 (a+1)<|.W 3 0 [] (tD b (a+1)))<|gE 7 0 (bV true)
def aKg:=fun b c d e f a g i j k=>bDf b c|>.t f d e ⟨a,g⟩ a i j|>.t k tv
def aKh:=fun b c d e f a g i j k l=>bDf b c|>.t f d e ⟨a,g⟩ a i j|>.f k l tv
def aKi:=fun a b c=>bDf a b|>.f c tv
def bEJ(b c:Int)(d:cA)(e:List Pat)(a:Int):=tT 0 (start PP 69 [(.agg [(nI b),(nI c),(dD d),(iP e)]),(nI a)])<|gd 11 7 (a<1) (gE 6 1 (nI (-1)))<|gw 6 9 (a-1)<|.W 9 1 [0] (xF b c d e a (a-1) 0)
def aNk:=fun a b c d e f=>bEJ a b c d e|>.t f tv
def aNl:=fun a b c d e f g=>bEJ a b c d e|>.f f g tv
def bDg(d e:Int)(f:cA)(a:List Pat)(g b c:Int):=tT 0 (xF d e f a g b c)<|gm 6 aD a<|gd 2 15 (c< (a.length:Int)) (gd 4 18 (b≥0) (tC 8 a c<|fun i j k l=>gpI 2 69 [(.agg [(nI i),(nI j),(dD k),(iP l)]),(nI b)]<|fun m=>gw 6 20 (c+1)<|.W 3 1 [0] (xF d e f a g m (c+1)))<|gE 8 1 (nI b))<|gE 12 1 (nI b)
def aNm:=fun a b c d e f g i j k l m n o p q r s=>bDg a b c d e f g|>.t n|>.t o i j k l p q m r s tv
def aNn:=fun a b c d e f g i j=>bDg a b c d e f g|>.t i|>.f j tv
def aNo:=fun a b c d e f g i=>bDg a b c d e f g|>.f i tv
def aF1 (a b:Int)(c:cA)(d:List Pat):=(tT 0 (start PP 70 [(.agg [(nI a),(nI b),(dD c),(iP d)])])<|.W 12 1 [0] (nM a b c d 0)) tv
def bDh(d e:Int)(c:cA)(a:List Pat)(b:Int):=tT 0 (nM d e c a b)<|gm 6 aD a<|gd 2 8 (b< (a.length:Int)) (tC 9 a b<|fun f g i j=>jR 1 70 [(.agg [(nI f),(nI g),(dD i),(iP j)])]<|fun k=>.b 2 17 (!k) (gE 6 1 (bV false))<|gw 6 10 (b+1)<|.W 3 1 [0] (nM d e c a (b+1)))<|gE 11 1 (bV (decide ((c.length:Int) ≤30)))
def aF2:=fun a b c d e f g i j k l m n o p=>bDh a b c d e|>.t l f g i j m n k o|>.t p tv
def aF3:=fun a b c d e f g i j k l m n o p q=>bDh a b c d e|>.t l f g i j m n k o|>.f p q tv
def aF4:=fun a b c d e f=>bDh a b c d e|>.f f tv
def bEK(a b:Int)(c:cA)(d:List Pat):=tT 0 (start PP 31 [(.agg [(nI a),(nI b),(dD c),(iP d)])])<|gpI 8 69 [(.agg [(nI a),(nI b),(dD c),(iP d)]),(nI 16)]<|fun e=>gd 2 6 (e≥0) (jR 1 70 [(.agg [(nI a),(nI b),(dD c),(iP d)])]<|fun f=>gE 4 1 (bV f))<|gE 6 1 (bV false)
def aKj:=fun a b c d e f g i j=>bEK a b c d e g|>.t i f j tv
def aKk:=fun a b c d e f g=>bEK a b c d e f|>.f g tv
def aY8(a:Prog):=tT 0 (start PP 10 [(Prog.av a)])<|gl 10 Node.av a.nodes<|gd 2 11 ((a.nodes.length:Int) >320) (gE 18 1 (bV false))<|gl 2 bU a.funs<|gd 3 17 ((a.funs.length:Int) >320) (gE 12 1 (bV false))<|gl 2 Con.av a.cons<|gd 3 22 ((a.cons.length:Int) >25) (gE 6 1 (bV false))<|.W 9 1 [0] (mO a 0)
def aEz:=fun a b=>aY8 a|>.t b tv
def aEA:=fun a b c=>aY8 a|>.f b|>.t c tv
def aEB:=fun a b c d=>aY8 a|>.f b|>.f c|>.t d tv
def aEC:=fun a b c d=>aY8 a|>.f b|>.f c|>.f d tv
def aTY(a:Prog)(b:Int):=tT 0 (mO a b)<|gl 6 Con.av a.cons<|gd 2 27 (b< (a.cons.length:Int)) (gX Con.av 9 a.cons b<|fun c=>gd 5 37 ((c.name.length:Int) >40) (gE 6 1 (bV false))<|gw 6 29 (b+1)<|.W 3 1 [0] (mO a (b+1)))<|.W 9 1 [0] (mP a 0)
def aED:=fun a b c d e f g=>aTY a b|>.t d c e f|>.t g tv
def aEE:=fun a b c d e f g i=>aTY a b|>.t d c e f|>.f g i tv
def aEF:=fun a b c=>aTY a b|>.f c tv
def aPT(b:Prog)(c:Int):=tT 0 (mP b c)<|gl 6 Node.av b.nodes<|gd 2 42 (c< (b.nodes.length:Int)) (gX Node.av 9 b.nodes c<|fun a=>gl 9 bU a.kids<|gd 2 54 ((a.kids.length:Int) >10) (gE 12 2 (bV false))<|gm 2 aD a.pats<|gd 3 59 ((a.pats.length:Int) >10) (gE 6 2 (bV false))<|.W 8 2 [0,1] (mQ b a.op a.n a.kids a.pats 0 c))<|gE 7 1 (bV true)
def aEG:=fun a b c d e f g=>aPT a b|>.t d c e f|>.t g tv
def aEH:=fun a b c d e f g i=>aPT a b|>.t d c e f|>.f g|>.t i tv
def aEI:=fun a b c d e f g i=>aPT a b|>.t d c e f|>.f g|>.f i tv
def aEJ:=fun a b c=>aPT a b|>.f c tv
def aTZ(d:Prog)(e f:Int)(g:List Int)(a:List Pat)(b c:Int):=tT 0 (mQ d e f g a b c)<|gm 6 aD a<|gd 2 64 (b< (a.length:Int)) (tC 9 a b<|fun i j k l=>jR 1 31 [(.agg [(nI i),(nI j),(dD k),(iP l)])]<|fun m=>.b 2 73 (!m) (gE 6 2 (bV false))<|gw 6 66 (b+1)<|.W 3 2 [0,1] (mQ d e f g a (b+1) c))<|gw 6 44 (c+1)<|.W 3 2 [0] (mP d (c+1))
def aEK:=fun a b c d e f g i j k l m n o p q r=>aTZ a b c d e f g|>.t n i j k l o p m q|>.t r tv
def aEL:=fun a b c d e f g i j k l m n o p q r s=>aTZ a b c d e f g|>.t n i j k l o p m q|>.f r s tv
def aEM:=fun a b c d e f g i j=>aTZ a b c d e f g|>.f i j tv
theorem wrap64 {e:Int}(h1: -9223372036854775808≤e)(h2:e<9223372036854775808) :IntKind.i64.wrap e=e:=by
 have a: (2:Int) ^ IntKind.i64.bits=18446744073709551616:=by decide
 have b: (2:Int) ^ (IntKind.i64.bits-1) =9223372036854775808:=by decide
 simp only [IntKind.wrap,a,b,IntKind.signed,Bool.true_and,decide_eq_true_eq];split<;>omega
noncomputable def tG (P:Program)(f:Nat) :Bool:=match P.funcs[f]? with
 | some fn=>match fn.body with
  |some _=>true
  |none=>false
 |none=>false
theorem aF {P:Program}{f:Nat}{args:List AV}{v:AV}(hb:tG P f=true)(hk:keylessL args=true)(hv:keyless v=true)(he:Ends P 0 (start P f args).as (.ret v) (aA [] 0)) :aJ P f args v:=by
 unfold tG at hb;split at hb
 · rename_i fn hf;split at hb
   ·rename_i c hc;exact pure_of hf hc hk hv he
   ·cases hb
 ·cases hb
theorem bB {α:Type}{l t:List α}{i:Nat}{y:α}(h:l.drop i=y::t) :l[i]?=some y∧l.drop (i+1) =t∧i<l.length:=by
 have h1:l[i]?=some y:=by rw [←List.head?_drop,h];rfl
 refine⟨h1,?_,(List.getElem?_eq_some_iff.1 h1).1⟩;rw [←List.tail_drop,h];rfl
theorem bE {α:Type}{l:List α}{i:Nat}(h:l.drop i= []) :l.length≤i:=List.drop_eq_nil_iff.1 h
theorem sd {p:Prop}(h:p:=by first|assumption|rfl| (simp only [Int.toNat_natCast];assumption) | (simp only [decide_eq_true_eq,decide_eq_false_iff_not];omega) |omega| (apply wrap64<;>omega) | (simp_all;done)) :p:=h
def dR (n lo hi:Int) :Bool:=decide (lo≤n) &&decide (n≤hi)
theorem aV (n lo hi:Int) :aJ PP 62 [.int .i64 n,.int .i64 lo,.int .i64 hi] (.bool (dR n lo hi)) :=by
 refine aF (by kernel_rfl) rfl rfl ?_;by_cases h:n≥lo
 · have e:dR n lo hi=decide (n≤hi) :=by unfold dR;rw [decide_eq_true (show lo≤n from h),Bool.true_and]
   rw [e];exact aY5 n lo hi (decide_eq_true h)
 · have e:dR n lo hi=false:=by unfold dR;rw [decide_eq_false (show ¬lo≤n from h),Bool.false_and]
   rw [e];exact aY6 n lo hi (decide_eq_false h)
def tH (c:UInt8) :Bool:=decide (97≤c.toNat) &&decide (c.toNat≤122)
def jB (s:cA) :Bool:=s.all tH
theorem aCJ (s:cA)(hs:s.length<1000000) :∀ (t:cA) (i:Nat),s.drop i=t→Ends PP 0 (xE s (i:Int)).as (.ret (.bool (jB t))) (aA [] 0)
 | [],i,h=>by
  have:=bE h;exact aNe s i sd
 | c :: t,i,h=>by
  obtain⟨h1,h2,h3⟩ :=bB h;have hi: (decide ((i:Int) < ((length s:Nat) :Int))) =true:=sd;have h1':s[(i:Int).toNat]?=some c:=sd;by_cases g1:c.toNat<97
  · have e:jB (c::t) =false:=by simp [jB,tH];omega
    rw [e];exact aNb s i c hi sd h1' sd
  · by_cases g2:122<c.toNat
    · have e:jB (c::t) =false:=by simp [jB,tH];omega
      rw [e];exact aNc s i c hi sd h1' sd sd
    · have e:jB (c::t) =jB t:=by
       have:tH c=true:=by simp [tH];omega
       simp [jB,this]
      rw [e];refine(aNd s i c hi sd h1' sd sd sd).ends ?_;exact aCJ s hs t (i+1) h2
theorem aKl (s:cA)(hs:s.length<1000000) :aJ PP 146 [dD s] (.bool (jB s)) :=
 aF (by kernel_rfl) rfl rfl ((aNa s).ends (aCJ s hs s 0 rfl))
def iF (s:cA) :Bool:=match s with
 | [] =>false
 |c::t=>decide (s.length≤8) &&decide (65≤c.toNat) &&decide (c.toNat≤90) &&jB t
theorem aKm (s:cA) :aJ PP 102 [dD s] (.bool (iF s)) :=by
 refine aF (by kernel_rfl) rfl rfl ?_
 match s with
 | [] =>exact aNj [] sd
 | c :: t=>
  have h0: (decide (((length (c::t) :Nat) :Int) ≥ (1:Int))) =true:=by simp only [length_cons];exact sd
  by_cases g0: (c::t).length≤8
  · have g0': (decide (((length (c::t) :Nat) :Int) ≤ (8:Int))) =true:=sd;by_cases g1:65≤c.toNat
    · by_cases g2:c.toNat≤90
      · have e:iF (c::t) =jB t:=by simp only [iF,decide_eq_true g0,decide_eq_true g1,decide_eq_true g2,Bool.true_and]
        rw [e];exact aNf (c::t) c _ h0 g0' rfl sd sd (by simp) (aKl t (by simp at g0;omega))
      · have e:iF (c::t) =false:=by simp only [iF,decide_eq_false g2,Bool.and_false,Bool.false_and]
        rw [e];exact aNg (c::t) c h0 g0' rfl sd sd
    · have e:iF (c::t) =false:=by simp only [iF,decide_eq_false g1,Bool.and_false,Bool.false_and]
      rw [e];exact aNh (c::t) c h0 g0' rfl sd
  · have e:iF (c::t) =false:=by simp only [iF,decide_eq_false g0,Bool.false_and]
    rw [e];exact aNi (c::t) h0 sd
def yQ (l:List cA)(s:cA) :Bool:=l.any fun x=>decide (x=s)
theorem aGw (l:List cA)(s:cA)(hl:l.length<1000000) :∀ (t:List cA) (i:Nat),l.drop i=t→Ends PP 0 (aDk l s (i:Int)).as (.ret (.bool (yQ t s))) (aA [] 0)
 | [],i,h=>by
  have:=bE h;exact aTX l s i sd
 | x ::t,i,h=>by
  obtain⟨h1,h2,h3⟩ :=bB h;by_cases g:x=s
  · have e:yQ (x::t) s=true:=by simp [yQ,g]
    rw [e];exact aTV l s i x sd sd sd (by rw [vV];exact decide_eq_true g)
  · have e:yQ (x::t) s=yQ t s:=by simp [yQ,g]
    rw [e];refine(aTW l s i x sd sd sd (by rw [vV];exact decide_eq_false g) sd).ends ?_;exact aGw l s hl t (i+1) h2
theorem aQ1 (l:List cA)(s:cA)(hl:l.length<1000000) :aJ PP 115 [.ilst 1 (List.map dD l) false,dD s] (.bool (yQ l s)) :=
 aF (by kernel_rfl) rfl rfl ((aTU l s).ends (aGw l s hl l 0 rfl))
def eO :List cA→List cA→Bool
 |_,[] =>true
 |pre,x::t=> !yQ pre x&&eO (pre++ [x]) t
def nN (l:List cA) :Bool:=eO [] l
theorem aA3 (l:List cA)(hl:l.length<1000000) :∀ (t:List cA) (i:Nat),l.drop i=t→Ends PP 0 (tD l (i:Int)).as (.ret (.bool (eO (l.take i) t))) (aA [] 0)
 | [],i,h=>by
  have:=bE h;exact aKi l i sd
 | x ::t,i,h=>by
  obtain⟨h1,h2,h3⟩ :=bB h;have hp:aJ PP 115 [.ilst 1 (List.map dD (l.take (i:Int).toNat)) false,dD x] (.bool (yQ (l.take i) x)) :=by
   simp only [Int.toNat_natCast];exact aQ1 _ _ (by simp;omega)
  by_cases g:yQ (l.take i) x=true
  · have e:eO (l.take i) (x::t) =false:=by simp [eO,g]
    rw [e];exact aKg l i x _ sd sd sd sd hp g
  · have g':yQ (l.take i) x=false:=by simpa using g
    have e:eO (l.take i) (x::t) =eO (l.take (i+1)) t:=by
     simp only [eO,g',Bool.not_false,Bool.true_and];rw [List.take_add_one,h1];rfl
    rw [e];refine(aKh l i x _ sd sd sd sd hp g' sd).ends ?_;exact aA3 l hl t (i+1) h2
theorem aH3 (l:List cA)(hl:l.length<1000000) :aJ PP 103 [.ilst 1 (List.map dD l) false] (.bool (nN l)) :=by
 refine aF (by kernel_rfl) rfl rfl ((aKf l).ends ?_);exact aA3 l hl l 0 rfl
section
variable {P :Program}
theorem bCf {s s':AS}{b:Bool}{h':Hp}(hl:Leads P s s')(hf:uP P s'=some (.bool b,h')) :Ends P 0 s (.ret (.bool b)) (aA [] 0) :=by
 have h1:LeadsM P 0 s s':=fun hm E fr ccs w base f fs r=>by
  obtain⟨E',fr',cs',w',s1,f1,fs1,r1,x⟩ :=hl E fr ccs w base f fs r;exact⟨E',fr',cs',w',s1,f1,fs1,r1,x.toM hm⟩
 intro hm E fr ccs w f fs r cl base;obtain⟨cl',w',E',g1,⟨cv,rfl,g2⟩,g3,g4⟩ := (h1.ends (lT hf)) hm E fr ccs w f fs r cl base;refine⟨_,w',E'.p,g1,⟨cv,rfl,?_⟩,aEq g3,⟨fun b hb=>absurd hb (Nat.not_lt_zero _),g4.imm,g4.size,g4.keep,fun b' o' L' e=>?_,le_refl _,g4.os,g4.tape,g4.output,g4.froz,g4.immo,fun b o e=>?_⟩⟩
 ·simpa only [VR]using g2
 ·simp [aAX,Hp.look,T.at_leaf]at e
 ·simp [aAX,Hp.look,T.at_leaf]at e
end
end
end Go.Hb
