/-
  OWN WORK (V5, V20, V20b, V20c, V20d, V20e, S28, S30, V6, V7, V8, Q, G0, V9, S29, V18, V10): a machine on abstract values, its soundness, ways through the text (the ways WRITTEN BY A PROGRAM), plain laws.
-/
import Derived.Test.YtabmpnmmkeieiaaGreatHD
import Derived.Test.YtabmpnmmkeieiaaGreatHE
import Derived.KernelRfl
import Derived.Test.YtabmpnmmkeieiaaGreatProg
import Derived.WalkKit
import Derived.OpenShut
import Derived.ChangeArms
set_option linter.unusedVariables false
set_option linter.unusedSimpArgs false
set_option linter.unusedSectionVars false
set_option maxRecDepth 100000
namespace Go.Hb
variable {P :Program}
noncomputable section
def way (P:Program)(m:Nat)(is:List Ins)(s:TS)(t:TS)(ks:List Nat) :Option (Nat×Sum×List Prop) :=
 match aDz P is s.as with
 |some (s1,ps) =>some (s1.h.nb,s1.sum (iD m t.nb s1.h.nb ks) t,ps)
 |none=>none
theorem aOH {m:Nat}{is:List Ins}{s t:TS}{ks:List Nat}{n1:Nat}{ps:List Prop}(h0:way P m is s t ks=some (n1,t.want (iD m t.nb n1 ks),ps))(hok:eI m t ks=true)(hkl:nP t.hp)(hp:AllP ps) :LeadsM P m s.as t.as:=by
 unfold way at h0
 split at h0
 · rename_i s1 qs h1
   simp only [Option.some.injEq,Prod.mk.injEq]at h0
   obtain⟨rfl,h2,rfl⟩ :=h0
   refine(qC h1 (fun p hpp=>hp.mem p hpp)).trans ?_
   simp only [AS.sum,TS.want,Sum.mk.injEq]at h2
   obtain⟨a1,a2,a3,a4⟩ :=h2
   intro hm E fr ccs w base f fs r
   obtain⟨q1,q2⟩ :=rP (l:=t.hp) (nb:=t.nb) (by simpa [eI]using hok) a4 hkl r
   exact⟨_,fr,ccs,w,Steps.refl _ _,aNT a1 f,aFM a2 a3 fs,q1,q2⟩
 ·cases h0
def aWC (P:Program)(m:Nat)(is:List Ins)(s:TS)(hp:List (Nat×AObj×Bool))(nb:Nat)(ks:List Nat) :Option (Nat×AV×List (Option AObj) ×List Prop) :=
 match aDz P is s.as with
 | some (s1,ps) =>match aBY P s1 with
  |some (v,h1) =>some (h1.nb,v,aAH h1 (iD m nb h1.nb ks) hp,ps)
  |none=>none
 |none=>none
theorem aLO {m:Nat}{is:List Ins}{s:TS}{hp:List (Nat×AObj×Bool)}{nb:Nat}{ks:List Nat}{n1:Nat}{v:AV}{ps:List Prop}(h0:aWC P m is s hp nb ks=some (n1,AV.ren (iD m nb n1 ks) v,pF (iD m nb n1 ks) hp,ps))
  (hok:eI m ⟨⟨0,0,[],[],[],.run,.normal,none⟩,[],hp,nb⟩ ks=true) (hkl:nP hp) (hps:AllP ps) :Ends P m s.as (.ret v) (aA hp nb) :=by
 unfold aWC at h0
 split at h0
 · rename_i s1 qs h1
   split at h0
   · rename_i u h2 hf
     simp only [Option.some.injEq,Prod.mk.injEq]at h0
     obtain⟨rfl,h3,h4,rfl⟩ :=h0
     subst h3
     refine(qC h1 (fun p hpp=>hps.mem p hpp)).ends ?_
     intro hm E fr ccs w f fs r cl base
     obtain⟨cl',w',E',g1,⟨cv,rfl,g2⟩,g3,g4⟩ :=aDt (m:=m) hf hm E fr ccs w f fs r cl base
     obtain⟨q1,q2⟩ :=rP hok h4 hkl g3
     exact⟨_,w',_,g1,⟨cv,rfl,(eZ _ _ _ _).1 g2⟩,q1,g4.trans q2⟩
   ·cases h0
 ·cases h0
def start (P:Program)(f:Nat)(args:List AV) :TS:=
 match P.funcs[f]? with
 | some fn=>match fn.body with
  |some c=> ⟨⟨f,max fn.ntmps args.length,(List.range args.length).zip args,[.code c],[],.run,.normal,none⟩,[],[],0⟩
  |none=> ⟨⟨f,0,[],[],[],.run,.normal,none⟩,[],[],0⟩
 |none=> ⟨⟨f,0,[],[],[],.run,.normal,none⟩,[],[],0⟩
theorem aI1 {E:Emb}{h:Hp}{w:World}(r:Rel E h w.heap) :Rel E.p ⟨.leaf,0⟩ w.heap:=
 ⟨fun b o e=>by simp [Hp.look,T.at_leaf]at e,fun b b' o o' L L' e=>by simp [Hp.look,T.at_leaf]at e,fun _ _=>rfl,r.imm,fun b o L e=>by simp [Hp.look,T.at_leaf]at e,fun b o e=>by simp [Hp.look,T.at_leaf]at e⟩
theorem aI2 :aA [] 0= ⟨.leaf,0⟩ :=rfl
theorem aI3 {args:List AV}{k:Nat}{v:AV}(h: (k,v) ∈ (List.range args.length).zip args) :args[k]?=some v:=by
 obtain⟨i,hi⟩ :=List.mem_iff_getElem?.1 h
 rw [List.getElem?_zip_eq_some]at hi
 obtain⟨h1,h2⟩ :=hi
 obtain⟨hlt,he⟩ :=List.getElem?_eq_some_iff.1 h1
 rw [List.getElem_range]at he
 subst he;exact h2
theorem aLP {E E':Emb}{h:Hp}{w w':World}(r:Rel E h w.heap)(r':Rel E' ⟨.leaf,0⟩ w'.heap)(x:ExtM 0 E.p ⟨.leaf,0⟩ w E' ⟨.leaf,0⟩ w') :
  Rel ⟨E.loc,E'.imm⟩ h w'.heap∧ExtM h.nb E h w ⟨E.loc,E'.imm⟩ h w':=by
 have hno:∀ {b o},¬ (⟨.leaf,0⟩ :Hp).look b=some o:=fun {b o} e=>by simp [Hp.look,T.at_leaf]at e
 have keep:∀i,i<w.heap.size→w'.heap[i]?=w.heap[i]?:=fun i hi=>x.keep i hi (fun b o L e=>absurd e hno)
 have hle:E.le ⟨E.loc,E'.imm⟩ := ⟨fun _ _ e=>e,x.imm⟩
 have immo:∀k C,E'.imm k=some C→k<w.heap.size→E.imm k=some C:=fun k C e hk=>by
  rcases x.immo k C e hk with g| ⟨b,o,L,g,_⟩
  ·exact g
  ·exact absurd g hno
 refine⟨⟨fun b o e=>?_,r.kin,r.fresh,r'.imm,fun b o L e k=>?_,r.keys⟩,⟨fun _ _=>rfl,x.imm,x.size,fun i hi _=>keep i hi,fun b o L e k _=> ⟨b,o,L,e,k,rfl⟩,Nat.le_refl _,x.os,x.tape,x.output,x.froz,fun k C e hk=>.inl (immo k C e hk),fun b o e _=> ⟨o,e⟩⟩⟩
 · rcases r.obj0 b o e with u| ⟨L,g1,g2⟩
   ·exact .inl u
   ·exact .inr ⟨L,g1,(g2.mono hle).heap (keep _ g2.lt)⟩
 · cases hi:E'.imm L.blk with
   |none=>rfl
   | some C=>
    have:=immo _ C hi (r.lt e k)
    rw [r.apart b o L e k]at this;cases this
theorem pure_of {f : Nat} {args : List AV} {v : AV} {fn:Func}{c:Code}(hf:P.funcs[f]?=some fn)(hc:fn.body=some c)(hk:AV.keylessL args=true)(hv:AV.keyless v=true)(he:Ends P 0 (start P f args).as (.ret v) (aA [] 0)) :aE P f args v:=fun h=>by
 have hg:gC P h (.enter f args) =some ⟨f,jF .leaf 0 args,max fn.ntmps args.length,[.code c],[],.run,.normal,none⟩ :=by simp [gC,eP,hf,hc]
 refine⟨_,hg,fun hm E fr ccs w fr' fs r cl base=>?_⟩
 simp only at fs
 rw [fs.nil_inv]
 have f1:FR E.p (start P f args).as.fr fr:=by
  have e1: (start P f args).as.fr= ⟨f,mkT ((List.range args.length).zip args),max fn.ntmps args.length,[.code c],[],.run,.normal,none⟩ :=by simp [start,hf,hc,TS.as,TF.fr]
  rw [e1]
  refine⟨fr'.fn,⟨fr'.tm.1,fun t a e=>?_⟩,?_,?_,fr'.mode,fr'.kind,?_⟩
  · have h1:=aI3 (aBw e)
    have hlt:= (List.getElem?_eq_some_iff.1 h1).1
    have h2: (jF .leaf 0 args).at t=some a:=by
     unfold jF;rw [dX,if_pos hlt];exact h1
    obtain⟨cv,g1,g2⟩ :=fr'.tm.2 t a h2
    exact⟨cv,g1,eS (keylessL_mem.1 hk a (List.mem_of_getElem? h1)) g2⟩
  · have:=fr'.todo
    simpa [IRs,IR]using this
  · have:=fr'.defers
    simpa [DRs]using this
  · have:=fr'.round
    simpa [RR]using this
 have e2 : (start P f args).as.cs = [] := by unfold start;split; · split<;>rfl
                                             ·rfl
 have e3 : (start P f args).as.h = ⟨.leaf, 0⟩ := by unfold start;split; · split<;>rfl
                                                    ·rfl
 obtain⟨cl',w',E',g1,⟨cv,rfl,g2⟩,g3,g4⟩ :=he (Nat.zero_le _) E.p fr [] w f1 (by rw [e2];rfl) (by rw [e3];exact aI1 r) cl base
 rw [e3]at g4
 obtain⟨q1,q2⟩ :=aLP r g3 g4
 exact⟨_,w',_,g1,⟨cv,rfl,VR.of_p (E:= ⟨E.loc,E'.imm⟩) (show VR (Emb.p ⟨E.loc,E'.imm⟩) v cv from eS (E:=E') hv g2)⟩,q1,q2⟩
end
end Go.Hb
namespace Go.Hb
variable {P :Program}
noncomputable section
def eU (P:Program)(f:Nat)(args:List AV)(hp:List (Nat×AObj×Bool))(nb:Nat) :TS:={(start P f args)with hp:=hp,nb:=nb}
def aNU (nb:Nat)(h1 h2:Hp) :List (Nat×AObj×Bool) →List (Option AObj)
 | [] =>[]
 |p::r=> (bif Nat.blt p.1 nb then h1.look p.1 else h2.look p.1) ::aNU nb h1 h2 r
def rQ :List (Nat×AObj×Bool) →List (Option AObj)
 | [] =>[]
 |p::r=>some p.2.1::rQ r
theorem aFN {nb:Nat}{h1 h2:Hp}:∀ {l:List (Nat×AObj×Bool)},aNU nb h1 h2 l=rQ l→∀p∈l,(p.1<nb→h1.look p.1=some p.2.1) ∧ (nb≤p.1→h2.look p.1=some p.2.1)
 | q ::r,h,p,hp=>by
  simp only [aNU,rQ,List.cons.injEq]at h
  rcases List.mem_cons.1 hp with rfl|hp
  · rw [dH]at h
    refine⟨fun g=>?_,fun g=>?_⟩
    ·have:=h.1;rw [decide_eq_true g]at this;exact this
    ·have:=h.1;rw [decide_eq_false (show ¬p.1<nb by omega)]at this;exact this
  ·exact aFN h.2 p hp
theorem iQ {l:List (Nat×AObj×Bool)}{nb b:Nat}{o:AObj}(e: (aA l nb).look b=some o) :∃f,(b,o,f) ∈l:=by
 have: (b,o) ∈l.map fun p=> (p.1,p.2.1) :=aBw e
 obtain⟨⟨pb,po,pf⟩,hp,hpe⟩ :=List.mem_map.1 this
 cases hpe
 exact⟨pf,hp⟩
theorem aI4 {E:Emb}{τ:Nat→Nat}{h:Hp}{f:Nat}{args:List AV}{g:AFrame}{fr:Frame}(hg:gC P h (.enter f args) =some g)(ha:AV.renL τ args=args)(fr':FR E g fr) :FR (E.ren τ) g fr:=by
 simp only [gC,eP]at hg
 split at hg
 · split at hg
   · cases hg
     refine⟨fr'.fn,⟨fr'.tm.1,fun t a e=>?_⟩,?_,?_,fr'.mode,fr'.kind,?_⟩
     · obtain⟨cv,g1,g2⟩ :=fr'.tm.2 t a e
       refine⟨cv,g1,(eZ τ E a cv).1 ?_⟩
       have ht:t<args.length∧args[t]?=some a:=by
        have e': (jF .leaf 0 args).at t=some a:=e
        unfold jF at e'
        rw [dX]at e'
        split at e'
        ·rename_i hlt;exact⟨hlt,e'⟩
        ·cases e'
       have all:∀ (l:List AV),AV.renL τ l=l→∀ (i:Nat) (x:AV),l[i]?=some x→AV.ren τ x=x:=by
        intro l
        induction l with
        |nil=>intro _ i x hx;simp at hx
        | cons y l ih=>
         intro hl i x hx
         simp only [AV.renL,List.cons.injEq]at hl
         cases i with
         |zero=>simp at hx;subst hx;exact hl.1
         |succ i=>exact ih hl.2 i x (by simpa using hx)
       rw [all args ha t a ht.2];exact g2
     ·have:=fr'.todo;simpa [IRs,IR]using this
     ·have:=fr'.defers;simpa [DRs]using this
     ·have:=fr'.round;simpa [RR]using this
   ·cases hg
 ·cases hg
theorem pG {f:Nat}{args:List AV}{v:AV}{l l' x:List (Nat×AObj×Bool)}{nb n2:Nat}
  (h0:Spec P (.enter f args) (aA l nb) (.ret v) (aA l' nb)) (hargs:AV.renL (iD nb nb n2 []) args=args) (hv:AV.keyless v=true) (hle:Nat.ble nb n2=true)
  (hin:eI nb ⟨⟨0,0,[],[],[],.run,.normal,none⟩,[],l,nb⟩ [] =true) (hl:aAH (aA (l++x) n2) (iD nb nb n2 []) l=pF (iD nb nb n2 []) l) (hkl:nP l)
  (hx:kD n2 (l++x) =true) (hx':kD n2 (l'++x) =true) (hout:aNU nb (aA l' nb) (aA (l++x) n2) (l'++x) =rQ (l'++x)) :
  Spec P (.enter f args) (aA (l++x) n2) (.ret v) (aA (l'++x) n2) :=by
 obtain⟨g,hg,he⟩ :=h0
 refine⟨g,hg,?_⟩
 intro _ E fr ccs w fr' fs r cl base
 have hle:=Nat.le_of_ble_eq_true hle
 have hkeys:∀ {b o},(aA l nb).look b=some o→b<nb∧∃o1,(aA (l++x) n2).look b=some o1:=fun {b o} e=>by
  obtain⟨fl,hm⟩ :=iQ e
  simp only [eI,Bool.and_eq_true]at hin
  have hb:= (cO hin.2 _ hm).1
  have:=lN hl _ hm
  simp only [sX hb]at this
  exact⟨hb,_,this⟩
 have low:∀ {b},b<nb→ (E.ren (iD nb nb n2 [])) b=E b:=fun {b} hb=>by show E.loc (iD nb nb n2 [] b) =E.loc b;rw [sX hb]
 have nool:∀ {b o},(aA (l++x) n2).look b=some o→b<n2∧dA o= [] :=fun {b o} e=>by
  obtain⟨fl,hm⟩ :=iQ e
  exact cO hx _ hm
 have apart:∀ {b b' o o' L L'},(aA (l++x) n2).look b=some o→ (aA (l++x) n2).look b'=some o'→E b=some L→E b'=some L'→b≠b'→L.blk≠L'.blk:=fun {b b' o o' L L'} e e' k k' hne hbl=>by
  have:=r.kin b b' o o' L L' e e' k k' hbl hne
  unfold Kin at this
  rw [(nool e).2,(nool e').2]at this
  rcases this with⟨g,_⟩ | ⟨g,_⟩ <;>simp at g
 obtain⟨rL,_⟩ :=rP (h:=aA (l++x) n2) hin hl hkl r
 have frL:=aI4 (τ:=iD nb nb n2 []) hg hargs fr'
 rw [fs.nil_inv]
 obtain⟨cl',w',EL,s1,⟨cv,rfl,g2⟩,r2,x2⟩ :=he (Nat.le_refl _) (E.ren (iD nb nb n2 [])) fr [] w frL rfl rL cl base
 have hnb: (aA l nb).nb=nb:=rfl
 have hnb': (aA l' nb).nb=nb:=rfl
 rw [hnb]at x2
 have eL:∀ {b},b<nb→EL b=E b:=fun {b} hb=> (x2.low b hb).trans (low hb)
 have eLhi:∀ {b},nb≤b→EL b=none:=fun {b} hb=>r2.fresh b hb
 have hELE:EL.le ⟨E.loc,EL.imm⟩ :=by
  refine⟨fun b L e=>?_,fun _ _ e=>e⟩
  rcases Nat.lt_or_ge b nb with hb|hb
  ·rw [eL hb]at e;exact e
  ·rw [eLhi hb]at e;cases e
 have hEE:E.le ⟨E.loc,EL.imm⟩ := ⟨fun _ _ e=>e,fun k C e=>x2.imm k C e⟩
 have hlook:∀ {b o},(aA (l'++x) n2).look b=some o→b<n2∧dA o= [] ∧ (b<nb→ (aA l' nb).look b=some o) ∧ (nb≤b→ (aA (l++x) n2).look b=some o) :=fun {b o} e=>by
  obtain⟨fl,hm⟩ :=iQ e
  exact⟨(cO hx' _ hm).1,(cO hx' _ hm).2,aFN hout _ hm⟩
 have away:∀ {b o L},nb≤b→ (aA (l++x) n2).look b=some o→E b=some L→∀b1 o1 L1,(aA l nb).look b1=some o1→ (E.ren (iD nb nb n2 [])) b1=some L1→L1.blk≠L.blk:=fun {b o L} hb e k b1 o1 L1 e1 k1=>by
  obtain⟨hb1,o2,e2⟩ :=hkeys e1
  rw [low hb1]at k1
  exact apart e2 e k1 k (by omega)
 refine⟨_,w',⟨E.loc,EL.imm⟩,s1,⟨cv,rfl,?_⟩,⟨fun b o e=>?_,fun b b' o o' L L' e e' k k' hbl hne=>?_,fun b hb=>r.fresh b hb,r2.imm,fun b o L e k=>?_,fun b o e=> (hlook e).1⟩,
  ⟨fun _ _=>rfl,hEE.2,x2.size,fun i hi hn=>?_,fun b' o' L' e k hlt=>?_,Nat.le_refl _,x2.os,x2.tape,x2.output,x2.froz,fun k C e hk=>?_,fun b o e hb=>?_⟩⟩
 ·exact VR.of_p (E:= ⟨E.loc,EL.imm⟩) (show VR (Emb.p ⟨E.loc,EL.imm⟩) v cv from eS (E:=EL) hv g2)
 · obtain⟨hb,_,q1,q2⟩ :=hlook e
   rcases Nat.lt_or_ge b nb with g|g
   · rcases r2.obj0 b o (q1 g)with⟨u1,u2⟩ | ⟨L,k1,k2⟩
     ·rw [eL g]at u2;exact .inl ⟨u1,u2⟩
     ·rw [eL g]at k1;exact .inr ⟨L,k1,k2.mono hELE⟩
   · rcases r.obj0 b o (q2 g)with u| ⟨L,k1,k2⟩
     ·exact .inl u
     ·exact .inr ⟨L,k1,(k2.mono hEE).heap (x2.keep _ k2.lt (away g (q2 g) k1))⟩
 · obtain⟨hb,ho,q1,q2⟩ :=hlook e
   obtain⟨hb',ho',q1',q2'⟩ :=hlook e'
   have mixed:∀ {b b' o o' L L'},b<nb→nb≤b'→ (aA l' nb).look b=some o→ (aA (l++x) n2).look b'=some o'→E b=some L→E b'=some L'→L.blk≠L'.blk:=fun {b b' o o' L L'} h1 h2 e e' k k' hbl=>by
    have hlt:L.blk<w.heap.size:=by rw [hbl];exact r.lt e' k'
    obtain⟨b1,o1,L1,a1,a2,a3⟩ :=x2.own b o L e (by rw [eL h1];exact k) hlt
    exact away h2 e' k' b1 o1 L1 a1 a2 (a3.trans hbl)
   rcases Nat.lt_or_ge b nb with g|g
   · rcases Nat.lt_or_ge b' nb with g'|g'
     ·exact r2.kin b b' o o' L L' (q1 g) (q1' g') (by rw [eL g];exact k) (by rw [eL g'];exact k') hbl hne
     ·exact absurd hbl (mixed g g' (q1 g) (q2' g') k k')
   · rcases Nat.lt_or_ge b' nb with g'|g'
     ·exact absurd hbl.symm (mixed g' g (q1' g') (q2 g) k' k)
     ·exact r.kin b b' o o' L L' (q2 g) (q2' g') k k' hbl hne
 · obtain⟨hb,_,q1,q2⟩ :=hlook e
   show EL.imm L.blk=none
   rcases Nat.lt_or_ge b nb with g|g
   ·exact r2.apart b o L (q1 g) (by rw [eL g];exact k)
   · cases hi:EL.imm L.blk with
     |none=>rfl
     | some C=>
      rcases x2.immo _ C hi (r.lt (q2 g) k)with a| ⟨b1,o1,L1,a1,a2,a3⟩
      · have:=r.apart b o L (q2 g) k
        rw [show(E.ren (iD nb nb n2 [])).imm=E.imm from rfl]at a
        rw [this]at a;cases a
      ·exact absurd a3 (away g (q2 g) k b1 o1 L1 a1 a2)
 · refine x2.keep i hi (fun b o L e k=>?_)
   obtain⟨hb,o1,e1⟩ :=hkeys e
   rw [low hb]at k
   exact hn b o1 L e1 k
 · obtain⟨hb,_,q1,q2⟩ :=hlook e
   rcases Nat.lt_or_ge b' nb with g|g
   · obtain⟨b1,o1,L1,a1,a2,a3⟩ :=x2.own b' o' L' (q1 g) (by rw [eL g];exact k) hlt
     obtain⟨hb1,o2,e2⟩ :=hkeys a1
     rw [low hb1]at a2
     exact⟨b1,o2,L1,e2,a2,a3⟩
   ·exact⟨b',o',L',q2 g,k,rfl⟩
 · rcases x2.immo k C e hk with a| ⟨b1,o1,L1,a1,a2,a3⟩
   ·exact .inl a
   · obtain⟨hb1,o2,e2⟩ :=hkeys a1
     rw [low hb1]at a2
     exact .inr ⟨b1,o2,L1,e2,a2,a3⟩
 · obtain⟨_,_,q1,q2⟩ :=hlook e
   rcases Nat.lt_or_ge b nb with g|g
   · obtain⟨o0,e0⟩ :=x2.keys b o (q1 g) g
     exact⟨_,(hkeys e0).2.choose_spec⟩
   ·exact⟨o,q2 g⟩
end
end Go.Hb
namespace Go.Hb
variable {P :Program}
noncomputable section
theorem vL {o:AObj}(h:o.kl) :dA o= [] :=by cases o<;>first|rfl|exact h.elim
def aCR (nb nb':Nat) :List (Nat×AObj×Bool) →Bool
 | [] =>true
 |p::r=>Nat.ble nb p.1&&Nat.blt p.1 nb'&&p.2.2&&aCR nb nb' r
theorem aCa {nb nb':Nat}:∀ {l:List (Nat×AObj×Bool)},aCR nb nb' l=true→∀p∈l,nb≤p.1∧p.1<nb'∧p.2.2=true
 | q::r,h,p,hp=>by
  simp only [aCR,Bool.and_eq_true,dH,jG,decide_eq_true_eq]at h
  rcases List.mem_cons.1 hp with rfl|hp
  ·exact⟨h.1.1.1,h.1.1.2,h.1.2⟩
  ·exact aCa h.2 p hp
end
end Go.Hb
namespace Go.Hb
variable {P :Program}
noncomputable section
def aQW (n2:Nat)(l:List (Nat×AObj×Bool)) :List (Nat×AObj×Bool) :=l.map fun p=> (p.1+n2,p.2.1,p.2.2)
def aAI (ks:List Nat) :List (Nat×AObj×Bool) →Bool
 | [] =>true
 |p::r=> !(uG p.1 ks) &&aAI ks r
theorem aAJ {ks:List Nat}:∀ {l:List (Nat×AObj×Bool)},aAI ks l=true→∀p∈l,p.1∉ks
 | q ::r,h,p,hp=>by
  simp only [aAI,Bool.and_eq_true,Bool.not_eq_true']at h
  rcases List.mem_cons.1 hp with rfl|hp
  · intro hm
    rw [(vK _ _).2 hm]at h;cases h.1
  ·exact aAJ h.2 p hp
theorem aBz {τ:Nat→Nat}{h h':Hp}{f:Nat}{args args':List AV}{g:AFrame}(hg:gC P h (.enter f args) =some g)(ha:AV.renL τ args=args') :
  ∃g',gC P h' (.enter f args') =some g'∧∀ {E:Emb} {fr:Frame},FR E g' fr→FR (E.ren τ) g fr:=by
 have hlen:∀ (l:List AV),(AV.renL τ l).length=l.length:=by
  intro l
  induction l with
  |nil=>rfl
  |cons x l ih=>simp [AV.renL,ih]
 have hget:∀ (l:List AV) (i:Nat) (x:AV),l[i]?=some x→ (AV.renL τ l)[i]?=some (AV.ren τ x) :=by
  intro l
  induction l with
  |nil=>intro i x hx;simp at hx
  | cons y l ih=>
   intro i x hx
   cases i with
   |zero=>simp at hx;subst hx;simp [AV.renL]
   |succ i=>simp only [AV.renL,List.getElem?_cons_succ]at hx ⊢;exact ih i x hx
 subst ha
 simp only [gC,eP]at hg ⊢
 split at hg
 · rename_i fn hfn
   split at hg
   · rename_i c hc
     cases hg
     refine⟨_,rfl,fun {E fr} fr'=>?_⟩
     refine⟨fr'.fn,⟨by have:=fr'.tm.1;rw [hlen]at this;exact this,fun t a e=>?_⟩,?_,?_,fr'.mode,fr'.kind,?_⟩
     · have ht:t<args.length∧args[t]?=some a:=by
        have e': (jF .leaf 0 args).at t=some a:=e
        unfold jF at e'
        rw [dX]at e'
        split at e'
        ·rename_i hlt;exact⟨hlt,e'⟩
        ·cases e'
       obtain⟨cv,g1,g2⟩ :=fr'.tm.2 t (AV.ren τ a) (by
        show(jF .leaf 0 (AV.renL τ args)).at t=_
        unfold jF
        rw [dX,if_pos (by rw [hlen];exact ht.1)]
        exact hget args t a ht.2)
       exact⟨cv,g1,(eZ τ E a cv).1 g2⟩
     ·have:=fr'.todo;simpa [IRs,IR]using this
     ·have:=fr'.defers;simpa [DRs]using this
     ·have:=fr'.round;simpa [RR]using this
   ·cases hg
 ·cases hg
def aI5 (P:Program)(c:AIn)(h:Hp)(res:Res)(h':Hp) :Prop:=∃g,gC P h c=some g∧Ends P 0 ⟨g,[],h⟩ res h'
theorem aAK {f:Nat}{args args':List AV}{v:AV}{l l' lc x:List (Nat×AObj×Bool)}{nb nb' n2:Nat}{ks:List Nat}
  (h0:aI5 P (.enter f args) (aA l nb) (.ret v) (aA l' nb')) (hargs:AV.renL (iD 0 nb n2 ks) args=args')
  (hin:eI 0 ⟨⟨0,0,[],[],[],.run,.normal,none⟩,[],l,nb⟩ ks=true) (hl:aAH (aA lc n2) (iD 0 nb n2 ks) l=pF (iD 0 nb n2 ks) l) (hkl:nP l)
  (hx:kD n2 lc=true) (hxs:rQ x= (x.map fun p=> (aA lc n2).look p.1)) (hxk:aAI ks x=true)
  (hnew:aCR 0 nb' l'=true) (hkl':nP l') (hll:rQ l'= (l'.map fun p=> (aA l' nb').look p.1)) :
  Spec P (.enter f args') (aA lc n2) (.ret (AV.ren (fun b=>b+n2) v)) (aA (aQW n2 l'++x) (nb'+n2)) :=by
 obtain⟨g,hg,he⟩ :=h0
 obtain⟨g',hg',hfr⟩ :=aBz (h':=aA lc n2) hg hargs
 refine⟨g',hg',?_⟩
 intro _ E fr ccs w fr' fs r cl base
 have allH_get:∀ {k:Hp} {l:List (Nat×AObj×Bool)},rQ l= (l.map fun p=>k.look p.1) →∀p∈l,k.look p.1=some p.2.1:=by
  intro k l
  induction l with
  |nil=>intro _ p hp;cases hp
  | cons q l ih=>
   intro h p hp
   simp only [rQ,List.map_cons,List.cons.injEq]at h
   rcases List.mem_cons.1 hp with rfl|hp
   ·exact h.1.symm
   ·exact ih h.2 p hp
 have hlenks:ks.length=nb:=by
  simp only [eI,Bool.and_eq_true]at hin
  have:=Nat.eq_of_beq_eq_true hin.1.1.1.2
  simpa using this
 have hkeys:∀ {b o},(aA l nb).look b=some o→b<nb∧iD 0 nb n2 ks b∈ks∧∃o1,(aA lc n2).look (iD 0 nb n2 ks b) =some o1:=fun {b o} e=>by
  obtain⟨fl,hm⟩ :=iQ e
  have hb:b<nb:=by
   simp only [eI,Bool.and_eq_true]at hin
   exact(cO hin.2 _ hm).1
  refine⟨hb,?_,_,lN hl _ hm⟩
  rw [qD (Nat.zero_le b) hb]
  rw [Nat.sub_zero,List.getD_eq_getElem?_getD,List.getElem?_eq_getElem (by omega)]
  exact List.getElem_mem ..
 have nool:∀ {b o},(aA lc n2).look b=some o→b<n2∧dA o= [] :=fun {b o} e=>by
  obtain⟨fl,hm⟩ :=iQ e
  exact cO hx _ hm
 have apart:∀ {b b' o o' L L'},(aA lc n2).look b=some o→ (aA lc n2).look b'=some o'→E b=some L→E b'=some L'→b≠b'→L.blk≠L'.blk:=fun {b b' o o' L L'} e e' k k' hne hbl=>by
  have:=r.kin b b' o o' L L' e e' k k' hbl hne
  unfold Kin at this
  rw [(nool e).2,(nool e').2]at this
  rcases this with⟨g,_⟩ | ⟨g,_⟩ <;>simp at g
 obtain⟨rL,_⟩ :=rP (h:=aA lc n2) hin hl hkl r
 have frL:=hfr fr'
 rw [fs.nil_inv]
 obtain⟨cl',w',EL,s1,⟨cv,rfl,g2⟩,r2,x2⟩ :=he (Nat.zero_le _) (E.ren (iD 0 nb n2 ks)) fr [] w frL rfl rL cl base
 let E':Emb:= ⟨fun b=>if b<n2 then E b else EL (b-n2),EL.imm⟩
 have e1:∀ {b},b<n2→E' b=E b:=fun {b} hb=>if_pos hb
 have e2:∀ {b},n2≤b→E' b=EL (b-n2) :=fun {b} hb=>if_neg (by omega)
 have hEE:E.le E':= ⟨fun b L e=>by rw [e1 (r.nb_gt e)];exact e,fun k C e=>x2.imm k C e⟩
 have hsig:EL.le (E'.ren (fun b=>b+n2)) :=by
  refine⟨fun b L e=>?_,fun _ _ e=>e⟩
  show E' (b+n2) =some L
  rw [e2 (by omega),show b+n2-n2=b by omega];exact e
 have hlook:∀ {b o},(aA (aQW n2 l'++x) (nb'+n2)).look b=some o→ (n2≤b∧b<nb'+n2∧ (aA l' nb').look (b-n2) =some o∧o.kl) ∨ (b∉ks∧b<n2∧ (aA lc n2).look b=some o) :=fun {b o} e=>by
  obtain⟨fl,hm⟩ :=iQ e
  rcases List.mem_append.1 hm with hm|hm
  · obtain⟨⟨pb,po,pf⟩,hp,hpe⟩ :=List.mem_map.1 hm
    cases hpe
    obtain⟨q1,q2,q3⟩ :=aCa hnew _ hp
    simp only at q1 q2 q3
    subst q3
    refine .inl ⟨by omega,by omega,?_,lM hkl' pb po hp⟩
    rw [show pb+n2-n2=pb by omega]
    exact allH_get hll _ hp
  · have q:=allH_get hxs _ hm
    exact .inr ⟨aAJ hxk _ hm,(nool q).1,q⟩
 have away:∀ {b o L},b∉ks→ (aA lc n2).look b=some o→E b=some L→∀b1 o1 L1,(aA l nb).look b1=some o1→ (E.ren (iD 0 nb n2 ks)) b1=some L1→L1.blk≠L.blk:=fun {b o L} hb e k b1 o1 L1 e1' k1=>by
  obtain⟨_,hin1,o2,e2'⟩ :=hkeys e1'
  exact apart e2' e k1 k (fun h=>hb (h ▸ hin1))
 have mixed:∀ {b b' o o' L L'},b'∉ks→ (aA l' nb').look (b-n2) =some o→ (aA lc n2).look b'=some o'→EL (b-n2) =some L→E b'=some L'→L.blk≠L'.blk:=fun {b b' o o' L L'} h2 e e' k k' hbl=>by
  have hlt:L.blk<w.heap.size:=by rw [hbl];exact r.lt e' k'
  obtain⟨b1,o1,L1,a1,a2,a3⟩ :=x2.own _ o L e k hlt
  exact away h2 e' k' b1 o1 L1 a1 a2 (a3.trans hbl)
 have hnb2: (aA lc n2).nb=n2:=rfl
 refine⟨_,w',E',s1,⟨cv,rfl,(eZ _ E' v cv).2 (g2.mono hsig)⟩,⟨fun b o e=>?_,fun b b' o o' L L' e e' k k' hbl hne=>?_,fun b hb=>?_,r2.imm,fun b o L e k=>?_,fun b o e=>?_⟩,
  ⟨fun b hb=>e1 hb,hEE.2,x2.size,fun i hi hn=>?_,fun b' o' L' e k hlt=>?_,?_,x2.os,x2.tape,x2.output,x2.froz,fun k C e hk=>?_,fun b o e hb=>?_⟩⟩
 · rcases hlook e with⟨q1,q2,q3,q4⟩ | ⟨q1,q2,q3⟩
   · rcases r2.obj0 _ o q3 with⟨u1,u2⟩ | ⟨L,k1,k2⟩
     ·exact .inl ⟨u1,by rw [e2 q1];exact u2⟩
     ·exact .inr ⟨L,by rw [e2 q1];exact k1,aNO (E:=EL) (E':=E') rfl q4 k2⟩
   · rcases r.obj0 b o q3 with⟨u1,u2⟩ | ⟨L,k1,k2⟩
     ·exact .inl ⟨u1,by rw [e1 q2];exact u2⟩
     ·exact .inr ⟨L,by rw [e1 q2];exact k1,(k2.mono hEE).heap (x2.keep _ k2.lt (away q1 q3 k1))⟩
 · rcases hlook e with⟨q1,q2,q3,q4⟩ | ⟨q1,q2,q3⟩
   · rw [e2 q1]at k
     rcases hlook e' with⟨p1,p2,p3,p4⟩ | ⟨p1,p2,p3⟩
     · rw [e2 p1]at k'
       exact absurd (r2.kin (b-n2) (b'-n2) o o' L L' q3 p3 k k' hbl (by omega)) (by unfold Kin;rw [vL q4,vL p4];simp)
     · rw [e1 p2]at k'
       exact absurd hbl (mixed p1 q3 p3 k k')
   · rw [e1 q2]at k
     rcases hlook e' with⟨p1,p2,p3,p4⟩ | ⟨p1,p2,p3⟩
     · rw [e2 p1]at k'
       exact absurd hbl.symm (mixed q1 p3 q3 k' k)
     · rw [e1 p2]at k'
       exact r.kin b b' o o' L L' q3 p3 k k' hbl hne
 · have hb:nb'+n2≤b:=hb
   rw [e2 (by omega)]
   exact r2.fresh _ (by show nb'≤_;omega)
 · show EL.imm L.blk=none
   rcases hlook e with⟨q1,q2,q3,q4⟩ | ⟨q1,q2,q3⟩
   · rw [e2 q1]at k
     exact r2.apart _ o L q3 k
   · rw [e1 q2]at k
     cases hi:EL.imm L.blk with
     |none=>rfl
     | some C=>
      rcases x2.immo _ C hi (r.lt q3 k)with a| ⟨b1,o1,L1,a1,a2,a3⟩
      · have:=r.apart b o L q3 k
        rw [show(E.ren (iD 0 nb n2 ks)).imm=E.imm from rfl]at a
        rw [this]at a;cases a
      ·exact absurd a3 (away q1 q3 k b1 o1 L1 a1 a2)
 · rcases hlook e with⟨q1,q2,_⟩ | ⟨q1,q2,_⟩
   ·exact q2
   ·show b<nb'+n2;omega
 · refine x2.keep i hi (fun b o L e k=>?_)
   obtain⟨_,_,o1,e1'⟩ :=hkeys e
   exact hn _ o1 L e1' k
 · rcases hlook e with⟨q1,q2,q3,q4⟩ | ⟨q1,q2,q3⟩
   · rw [e2 q1]at k
     obtain⟨b1,o1,L1,a1,a2,a3⟩ :=x2.own _ o' L' q3 k hlt
     obtain⟨_,_,o2,e2'⟩ :=hkeys a1
     exact⟨_,o2,L1,e2',a2,a3⟩
   · rw [e1 q2]at k
     exact⟨b',o',L',q3,k,rfl⟩
 ·show n2≤nb'+n2;omega
 · rcases x2.immo k C e hk with a| ⟨b1,o1,L1,a1,a2,a3⟩
   ·exact .inl a
   · obtain⟨_,_,o2,e2'⟩ :=hkeys a1
     exact .inr ⟨_,o2,L1,e2',a2,a3⟩
 · have hb:b<n2:=hb
   rcases hlook e with⟨q1,_⟩ | ⟨_,_,q3⟩
   ·omega
   ·exact⟨o,q3⟩
end
end Go.Hb
namespace Go.Hb
variable {P :Program}
noncomputable section
theorem aI6 {τ:Nat→Nat}{E:Emb}:∀ {es:List (AV×AV×Nat)} {us:List MapEntry},ERs (E.ren τ) es us→ERs E (es.map fun p=> (AV.ren τ p.1,AV.ren τ p.2.1,p.2.2)) us
 | [],_,r=>by simpa [ERs]using r
 | e::es,_,r=>by
  simp only [ERs]at r
  simp only [List.map_cons,ERs]
  obtain⟨u,us',h1,h2,h3,h4,h5⟩ :=r
  exact⟨u,us',h1,(eZ τ E _ _).2 h2,(eZ τ E _ _).2 h3,h4,aI6 h5⟩
def plainO :AObj→Bool
 | .cells .. | .map .. | .mapx .. | .lst .. | .loop .. | .defd .. =>true
 |_=>false
theorem aNV {τ:Nat→Nat}{E:Emb}{H:Array Obj}{L:Loc}{o:AObj}(hp:plainO o=true)(r:OR (E.ren τ) H L o) :OR E H L (o.ren τ) :=by
 cases o with
 | cells t n ol sup=>
  obtain⟨C,el,h1,h2,h3⟩ :=r
  refine⟨C,el,h1,h2,fun i a e=>?_⟩
  rw [aCQ]at e
  cases ht:t.at i with
  |none=>rw [ht]at e;cases e
  | some a0=>
   rw [ht]at e;cases e
   obtain⟨g1,v,g2,g3⟩ :=h3 i a0 ht
   exact⟨g1,v,g2,(eZ τ E a0 v).2 g3⟩
 |map es c=>obtain⟨ES,h1,h2⟩ :=r;exact⟨ES,h1,aI6 h2⟩
 | mapx es c k v=>
  obtain⟨ES,h1,h2,h3⟩ :=r
  refine⟨ES,h1,?_,h3⟩
  obtain⟨us,vs,e1,e2,e3⟩ :=ERs.split h2
  rw [e1]
  refine ERs.join (h3 (E.ren τ) E us rfl e2) ?_
  simp only [ERs]at e3 ⊢
  obtain⟨u,us',q1,q2,q3,q4,q5⟩ :=e3
  exact⟨u,us',q1,(eZ τ E _ _).2 q2,(eZ τ E _ _).2 q3,q4,q5⟩
 |lst e xs=>obtain⟨C,el,vs,h1,h2,h3,h4⟩ :=r;exact⟨C,el,vs,h1,h2,(nH τ E xs vs).2 h3,h4⟩
 |defd t=>exact r
 | loop st pe fn tm nt ps aS bd df=>
  obtain⟨tmps,Ld,h1,h2,h3⟩ :=r
  refine⟨tmps,Ld,h1,h2,h3.1,fun t a e=>?_⟩
  rw [aCQ]at e
  cases ht:tm.at t with
  |none=>rw [ht]at e;cases e
  | some a0=>
   rw [ht]at e;cases e
   obtain⟨cv,g1,g2⟩ :=h3.2 t a0 ht
   exact⟨cv,g1,(eZ τ E a0 cv).2 g2⟩
 |_=>cases hp
def aBA :List (Nat×AObj×Bool) →Bool
 | [] =>true
 |p::r=> (p.2.2||plainO p.2.1) &&aBA r
theorem yY :∀ {l:List (Nat×AObj×Bool)},aBA l=true→∀p∈l,p.2.2=true∨plainO p.2.1=true
 | q::r,h,p,hp=>by
  simp only [aBA,Bool.and_eq_true,Bool.or_eq_true]at h
  rcases List.mem_cons.1 hp with rfl|hp
  ·exact h.1
  ·exact yY h.2 p hp
def namesT (τ:Nat→Nat) :List (Nat×AObj×Bool) →List Nat
 | [] =>[]
 |p::r=>τ p.1::namesT τ r
theorem yZ {τ:Nat→Nat}{b:Nat}:∀ {l:List (Nat×AObj×Bool)},b∈namesT τ l→∃p∈l,τ p.1=b
 | q ::r,h=>by
  rcases List.mem_cons.1 h with e|h
  ·exact⟨q,List.mem_cons_self ..,e.symm⟩
  · obtain⟨p,hp,e⟩ :=yZ h
    exact⟨p,List.mem_cons_of_mem _ hp,e⟩
def aFO (names ks:List Nat)(h1:Hp) :List (Nat×AObj×Bool) →List (Option AObj)
 | [] =>[]
 |p::r=> (bif uG p.1 names then some p.2.1 else bif uG p.1 ks then none else h1.look p.1) ::aFO names ks h1 r
theorem aBB {names ks:List Nat}{h1:Hp}:∀ {l:List (Nat×AObj×Bool)},aFO names ks h1 l=rQ l→∀p∈l,p.1∈names∨ (p.1∉ks∧h1.look p.1=some p.2.1)
 | q ::r,h,p,hp=>by
  simp only [aFO,rQ,List.cons.injEq]at h
  rcases List.mem_cons.1 hp with rfl|hp
  · cases hm:uG p.1 names with
    |true=>exact .inl ((vK _ _).1 hm)
    | false=>
     have h1:=h.1
     rw [hm]at h1
     simp only [cond]at h1
     cases hk:uG p.1 ks with
     |true=>rw [hk]at h1;cases h1
     | false=>
      rw [hk]at h1
      exact .inr ⟨fun hh=>by(rw [(vK _ _).2 hh]at hk;cases hk),h1⟩
  ·exact aBB h.2 p hp
theorem fS {f:Nat}{args args':List AV}{v:AV}{l l' lc lc':List (Nat×AObj×Bool)}{nb n2:Nat}{ks:List Nat}
  (h0:Spec P (.enter f args) (aA l nb) (.ret v) (aA l' nb)) (hargs:AV.renL (iD 0 nb n2 ks) args=args') (hv:AV.keyless v=true)
  (hin:eI 0 ⟨⟨0,0,[],[],[],.run,.normal,none⟩,[],l,nb⟩ ks=true) (hl:aAH (aA lc n2) (iD 0 nb n2 ks) l=pF (iD 0 nb n2 ks) l) (hkl:nP l)
  (hl':aAH (aA lc' n2) (iD 0 nb n2 ks) l'=pF (iD 0 nb n2 ks) l') (hkl':nP l') (hpl:aBA l'=true) (hk':kD nb l'=true)
  (hx:kD n2 lc=true) (hx':kD n2 lc'=true) (hks:aI0 0 ks=true) (hlt:ks.all (fun k=>Nat.blt k n2) =true) (hout:aFO (namesT (iD 0 nb n2 ks) l') ks (aA lc n2) lc'=rQ lc') (hll:rQ l'= (l'.map fun p=> (aA l' nb).look p.1)) :
  Spec P (.enter f args') (aA lc n2) (.ret v) (aA lc' n2) :=by
 obtain⟨g,hg,he⟩ :=h0
 obtain⟨g',hg',hfr⟩ :=aBz (h':=aA lc n2) hg hargs
 refine⟨g',hg',?_⟩
 intro _ E fr ccs w fr' fs r cl base
 have allH_get:∀ {k:Hp} {l:List (Nat×AObj×Bool)},rQ l= (l.map fun p=>k.look p.1) →∀p∈l,k.look p.1=some p.2.1:=by
  intro k l
  induction l with
  |nil=>intro _ p hp;cases hp
  | cons q l ih=>
   intro h p hp
   simp only [rQ,List.map_cons,List.cons.injEq]at h
   rcases List.mem_cons.1 hp with rfl|hp
   ·exact h.1.symm
   ·exact ih h.2 p hp
 have hlenks:ks.length=nb:=by
  simp only [eI,Bool.and_eq_true]at hin
  have:=Nat.eq_of_beq_eq_true hin.1.1.1.2
  simpa using this
 have hnd:aIZ ks=true:=by
  simp only [eI,Bool.and_eq_true]at hin
  exact hin.1.1.2
 have tin:∀ {b},b<nb→iD 0 nb n2 ks b∈ks:=fun {b} hb=>by
  rw [qD (Nat.zero_le b) hb,Nat.sub_zero,List.getD_eq_getElem?_getD,List.getElem?_eq_getElem (by omega)]
  exact List.getElem_mem ..
 have tinj:∀ {b b'},b<nb→b'<nb→iD 0 nb n2 ks b=iD 0 nb n2 ks b'→b=b':=fun {b b'} h1 h2 e=>by
  rw [qD (Nat.zero_le b) h1,qD (Nat.zero_le b') h2,Nat.sub_zero,Nat.sub_zero]at e
  exact aBx hnd b b' (by omega) (by omega) e
 have hkeys:∀ {b o},(aA l nb).look b=some o→b<nb∧∃o1,(aA lc n2).look (iD 0 nb n2 ks b) =some o1:=fun {b o} e=>by
  obtain⟨fl,hm⟩ :=iQ e
  have hb:b<nb:=by
   simp only [eI,Bool.and_eq_true]at hin
   exact(cO hin.2 _ hm).1
  exact⟨hb,_,lN hl _ hm⟩
 have nool:∀ {b o},(aA lc n2).look b=some o→b<n2∧dA o= [] :=fun {b o} e=>by
  obtain⟨fl,hm⟩ :=iQ e
  exact cO hx _ hm
 have apart:∀ {b b' o o' L L'},(aA lc n2).look b=some o→ (aA lc n2).look b'=some o'→E b=some L→E b'=some L'→b≠b'→L.blk≠L'.blk:=fun {b b' o o' L L'} e e' k k' hne hbl=>by
  have:=r.kin b b' o o' L L' e e' k k' hbl hne
  unfold Kin at this
  rw [(nool e).2,(nool e').2]at this
  rcases this with⟨g,_⟩ | ⟨g,_⟩ <;>simp at g
 obtain⟨rL,_⟩ :=rP (h:=aA lc n2) hin hl hkl r
 have frL:=hfr fr'
 rw [fs.nil_inv]
 obtain⟨cl',w',EL,s1,⟨cv,rfl,g2⟩,r2,x2⟩ :=he (Nat.le_refl _) (E.ren (iD 0 nb n2 ks)) fr [] w frL rfl rL cl base
 have hnb: (aA l nb).nb=nb:=rfl
 rw [hnb]at x2
 have eL:∀ {b},b<nb→EL b=E (iD 0 nb n2 ks b) :=fun {b} hb=>x2.low b hb
 have eLhi:∀ {b},nb≤b→EL b=none:=fun {b} hb=>r2.fresh b hb
 let E1:Emb:= ⟨E.loc,EL.imm⟩
 have hELE:EL.le (E1.ren (iD 0 nb n2 ks)) :=by
  refine⟨fun b L e=>?_,fun _ _ e=>e⟩
  rcases Nat.lt_or_ge b nb with hb|hb
  ·rw [eL hb]at e;exact e
  ·rw [eLhi hb]at e;cases e
 have hEE:E.le E1:= ⟨fun _ _ e=>e,fun k C e=>x2.imm k C e⟩
 have hlook:∀ {b o},(aA lc' n2).look b=some o→b<n2∧dA o= [] ∧ ((∃i q f,i<nb∧iD 0 nb n2 ks i=b∧ (aA l' nb).look i=some q∧o= (bif f then q else q.ren (iD 0 nb n2 ks)) ∧ (f=true→q.kl) ∧ (f=true∨plainO q=true)) ∨ (b∉ks∧ (aA lc n2).look b=some o)) :=fun {b o} e=>by
  obtain⟨fl,hm⟩ :=iQ e
  refine⟨(cO hx' _ hm).1,(cO hx' _ hm).2,?_⟩
  rcases aBB hout _ hm with hn|hn
  · obtain⟨⟨i,q,f⟩,hp,ht⟩ :=yZ hn
    have hi:= (cO hk' _ hp).1
    have hw:=lN hl' _ hp
    simp only at ht hw hi
    rw [ht,e]at hw
    cases hw
    exact .inl ⟨i,q,f,hi,ht,allH_get hll _ hp,rfl,fun hf=>by subst hf;exact lM hkl' i q hp,yY hpl _ hp⟩
  ·exact .inr hn
 have away:∀ {b o L},b∉ks→ (aA lc n2).look b=some o→E b=some L→∀b1 o1 L1,(aA l nb).look b1=some o1→ (E.ren (iD 0 nb n2 ks)) b1=some L1→L1.blk≠L.blk:=fun {b o L} hb e k b1 o1 L1 e1' k1=>by
  obtain⟨hb1,o2,e2'⟩ :=hkeys e1'
  exact apart e2' e k1 k (fun h=>hb (h ▸ tin hb1))
 have mixed:∀ {i b' q o' L L'},i<nb→b'∉ks→ (aA l' nb).look i=some q→ (aA lc n2).look b'=some o'→E (iD 0 nb n2 ks i) =some L→E b'=some L'→L.blk≠L'.blk:=fun {i b' q o' L L'} h1 h2 e e' k k' hbl=>by
  have hlt:L.blk<w.heap.size:=by rw [hbl];exact r.lt e' k'
  obtain⟨b1,o1,L1,a1,a2,a3⟩ :=x2.own i q L e (by rw [eL h1];exact k) hlt
  exact away h2 e' k' b1 o1 L1 a1 a2 (a3.trans hbl)
 refine⟨_,w',E1,s1,⟨cv,rfl,?_⟩,⟨fun b o e=>?_,fun b b' o o' L L' e e' k k' hbl hne=>?_,fun b hb=>r.fresh b hb,r2.imm,fun b o L e k=>?_,fun b o e=> (hlook e).1⟩,
  ⟨fun _ _=>rfl,hEE.2,x2.size,fun i hi hn=>?_,fun b' o' L' e k hlt=>?_,Nat.le_refl _,x2.os,x2.tape,x2.output,x2.froz,fun k C e hk=>?_,fun b o e hb=>?_⟩⟩
 ·exact VR.of_p (E:=E1) (show VR (Emb.p E1) v cv from eS (E:=EL) hv g2)
 · obtain ⟨hb,_,h⟩ :=hlook e
   rcases h with⟨i,q,f,hi,ht,hq,ho,hf,hpo⟩ | ⟨hb',hq⟩
   · subst ht
     rcases r2.obj0 i q hq with⟨u1,u2⟩ | ⟨L,k1,k2⟩
     · rw [eL hi]at u2
       refine .inl ⟨?_,u2⟩
       rw [ho]
       cases f with
       |true=>exact u1
       | false=>cases q with
        | lst e xs=>cases xs with
         |nil=>rfl
         |cons x xs=>cases u1
        |_=>cases u1
     · rw [eL hi]at k1
       refine .inr ⟨L,k1,?_⟩
       rw [ho]
       cases f with
       |true=>exact aNO (E:=EL) (E':=E1) rfl (hf rfl) k2
       | false=>
        rcases hpo with hh|hh
        ·cases hh
        ·exact aNV hh (k2.mono hELE)
   · rcases r.obj0 b o hq with u| ⟨L,k1,k2⟩
     ·exact .inl u
     ·exact .inr ⟨L,k1,(k2.mono hEE).heap (x2.keep _ k2.lt (away hb' hq k1))⟩
 · obtain⟨hb,hol,h⟩ :=hlook e
   obtain⟨hb',hol',h'⟩ :=hlook e'
   have hkin:∀ {o:AObj} {f:Bool} {q:AObj},o= (bif f then q else q.ren (iD 0 nb n2 ks)) → (f=true→q.kl) → (f=true∨plainO q=true) →dA o= [] →dA q= [] :=fun {o f q} ho hf hpo hol=>by
    cases f with
    |true=>subst ho;exact hol
    | false=>
     subst ho
     cases q with
     | cells t n ol sup=>
      have:ol.map (iD 0 nb n2 ks) = [] :=hol
      exact List.map_eq_nil_iff.1 this
     |_=>rfl
   rcases h with⟨i,q,f,hi,ht,hq,ho,hf,hpo⟩ | ⟨hn,hq⟩
   · rcases h' with⟨i',q',f',hi',ht',hq',ho',hf',hpo'⟩ | ⟨hn',hq'⟩
     · subst ht ht'
       have:=r2.kin i i' q q' L L' hq hq' (by rw [eL hi];exact k) (by rw [eL hi'];exact k') hbl (fun e=>hne (by rw [e]))
       unfold Kin at this
       rw [hkin ho hf hpo hol,hkin ho' hf' hpo' hol']at this
       rcases this with⟨g,_⟩ | ⟨g,_⟩ <;>simp at g
     · subst ht
       exact absurd hbl (mixed hi hn' hq hq' k k')
   · rcases h' with⟨i',q',f',hi',ht',hq',ho',hf',hpo'⟩ | ⟨hn',hq'⟩
     · subst ht'
       exact absurd hbl.symm (mixed hi' hn hq' hq k' k)
     ·exact r.kin b b' o o' L L' hq hq' k k' hbl hne
 · obtain⟨hb,_,h⟩ :=hlook e
   show EL.imm L.blk=none
   rcases h with⟨i,q,f,hi,ht,hq,ho,hf,hpo⟩ | ⟨hn,hq⟩
   · subst ht
     exact r2.apart i q L hq (by rw [eL hi];exact k)
   · cases hi:EL.imm L.blk with
     |none=>rfl
     | some C=>
      rcases x2.immo _ C hi (r.lt hq k)with a| ⟨b1,o1,L1,a1,a2,a3⟩
      · have:=r.apart b o L hq k
        rw [show(E.ren (iD 0 nb n2 ks)).imm=E.imm from rfl]at a
        rw [this]at a;cases a
      ·exact absurd a3 (away hn hq k b1 o1 L1 a1 a2)
 · refine x2.keep i hi (fun b o L e k=>?_)
   obtain⟨hb,o1,e1'⟩ :=hkeys e
   exact hn _ o1 L e1' k
 · obtain⟨hb,_,h⟩ :=hlook e
   rcases h with⟨i,q,f,hi,ht,hq,ho,hf,hpo⟩ | ⟨hn,hq⟩
   · subst ht
     obtain⟨b1,o1,L1,a1,a2,a3⟩ :=x2.own i q L' hq (by rw [eL hi];exact k) hlt
     obtain⟨_,o2,e2'⟩ :=hkeys a1
     exact⟨_,o2,L1,e2',a2,a3⟩
   ·exact⟨b',o',L',hq,k,rfl⟩
 · rcases x2.immo k C e hk with a| ⟨b1,o1,L1,a1,a2,a3⟩
   ·exact .inl a
   · obtain⟨_,o2,e2'⟩ :=hkeys a1
     exact .inr ⟨_,o2,L1,e2',a2,a3⟩
 · obtain⟨_,_,h⟩ :=hlook e
   rcases h with⟨i,q,f,hi,ht,hq,ho,hf,hpo⟩ | ⟨hn,hq⟩
   · subst ht
     obtain⟨o0,e0⟩ :=x2.keys i q hq hi
     exact(hkeys e0).2
   ·exact⟨o,hq⟩
end
end Go.Hb
namespace Go.Hb
variable {P :Program}
noncomputable section
def aI7 (P:Program)(m:Nat)(c:AIn)(h:Hp)(res:Res)(h':Hp) :Prop:=∃g,gC P h c=some g∧Ends P m ⟨g,[],h⟩ res h'
def sY (m n2:Nat)(ks:List Nat)(b:Nat) :Nat:=bif Nat.blt b m then ks.getD b 0 else b-m+n2
theorem aQX {f:Nat}{args args':List AV}{v:AV}{l l' lc lc':List (Nat×AObj×Bool)}{m nb nb' n2:Nat}{ks:List Nat}
  (h0:aI7 P m (.enter f args) (aA l nb) (.ret v) (aA l' nb')) (hargs:AV.renL (iD 0 nb n2 ks) args=args') (hm:Nat.ble m nb=true) (hm':Nat.ble m nb'=true)
  (hin:eI 0 ⟨⟨0,0,[],[],[],.run,.normal,none⟩,[],l,nb⟩ ks=true) (hl:aAH (aA lc n2) (iD 0 nb n2 ks) l=pF (iD 0 nb n2 ks) l) (hkl:nP l)
  (hl':aAH (aA lc' (nb'-m+n2)) (sY m n2 ks) l'=pF (sY m n2 ks) l') (hkl':nP l') (hpl:aBA l'=true) (hk':kD nb' l'=true)
  (hx:kD n2 lc=true) (hx':kD (nb'-m+n2) lc'=true) (hlt:ks.all (fun k=>Nat.blt k n2) =true) (hout:aFO (namesT (sY m n2 ks) l') ks (aA lc n2) lc'=rQ lc') (hll:rQ l'= (l'.map fun p=> (aA l' nb').look p.1)) :
  Spec P (.enter f args') (aA lc n2) (.ret (AV.ren (sY m n2 ks) v)) (aA lc' (nb'-m+n2)) :=by
 obtain⟨g,hg,he⟩ :=h0
 obtain⟨g',hg',hfr⟩ :=aBz (h':=aA lc n2) hg hargs
 refine⟨g',hg',?_⟩
 intro _ E fr ccs w fr' fs r cl base
 have hm:=Nat.le_of_ble_eq_true hm
 have hm':=Nat.le_of_ble_eq_true hm'
 have allH_get:∀ {k:Hp} {l:List (Nat×AObj×Bool)},rQ l= (l.map fun p=>k.look p.1) →∀p∈l,k.look p.1=some p.2.1:=by
  intro k l
  induction l with
  |nil=>intro _ p hp;cases hp
  | cons q l ih=>
   intro h p hp
   simp only [rQ,List.map_cons,List.cons.injEq]at h
   rcases List.mem_cons.1 hp with rfl|hp
   ·exact h.1.symm
   ·exact ih h.2 p hp
 have hlenks:ks.length=nb:=by
  simp only [eI,Bool.and_eq_true]at hin
  have:=Nat.eq_of_beq_eq_true hin.1.1.1.2
  simpa using this
 have tget:∀ {b},b<nb→iD 0 nb n2 ks b=ks.getD b 0:=fun {b} hb=>by
  rw [qD (Nat.zero_le b) hb,Nat.sub_zero]
 have gin:∀ {b},b<nb→ks.getD b 0∈ks:=fun {b} hb=>by
  rw [List.getD_eq_getElem?_getD,List.getElem?_eq_getElem (by omega)]
  exact List.getElem_mem ..
 have glt:∀ {b},b<nb→ks.getD b 0<n2:=fun {b} hb=>by
  have:=List.all_eq_true.1 hlt _ (gin hb)
  rw [dH,decide_eq_true_eq]at this
  exact this
 have slo:∀ {b},b<m→sY m n2 ks b=ks.getD b 0:=fun {b} hb=>by unfold sY;rw [dH,decide_eq_true hb];rfl
 have shi:∀ {b},m≤b→sY m n2 ks b=b-m+n2:=fun {b} hb=>by unfold sY;rw [dH,decide_eq_false (by omega)];rfl
 have hkeys:∀ {b o},(aA l nb).look b=some o→b<nb∧∃o1,(aA lc n2).look (iD 0 nb n2 ks b) =some o1:=fun {b o} e=>by
  obtain⟨fl,hmm⟩ :=iQ e
  have hb:b<nb:=by
   simp only [eI,Bool.and_eq_true]at hin
   exact(cO hin.2 _ hmm).1
  exact⟨hb,_,lN hl _ hmm⟩
 have nool:∀ {b o},(aA lc n2).look b=some o→b<n2∧dA o= [] :=fun {b o} e=>by
  obtain⟨fl,hmm⟩ :=iQ e
  exact cO hx _ hmm
 have apart:∀ {b b' o o' L L'},(aA lc n2).look b=some o→ (aA lc n2).look b'=some o'→E b=some L→E b'=some L'→b≠b'→L.blk≠L'.blk:=fun {b b' o o' L L'} e e' k k' hne hbl=>by
  have:=r.kin b b' o o' L L' e e' k k' hbl hne
  unfold Kin at this
  rw [(nool e).2,(nool e').2]at this
  rcases this with⟨g,_⟩ | ⟨g,_⟩ <;>simp at g
 obtain⟨rL,_⟩ :=rP (h:=aA lc n2) hin hl hkl r
 have frL:=hfr fr'
 rw [fs.nil_inv]
 obtain⟨cl',w',EL,s1,⟨cv,rfl,g2⟩,r2,x2⟩ :=he hm (E.ren (iD 0 nb n2 ks)) fr [] w frL rfl rL cl base
 have eL:∀ {b},b<m→EL b=E (ks.getD b 0) :=fun {b} hb=>by
  rw [x2.low b hb]
  show E (iD 0 nb n2 ks b) =_
  rw [tget (by omega)]
 let E':Emb:= ⟨fun b=>if b<n2 then E b else EL (b-n2+m),EL.imm⟩
 have e1:∀ {b},b<n2→E' b=E b:=fun {b} hb=>if_pos hb
 have e2:∀ {b},n2≤b→E' b=EL (b-n2+m) :=fun {b} hb=>if_neg (by omega)
 have hE:∀b,E' (sY m n2 ks b) =EL b:=fun b=>by
  rcases Nat.lt_or_ge b m with hb|hb
  ·rw [slo hb,e1 (glt (by omega)),eL hb]
  ·rw [shi hb,e2 (by omega),show b-m+n2-n2+m=b by omega]
 have hsig:EL.le (E'.ren (sY m n2 ks)) := ⟨fun b L e=>by show E' (sY m n2 ks b) =some L;rw [hE];exact e,fun _ _ e=>e⟩
 have hEE:E.le E':= ⟨fun b L e=>by rw [e1 (r.nb_gt e)];exact e,fun k C e=>x2.imm k C e⟩
 have hlook:∀ {b o},(aA lc' (nb'-m+n2)).look b=some o→b<nb'-m+n2∧dA o= [] ∧ ((∃i q f,i<nb'∧sY m n2 ks i=b∧ (aA l' nb').look i=some q∧o= (bif f then q else q.ren (sY m n2 ks)) ∧ (f=true→q.kl) ∧ (f=true∨plainO q=true)) ∨ (b∉ks∧b<n2∧ (aA lc n2).look b=some o)) :=fun {b o} e=>by
  obtain⟨fl,hmm⟩ :=iQ e
  refine⟨(cO hx' _ hmm).1,(cO hx' _ hmm).2,?_⟩
  rcases aBB hout _ hmm with hn|hn
  · obtain⟨⟨i,q,f⟩,hp,ht⟩ :=yZ hn
    have hi:= (cO hk' _ hp).1
    have hw:=lN hl' _ hp
    simp only at ht hw hi
    rw [ht,e]at hw
    cases hw
    exact .inl ⟨i,q,f,hi,ht,allH_get hll _ hp,rfl,fun hf=>by subst hf;exact lM hkl' i q hp,yY hpl _ hp⟩
  ·exact .inr ⟨hn.1,(nool hn.2).1,hn.2⟩
 have away:∀ {b o L},b∉ks→ (aA lc n2).look b=some o→E b=some L→∀b1 o1 L1,(aA l nb).look b1=some o1→ (E.ren (iD 0 nb n2 ks)) b1=some L1→L1.blk≠L.blk:=fun {b o L} hb e k b1 o1 L1 e1' k1=>by
  obtain⟨hb1,o2,e2'⟩ :=hkeys e1'
  exact apart e2' e k1 k (fun h=>hb (h ▸ (tget hb1 ▸ gin hb1)))
 have mixed:∀ {i b' q o' L L'},b'∉ks→ (aA l' nb').look i=some q→ (aA lc n2).look b'=some o'→EL i=some L→E b'=some L'→L.blk≠L'.blk:=fun {i b' q o' L L'} h2 e e' k k' hbl=>by
  have hlt:L.blk<w.heap.size:=by rw [hbl];exact r.lt e' k'
  obtain⟨b1,o1,L1,a1,a2,a3⟩ :=x2.own i q L e k hlt
  exact away h2 e' k' b1 o1 L1 a1 a2 (a3.trans hbl)
 refine⟨_,w',E',s1,⟨cv,rfl,(eZ _ E' v cv).2 (g2.mono hsig)⟩,⟨fun b o e=>?_,fun b b' o o' L L' e e' k k' hbl hne=>?_,fun b hb=>?_,r2.imm,fun b o L e k=>?_,fun b o e=> (hlook e).1⟩,
  ⟨fun b hb=>e1 hb,hEE.2,x2.size,fun i hi hn=>?_,fun b' o' L' e k hlt=>?_,?_,x2.os,x2.tape,x2.output,x2.froz,fun k C e hk=>?_,fun b o e hb=>?_⟩⟩
 · obtain ⟨hb,_,h⟩ :=hlook e
   rcases h with⟨i,q,f,hi,ht,hq,ho,hf,hpo⟩ | ⟨hb',hb2,hq⟩
   · subst ht
     rcases r2.obj0 i q hq with⟨u1,u2⟩ | ⟨L,k1,k2⟩
     · refine .inl ⟨?_,by rw [hE];exact u2⟩
       rw [ho]
       cases f with
       |true=>exact u1
       | false=>cases q with
        | lst e xs=>cases xs with
         |nil=>rfl
         |cons x xs=>cases u1
        |_=>cases u1
     · refine .inr ⟨L,by rw [hE];exact k1,?_⟩
       rw [ho]
       cases f with
       |true=>exact aNO (E:=EL) (E':=E') rfl (hf rfl) k2
       | false=>
        rcases hpo with hh|hh
        ·cases hh
        ·exact aNV hh (k2.mono hsig)
   · rcases r.obj0 b o hq with⟨u1,u2⟩ | ⟨L,k1,k2⟩
     ·exact .inl ⟨u1,by rw [e1 hb2];exact u2⟩
     ·exact .inr ⟨L,by rw [e1 hb2];exact k1,(k2.mono hEE).heap (x2.keep _ k2.lt (away hb' hq k1))⟩
 · obtain⟨hb,hol,h⟩ :=hlook e
   obtain⟨hb',hol',h'⟩ :=hlook e'
   have hkin:∀ {o:AObj} {f:Bool} {q:AObj},o= (bif f then q else q.ren (sY m n2 ks)) →dA o= [] →dA q= [] :=fun {o f q} ho hol=>by
    cases f with
    |true=>subst ho;exact hol
    | false=>
     subst ho
     cases q with
     | cells t n ol sup=>
      have:ol.map (sY m n2 ks) = [] :=hol
      exact List.map_eq_nil_iff.1 this
     |_=>rfl
   rcases h with⟨i,q,f,hi,ht,hq,ho,hf,hpo⟩ | ⟨hn,hn2,hq⟩
   · subst ht
     rw [hE]at k
     rcases h' with⟨i',q',f',hi',ht',hq',ho',hf',hpo'⟩ | ⟨hn',hn2',hq'⟩
     · subst ht'
       rw [hE]at k'
       have:=r2.kin i i' q q' L L' hq hq' k k' hbl (fun e=>hne (by rw [e]))
       unfold Kin at this
       rw [hkin ho hol,hkin ho' hol']at this
       rcases this with⟨g,_⟩ | ⟨g,_⟩ <;>simp at g
     · rw [e1 hn2']at k'
       exact absurd hbl (mixed hn' hq hq' k k')
   · rw [e1 hn2]at k
     rcases h' with⟨i',q',f',hi',ht',hq',ho',hf',hpo'⟩ | ⟨hn',hn2',hq'⟩
     · subst ht'
       rw [hE]at k'
       exact absurd hbl.symm (mixed hn hq' hq k' k)
     · rw [e1 hn2']at k'
       exact r.kin b b' o o' L L' hq hq' k k' hbl hne
 · have hb:nb'-m+n2≤b:=hb
   rw [e2 (by omega)]
   exact r2.fresh _ (by show nb'≤_;omega)
 · obtain⟨hb,_,h⟩ :=hlook e
   show EL.imm L.blk=none
   rcases h with⟨i,q,f,hi,ht,hq,ho,hf,hpo⟩ | ⟨hn,hn2,hq⟩
   · subst ht
     rw [hE]at k
     exact r2.apart i q L hq k
   · rw [e1 hn2]at k
     cases hi:EL.imm L.blk with
     |none=>rfl
     | some C=>
      rcases x2.immo _ C hi (r.lt hq k)with a| ⟨b1,o1,L1,a1,a2,a3⟩
      · have:=r.apart b o L hq k
        rw [show(E.ren (iD 0 nb n2 ks)).imm=E.imm from rfl]at a
        rw [this]at a;cases a
      ·exact absurd a3 (away hn hq k b1 o1 L1 a1 a2)
 · refine x2.keep i hi (fun b o L e k=>?_)
   obtain⟨hb,o1,e1'⟩ :=hkeys e
   exact hn _ o1 L e1' k
 · obtain⟨hb,_,h⟩ :=hlook e
   rcases h with⟨i,q,f,hi,ht,hq,ho,hf,hpo⟩ | ⟨hn,hn2,hq⟩
   · subst ht
     rw [hE]at k
     obtain⟨b1,o1,L1,a1,a2,a3⟩ :=x2.own i q L' hq k hlt
     obtain⟨_,o2,e2'⟩ :=hkeys a1
     exact⟨_,o2,L1,e2',a2,a3⟩
   · rw [e1 hn2]at k
     exact⟨b',o',L',hq,k,rfl⟩
 ·show n2≤nb'-m+n2;omega
 · rcases x2.immo k C e hk with a| ⟨b1,o1,L1,a1,a2,a3⟩
   ·exact .inl a
   · obtain⟨_,o2,e2'⟩ :=hkeys a1
     exact .inr ⟨_,o2,L1,e2',a2,a3⟩
 · have hb:b<n2:=hb
   obtain⟨_,_,h⟩ :=hlook e
   rcases h with⟨i,q,f,hi,ht,hq,ho,hf,hpo⟩ | ⟨hn,hn2,hq⟩
   · rcases Nat.lt_or_ge i m with him|him
     · obtain⟨o0,e0⟩ :=x2.keys i q hq him
       obtain⟨hi2,o2,e2'⟩ :=hkeys e0
       rw [tget hi2,←slo him,ht]at e2'
       exact⟨o2,e2'⟩
     · rw [shi him]at ht
       omega
   ·exact⟨o,hq⟩
end
end Go.Hb
namespace Go.Hb
variable {P :Program}
noncomputable section
def aHt (fr:AFrame)(cs:List AFrame)(all:Array Oper)(i:Nat)(o:Oper)(rest:List Oper)(k:List AItem) :List (AV×Hp) →Option (List AS)
 | [] =>some []
 | p::ps=>match jB fr.tm fr.nt o.dst p.1,aHt fr cs all i o rest k ps with
  |some tm,some l=>some (⟨{fr with tm,todo:=.ops all (Nat.succ i) rest::k},cs,p.2⟩ ::l)
  |_,_=>none
def vM (s:AS) :Option (List AS) :=
 match s.fr.mode with
 | .run=>match s.fr.todo with
  | .ops all i (o::rest) ::k=>match bY s.fr.tm all.toList o with
   | some true=>match o.op with
    | .next it false=>match cF s.fr.tm it with
     | some (.ptr r 0) =>match aFw s.h r with
      |some l=>aHt s.fr s.cs all i o rest k l
      |none=>none
     |_=>none
    |_=>none
   |_=>none
  |_=>none
 |_=>none
theorem aDD {fr:AFrame}{cs:List AFrame}{all:Array Oper}{i:Nat}{o:Oper}{rest:List Oper}{k:List AItem}:∀ {ps:List (AV×Hp)} {l:List AS},aHt fr cs all i o rest k ps=some l→∀p∈ps,∃tm,jB fr.tm fr.nt o.dst p.1=some tm∧ (⟨{fr with tm,todo:=.ops all (Nat.succ i) rest::k},cs,p.2⟩ :AS) ∈l
 | [],_,_,p,hp=>by cases hp
 | q ::ps,l,h,p,hp=>by
  simp only [aHt]at h
  split at h
  · rename_i tm l' h1 h2
    cases h
    rcases List.mem_cons.1 hp with rfl|hp
    ·exact⟨tm,h1,List.mem_cons_self ..⟩
    · obtain⟨tm',g1,g2⟩ :=aDD h2 p hp
      exact⟨tm',g1,List.mem_cons_of_mem _ g2⟩
  ·cases h
theorem Goes.then {E:Emb}{h:Hp}{fr:Frame}{ccs:List Frame}{w:World}{base:List Frame}{a b:AS}(h1:Goes P E h fr ccs w base a)(h2:Leads P a b) :Goes P E h fr ccs w base b:=by
 obtain⟨E1,fr1,cs1,w1,s1,f1,fs1,r1,x1⟩ :=h1
 obtain⟨E2,fr2,cs2,w2,s2,f2,fs2,r2,x2⟩ :=h2 E1 fr1 cs1 w1 base f1 fs1 r1
 exact⟨E2,fr2,cs2,w2,s1.trans s2,f2,fs2,r2,x1.trans x2⟩
theorem aDE {s s':AS}{l:List AS}(h0:vM s=some l)(hall:∀x∈l,Leads P x s') :Leads P s s':=by
 obtain⟨fr,cs,h⟩ :=s
 unfold vM at h0
 simp only at h0
 split at h0
 · rename_i hm
   split at h0
   · rename_i all i o rest ak htd
     split at h0
     · rename_i hw
       split at h0
       · rename_i it hop
         split at h0
         · rename_i r ha
           split at h0
           · rename_i outs hl
             intro E cfr ccs w base f fs R
             simp only at f fs R
             have e:=f.run hm
             generalize cfr.fn=fn at e
             generalize cfr.tmps=tmps at e
             generalize cfr.todo=todo at e
             generalize cfr.defers=ds at e
             generalize cfr.kind=kd at e
             generalize cfr.roundOf=ro at e
             subst e
             have ft:=f.todo
             rw [htd]at ft
             obtain⟨ci,k,e,i1,i2⟩ :=ft.cons_inv
             simp only at e
             subst e
             obtain⟨rfl,ho,i3⟩ :=aAB i1
             have hd: (all[i]?).bind (·.dst) =o.dst:=by rw [ho];rfl
             have hwant:Region.wanted o (yielded all tmps) =true:=qQ f.tm hw
             have hρ:=TR.reads (E:=E) f.tm fn (.inRegion all (i::List.range' (i+1) rest.length) ::k) ds kd ro (· ∈o.op.operands)
             have hv:=hρ it (by rw [hop];simp [Op.operands]) _ ha
             simp only [VR]at hv
             obtain⟨L,hE,hL⟩ :=hv
             have hz:L.sh=0:=by
              unfold aFw at hl
              split at hl
              · rename_i m since seen last hmi
                obtain⟨L',g1,Lm,g2,g3,g4⟩ :=R.obj _ _ hmi
                rw [hE]at g1;cases g1;exact g4
              ·cases hl
             obtain⟨v,h',g0,cv,w',g1,g2,g3,g4⟩ :=aB1 (P:=P) R hl hE hz
             obtain⟨tm',q1,q2⟩ :=aDD h0 _ g0
             refine Goes.then ?_ (hall _ q2)
             have hnd:∀c,o.op≠ .defer c:=fun c hc=>by rw [hop]at hc;cases hc
             have hx: (execOp (rf fn tmps (.inRegion all (i::List.range' (i+1) rest.length) ::k) ds kd ro).eval o).run P w= .ok (.value cv) w':=by
              unfold execOp
              simp only [hop]
              have e2: (rf fn tmps (.inRegion all (i::List.range' (i+1) rest.length) ::k) ds kd ro).eval it= .pointer (some ⟨L.blk,0,none⟩) :=by rw [hL,hz]
              simp only [Sem.run_bind,e2,g1,Result.andThen_ok,Sem.run_pure]
             refine Goes.one (sK ho hwant (.inr hnd) hx) ?_ (fs.mono g4.le) g3 g4
             simp only [Frame.finish,hd]
             refine⟨f.fn,?_,IRs.cons (i3.mono g4.le) (i2.mono g4.le),f.defers.mono g4.le,by simp only [hm];exact rfl,f.kind,f.round.mono g4.le⟩
             have:=yT (f.tm.mono g4.le) q1 g2
             unfold yS at this
             exact this
           ·cases h0
         ·cases h0
       ·cases h0
     ·cases h0
   ·cases h0
 ·cases h0
theorem Rel.older {E:Emb}{h:Hp}{H:Array Obj}(r:Rel E h H){b:Nat}{t:T AV}{n:Nat}{o1 o2:List Nat}{sup:Bool}(hb:h.look b=some (.cells t n o1 sup))(hs:∀x∈o1,x∈o2) :Rel E (h.set b (.cells t n o2 sup)) H:=by
 have old:∀ {x o},(h.set b (.cells t n o2 sup)).look x=some o→∃o',h.look x=some o'∧uI o'=uI o∧oG o'=oG o∧nOf o'=nOf o∧ (∀y∈dA o',y∈dA o) ∧ (∀L,OR E H L o'→OR E H L o) :=fun {x o} e=>by
  rw [bL]at e
  split at e
  · rename_i hx
    subst hx;cases e
    exact⟨_,hb,rfl,rfl,rfl,hs,fun L ho=>ho⟩
  ·exact⟨o,e,rfl,rfl,rfl,fun _ h=>h,fun _ h=>h⟩
 refine⟨fun x o e=>?_,fun x x' o o' L L' e e' k k' hbl hne=>?_,r.fresh,r.imm,fun x o L e k=>?_,fun x o e=>?_⟩
 · obtain⟨o',e1,g1,_,_,_,g5⟩ :=old e
   rcases r.obj0 x o' e1 with⟨a1,a2⟩ | ⟨L,a1,a2⟩
   ·exact .inl ⟨by rw [←g1];exact a1,a2⟩
   ·exact .inr ⟨L,a1,g5 L a2⟩
 · obtain⟨p,e1,_,g2,g3,g4,_⟩ :=old e
   obtain⟨p',e1',_,g2',g3',g4',_⟩ :=old e'
   rcases r.kin x x' p p' L L' e1 e1' k k' hbl hne with⟨a1,a2,a3⟩ | ⟨a1,a2,a3⟩
   ·exact .inl ⟨g4 _ a1,by rw [←g2'];exact a2,by rw [←g3',←g3];exact a3⟩
   ·exact .inr ⟨g4' _ a1,by rw [←g2];exact a2,by rw [←g3,←g3'];exact a3⟩
 · obtain⟨o',e1,_⟩ :=old e
   exact r.apart x o' L e1 k
 · obtain⟨o',e1,_⟩ :=old e
   exact r.keys x o' e1
def AS.older (s:AS)(b:Nat)(o2:List Nat) :Option AS:=
 match s.h.look b with
 |some (.cells t n o1 sup) =>bif o1.all (fun x=>yM x o2)then some {s with h:=s.h.set b (.cells t n o2 sup)} else none
 |_=>none
theorem aI8 {s s':AS}{b:Nat}{o2:List Nat}(h0:s.older b o2=some s') :Leads P s s':=fun E fr ccs w base f fs r=>by
 unfold AS.older at h0
 split at h0
 · rename_i t n o1 sup hb
   cases hc:o1.all (fun x=>yM x o2)with
   |false=>rw [hc]at h0;cases h0
   | true=>
    rw [hc]at h0;simp only [cond]at h0;cases h0
    have hs:∀x∈o1,x∈o2:=fun x hx=>by
     have:=List.all_eq_true.1 hc x hx
     rw [qP]at this
     simpa using this
    have keys:∀ {x o},(s.h.set b (.cells t n o2 sup)).look x=some o→∃o',s.h.look x=some o':=fun {x o} e=>by
     rw [bL]at e
     split at e
     ·rename_i hx;subst hx;exact⟨_,hb⟩
     ·exact⟨o,e⟩
    exact⟨E,fr,ccs,w,Steps.refl _ _,f,fs,r.older hb hs,⟨Emb.le.refl E,Nat.le_refl _,fun _ _ _=>rfl,fun x o L h1 h2 _=>by obtain⟨o',e⟩ :=keys h1;exact⟨x,o',L,e,h2,rfl⟩,Nat.le_refl _,rfl,rfl,rfl,fun _ _=>rfl,fun _ _=>rfl,fun _ _ e _=>.inl e,fun x o e _=>keys e⟩⟩
 ·cases h0
end
end Go.Hb
namespace Go.Hb
noncomputable section
structure LFr where
 fn:Nat
 tm:List (Nat×AV)
 nt:Nat
 todo:List AItem
 defers:List ADef
 mode:AMode
 kind:CallKind
 ro:Option Nat
structure LS where
 fr:LFr
 cs:List LFr
 hp:List (Nat×AObj)
 nb:Nat
def LFr.fr' (f:LFr) :AFrame:= ⟨f.fn,aCD f.tm,f.nt,f.todo,f.defers,f.mode,f.kind,f.ro⟩
def LS.as (s:LS) :AS:= ⟨s.fr.fr',s.cs.map LFr.fr',⟨aCD s.hp,s.nb⟩⟩
def aWD {α:Type}:List (Nat×α) →List Nat
 | [] =>[]
 |p::r=>p.1::aWD r
def aLQ (f:AFrame)(l:LFr) :AFrame:={f with tm:=aCD (aDy f.tm (aWD l.tm))}
def aHu :List AFrame→List LFr→List AFrame
 |f::fs,l::ls=>aLQ f l::aHu fs ls
 |fs,_=>fs
def AS.keep (s:AS)(l:LS) :AS:= ⟨aLQ s.fr l.fr,aHu s.cs l.cs,⟨aCD (aDy s.h.t (aWD l.hp)),s.h.nb⟩⟩
def fY (P:Program)(call:bZ)(n:Nat)(a b:LS) :Option AS:=
 match aAk P call n a.as with
 |some s'=>some (s'.keep b)
 |none=>none
variable {P :Program}
theorem aAL {E:Emb}{f:AFrame}{c:Frame}(h:FR E f c)(l:LFr) :FR E (aLQ f l) c:=
 ⟨h.fn,⟨h.tm.1,fun t a e=>h.tm.2 t a (rO (aCP e))⟩,h.todo,h.defers,h.mode,h.kind,h.round⟩
theorem yH {E:Emb}:∀ {fs:List AFrame} {cs:List Frame} (ls:List LFr),FRs E fs cs→FRs E (aHu fs ls) cs
 | [],_,[],h=>h
 | [],_,_::_,h=>h
 |_::_,_,[],h=>h
 | f::fs,cs,l::ls,h=>by
  obtain⟨c,cs',rfl,h1,h2⟩ :=FRs.cons_inv h
  exact FRs.cons (aAL h1 l) (yH ls h2)
theorem zA (s:AS)(l:LS) :Leads P s (s.keep l) :=fun E fr ccs w base f fs r=>by
 have hs:∀b o,(s.keep l).h.look b=some o→s.h.look b=some o:=fun b o e=>rO (aCP e)
 exact⟨E,fr,ccs,w,Steps.refl _ _,aAL f l.fr,yH l.cs fs,r.sub hs (Nat.le_refl _),⟨Emb.le.refl E,Nat.le_refl _,fun _ _ _=>rfl,fun b o L h1 h2 _=> ⟨b,o,L,hs b o h1,h2,rfl⟩,Nat.le_refl _,rfl,rfl,rfl,fun _ _=>rfl,fun _ _=>rfl,fun _ _ e _=>.inl e,fun b o e _=> ⟨o,hs b o e⟩⟩⟩
theorem bR {call:bZ}(hc:eW P call){n:Nat}{a b:LS}(h0:fY P call n a b=some b.as) :Leads P a.as b.as:=by
 unfold fY at h0
 split at h0
 · rename_i s1 h1
   rw [yW]at h1
   rw [←Option.some.inj h0]
   exact(vH hc h1).trans (zA s1 b)
 ·cases h0
def aFP :List AS→List LS→List AS
 |a::l,b::ls=>a.keep b::aFP l ls
 |l,_=>l
theorem aFQ :∀ {l:List AS} {ls:List LS},aFP l ls=ls.map LS.as→∀x∈l,∃b∈ls,x.keep b=b.as
 | [],_,_,x,hx=>by cases hx
 |a::l,[],h,x,hx=>by simp [aFP]at h
 | a ::l,b::ls,h,x,hx=>by
  simp only [aFP,List.map_cons,List.cons.injEq]at h
  rcases List.mem_cons.1 hx with rfl|hx
  ·exact⟨b,List.mem_cons_self ..,h.1⟩
  · obtain⟨c,h1,h2⟩ :=aFQ h.2 x hx
    exact⟨c,List.mem_cons_of_mem _ h1,h2⟩
theorem aCE {s s':AS}{ls:List LS}(h0: (vM s).map (fun l=>aFP l ls) =some (ls.map LS.as))(h1:∀x∈ls,Leads P x.as s') :Leads P s s':=by
 cases e:vM s with
 |none=>rw [e]at h0;cases h0
 | some l=>
  rw [e]at h0
  refine aDE e (fun x hx=>?_)
  obtain⟨b,hb,e1⟩ :=aFQ (Option.some.inj h0) x hx
  have:=zA (P:=P) x b
  rw [e1]at this
  exact this.trans (h1 b hb)
theorem aHv {s:AS}{b:Nat}{o2:List Nat}{t:LS}(h0: (s.older b o2).map (fun x=>x.keep t) =some t.as) :Leads P s t.as:=by
 cases e:s.older b o2 with
 |none=>rw [e]at h0;cases h0
 | some x=>
  rw [e]at h0
  have:=zA (P:=P) x t
  have h2:x.keep t=t.as:=Option.some.inj h0
  rw [h2]at this
  exact(aI8 e).trans this
end
end Go.Hb
namespace Go.Hb
open Go.Proofs
noncomputable section
def Code.part :Code→List Nat→Code
 |c,[] =>c
 | .seq a b,n::p=>bif Nat.beq n 0 then Code.part a p else Code.part b p
 | .cond _ a b,n::p=>bif Nat.beq n 0 then Code.part a p else Code.part b p
 | .block _ c,_::p=>Code.part c p
 | .loop c,_::p=>Code.part c p
 | .scope c,_::p=>Code.part c p
 | .rangeFunc _ _ a b,n::p=>bif Nat.beq n 0 then Code.part a p else Code.part b p
 |c,_=>c
def cd (f:Func)(p:List Nat) :Code:=match f.body with
 |some c=>Code.part c p
 |none=>.skip
def od (f:Func)(p:List Nat) :Array Oper:=match cd f p with
 | .region _ ops _=>ops
 |_=> #[]
def mH (f:Func)(p:List Nat)(k:Nat) :AItem:=.ops (od f p) k (List.drop k (od f p).toList)
abbrev aX :=List UInt8
def aB (n:Int) :AV:=.int .i64 n
def eH (b:Bool) :AV:=.bool b
def bO (s:aX) :AV:=.str (List.length s) (aF s)
def mC {α:Type}(e:Nat)(f:α→AV)(l:List α) :AV:=.ilst e (List.map f l) false
theorem aHw {α:Type}{f:α→AV}{l:List α}{i:Nat}{y:α}(h:l[i]?=some y) : (List.map f l)[i]?=some (f y) :=by rw [List.getElem?_map,h];rfl
theorem aQY {α:Type}{f:α→AV}{l:List α}{i:Nat}{y:α}(h:l[i]?=some y) : (List.map f l)[0+i]?=some (f y) :=by rw [Nat.zero_add];exact aHw h
theorem gK {α:Type}(f:α→AV)(l:List α) :0+List.length l≤List.length (List.map f l) :=by simp
theorem gP {α:Type}(f:α→AV)(l m:List α) :List.take (List.length l) (List.drop 0 (List.map f l)) ++List.map f m=List.map f (l++m) :=by
 rw [List.drop_zero,List.take_of_length_le (by simp),List.map_append]
theorem gQ {α:Type}(f:α→AV)(l m:List α) :List.length l+List.length (List.map f m) =List.length (l++m) :=by simp
theorem pH {α:Type}(f:α→AV)(l:List α)(i:Nat)(y:α) : (List.map f l).set (0+i) (f y) =List.map f (List.set l i y) :=by rw [Nat.zero_add,List.map_set]
theorem aHx {α:Type}(f:α→AV)(n:Nat)(y:α) :List.replicate n (f y) =List.map f (List.replicate n y) :=by rw [List.map_replicate]
theorem aDF {b e o n m:Nat}{x:Bool}(h:n=m) :AV.gl b e o n x= .gl b e o m x:=by rw [h]
theorem eA {α:Type}(f:α→AV)(l:List α){b e:Nat}{x:Bool}:AV.frzOk b e (List.map f l) (List.map f l) (.gl b e 0 (List.length l) x) :=by
 simp only [AV.frzOk]
 intro _
 exact⟨trivial,by simp,by rw [List.drop_zero,List.take_of_length_le (by simp)]⟩
end
end Go.Hb
namespace Go.Hb
open Go.Proofs
noncomputable section
inductive Pat where
 |mk (form n:Int) (text:aX) (parts:List Pat)
mutual
def Pat.av :Pat→AV
 | .mk f n t ps=>.agg [.int .i64 f,.int .i64 n,bO t,.ilst 4 (Pats.av ps) false]
def Pats.av :List Pat→List AV
 | [] =>[]
 |p::ps=>Pat.av p::Pats.av ps
end
theorem dK :∀l,Pats.av l=List.map Pat.av l
 | [] =>rfl
 |p::ps=>by rw [Pats.av,dK ps];rfl
mutual
theorem kT :∀p,AV.keyless (Pat.av p) =true
 | .mk f n t ps=>by simp only [Pat.av,AV.keyless,AV.keylessL,aAM ps,bO,Bool.and_true]
theorem aAM :∀ (l:List Pat),AV.keylessL (Pats.av l) =true
 | [] =>rfl
 |p::ps=>by simp only [Pats.av,AV.keylessL,kT p,aAM ps,Bool.and_true]
end
theorem fE {l:List Pat}:AV.keylessL (Pats.av l) =true:=aAM l
structure Con where
 name:aX
 args:Int
def Con.av (c:Con) :AV:=.agg [bO c.name,.int .i64 c.args]
structure Node where
 op:Int
 n:Int
 kids:List Int
 pats:List Pat
def Node.av (x:Node) :AV:=.agg [.int .i64 x.op,.int .i64 x.n,.ilst 1 (List.map aB x.kids) false,.ilst 4 (Pats.av x.pats) false]
structure Prog where
 nodes:List Node
 funs:List Int
 main:Int
 cons:List Con
def Prog.av (p:Prog) :AV:=.agg [.ilst 4 (List.map Node.av p.nodes) false,.ilst 1 (List.map aB p.funs) false,.int .i64 p.main,.ilst 2 (List.map Con.av p.cons) false]
end
end Go.Hb
namespace Go.Hb
open Go.Proofs
theorem byte_at :∀ {s:aX} {k:Nat} {y:UInt8},s[k]?=some y→aF s / 256 ^ k % 256=y.toNat
 | c::s,0,y,h=>by
  simp only [List.getElem?_cons_zero,Option.some.injEq]at h
  subst h
  have:=c.toNat_lt
  simp only [aF,Nat.pow_zero,Nat.div_one];omega
 | c::s,k+1,y,h=>by
  rw [List.getElem?_cons_succ]at h
  have:=byte_at h
  rw [←this]
  have hc:=c.toNat_lt
  simp only [aF]
  rw [Nat.pow_succ',←Nat.div_div_eq_div_mul]
  congr 2
  omega
theorem kU {s:aX}{k:Int}{y:UInt8}(h0:0≤k)(h:s[k.toNat]?=some y) :k< ((List.length s:Nat) :Int) :=by
 have:= (List.getElem?_eq_some_iff.1 h).1;omega
theorem kV {s:aX}{k:Int}{y:UInt8}(h:s[k.toNat]?=some y) :AV.int .u8 ((Nat.mod (Nat.div (aF s) (Nat.pow 256 k.toNat)) 256:Nat) :Int) = .int .u8 ((y.toNat:Nat) :Int) :=by
 show AV.int .u8 ((aF s / 256 ^ k.toNat % 256:Nat) :Int) =_
 rw [byte_at h]
theorem aDG :∀ (s:aX) (k:Nat),aF s / 256 ^ k=aF (s.drop k)
 |s,0=>by simp
 | [],k+1=>by simp [aF]
 | c::s,k+1=>by
  rw [List.drop_succ_cons,←aDG s k,Nat.pow_succ',←Nat.div_div_eq_div_mul]
  congr 1
  have:=c.toNat_lt
  simp only [aF];omega
theorem aFR {k:IntKind}{i:Int}(h:0≤i) :gB (some (.int k i)) =some (some i.toNat) :=by
 show(if 0≤i then some (some i.toNat)else none) =_
 rw [if_pos h]
theorem sZ :gB none=some none:=rfl
variable {P :Program}
def aLR (P:Program)(t:TypeId)(X:AV)(lo hi:Option AV)(V:AV) :Prop:=
 ∃l u m,gB lo=some l∧gB hi=some u∧gB none=some m∧ (rZ P t X l u m=some V∨ (rZ P t X l u m=none∧aBg P t X l u m=some V))
theorem aCb {t:TypeId}(hu:P.underlying t=some .string){s:aX}{kk:IntKind}{k:Int}(h0:0≤k)(h1:k.toNat≤s.length) :
  aLR P t (bO s) (some (.int kk k)) none (bO (s.drop k.toNat)) :=by
 refine⟨_,_,_,aFR h0,sZ,sZ,.inl ?_⟩
 unfold rZ bO
 rw [hu]
 simp only [Option.getD_some,Option.getD_none]
 have e1:Nat.ble k.toNat s.length=true:=Nat.ble_eq ▸ h1
 have e2:Nat.ble s.length s.length=true:=Nat.ble_eq ▸ Nat.le_refl _
 have e3:Nat.div (aF s) (Nat.pow 256 k.toNat) =aF (s.drop k.toNat) :=aDG s k.toNat
 rw [e1,e2,e3]
 simp
theorem aOI {α:Type}{f:α→AV}{F:List α→List AV}(hF:∀l,F l=List.map f l){t:TypeId}{e:Nat}(hu:xO P t e=true){xs:List α}{kk:IntKind}{k:Int}(h0:0≤k)(h1:k.toNat≤xs.length) :
  aLR P t (.ilst e (F xs) false) none (some (.int kk k)) (.ilst e (F (xs.take k.toNat)) false) :=by
 rw [hF,hF]
 refine⟨_,_,_,sZ,aFR h0,sZ,.inr ⟨?_,?_⟩⟩
 ·unfold rZ;split<;>simp_all
 · unfold aBg
   simp only [hu,cond,Option.getD_some,Option.getD_none,List.length_map]
   rw [if_pos ⟨Nat.zero_le _,h1⟩]
   simp [List.map_take]
theorem aI9 {α:Type}{f:α→AV}{t:TypeId}{e:Nat}(hu:xO P t e=true){xs:List α}{kk:IntKind}{k:Int}(h0:0≤k)(h1:k.toNat≤xs.length) :
  aLR P t (.ilst e (List.map f xs) false) none (some (.int kk k)) (.ilst e (List.map f (xs.take k.toNat)) false) :=aOI (fun _=>rfl) hu h0 h1
theorem aJa {α:Type}(f:α→AV)(l:List α) : ((List.length (List.map f l) :Nat) :Int) = ((List.length l:Nat) :Int) :=by rw [List.length_map]
section
variable {α :Type} {f:α→AV} {F:List α→List AV} (hF:∀l,F l=List.map f l)
include hF
theorem aQZ {l:List α}{i:Nat}{y:α}(h:l[i]?=some y) : (F l)[i]?=some (f y) :=by rw [hF];exact aHw h
theorem aCS (l:List α) :0+List.length l≤List.length (F l) :=by rw [hF];exact gK f l
theorem aCT (l m:List α) :List.take (List.length l) (List.drop 0 (F l)) ++F m=F (l++m) :=by rw [hF,hF,hF];exact gP f l m
theorem aCU (l m:List α) :List.length l+List.length (F m) =List.length (l++m) :=by rw [hF];exact gQ f l m
theorem aWE (l:List α) : ((List.length (F l) :Nat) :Int) = ((List.length l:Nat) :Int) :=by rw [hF,List.length_map]
theorem tA (l:List α){b e:Nat}{x:Bool}:AV.frzOk b e (F l) (F l) (.gl b e 0 (List.length l) x) :=by rw [hF];exact eA f l
end
theorem aDH :∀ (s:aX),aF s<256 ^ s.length
 | [] =>by simp [aF]
 | c::s=>by
  have:=aDH s
  have:=c.toNat_lt
  simp only [aF,List.length_cons,Nat.pow_succ];omega
theorem bytes_inj {s t:aX}(hl:s.length=t.length)(hn:aF s=aF t) :s=t:=by
 rw [←fP s,←fP t,hl,hn]
theorem vN (s t:aX) :dR (List.length s) (aF s) (List.length t) (aF t) =decide (s=t) :=by
 unfold dR
 have e1:Nat.mod (aF s) (Nat.pow 256 s.length) =aF s:=Nat.mod_eq_of_lt (aDH s)
 by_cases hl:s.length=t.length
 · rw [←hl,e1]
   have e2:Nat.mod (aF t) (Nat.pow 256 s.length) =aF t:=by rw [hl];exact Nat.mod_eq_of_lt (aDH t)
   rw [e2,show Nat.beq s.length s.length=true from Nat.beq_refl _]
   by_cases hn:aF s=aF t
   ·have:=bytes_inj hl hn;subst this;simp
   · have:s≠t:=fun e=>hn (by rw [e])
     rw [show Nat.beq (aF s) (aF t) =false from Bool.eq_false_iff.2 (fun h=>hn (Nat.eq_of_beq_eq_true h)),decide_eq_false this];rfl
 · have:s≠t:=fun e=>hl (by rw [e])
   simp [this,hl]
theorem dS (s:aX) :dR (List.length s) (aF s) 0 0=decide (s= []) :=vN s []
def aG {α β:Type}(f:α→AV)(g:β→AV) :Nat→List (α×β) →List (AV×AV×Nat)
 |_,[] =>[]
 |n,e::l=> (f e.1,g e.2,n) ::aG f g (n+1) l
def cM {α β:Type}[DecidableEq α](k:α)(v:β) :List (α×β) →List (α×β)
 | [] =>[(k,v)]
 |e::l=>if k=e.1 then(k,v) ::l else e::cM k v l
def bF {α β:Type}[DecidableEq α](k:α) :List (α×β) →Option β
 | [] =>none
 |e::l=>if k=e.1 then some e.2 else bF k l
def aCF {α:Type}[DecidableEq α](f:α→AV) :Prop:=∀a b,nT (f a) (f b) =some (decide (a=b))
theorem aTS :aCF bO:=fun a b=>by
 simp only [nT,bO,vN]
theorem cE :aCF aB:=fun a b=>by
 simp only [nT,aB,if_true]
 by_cases h:a=b<;>simp [h]
theorem tB {α β:Type}[DecidableEq α]{f:α→AV}{g:β→AV}(hf:aCF f)(k:α) :∀ (l:List (α×β)) (n i:Nat),bF k l=none→cR (f k) (aG f g n l) i=some none
 | [],n,i,_=>rfl
 | e ::l,n,i,h=>by
  unfold bF at h
  split at h
  ·cases h
  · rename_i hk
    simp only [aG,cR,hf k e.1,decide_eq_false hk]
    exact tB hf k l (n+1) _ h
theorem aAN {α β:Type}[DecidableEq α](f:α→AV)(g:β→AV)(k:α)(v:β) :∀ (l:List (α×β)) (n:Nat),bF k l=none→aG f g n l++ [(f k,g v,n+l.length)] =aG f g n (cM k v l) ∧ (cM k v l).length=l.length+1
 | [],n,_=>by simp [aG,cM]
 | e ::l,n,h=>by
  unfold bF at h
  split at h
  ·cases h
  · rename_i hk
    obtain⟨a,b⟩ :=aAN f g k v l (n+1) h
    simp only [aG,cM,if_neg hk,List.cons_append,List.length_cons,b]
    refine⟨?_,trivial⟩
    rw [←a,show n+1+l.length=n+ (l.length+1)by omega]
theorem aJb {α β:Type}[DecidableEq α]{f:α→AV}{g:β→AV}(hf:aCF f)(k:α)(v w:β) :∀ (l:List (α×β)) (n i:Nat),bF k l=some w→∃j,cR (f k) (aG f g n l) i=some (some (i+j,g w)) ∧setE (f k) (g v) (aG f g n l) j=aG f g n (cM k v l) ∧ (cM k v l).length=l.length
 | [],_,_,h=>by cases h
 | e ::l,n,i,h=>by
  unfold bF at h
  split at h
  · rename_i hk
    cases h
    refine⟨0,?_,?_,?_⟩
    ·simp only [aG,cR,hf k e.1,decide_eq_true hk,Nat.add_zero]
    ·simp only [aG,setE,cM,if_pos hk]
    ·simp only [cM,if_pos hk,List.length_cons]
  · rename_i hk
    obtain⟨j,a,b,c⟩ :=aJb hf k v w l (n+1) (i+1) h
    refine⟨j+1,?_,?_,?_⟩
    · simp only [aG,cR,hf k e.1,decide_eq_false hk]
      rw [show i+ (j+1) =i+1+j by omega];exact a
    ·simp only [aG,setE,cM,if_neg hk,b]
    ·simp only [cM,if_neg hk,List.length_cons,c]
theorem wY {α β:Type}[DecidableEq α]{f:α→AV}{g:β→AV}(hf:aCF f)(k:α)(v:β)(l:List (α×β)) :jD (aG f g 0 l) (List.length l) (f k) (g v) =some (aG f g 0 (cM k v l),List.length (cM k v l)) :=by
 unfold jD
 cases h:bF k l with
 | none=>
  rw [tB hf k l 0 0 h]
  obtain⟨a,b⟩ :=aAN f g k v l 0 h
  simp only [Nat.zero_add]at a
  simp only [a,b]
 | some w=>
  obtain⟨j,a,b,c⟩ :=aJb hf k v w l 0 0 h
  rw [a]
  simp only [Nat.zero_add,b,c]
theorem aHy {α β:Type}(f:α→AV)(g:β→AV) :∀ (l:List (α×β)) (n:Nat),(aG f g n l).length=l.length
 | [],_=>rfl
 |e::l,n=>by simp only [aG,List.length_cons,aHy f g l (n+1)]
def jJ {α β:Type}[DecidableEq α](k:α) :List (α×β) →Nat
 | [] =>0
 |e::l=>if k=e.1 then 0 else jJ k l+1
theorem aJc {α β:Type}[DecidableEq α]{f:α→AV}{g:β→AV}(hf:aCF f)(k:α) :∀ (l:List (α×β)) (n i:Nat),cR (f k) (aG f g n l) i=some ((bF k l).map fun w=> (i+jJ k l,g w))
 | [],n,i=>rfl
 | e ::l,n,i=>by
  by_cases hk:k=e.1
  ·simp only [aG,cR,hf k e.1,decide_eq_true hk,bF,jJ,if_pos hk,Option.map_some,Nat.add_zero]
  · simp only [aG,cR,hf k e.1,decide_eq_false hk,bF,jJ,if_neg hk]
    rw [aJc hf k l (n+1) (Nat.succ i)]
    congr 2
    funext w
    rw [show Nat.succ i+jJ k l=i+ (jJ k l+1)by omega]
end Go.Hb
namespace Go.Hb
theorem tC {α β:Type}{f:α→AV}{g:β→AV}(hf:∀a,AV.keyless (f a) =true)(hg:∀a,AV.keyless (g a) =true) :∀ (l:List (α×β)) (n:Nat),∀e∈aG f g n l,AV.keyless e.1=true∧AV.keyless e.2.1=true
 | [],_,e,h=>by simp [aG]at h
 | x::l,n,e,h=>by
  rcases List.mem_cons.1 h with rfl|h
  ·exact⟨hf _,hg _⟩
  ·exact tC hf hg l (n+1) e h
theorem gR {α β:Type}[DecidableEq α]{f:α→AV}{g:β→AV}(hf:aCF f){k:α}{l:List (α×β)}(h:bF k l=none) :cR (f k) (aG f g 0 l) 0=some none:=tB hf k l 0 0 h
theorem eJ {α β:Type}[DecidableEq α]{f:α→AV}{g:β→AV}(hf:aCF f){k:α}{v:β}{l:List (α×β)}(h:bF k l=some v) :cR (f k) (aG f g 0 l) 0=some (some (jJ k l,g v)) :=by
 rw [aJc hf,h];simp
theorem aQ0 {α β:Type}(f:α→AV)(g:β→AV)(l:List (α×β)) :AV.int .i64 ((List.length (aG f g 0 l) :Nat) :Int) = .int .i64 ((List.length l:Nat) :Int) :=by rw [aHy]
theorem aC {α β:Type}{f:α→AV}{g:β→AV}(hf:∀a,AV.keyless (f a) =true)(hg:∀a,AV.keyless (g a) =true)(n:Nat)(l:List (α×β))(c:Nat) : (AObj.map (aG f g n l) c).kl:=by
 intro e he
 exact tC hf hg l n e he
end Go.Hb
namespace Go.Hb
open Go.Proofs
noncomputable section
/-- a proposition with its proof -/
structure Pf where
  p:Prop
  h:p
def qp {p:Prop}(h:p) :Pf:= ⟨p,h⟩
theorem aNW :∀ (L:List Pf),AllP (L.map Pf.p)
  | [] =>trivial
  | [a] =>a.h
  |a::b::L=> ⟨a.h,aNW (b::L)⟩
noncomputable abbrev PP:Program:=Tryz.prog
variable {P :Program}
theorem wW {m:Nat}{s t:TS}(n1:Nat)(ks:List Nat)(L:List Pf)(is:List Ins)(hkl:nP t.hp)(h0:way P m is s t ks=some (n1,t.want (iD m t.nb n1 ks),L.map Pf.p) :=by kernel_rfl)(hok:eI m t ks=true:=by kernel_rfl) :LeadsM P m s.as t.as:=aOH h0 hok hkl (aNW L)
theorem wE {m:Nat}{s:TS}{hp:List (Nat×AObj×Bool)}{nb:Nat}{v:AV}(n1:Nat)(ks:List Nat)(L:List Pf)(is:List Ins)(hkl:nP hp)(h0:aWC P m is s hp nb ks=some (n1,AV.ren (iD m nb n1 ks) v,pF (iD m nb n1 ks) hp,L.map Pf.p) :=by kernel_rfl)(hok:eI m ⟨⟨0,0,[],[],[],.run,.normal,none⟩,[],hp,nb⟩ ks=true:=by kernel_rfl) :Ends P m s.as (.ret v) (aA hp nb) :=aLO h0 hok hkl (aNW L)
theorem kk {α:Type}{f:α→AV}{l:List α}(h:∀a,AV.keyless (f a) =true:=by exact fun _=>rfl) :AV.keylessL (List.map f l) =true:=aD f h l
section
variable {α :Type}
def ql (f:α→AV)(l:List α) :Pf:= ⟨_,aJa f l⟩
def fU (l:List Pat) :Pf:= ⟨_,aWE dK l⟩
def qg (f:α→AV){l:List α}{i:Nat}{y:α}(h:l[i]?=some y) :Pf:= ⟨_,aHw (f:=f) h⟩
def qgP {l:List Pat}{i:Nat}{y:Pat}(h:l[i]?=some y) :Pf:= ⟨_,aQZ dK h⟩
def qh (f:α→AV){l:List α}{i:Nat}{y:α}(h:l[i]?=some y) :Pf:= ⟨_,aQY (f:=f) h⟩
def qr (x:α) :Pf:= ⟨x=x,rfl⟩
def qs (b e o:Nat)(l:List α)(i:Nat)(v:α)(x:Bool) :Pf:= ⟨AV.gl b e o l.length x= .gl b e o (l.set i v).length x,aDF (List.length_set ..).symm⟩
noncomputable abbrev aL (l:List α) :Ins:=.ans (.len (l.length:Int))
end
noncomputable abbrev rn:Nat→Ins:=.run
noncomputable abbrev bt (j:Nat) :Ins:=.b j true
noncomputable abbrev bf (j:Nat) :Ins:=.b j false
noncomputable abbrev aI (v:AV) :Ins:=.ans (.idx v)
noncomputable abbrev sI (j:Nat)(x:Int) :Ins:=.set j (.int .i64 x)
noncomputable abbrev pB (b:Bool) :Ins:=.pure (.bool b)
noncomputable abbrev nI (x:Int) :AV:=.int .i64 x
noncomputable abbrev bV (b:Bool) :AV:=.bool b
noncomputable abbrev jI (l:List Int) :List AV:=List.map aB l
noncomputable abbrev jN (l:List Node) :List AV:=List.map Node.av l
noncomputable abbrev jC (l:List Con) :List AV:=List.map Con.av l
noncomputable abbrev iI (l:List Int) :AV:=.ilst 1 (List.map aB l) false
noncomputable abbrev iS (l:List aX) :AV:=.ilst 1 (List.map bO l) false
noncomputable abbrev iN (l:List Node) :AV:=.ilst 4 (List.map Node.av l) false
noncomputable abbrev iC (l:List Con) :AV:=.ilst 2 (List.map Con.av l) false
noncomputable abbrev iP (l:List Pat) :AV:=.ilst 4 (Pats.av l) false
end
end Go.Hb
namespace Go.Hb
open Go.Proofs
theorem aTT (n lo hi:Int)(h0:decide (n≥lo) =true) :
  Ends PP 0 (start PP 65 [(nI n),(nI lo),(nI hi)]).as (.ret (bV (decide (n≤hi)))) (aA [] 0) :=
 wE 0 [] [qp h0] [rn 10,bt 10,rn 7] trivial
theorem aTU (n lo hi:Int)(h0:decide (n≥lo) =false) :
  Ends PP 0 (start PP 65 [(nI n),(nI lo),(nI hi)]).as (.ret (bV false)) (aA [] 0) :=
 wE 0 [] [qp h0] [rn 10,bf 10,rn 7] trivial
noncomputable def mR (s:aX)(i3:Int) :TS:=
 {fr:={fn:=118,nt:=20,sl:=[(0,(bO s)),(2,(bV false)),(3,(nI i3))],todo:=[.code (cd Tryz.f118 [1,0,1,0,0]),.inLoop (cd Tryz.f118 [1,0,1,0,0]),.inBlock 0,.code (cd Tryz.f118 [1,1])]},cs:=[],hp:=[],nb:=0}
theorem aLS (s:aX) :
  LeadsM PP 0 (start PP 118 [(bO s)]).as (mR s 0).as:=
 wW 0 [] [] [rn 11] trivial
theorem aLT (s:aX)(i3:Int)(y0:UInt8)(h0:decide (i3< (s.length:Int)) =true)(h1:0≤i3)(h2: (s)[i3.toNat]?=some y0)(h3:decide (((y0.toNat:Nat) :Int) < (97:Int)) =true) :
  Ends PP 0 (mR s i3).as (.ret (bV false)) (aA [] 0) :=
 wE 0 [] [qp h0,qp h1,qp (p:=i3< (s.length:Int)) (kU (k:=i3) h1 h2),qp (p:=AV.int .u8 ((Nat.mod (Nat.div (aF s) (Nat.pow 256 i3.toNat)) 256:Nat) :Int) = (.int .u8 ((y0.toNat:Nat) :Int))) (kV (k:=i3) h2),qp h3] [rn 8,bt 7,rn 8,.ans (.ev (.int .u8 ((y0.toNat:Nat) :Int))),rn 2,bt 14,rn 12] trivial
theorem aLU (s:aX)(i3:Int)(y0:UInt8)(h0:decide (i3< (s.length:Int)) =true)(h1:0≤i3)(h2: (s)[i3.toNat]?=some y0)(h3:decide (((y0.toNat:Nat) :Int) < (97:Int)) =false)(h4:decide (((y0.toNat:Nat) :Int) > (122:Int)) =true) :
  Ends PP 0 (mR s i3).as (.ret (bV false)) (aA [] 0) :=
 wE 0 [] [qp h0,qp h1,qp (p:=i3< (s.length:Int)) (kU (k:=i3) h1 h2),qp (p:=AV.int .u8 ((Nat.mod (Nat.div (aF s) (Nat.pow 256 i3.toNat)) 256:Nat) :Int) = (.int .u8 ((y0.toNat:Nat) :Int))) (kV (k:=i3) h2),qp h3,qp h1,qp (p:=i3< (s.length:Int)) (kU (k:=i3) h1 h2),qp (p:=AV.int .u8 ((Nat.mod (Nat.div (aF s) (Nat.pow 256 i3.toNat)) 256:Nat) :Int) = (.int .u8 ((y0.toNat:Nat) :Int))) (kV (k:=i3) h2),qp h4] [rn 8,bt 7,rn 8,.ans (.ev (.int .u8 ((y0.toNat:Nat) :Int))),rn 2,bf 14,rn 2,.ans (.ev (.int .u8 ((y0.toNat:Nat) :Int))),rn 3,bt 19,rn 6] trivial
theorem aLV (s:aX)(i3:Int)(y0:UInt8)(h0:decide (i3< (s.length:Int)) =true)(h1:0≤i3)(h2: (s)[i3.toNat]?=some y0)(h3:decide (((y0.toNat:Nat) :Int) < (97:Int)) =false)(h4:decide (((y0.toNat:Nat) :Int) > (122:Int)) =false)(h5: (IntKind.i64.wrap (i3+ (1:Int))) = (i3+ (1:Int))) :
  LeadsM PP 0 (mR s i3).as (mR s (i3+ (1:Int))).as:=
 wW 0 [] [qp h0,qp h1,qp (p:=i3< (s.length:Int)) (kU (k:=i3) h1 h2),qp (p:=AV.int .u8 ((Nat.mod (Nat.div (aF s) (Nat.pow 256 i3.toNat)) 256:Nat) :Int) = (.int .u8 ((y0.toNat:Nat) :Int))) (kV (k:=i3) h2),qp h3,qp h1,qp (p:=i3< (s.length:Int)) (kU (k:=i3) h1 h2),qp (p:=AV.int .u8 ((Nat.mod (Nat.div (aF s) (Nat.pow 256 i3.toNat)) 256:Nat) :Int) = (.int .u8 ((y0.toNat:Nat) :Int))) (kV (k:=i3) h2),qp h4,qp (congrArg (AV.int .i64) h5)] [rn 8,bt 7,rn 8,.ans (.ev (.int .u8 ((y0.toNat:Nat) :Int))),rn 2,bf 14,rn 2,.ans (.ev (.int .u8 ((y0.toNat:Nat) :Int))),rn 3,bf 19,rn 6,sI 9 (i3+ (1:Int)),rn 3] trivial
theorem aLW (s:aX)(i3:Int)(h0:decide (i3< (s.length:Int)) =false) :
  Ends PP 0 (mR s i3).as (.ret (bV true)) (aA [] 0) :=
 wE 0 [] [qp h0] [rn 8,bf 7,rn 7] trivial
theorem aLX (s:aX)(y0:UInt8)(y1:Bool)(h0:decide ((s.length:Int) ≥ (1:Int)) =true)(h1:decide ((s.length:Int) ≤ (8:Int)) =true)(h2: (s)[0]?=some y0)(h3:decide (((y0.toNat:Nat) :Int) ≥ (65:Int)) =true)(h4:decide (((y0.toNat:Nat) :Int) ≤ (90:Int)) =true)(h5:1≤List.length s)(h6:aE PP 118 [(bO (List.drop 1 s))] (bV y1)) :
  Ends PP 0 (start PP 120 [(bO s)]).as (.ret (bV y1)) (aA [] 0) :=
 wE 0 [] [qp h0,qp h1,qp (p:=0≤ (0:Int)) (by decide),qp (p:= (0:Int) < (s.length:Int)) (kU (k:= (0:Int)) (by decide) h2),qp (p:=AV.int .u8 ((Nat.mod (Nat.div (aF s) (Nat.pow 256 (0:Int).toNat)) 256:Nat) :Int) = (.int .u8 ((y0.toNat:Nat) :Int))) (kV (k:= (0:Int)) h2),qp h3,qp (p:=0≤ (0:Int)) (by decide),qp (p:= (0:Int) < (s.length:Int)) (kU (k:= (0:Int)) (by decide) h2),qp (p:=AV.int .u8 ((Nat.mod (Nat.div (aF s) (Nat.pow 256 (0:Int).toNat)) 256:Nat) :Int) = (.int .u8 ((y0.toNat:Nat) :Int))) (kV (k:= (0:Int)) h2),qp h4,qp (p:=aLR PP 9 (bO s) (some (nI 1)) none (bO (List.drop 1 s))) (aCb (k:= (1:Int)) (by kernel_rfl) (by decide) h5),qp h6] [rn 10,bt 6,rn 5,bt 11,rn 1,.ans (.ev (.int .u8 ((y0.toNat:Nat) :Int))),rn 3,bt 16,rn 1,.ans (.ev (.int .u8 ((y0.toNat:Nat) :Int))),rn 3,bt 21,rn 1,.ans (.ev (bO (List.drop 1 s))),pB y1,rn 4] trivial
theorem aLY (s:aX)(y0:UInt8)(h0:decide ((s.length:Int) ≥ (1:Int)) =true)(h1:decide ((s.length:Int) ≤ (8:Int)) =true)(h2: (s)[0]?=some y0)(h3:decide (((y0.toNat:Nat) :Int) ≥ (65:Int)) =true)(h4:decide (((y0.toNat:Nat) :Int) ≤ (90:Int)) =false) :
  Ends PP 0 (start PP 120 [(bO s)]).as (.ret (bV false)) (aA [] 0) :=
 wE 0 [] [qp h0,qp h1,qp (p:=0≤ (0:Int)) (by decide),qp (p:= (0:Int) < (s.length:Int)) (kU (k:= (0:Int)) (by decide) h2),qp (p:=AV.int .u8 ((Nat.mod (Nat.div (aF s) (Nat.pow 256 (0:Int).toNat)) 256:Nat) :Int) = (.int .u8 ((y0.toNat:Nat) :Int))) (kV (k:= (0:Int)) h2),qp h3,qp (p:=0≤ (0:Int)) (by decide),qp (p:= (0:Int) < (s.length:Int)) (kU (k:= (0:Int)) (by decide) h2),qp (p:=AV.int .u8 ((Nat.mod (Nat.div (aF s) (Nat.pow 256 (0:Int).toNat)) 256:Nat) :Int) = (.int .u8 ((y0.toNat:Nat) :Int))) (kV (k:= (0:Int)) h2),qp h4] [rn 10,bt 6,rn 5,bt 11,rn 1,.ans (.ev (.int .u8 ((y0.toNat:Nat) :Int))),rn 3,bt 16,rn 1,.ans (.ev (.int .u8 ((y0.toNat:Nat) :Int))),rn 3,bf 21,rn 7] trivial
theorem aLZ (s:aX)(y0:UInt8)(h0:decide ((s.length:Int) ≥ (1:Int)) =true)(h1:decide ((s.length:Int) ≤ (8:Int)) =true)(h2: (s)[0]?=some y0)(h3:decide (((y0.toNat:Nat) :Int) ≥ (65:Int)) =false) :
  Ends PP 0 (start PP 120 [(bO s)]).as (.ret (bV false)) (aA [] 0) :=
 wE 0 [] [qp h0,qp h1,qp (p:=0≤ (0:Int)) (by decide),qp (p:= (0:Int) < (s.length:Int)) (kU (k:= (0:Int)) (by decide) h2),qp (p:=AV.int .u8 ((Nat.mod (Nat.div (aF s) (Nat.pow 256 (0:Int).toNat)) 256:Nat) :Int) = (.int .u8 ((y0.toNat:Nat) :Int))) (kV (k:= (0:Int)) h2),qp h3] [rn 10,bt 6,rn 5,bt 11,rn 1,.ans (.ev (.int .u8 ((y0.toNat:Nat) :Int))),rn 3,bf 16,rn 12] trivial
theorem aL0 (s:aX)(h0:decide ((s.length:Int) ≥ (1:Int)) =true)(h1:decide ((s.length:Int) ≤ (8:Int)) =false) :
  Ends PP 0 (start PP 120 [(bO s)]).as (.ret (bV false)) (aA [] 0) :=
 wE 0 [] [qp h0,qp h1] [rn 10,bt 6,rn 5,bf 11,rn 17] trivial
theorem aL1 (s:aX)(h0:decide ((s.length:Int) ≥ (1:Int)) =false) :
  Ends PP 0 (start PP 120 [(bO s)]).as (.ret (bV false)) (aA [] 0) :=
 wE 0 [] [qp h0] [rn 10,bf 6,rn 22] trivial
noncomputable def wZ (l:List aX)(s:aX)(i5:Int) :TS:=
 {fr:={fn:=51,nt:=18,sl:=[(0,(iS l)),(1,(bO s)),(4,(bV false)),(5,(nI i5))],todo:=[.code (cd Tryz.f51 [1,0,1,0,0]),.inLoop (cd Tryz.f51 [1,0,1,0,0]),.inBlock 0,.code (cd Tryz.f51 [1,1])]},cs:=[],hp:=[],nb:=0}
theorem aQ1 (l:List aX)(s:aX) :
  LeadsM PP 0 (start PP 51 [(iS l),(bO s)]).as (wZ l s 0).as:=
 wW 0 [] [] [rn 11] trivial
theorem aQ2 (l:List aX)(s:aX)(i5:Int)(y0:aX)(h0:decide (i5< (l.length:Int)) =true)(h1:0≤i5)(h2: ((l)[i5.toNat]?) =some y0)(h3: (dR y0.length (aF y0) s.length (aF s)) =true) :
  Ends PP 0 (wZ l s i5).as (.ret (bV true)) (aA [] 0) :=
 wE 0 [] [ql bO l,qp h0,qp h1,qg bO h2,qp h3] [rn 5,aL l,rn 2,bt 9,rn 8,aI (bO y0),rn 4,bt 17,rn 6] trivial
theorem aQ3 (l:List aX)(s:aX)(i5:Int)(y0:aX)(h0:decide (i5< (l.length:Int)) =true)(h1:0≤i5)(h2: ((l)[i5.toNat]?) =some y0)(h3: (dR y0.length (aF y0) s.length (aF s)) =false)(h4: (IntKind.i64.wrap (i5+ (1:Int))) = (i5+ (1:Int))) :
  LeadsM PP 0 (wZ l s i5).as (wZ l s (i5+ (1:Int))).as:=
 wW 0 [] [ql bO l,qp h0,qp h1,qg bO h2,qp h3,qp (congrArg (AV.int .i64) h4)] [rn 5,aL l,rn 2,bt 9,rn 8,aI (bO y0),rn 4,bf 17,rn 6,sI 11 (i5+ (1:Int)),rn 3] trivial
theorem aQ4 (l:List aX)(s:aX)(i5:Int)(h0:decide (i5< (l.length:Int)) =false) :
  Ends PP 0 (wZ l s i5).as (.ret (bV false)) (aA [] 0) :=
 wE 0 [] [ql bO l,qp h0] [rn 5,aL l,rn 2,bf 9,rn 7] trivial
noncomputable def mS (l:List aX)(i3:Int) :TS:=
 {fr:={fn:=49,nt:=18,sl:=[(0,(iS l)),(2,(bV false)),(3,(nI i3))],todo:=[.code (cd Tryz.f49 [1,0,1,0,0]),.inLoop (cd Tryz.f49 [1,0,1,0,0]),.inBlock 0,.code (cd Tryz.f49 [1,1])]},cs:=[],hp:=[],nb:=0}
theorem aJd (l:List aX) :
  LeadsM PP 0 (start PP 49 [(iS l)]).as (mS l 0).as:=
 wW 0 [] [] [rn 11] trivial
theorem aJe (l:List aX)(i3:Int)(y0:aX)(y1:Bool)(h0:decide (i3< (l.length:Int)) =true)(h1:0≤i3)(h2:i3.toNat≤List.length l)(h3: ((l)[i3.toNat]?) =some y0)(h4:aE PP 51 [(iS (List.take i3.toNat l)),(bO y0)] (bV y1))(h5:y1=true) :
  Ends PP 0 (mS l i3).as (.ret (bV false)) (aA [] 0) :=
 wE 0 [] [ql bO l,qp h0,qp (p:=aLR PP 92 (iS l) none (some (nI i3)) (iS (List.take i3.toNat l))) (aI9 (k:=i3) (by kernel_rfl) h1 h2),qp h1,qg bO h3,qp h4,qp h5] [rn 5,aL l,rn 2,bt 7,rn 5,.reg [.d,.d,.ans (.ev (iS (List.take i3.toNat l))),.d,.d,.ans (.idx (bO y0)),.d,.pure (bV y1)],bt 17,rn 6] trivial
theorem aJf (l:List aX)(i3:Int)(y0:aX)(y1:Bool)(h0:decide (i3< (l.length:Int)) =true)(h1:0≤i3)(h2:i3.toNat≤List.length l)(h3: ((l)[i3.toNat]?) =some y0)(h4:aE PP 51 [(iS (List.take i3.toNat l)),(bO y0)] (bV y1))(h5:y1=false)(h6: (IntKind.i64.wrap (i3+ (1:Int))) = (i3+ (1:Int))) :
  LeadsM PP 0 (mS l i3).as (mS l (i3+ (1:Int))).as:=
 wW 0 [] [ql bO l,qp h0,qp (p:=aLR PP 92 (iS l) none (some (nI i3)) (iS (List.take i3.toNat l))) (aI9 (k:=i3) (by kernel_rfl) h1 h2),qp h1,qg bO h3,qp h4,qp h5,qp (congrArg (AV.int .i64) h6)] [rn 5,aL l,rn 2,bt 7,rn 5,.reg [.d,.d,.ans (.ev (iS (List.take i3.toNat l))),.d,.d,.ans (.idx (bO y0)),.d,.pure (bV y1)],bf 17,rn 6,sI 9 (i3+ (1:Int)),rn 3] trivial
theorem aJg (l:List aX)(i3:Int)(h0:decide (i3< (l.length:Int)) =false) :
  Ends PP 0 (mS l i3).as (.ret (bV true)) (aA [] 0) :=
 wE 0 [] [ql bO l,qp h0] [rn 5,aL l,rn 2,bf 7,rn 7] trivial
noncomputable def oR (p_form p_n:Int)(p_text:aX)(p_parts:List Pat)(left left1 i5:Int) :TS:=
 {fr:={fn:=124,nt:=29,sl:=[(1,(nI left1)),(2,(.ptr 0 0)),(4,(nI 0)),(5,(nI i5))],todo:=[.code (cd Tryz.f124 [1,1,1,0,1,0,0]),.inLoop (cd Tryz.f124 [1,1,1,0,1,0,0]),.inBlock 0,.code (cd Tryz.f124 [1,1,1,1])]},cs:=[],hp:=[(0,(.cells (putCells .leaf 0 [(nI p_form),(nI p_n),(bO p_text),(iP p_parts)]) 4 [] false),false)],nb:=1}
theorem aL2 (p_form p_n:Int)(p_text:aX)(p_parts:List Pat)(left:Int)(h0:decide (left< (1:Int)) =true) :
  Ends PP 0 (start PP 124 [(.agg [(nI p_form),(nI p_n),(bO p_text),(iP p_parts)]),(nI left)]).as (.ret (nI (-1))) (aA [] 0) :=
 wE 1 [] [qp h0] [rn 11,bt 7,rn 6] trivial
theorem aL3 (p_form p_n:Int)(p_text:aX)(p_parts:List Pat)(left:Int)(h0:decide (left< (1:Int)) =false)(h1: (IntKind.i64.wrap (left- (1:Int))) = (left- (1:Int))) :
  LeadsM PP 0 (start PP 124 [(.agg [(nI p_form),(nI p_n),(bO p_text),(iP p_parts)]),(nI left)]).as (oR p_form p_n p_text p_parts left (left- (1:Int)) 0).as:=
 wW 1 [0] [qp h0,qp (congrArg (AV.int .i64) h1)] [rn 11,bf 7,rn 6,sI 9 (left- (1:Int)),rn 9] trivial
theorem aL4 (p_form p_n:Int)(p_text:aX)(p_parts:List Pat)(left left1:Int)(i5 y_form0 y_n1:Int)(y_text2:aX)(y_parts3:List Pat)(y4:Int)(h0:decide (i5< (p_parts.length:Int)) =true)(h1:decide (left1≥ (0:Int)) =true)(h2:0≤i5)(h3: ((p_parts)[i5.toNat]?) =some (Pat.mk y_form0 y_n1 y_text2 y_parts3))(h4:aE PP 124 [(.agg [(nI y_form0),(nI y_n1),(bO y_text2),(iP y_parts3)]),(nI left1)] (nI y4))(h5: (IntKind.i64.wrap (i5+ (1:Int))) = (i5+ (1:Int))) :
  LeadsM PP 0 (oR p_form p_n p_text p_parts left left1 i5).as (oR p_form p_n p_text p_parts left y4 (i5+ (1:Int))).as:=
 wW 1 [0] [fU p_parts,qp h0,qp h1,qp h2,qgP h3,qp h4,qp (congrArg (AV.int .i64) h5)] [rn 6,aL p_parts,rn 2,bt 15,rn 4,bt 18,rn 8,aI (Pat.av (Pat.mk y_form0 y_n1 y_text2 y_parts3)),rn 2,.pure (nI y4),rn 6,sI 20 (i5+ (1:Int)),rn 3] trivial
theorem aL5 (p_form p_n:Int)(p_text:aX)(p_parts:List Pat)(left left1 i5:Int)(h0:decide (i5< (p_parts.length:Int)) =true)(h1:decide (left1≥ (0:Int)) =false) :
  Ends PP 0 (oR p_form p_n p_text p_parts left left1 i5).as (.ret (nI left1)) (aA [] 0) :=
 wE 1 [] [fU p_parts,qp h0,qp h1] [rn 6,aL p_parts,rn 2,bt 15,rn 4,bf 18,rn 8] trivial
theorem aL6 (p_form p_n:Int)(p_text:aX)(p_parts:List Pat)(left left1 i5:Int)(h0:decide (i5< (p_parts.length:Int)) =false) :
  Ends PP 0 (oR p_form p_n p_text p_parts left left1 i5).as (.ret (nI left1)) (aA [] 0) :=
 wE 1 [] [fU p_parts,qp h0] [rn 6,aL p_parts,rn 2,bf 15,rn 12] trivial
noncomputable def jZ (p_form p_n:Int)(p_text:aX)(p_parts:List Pat)(i3:Int) :TS:=
 {fr:={fn:=125,nt:=22,sl:=[(1,(.ptr 0 0)),(2,(bV false)),(3,(nI i3))],todo:=[.code (cd Tryz.f125 [1,0,1,0,0]),.inLoop (cd Tryz.f125 [1,0,1,0,0]),.inBlock 0,.code (cd Tryz.f125 [1,1])]},cs:=[],hp:=[(0,(.cells (putCells .leaf 0 [(nI p_form),(nI p_n),(bO p_text),(iP p_parts)]) 4 [] false),false)],nb:=1}
theorem aFm (p_form p_n:Int)(p_text:aX)(p_parts:List Pat) :
  LeadsM PP 0 (start PP 125 [(.agg [(nI p_form),(nI p_n),(bO p_text),(iP p_parts)])]).as (jZ p_form p_n p_text p_parts 0).as:=
 wW 1 [0] [] [rn 12] trivial
theorem aFn (p_form p_n:Int)(p_text:aX)(p_parts:List Pat)(i3 y_form0 y_n1:Int)(y_text2:aX)(y_parts3:List Pat)(y4:Bool)(h0:decide (i3< (p_parts.length:Int)) =true)(h1:0≤i3)(h2: ((p_parts)[i3.toNat]?) =some (Pat.mk y_form0 y_n1 y_text2 y_parts3))(h3:aE PP 125 [(.agg [(nI y_form0),(nI y_n1),(bO y_text2),(iP y_parts3)])] (bV y4))(h4: (!y4) =true) :
  Ends PP 0 (jZ p_form p_n p_text p_parts i3).as (.ret (bV false)) (aA [] 0) :=
 wE 1 [] [fU p_parts,qp h0,qp h1,qgP h2,qp h3,qp h4] [rn 6,aL p_parts,rn 2,bt 8,rn 9,aI (Pat.av (Pat.mk y_form0 y_n1 y_text2 y_parts3)),rn 1,pB y4,rn 2,bt 17,rn 6] trivial
theorem aFo (p_form p_n:Int)(p_text:aX)(p_parts:List Pat)(i3 y_form0 y_n1:Int)(y_text2:aX)(y_parts3:List Pat)(y4:Bool)(h0:decide (i3< (p_parts.length:Int)) =true)(h1:0≤i3)(h2: ((p_parts)[i3.toNat]?) =some (Pat.mk y_form0 y_n1 y_text2 y_parts3))(h3:aE PP 125 [(.agg [(nI y_form0),(nI y_n1),(bO y_text2),(iP y_parts3)])] (bV y4))(h4: (!y4) =false)(h5: (IntKind.i64.wrap (i3+ (1:Int))) = (i3+ (1:Int))) :
  LeadsM PP 0 (jZ p_form p_n p_text p_parts i3).as (jZ p_form p_n p_text p_parts (i3+ (1:Int))).as:=
 wW 1 [0] [fU p_parts,qp h0,qp h1,qgP h2,qp h3,qp h4,qp (congrArg (AV.int .i64) h5)] [rn 6,aL p_parts,rn 2,bt 8,rn 9,aI (Pat.av (Pat.mk y_form0 y_n1 y_text2 y_parts3)),rn 1,pB y4,rn 2,bf 17,rn 6,sI 10 (i3+ (1:Int)),rn 3] trivial
theorem aFp (p_form p_n:Int)(p_text:aX)(p_parts:List Pat)(i3:Int)(h0:decide (i3< (p_parts.length:Int)) =false) :
  Ends PP 0 (jZ p_form p_n p_text p_parts i3).as (.ret (bV (decide ((p_text.length:Int) ≤ (30:Int))))) (aA [] 0) :=
 wE 1 [] [fU p_parts,qp h0] [rn 6,aL p_parts,rn 2,bf 8,rn 11] trivial
theorem aJh (p_form p_n:Int)(p_text:aX)(p_parts:List Pat)(y0:Int)(y1:Bool)(h0:aE PP 124 [(.agg [(nI p_form),(nI p_n),(bO p_text),(iP p_parts)]),(nI 16)] (nI y0))(h1:decide (y0≥ (0:Int)) =true)(h2:aE PP 125 [(.agg [(nI p_form),(nI p_n),(bO p_text),(iP p_parts)])] (bV y1)) :
  Ends PP 0 (start PP 64 [(.agg [(nI p_form),(nI p_n),(bO p_text),(iP p_parts)])]).as (.ret (bV y1)) (aA [] 0) :=
 wE 1 [] [qp h0,qp h1,qp h2] [rn 8,.pure (nI y0),rn 2,bt 6,rn 1,pB y1,rn 4] trivial
theorem aJi (p_form p_n:Int)(p_text:aX)(p_parts:List Pat)(y0:Int)(h0:aE PP 124 [(.agg [(nI p_form),(nI p_n),(bO p_text),(iP p_parts)]),(nI 16)] (nI y0))(h1:decide (y0≥ (0:Int)) =false) :
  Ends PP 0 (start PP 64 [(.agg [(nI p_form),(nI p_n),(bO p_text),(iP p_parts)])]).as (.ret (bV false)) (aA [] 0) :=
 wE 1 [] [qp h0,qp h1] [rn 8,.pure (nI y0),rn 2,bf 6,rn 6] trivial
noncomputable def iY (p:Prog)(i3:Int) :TS:=
 {fr:={fn:=17,nt:=74,sl:=[(1,(.ptr 0 0)),(2,(bV false)),(3,(nI i3))],todo:=[.code (cd Tryz.f17 [1,1,0,1,0,0]),.inLoop (cd Tryz.f17 [1,1,0,1,0,0]),.inBlock 0,.code (cd Tryz.f17 [1,1,1])]},cs:=[],hp:=[(0,(.cells (putCells .leaf 0 [(iN p.nodes),(iI p.funs),(nI p.main),(iC p.cons)]) 4 [] false),false)],nb:=1}
noncomputable def fZ (p:Prog)(i4:Int) :TS:=
 {fr:={fn:=17,nt:=74,sl:=[(1,(.ptr 0 0)),(2,(bV false)),(4,(nI i4))],todo:=[.code (cd Tryz.f17 [1,1,1,0,1,0,0]),.inLoop (cd Tryz.f17 [1,1,1,0,1,0,0]),.inBlock 2,.code (cd Tryz.f17 [1,1,1,1])]},cs:=[],hp:=[(0,(.cells (putCells .leaf 0 [(iN p.nodes),(iI p.funs),(nI p.main),(iC p.cons)]) 4 [] false),false)],nb:=1}
noncomputable def iZ (p:Prog)(c1_0 c1_1:Int)(c1_2:List Int)(c1_3:List Pat)(k6 i4:Int) :TS:=
 {fr:={fn:=17,nt:=74,sl:=[(1,(.ptr 0 0)),(2,(bV false)),(4,(nI i4)),(5,(.ptr 1 0)),(6,(nI k6))],todo:=[.code (cd Tryz.f17 [1,1,1,0,1,0,0,1,0,0,1,1,1,0,0]),.inLoop (cd Tryz.f17 [1,1,1,0,1,0,0,1,0,0,1,1,1,0,0]),.inBlock 4,.inBlock 3,.code (cd Tryz.f17 [1,1,1,0,1,0,0,1,1]),.inLoop (cd Tryz.f17 [1,1,1,0,1,0,0]),.inBlock 2,.code (cd Tryz.f17 [1,1,1,1])]},cs:=[],hp:=[(0,(.cells (putCells .leaf 0 [(iN p.nodes),(iI p.funs),(nI p.main),(iC p.cons)]) 4 [] false),false),(1,(.cells (putCells .leaf 0 [(nI c1_0),(nI c1_1),(iI c1_2),(iP c1_3)]) 4 [] false),false)],nb:=2}
theorem aDI (p:Prog)(h0:decide ((p.nodes.length:Int) > (320:Int)) =true) :
  Ends PP 0 (start PP 17 [(Prog.av p)]).as (.ret (bV false)) (aA [] 0) :=
 wE 1 [] [ql Node.av p.nodes,qp h0] [rn 10,aL p.nodes,rn 2,bt 11,rn 18] trivial
theorem aDJ (p:Prog)(h0:decide ((p.nodes.length:Int) > (320:Int)) =false)(h1:decide ((p.funs.length:Int) > (320:Int)) =true) :
  Ends PP 0 (start PP 17 [(Prog.av p)]).as (.ret (bV false)) (aA [] 0) :=
 wE 1 [] [ql Node.av p.nodes,qp h0,ql aB p.funs,qp h1] [rn 10,aL p.nodes,rn 2,bf 11,rn 2,aL p.funs,rn 3,bt 17,rn 12] trivial
theorem aDK (p:Prog)(h0:decide ((p.nodes.length:Int) > (320:Int)) =false)(h1:decide ((p.funs.length:Int) > (320:Int)) =false)(h2:decide ((p.cons.length:Int) > (25:Int)) =true) :
  Ends PP 0 (start PP 17 [(Prog.av p)]).as (.ret (bV false)) (aA [] 0) :=
 wE 1 [] [ql Node.av p.nodes,qp h0,ql aB p.funs,qp h1,ql Con.av p.cons,qp h2] [rn 10,aL p.nodes,rn 2,bf 11,rn 2,aL p.funs,rn 3,bf 17,rn 2,aL p.cons,rn 3,bt 22,rn 6] trivial
theorem aDL (p:Prog)(h0:decide ((p.nodes.length:Int) > (320:Int)) =false)(h1:decide ((p.funs.length:Int) > (320:Int)) =false)(h2:decide ((p.cons.length:Int) > (25:Int)) =false) :
  LeadsM PP 0 (start PP 17 [(Prog.av p)]).as (iY p 0).as:=
 wW 1 [0] [ql Node.av p.nodes,qp h0,ql aB p.funs,qp h1,ql Con.av p.cons,qp h2] [rn 10,aL p.nodes,rn 2,bf 11,rn 2,aL p.funs,rn 3,bf 17,rn 2,aL p.cons,rn 3,bf 22,rn 9] trivial
theorem aDM (p:Prog)(i3:Int)(y0:Con)(h0:decide (i3< (p.cons.length:Int)) =true)(h1:0≤i3)(h2: ((p.cons)[i3.toNat]?) =some y0)(h3:decide ((y0.name.length:Int) > (40:Int)) =true) :
  Ends PP 0 (iY p i3).as (.ret (bV false)) (aA [] 0) :=
 wE 1 [] [ql Con.av p.cons,qp h0,qp h1,qg Con.av h2,qp h3] [rn 6,aL p.cons,rn 2,bt 27,rn 9,aI (Con.av y0),rn 5,bt 37,rn 6] trivial
theorem aDN (p:Prog)(i3:Int)(y0:Con)(h0:decide (i3< (p.cons.length:Int)) =true)(h1:0≤i3)(h2: ((p.cons)[i3.toNat]?) =some y0)(h3:decide ((y0.name.length:Int) > (40:Int)) =false)(h4: (IntKind.i64.wrap (i3+ (1:Int))) = (i3+ (1:Int))) :
  LeadsM PP 0 (iY p i3).as (iY p (i3+ (1:Int))).as:=
 wW 1 [0] [ql Con.av p.cons,qp h0,qp h1,qg Con.av h2,qp h3,qp (congrArg (AV.int .i64) h4)] [rn 6,aL p.cons,rn 2,bt 27,rn 9,aI (Con.av y0),rn 5,bf 37,rn 6,sI 29 (i3+ (1:Int)),rn 3] trivial
theorem aDO (p:Prog)(i3:Int)(h0:decide (i3< (p.cons.length:Int)) =false) :
  LeadsM PP 0 (iY p i3).as (fZ p 0).as:=
 wW 1 [0] [ql Con.av p.cons,qp h0] [rn 6,aL p.cons,rn 2,bf 27,rn 9] trivial
theorem aDP (p:Prog)(i4:Int)(y0:Node)(h0:decide (i4< (p.nodes.length:Int)) =true)(h1:0≤i4)(h2: ((p.nodes)[i4.toNat]?) =some y0)(h3:decide ((y0.kids.length:Int) > (10:Int)) =true) :
  Ends PP 0 (fZ p i4).as (.ret (bV false)) (aA [] 0) :=
 wE 2 [] [ql Node.av p.nodes,qp h0,qp h1,qg Node.av h2,ql aB y0.kids,qp h3] [rn 6,aL p.nodes,rn 2,bt 42,rn 9,aI (Node.av y0),rn 9,aL y0.kids,rn 2,bt 54,rn 12] trivial
theorem aDQ (p:Prog)(i4:Int)(y0:Node)(h0:decide (i4< (p.nodes.length:Int)) =true)(h1:0≤i4)(h2: ((p.nodes)[i4.toNat]?) =some y0)(h3:decide ((y0.kids.length:Int) > (10:Int)) =false)(h4:decide ((y0.pats.length:Int) > (10:Int)) =true) :
  Ends PP 0 (fZ p i4).as (.ret (bV false)) (aA [] 0) :=
 wE 2 [] [ql Node.av p.nodes,qp h0,qp h1,qg Node.av h2,ql aB y0.kids,qp h3,fU y0.pats,qp h4] [rn 6,aL p.nodes,rn 2,bt 42,rn 9,aI (Node.av y0),rn 9,aL y0.kids,rn 2,bf 54,rn 2,aL y0.pats,rn 3,bt 59,rn 6] trivial
theorem aDR (p:Prog)(i4:Int)(y0:Node)(h0:decide (i4< (p.nodes.length:Int)) =true)(h1:0≤i4)(h2: ((p.nodes)[i4.toNat]?) =some y0)(h3:decide ((y0.kids.length:Int) > (10:Int)) =false)(h4:decide ((y0.pats.length:Int) > (10:Int)) =false) :
  LeadsM PP 0 (fZ p i4).as (iZ p y0.op y0.n y0.kids y0.pats 0 i4).as:=
 wW 2 [0,1] [ql Node.av p.nodes,qp h0,qp h1,qg Node.av h2,ql aB y0.kids,qp h3,fU y0.pats,qp h4] [rn 6,aL p.nodes,rn 2,bt 42,rn 9,aI (Node.av y0),rn 9,aL y0.kids,rn 2,bf 54,rn 2,aL y0.pats,rn 3,bf 59,rn 8] trivial
theorem aDS (p:Prog)(i4:Int)(h0:decide (i4< (p.nodes.length:Int)) =false) :
  Ends PP 0 (fZ p i4).as (.ret (bV true)) (aA [] 0) :=
 wE 1 [] [ql Node.av p.nodes,qp h0] [rn 6,aL p.nodes,rn 2,bf 42,rn 7] trivial
theorem aDT (p:Prog)(c1_0 c1_1:Int)(c1_2:List Int)(c1_3:List Pat)(k6 i4:Int)(y_form0 y_n1:Int)(y_text2:aX)(y_parts3:List Pat)(y4:Bool)(h0:decide (k6< (c1_3.length:Int)) =true)(h1:0≤k6)(h2: ((c1_3)[k6.toNat]?) =some (Pat.mk y_form0 y_n1 y_text2 y_parts3))(h3:aE PP 64 [(.agg [(nI y_form0),(nI y_n1),(bO y_text2),(iP y_parts3)])] (bV y4))(h4: (!y4) =true) :
  Ends PP 0 (iZ p c1_0 c1_1 c1_2 c1_3 k6 i4).as (.ret (bV false)) (aA [] 0) :=
 wE 2 [] [fU c1_3,qp h0,qp h1,qgP h2,qp h3,qp h4] [rn 6,aL c1_3,rn 2,bt 64,rn 9,aI (Pat.av (Pat.mk y_form0 y_n1 y_text2 y_parts3)),rn 1,pB y4,rn 2,bt 73,rn 6] trivial
theorem aDU (p:Prog)(c1_0 c1_1:Int)(c1_2:List Int)(c1_3:List Pat)(k6 i4:Int)(y_form0 y_n1:Int)(y_text2:aX)(y_parts3:List Pat)(y4:Bool)(h0:decide (k6< (c1_3.length:Int)) =true)(h1:0≤k6)(h2: ((c1_3)[k6.toNat]?) =some (Pat.mk y_form0 y_n1 y_text2 y_parts3))(h3:aE PP 64 [(.agg [(nI y_form0),(nI y_n1),(bO y_text2),(iP y_parts3)])] (bV y4))(h4: (!y4) =false)(h5: (IntKind.i64.wrap (k6+ (1:Int))) = (k6+ (1:Int))) :
  LeadsM PP 0 (iZ p c1_0 c1_1 c1_2 c1_3 k6 i4).as (iZ p c1_0 c1_1 c1_2 c1_3 (k6+ (1:Int)) i4).as:=
 wW 2 [0,1] [fU c1_3,qp h0,qp h1,qgP h2,qp h3,qp h4,qp (congrArg (AV.int .i64) h5)] [rn 6,aL c1_3,rn 2,bt 64,rn 9,aI (Pat.av (Pat.mk y_form0 y_n1 y_text2 y_parts3)),rn 1,pB y4,rn 2,bf 73,rn 6,sI 66 (k6+ (1:Int)),rn 3] trivial
theorem aDV (p:Prog)(c1_0 c1_1:Int)(c1_2:List Int)(c1_3:List Pat)(k6 i4:Int)(h0:decide (k6< (c1_3.length:Int)) =false)(h1: (IntKind.i64.wrap (i4+ (1:Int))) = (i4+ (1:Int))) :
  LeadsM PP 0 (iZ p c1_0 c1_1 c1_2 c1_3 k6 i4).as (fZ p (i4+ (1:Int))).as:=
 wW 2 [0] [fU c1_3,qp h0,qp (congrArg (AV.int .i64) h1)] [rn 6,aL c1_3,rn 2,bf 64,rn 6,sI 44 (i4+ (1:Int)),rn 3] trivial
end Go.Hb
namespace Go.Hb
open Go.Proofs
theorem wrap64 {e:Int}(h1: -9223372036854775808≤e)(h2:e<9223372036854775808) :IntKind.i64.wrap e=e:=by
 have a: (2:Int) ^ IntKind.i64.bits=18446744073709551616:=by decide
 have b: (2:Int) ^ (IntKind.i64.bits-1) =9223372036854775808:=by decide
 simp only [IntKind.wrap,a,b,IntKind.signed,Bool.true_and,decide_eq_true_eq]
 split<;>omega
noncomputable def tD (P:Program)(f:Nat) :Bool:=match P.funcs[f]? with
 | some fn=>match fn.body with
  |some _=>true
  |none=>false
 |none=>false
theorem bK {P:Program}{f:Nat}{args:List AV}{v:AV}(hb:tD P f=true)(hk:AV.keylessL args=true)(hv:AV.keyless v=true)(he:Ends P 0 (start P f args).as (.ret v) (aA [] 0)) :aE P f args v:=by
 unfold tD at hb
 split at hb
 · rename_i fn hf
   split at hb
   ·rename_i c hc;exact pure_of hf hc hk hv he
   ·cases hb
 ·cases hb
theorem cA {α:Type}{l t:List α}{i:Nat}{y:α}(h:l.drop i=y::t) :l[i]?=some y∧l.drop (i+1) =t∧i<l.length:=by
 have h1:l[i]?=some y:=by rw [←List.head?_drop,h];rfl
 refine⟨h1,?_,(List.getElem?_eq_some_iff.1 h1).1⟩
 rw [←List.tail_drop,h];rfl
theorem cD {α:Type}{l:List α}{i:Nat}(h:l.drop i= []) :l.length≤i:=List.drop_eq_nil_iff.1 h
theorem sd {p:Prop}(h:p:=by first|assumption|rfl| (simp only [Int.toNat_natCast];assumption) | (simp only [decide_eq_true_eq,decide_eq_false_iff_not];omega) |omega| (apply wrap64<;>omega) | (simp_all;done)) :p:=h
def dU (n lo hi:Int) :Bool:=decide (lo≤n) &&decide (n≤hi)
theorem bC (n lo hi:Int) :aE PP 65 [.int .i64 n,.int .i64 lo,.int .i64 hi] (.bool (dU n lo hi)) :=by
 refine bK (by kernel_rfl) rfl rfl ?_
 by_cases h:n≥lo
 · have e:dU n lo hi=decide (n≤hi) :=by unfold dU;rw [decide_eq_true (show lo≤n from h),Bool.true_and]
   rw [e];exact aTT n lo hi (decide_eq_true h)
 · have e:dU n lo hi=false:=by unfold dU;rw [decide_eq_false (show ¬lo≤n from h),Bool.false_and]
   rw [e];exact aTU n lo hi (decide_eq_false h)
def tG (c:UInt8) :Bool:=decide (97≤c.toNat) &&decide (c.toNat≤122)
def kE (s:aX) :Bool:=s.all tG
theorem aCd (s:aX)(hs:s.length<1000000) :∀ (t:aX) (i:Nat),s.drop i=t→Ends PP 0 (mR s (i:Int)).as (.ret (.bool (kE t))) (aA [] 0)
 | [],i,h=>by
  have:=cD h
  exact aLW s i sd
 | c :: t,i,h=>by
  obtain⟨h1,h2,h3⟩ :=cA h
  have hi: (decide ((i:Int) < ((List.length s:Nat) :Int))) =true:=sd
  have h1':s[(i:Int).toNat]?=some c:=sd
  by_cases g1:c.toNat<97
  · have e:kE (c::t) =false:=by simp [kE,tG];omega
    rw [e];exact aLT s i c hi sd h1' sd
  · by_cases g2:122<c.toNat
    · have e:kE (c::t) =false:=by simp [kE,tG];omega
      rw [e];exact aLU s i c hi sd h1' sd sd
    · have e:kE (c::t) =kE t:=by
       have:tG c=true:=by simp [tG];omega
       simp [kE,this]
      rw [e]
      refine(aLV s i c hi sd h1' sd sd sd).ends ?_
      exact aCd s hs t (i+1) h2
theorem aJj (s:aX)(hs:s.length<1000000) :aE PP 118 [bO s] (.bool (kE s)) :=
 bK (by kernel_rfl) rfl rfl ((aLS s).ends (aCd s hs s 0 rfl))
def jK (s:aX) :Bool:=match s with
 | [] =>false
 |c::t=>decide (s.length≤8) &&decide (65≤c.toNat) &&decide (c.toNat≤90) &&kE t
theorem aJk (s:aX) :aE PP 120 [bO s] (.bool (jK s)) :=by
 refine bK (by kernel_rfl) rfl rfl ?_
 match s with
 | [] =>exact aL1 [] sd
 | c :: t=>
  have h0: (decide (((List.length (c::t) :Nat) :Int) ≥ (1:Int))) =true:=by simp only [List.length_cons];exact sd
  by_cases g0: (c::t).length≤8
  · have g0': (decide (((List.length (c::t) :Nat) :Int) ≤ (8:Int))) =true:=sd
    by_cases g1:65≤c.toNat
    · by_cases g2:c.toNat≤90
      · have e:jK (c::t) =kE t:=by simp only [jK,decide_eq_true g0,decide_eq_true g1,decide_eq_true g2,Bool.true_and]
        rw [e]
        exact aLX (c::t) c _ h0 g0' rfl sd sd (by simp) (aJj t (by simp at g0;omega))
      · have e:jK (c::t) =false:=by simp only [jK,decide_eq_false g2,Bool.and_false,Bool.false_and]
        rw [e];exact aLY (c::t) c h0 g0' rfl sd sd
    · have e:jK (c::t) =false:=by simp only [jK,decide_eq_false g1,Bool.and_false,Bool.false_and]
      rw [e];exact aLZ (c::t) c h0 g0' rfl sd
  · have e:jK (c::t) =false:=by simp only [jK,decide_eq_false g0,Bool.false_and]
    rw [e];exact aL0 (c::t) h0 sd
def tH (l:List aX)(s:aX) :Bool:=l.any fun x=>decide (x=s)
theorem aFS (l:List aX)(s:aX)(hl:l.length<1000000) :∀ (t:List aX) (i:Nat),l.drop i=t→Ends PP 0 (wZ l s (i:Int)).as (.ret (.bool (tH t s))) (aA [] 0)
 | [],i,h=>by
  have:=cD h
  exact aQ4 l s i sd
 | x ::t,i,h=>by
  obtain⟨h1,h2,h3⟩ :=cA h
  by_cases g:x=s
  · have e:tH (x::t) s=true:=by simp [tH,g]
    rw [e];exact aQ2 l s i x sd sd sd (by rw [vN];exact decide_eq_true g)
  · have e:tH (x::t) s=tH t s:=by simp [tH,g]
    rw [e]
    refine(aQ3 l s i x sd sd sd (by rw [vN];exact decide_eq_false g) sd).ends ?_
    exact aFS l s hl t (i+1) h2
theorem aOJ (l:List aX)(s:aX)(hl:l.length<1000000) :aE PP 51 [.ilst 1 (List.map bO l) false,bO s] (.bool (tH l s)) :=
 bK (by kernel_rfl) rfl rfl ((aQ1 l s).ends (aFS l s hl l 0 rfl))
def dP :List aX→List aX→Bool
 |_,[] =>true
 |pre,x::t=> !tH pre x&&dP (pre++ [x]) t
def oM (l:List aX) :Bool:=dP [] l
theorem aAO (l:List aX)(hl:l.length<1000000) :∀ (t:List aX) (i:Nat),l.drop i=t→Ends PP 0 (mS l (i:Int)).as (.ret (.bool (dP (l.take i) t))) (aA [] 0)
 | [],i,h=>by
  have:=cD h
  exact aJg l i sd
 | x ::t,i,h=>by
  obtain⟨h1,h2,h3⟩ :=cA h
  have hp:aE PP 51 [.ilst 1 (List.map bO (l.take (i:Int).toNat)) false,bO x] (.bool (tH (l.take i) x)) :=by
   simp only [Int.toNat_natCast]
   exact aOJ _ _ (by simp;omega)
  by_cases g:tH (l.take i) x=true
  · have e:dP (l.take i) (x::t) =false:=by simp [dP,g]
    rw [e]
    exact aJe l i x _ sd sd sd sd hp g
  · have g':tH (l.take i) x=false:=by simpa using g
    have e:dP (l.take i) (x::t) =dP (l.take (i+1)) t:=by
     simp only [dP,g',Bool.not_false,Bool.true_and]
     rw [List.take_add_one,h1];rfl
    rw [e]
    refine(aJf l i x _ sd sd sd sd hp g' sd).ends ?_
    exact aAO l hl t (i+1) h2
theorem aHz (l:List aX)(hl:l.length<1000000) :aE PP 49 [.ilst 1 (List.map bO l) false] (.bool (oM l)) :=by
 refine bK (by kernel_rfl) rfl rfl ((aJd l).ends ?_)
 exact aAO l hl l 0 rfl
end Go.Hb
namespace Go.Hb
variable {P :Program}
theorem aJl {s s':AS}{b:Bool}{h':Hp}(hl:Leads P s s')(hf:aBY P s'=some (.bool b,h')) :Ends P 0 s (.ret (.bool b)) (aA [] 0) :=by
 have h1:LeadsM P 0 s s':=fun hm E fr ccs w base f fs r=>by
  obtain⟨E',fr',cs',w',s1,f1,fs1,r1,x⟩ :=hl E fr ccs w base f fs r
  exact⟨E',fr',cs',w',s1,f1,fs1,r1,x.toM hm⟩
 intro hm E fr ccs w f fs r cl base
 obtain⟨cl',w',E',g1,⟨cv,rfl,g2⟩,g3,g4⟩ := (h1.ends (aDt hf)) hm E fr ccs w f fs r cl base
 refine⟨_,w',E'.p,g1,⟨cv,rfl,?_⟩,aI1 g3,⟨fun b hb=>absurd hb (Nat.not_lt_zero _),g4.imm,g4.size,g4.keep,fun b' o' L' e=>?_,Nat.le_refl _,g4.os,g4.tape,g4.output,g4.froz,g4.immo,fun b o e=>?_⟩⟩
 ·simpa only [VR]using g2
 ·simp [aI2,Hp.look,T.at_leaf]at e
 ·simp [aI2,Hp.look,T.at_leaf]at e
end Go.Hb
namespace Go.Hb
open Go.Proofs
def embOf (w:World) :Emb:= ⟨fun _=>none,fun k=>match w.heap[k]? with
 |some (.cells C _ _) =>some C
 |_=>none⟩
theorem aOK {w:World}{k:Nat}{C:Array Value}{el:TypeId}{fz:Nat×Nat}(h:w.heap[k]?=some (.cells C el fz)) : (embOf w).imm k=some C:=by
 simp only [embOf,h]
theorem aOL (w:World) :Rel (embOf w) ⟨.leaf,0⟩ w.heap:=by
 refine⟨fun b o e=>?_,fun b b' o o' L L' e=>?_,fun _ _=>rfl,fun k C e=>?_,fun b o L e=>?_,fun b o e=>?_⟩
 ·simp [Hp.look,T.at_leaf]at e
 ·simp [Hp.look,T.at_leaf]at e
 · simp only [embOf]at e
   split at e
   ·rename_i C' el fz h;cases e;exact⟨el,fz,h⟩
   ·cases e
 ·simp [Hp.look,T.at_leaf]at e
 ·simp [Hp.look,T.at_leaf]at e
def Elt (w:World)(e:Nat)(a:AV)(cs:List Value) :Prop:=cs.length=e∧∃u:Value,u.cells.toList=cs∧VR (embOf w) a u∧∀c∈cs,c.oneCell'=true
theorem Elt.one {w:World}{a:AV}{u:Value}(h:VR (embOf w) a u)(ha:a.one=true)(hu:u.cells= #[u]) :Elt w 1 a [u] :=
 ⟨rfl,u,by rw [hu],h,fun c hc=>by rw [List.mem_singleton.1 hc];exact h.one ha⟩
variable {H :Type} {enc:TypeId×Value→H} {P:Program} {w:World} {spare:Nat→Bool} {held:Bool}
theorem aTV {a:Addr}{C:Array Value}{el:TypeId}{fz:Nat×Nat}(hC:w.heap[a.block]?=some (.cells C el fz))(hs:a.spot=none)(k:Nat) :w.cell? (a.add k) =C[a.off+k]?:=by
 unfold World.cell? Addr.add
 by_cases h:k=0
 ·subst h;simp [hC,hs]
 ·simp [h,hC]
theorem add_add (a:Addr)(i j:Nat) : (a.add i).add j=a.add (i+j) :=by
 unfold Addr.add
 by_cases hi:i=0<;>by_cases hj:j=0<;>simp [hi,hj,Nat.add_assoc]
theorem aOM (us:List Value)(u:Value) :flat (us++ [u]) =flat us++u.cells.toList:=by simp [flat]
theorem pI {α:Type}(f:α→AV){t e:TypeId}{n fuel:Nat}(ht:P.underlying t=some (.slice e))(hc:P.cellsOf e=n)(hn:0<n){cs:List Value}{x:DataW H×List MemPlace}
  (h:DataW.trod enc P w 0 spare held fuel t cs=some x) (hel:∀fu,fu<fuel→∀cs x,DataW.trod enc P w 0 spare held fu e cs=some x→∃y,Elt w n (f y) cs) :∃ (ys:List α) (c:Value),cs= [c] ∧VR (embOf w) (.ilst n (ys.map f) false) c:=by
 rcases DataW.trod_slice ht h with⟨rfl,_⟩ | ⟨a,len,cap,elems,rest,m,rfl,rfl,_,_,hlc,_,hlen,hat,_⟩
 · refine⟨[],_,rfl,?_⟩
   simp only [VR]
   exact⟨[],by simp [VRs],⟨fun u hu=> (by cases hu),.inl ⟨rfl,none,0,rfl,fun _=>rfl,fun _=>rfl⟩⟩⟩
 · cases len with
   | zero=>
    refine⟨[],_,rfl,?_⟩
    simp only [VR]
    exact⟨[],by simp [VRs],⟨fun u hu=> (by cases hu),.inl ⟨rfl,some a,cap,rfl,fun e=> (by cases e),fun e=> (by cases e)⟩⟩⟩
   | succ len=>
    rw [hc]at hat
    have each:∀i,i<len+1→∃cs' y,w.cells? 0 (a.add (i*n)) n=some cs'∧Elt w n (f y) cs':=fun i hi=>by
     have h1:=hat i hi
     rw [List.getElem?_eq_getElem (by omega)]at h1
     obtain⟨cs',g1,g2⟩ :=Option.bind_eq_some_iff.1 h1
     obtain⟨y,g3⟩ :=hel m (Nat.lt_succ_self m) cs' _ g2
     exact⟨cs',y,g1,g3⟩
    obtain⟨C,el,fz,hC,hs⟩ :∃C el fz,w.heap[a.block]?=some (.cells C el fz) ∧a.spot=none:=by
     obtain⟨cs',y,g1,g2,_⟩ :=each 0 (by omega)
     obtain⟨_,_,g3⟩ :=World.cells?_some g1
     have g4:=g3 0 hn
     have: (a.add (0*n)).add 0=a:=by simp [Addr.add]
     rw [this,List.getElem?_eq_getElem (by omega)]at g4
     unfold World.cell? at g4
     split at g4
     · rename_i C el fz hh
       split at g4
       ·cases g4
       · rename_i hsp
         refine⟨C,el,fz,hh,?_⟩
         cases hq:a.spot with
         |none=>rfl
         |some q=>rw [hq]at hsp;simp at hsp
     ·cases g4
    have all:∀k,k≤len+1→∃ (ys:List α) (us:List Value),us.length=k∧VRs (embOf w) (ys.map f) us∧ (∀u∈us,okE n u) ∧∀j,j<k*n→C[a.off+j]?= (flat us)[j]?:=by
     intro k
     induction k with
     |zero=>exact fun _=> ⟨[],[],rfl,by simp [VRs],fun u hu=> (by cases hu),fun j hj=>by omega⟩
     | succ k ih=>
      intro hk
      obtain⟨ys,us,q1,q2,q3,q4⟩ :=ih (by omega)
      obtain⟨cs',y,g1,g2,u,g3,g4,g5⟩ :=each k (by omega)
      obtain⟨_,g6,g7⟩ :=World.cells?_some g1
      have hfl:=flat_length q3
      refine⟨ys++ [y],us++ [u],by simp [q1],?_,fun v hv=>?_,fun j hj=>?_⟩
      ·rw [List.map_append];exact q2.append (VRs.cons g4 (VRs.nil _))
      · rcases List.mem_append.1 hv with hv|hv
        ·exact q3 v hv
        · rw [List.mem_singleton.1 hv]
          refine⟨?_,fun c hc=>g5 c (by rw [←g3];exact hc)⟩
          rw [←Array.length_toList,g3,g2]
      · rw [aOM,g3]
        by_cases hj2:j<k*n
        ·rw [q4 j hj2,List.getElem?_append_left (by rw [hfl,q1];exact hj2)]
        · have hr:j-k*n<n:=by rw [Nat.succ_mul]at hj;omega
          rw [List.getElem?_append_right (by rw [hfl,q1];omega),hfl,q1,←g7 _ hr,add_add,aTV hC hs]
          congr 2;omega
    obtain⟨ys,us,q1,q2,q3,q4⟩ :=all (len+1) (Nat.le_refl _)
    refine⟨ys,_,rfl,?_⟩
    simp only [VR]
    refine⟨us,q2,q3,.inr ⟨a.block,a.off,cap,C,?_,aOK hC,by omega,fun e=> (by cases e),by rw [q1];exact q4⟩⟩
    rw [q1,←hs]
theorem pJ {fuel:Nat}{t:TypeId}(ht:P.underlying t=some (.int .i64)){cs:List Value}{x:DataW H×List MemPlace}(h:DataW.trod enc P w 0 spare held fuel t cs=some x) :∃n,cs= [.int .i64 n] :=by
 obtain⟨n,h1,_⟩ :=DataW.trod_int ht h
 exact⟨n,h1⟩
theorem aJm {fuel:Nat}{t:TypeId}(ht:P.underlying t=some .string){cs:List Value}{x:DataW H×List MemPlace}(h:DataW.trod enc P w 0 spare held fuel t cs=some x) :∃ (s:aX) (c:Value),cs= [c] ∧VR (embOf w) (bO s) c:=by
 obtain⟨s,h1,_⟩ :=DataW.trod_string ht h
 refine⟨s.data.toList,_,h1,?_⟩
 have:=fP s.data.toList
 simp only [bO,VR,iG,this]
theorem four {α:Type}{cs:List α}(h:cs.length=4) :∃a b c d,cs= [a,b,c,d] :=by
 match cs,h with
 | [a,b,c,d],_=>exact⟨a,b,c,d,rfl⟩
theorem two {α:Type}{cs:List α}(h:cs.length=2) :∃a b,cs= [a,b] :=by
 match cs,h with
 | [a,b],_=>exact⟨a,b,rfl⟩
theorem aHA {l:List AV}{cs:List Value}(h:VRs (embOf w) l cs)(ho:cV l=true) :Elt w l.length (.agg l) cs:=
 ⟨h.length,.agg ⟨cs⟩,rfl,by simp only [VR];exact⟨cs,rfl,h⟩,VRs.ones h ho⟩
theorem aTW {a:AV}{c:Value}(h:VR (embOf w) a c)(ha:a.one=true)(hc:c.cells= #[c]) :Elt w 1 a [c] :=
 ⟨rfl,c,by rw [hc],h,fun x hx=>by rw [List.mem_singleton.1 hx];exact h.one ha⟩
section
theorem cells3 :PP.cellsOf 3=1:=by kernel_rfl
theorem cells9 :PP.cellsOf 9=1:=by kernel_rfl
theorem cells28 :PP.cellsOf 28=1:=by kernel_rfl
theorem cells29 :PP.cellsOf 29=1:=by kernel_rfl
theorem cells30 :PP.cellsOf 30=1:=by kernel_rfl
theorem cells32 :PP.cellsOf 32=4:=by kernel_rfl
theorem aJn :PP.cellsOf 109=2:=by kernel_rfl
theorem cells37 :PP.cellsOf 37=1:=by kernel_rfl
theorem cells39 :PP.cellsOf 39=1:=by kernel_rfl
theorem aNX :PP.cellsOf 79=4:=by kernel_rfl
theorem aQ5 :PP.cellsOf 115=1:=by kernel_rfl
theorem aDW :PP.cellsOf 117=4:=by kernel_rfl
theorem got {α:Type}{xs:List α}{n i:Nat}{r:Option α}(h:r=xs[i]?)(hl:xs.length=n)(hi:i<n) :∃x,r=some x:=by
 rw [List.getElem?_eq_getElem (by omega)]at h;exact⟨_,h⟩
theorem aFT {fuel:Nat}{cs:List Value}{x:DataW H×List MemPlace}(h:DataW.trod enc PP w 0 spare held fuel 29 cs=some x) :∃ (l:List Int) (c:Value),cs= [c] ∧VR (embOf w) (.ilst 1 (l.map aB) false) c:=
 pI aB Tryz.underlying29 cells3 (by omega) h (fun fu _ cs x hx=>by
  obtain⟨n,rfl⟩ :=pJ Tryz.underlying3 hx
  exact⟨n,aTW (by simp only [aB,VR]) rfl rfl⟩)
theorem aQ6 :∀ (fuel:Nat) (cs:List Value) (x:DataW H×List MemPlace),DataW.trod enc PP w 0 spare held fuel 117 cs=some x→∃p:Pat,Elt w 4 (Pat.av p) cs:=by
 intro fuel
 induction fuel using Nat.strongRecOn with
 | ind fuel ih=>
  intro cs x h
  obtain⟨xs,m,rfl,rfl,hl,hlen,hf⟩ :=DataW.trod_struct Tryz.underlying117 h
  rw [aDW]at hl
  obtain⟨c0,c1,c2,c3,rfl⟩ :=four hl
  have h0:DataW.trod enc PP w 0 spare held m 115 (([c0,c1,c2,c3].drop 0).take (PP.cellsOf 115)) =xs[0]?:=hf 0 _ rfl
  have h1:DataW.trod enc PP w 0 spare held m 3 (([c0,c1,c2,c3].drop 1).take (PP.cellsOf 3)) =xs[1]?:=hf 1 _ rfl
  have h2:DataW.trod enc PP w 0 spare held m 9 (([c0,c1,c2,c3].drop 2).take (PP.cellsOf 9)) =xs[2]?:=hf 2 _ rfl
  have h3:DataW.trod enc PP w 0 spare held m 39 (([c0,c1,c2,c3].drop 3).take (PP.cellsOf 39)) =xs[3]?:=hf 3 _ rfl
  simp only [aQ5,cells3,cells9,cells39,List.drop,List.take]at h0 h1 h2 h3
  obtain⟨x0,h0⟩ :=got h0 hlen (by decide)
  obtain⟨x1,h1⟩ :=got h1 hlen (by decide)
  obtain⟨x2,h2⟩ :=got h2 hlen (by decide)
  obtain⟨x3,h3⟩ :=got h3 hlen (by decide)
  obtain⟨f,e0⟩ :=pJ Tryz.underlying115 h0
  obtain⟨n,e1⟩ :=pJ Tryz.underlying3 h1
  obtain⟨s,c,e2,v2⟩ :=aJm Tryz.underlying9 h2
  obtain⟨ps,c',e3,v3⟩ :=pI Pat.av Tryz.underlying39 aDW (by omega) h3 (fun fu hfu cs x hx=>ih fu (by omega) cs x hx)
  cases e0;cases e1;cases e2;cases e3
  refine⟨.mk f n s ps,?_⟩
  simp only [Pat.av,dK]
  refine aHA (VRs.cons (by simp only [VR]) (VRs.cons (by simp only [VR]) (VRs.cons v2 (VRs.cons v3 (VRs.nil _))))) ?_
  rfl
theorem aON (fuel:Nat)(cs:List Value)(x:DataW H×List MemPlace)(h:DataW.trod enc PP w 0 spare held fuel 79 cs=some x) :∃p:Node,Elt w 4 (Node.av p) cs:=by
 obtain⟨xs,m,rfl,rfl,hl,hlen,hf⟩ :=DataW.trod_struct Tryz.underlying79 h
 rw [aNX]at hl
 obtain⟨c0,c1,c2,c3,rfl⟩ :=four hl
 have h0:DataW.trod enc PP w 0 spare held m 37 (([c0,c1,c2,c3].drop 0).take (PP.cellsOf 37)) =xs[0]?:=hf 0 _ rfl
 have h1:DataW.trod enc PP w 0 spare held m 3 (([c0,c1,c2,c3].drop 1).take (PP.cellsOf 3)) =xs[1]?:=hf 1 _ rfl
 have h2:DataW.trod enc PP w 0 spare held m 29 (([c0,c1,c2,c3].drop 2).take (PP.cellsOf 29)) =xs[2]?:=hf 2 _ rfl
 have h3:DataW.trod enc PP w 0 spare held m 39 (([c0,c1,c2,c3].drop 3).take (PP.cellsOf 39)) =xs[3]?:=hf 3 _ rfl
 simp only [cells37,cells3,cells29,cells39,List.drop,List.take]at h0 h1 h2 h3
 obtain⟨x0,h0⟩ :=got h0 hlen (by decide)
 obtain⟨x1,h1⟩ :=got h1 hlen (by decide)
 obtain⟨x2,h2⟩ :=got h2 hlen (by decide)
 obtain⟨x3,h3⟩ :=got h3 hlen (by decide)
 obtain⟨f,e0⟩ :=pJ Tryz.underlying37 h0
 obtain⟨n,e1⟩ :=pJ Tryz.underlying3 h1
 obtain⟨ks,c,e2,v2⟩ :=aFT h2
 obtain⟨ps,c',e3,v3⟩ :=pI Pat.av Tryz.underlying39 aDW (by omega) h3 (fun fu _ cs x hx=>aQ6 fu cs x hx)
 cases e0;cases e1;cases e2;cases e3
 refine⟨⟨f,n,ks,ps⟩,?_⟩
 simp only [Node.av,dK]
 refine aHA (VRs.cons (by simp only [VR]) (VRs.cons (by simp only [VR]) (VRs.cons v2 (VRs.cons v3 (VRs.nil _))))) ?_
 rfl
theorem aQ7 (fuel:Nat)(cs:List Value)(x:DataW H×List MemPlace)(h:DataW.trod enc PP w 0 spare held fuel 109 cs=some x) :∃p:Con,Elt w 2 (Con.av p) cs:=by
 obtain⟨xs,m,rfl,rfl,hl,hlen,hf⟩ :=DataW.trod_struct Tryz.underlying109 h
 rw [aJn]at hl
 obtain⟨c0,c1,rfl⟩ :=two hl
 have h0:DataW.trod enc PP w 0 spare held m 9 (([c0,c1].drop 0).take (PP.cellsOf 9)) =xs[0]?:=hf 0 _ rfl
 have h1:DataW.trod enc PP w 0 spare held m 3 (([c0,c1].drop 1).take (PP.cellsOf 3)) =xs[1]?:=hf 1 _ rfl
 simp only [cells9,cells3,List.drop,List.take]at h0 h1
 obtain⟨x0,h0⟩ :=got h0 hlen (by decide)
 obtain⟨x1,h1⟩ :=got h1 hlen (by decide)
 obtain⟨s,c,e0,v0⟩ :=aJm Tryz.underlying9 h0
 obtain⟨n,e1⟩ :=pJ Tryz.underlying3 h1
 cases e0;cases e1
 refine⟨⟨s,n⟩,?_⟩
 simp only [Con.av]
 refine aHA (VRs.cons v0 (VRs.cons (by simp only [VR]) (VRs.nil _))) ?_
 rfl
theorem lift_prog (fuel:Nat)(cs:List Value)(x:DataW H×List MemPlace)(h:DataW.trod enc PP w 0 spare held fuel 32 cs=some x) :∃p:Prog,VR (embOf w) (Prog.av p) (.agg ⟨cs⟩) :=by
 obtain⟨xs,m,rfl,rfl,hl,hlen,hf⟩ :=DataW.trod_struct Tryz.underlying32 h
 rw [cells32]at hl
 obtain⟨c0,c1,c2,c3,rfl⟩ :=four hl
 have h0:DataW.trod enc PP w 0 spare held m 28 (([c0,c1,c2,c3].drop 0).take (PP.cellsOf 28)) =xs[0]?:=hf 0 _ rfl
 have h1:DataW.trod enc PP w 0 spare held m 29 (([c0,c1,c2,c3].drop 1).take (PP.cellsOf 29)) =xs[1]?:=hf 1 _ rfl
 have h2:DataW.trod enc PP w 0 spare held m 3 (([c0,c1,c2,c3].drop 2).take (PP.cellsOf 3)) =xs[2]?:=hf 2 _ rfl
 have h3:DataW.trod enc PP w 0 spare held m 30 (([c0,c1,c2,c3].drop 3).take (PP.cellsOf 30)) =xs[3]?:=hf 3 _ rfl
 simp only [cells28,cells29,cells3,cells30,List.drop,List.take]at h0 h1 h2 h3
 obtain⟨x0,h0⟩ :=got h0 hlen (by decide)
 obtain⟨x1,h1⟩ :=got h1 hlen (by decide)
 obtain⟨x2,h2⟩ :=got h2 hlen (by decide)
 obtain⟨x3,h3⟩ :=got h3 hlen (by decide)
 obtain⟨ns,c,e0,v0⟩ :=pI Node.av Tryz.underlying28 aNX (by omega) h0 (fun fu _ cs x hx=>aON fu cs x hx)
 obtain⟨fs,c',e1,v1⟩ :=aFT h1
 obtain⟨n,e2⟩ :=pJ Tryz.underlying3 h2
 obtain⟨ks,c'',e3,v3⟩ :=pI Con.av Tryz.underlying30 aJn (by omega) h3 (fun fu _ cs x hx=>aQ7 fu cs x hx)
 cases e0;cases e1;cases e2;cases e3
 refine⟨⟨ns,fs,n,ks⟩,?_⟩
 simp only [Prog.av,VR]
 exact⟨_,rfl,VRs.cons v0 (VRs.cons v1 (VRs.cons (by simp only [VR]) (VRs.cons v3 (VRs.nil _))))⟩
end
end Go.Hb
namespace Go.Hb
open Go.Proofs
mutual
def mI :Pat→Int→Int
 | .mk _ _ _ ps,left=>if left<1 then -1 else kF ps (left-1)
def kF :List Pat→Int→Int
 | [],left=>left
 |p::ps,left=>if 0≤left then kF ps (mI p left)else left
end
mutual
theorem aJo :∀ (p:Pat) (left:Int),0≤left→ -1≤mI p left∧mI p left≤left-1
 | .mk _ _ _ ps,left,h=>by
  rw [mI]
  split
  ·omega
  ·have:=aFU ps (left-1) (by omega);omega
theorem aFU :∀ (ps:List Pat) (left:Int),-1≤left→ -1≤kF ps left∧kF ps left≤left
 | [],left,h=>by rw [kF];omega
 | p ::ps,left,h=>by
  rw [kF]
  split
  · rename_i h0
    have a:=aJo p left h0
    have:=aFU ps (mI p left) a.1;omega
  ·omega
end
theorem aCe (f n:Int)(s:aX)(ps:List Pat)(l0:Int)(ih:∀p∈ps,∀left:Int,0≤left→left≤1000→aE PP 124 [Pat.av p,.int .i64 left] (.int .i64 (mI p left))) :
  ∀ (t:List Pat) (i:Nat) (left:Int),ps.drop i=t→ -1≤left→ (i:Int) +left≤1000→Ends PP 0 (oR f n s ps l0 left (i:Int)).as (.ret (.int .i64 (kF t left))) (aA [] 0)
 | [],i,left,h,h1,h2=>by
  have:=cD h
  rw [kF]
  exact aL6 f n s ps l0 left i sd
 | .mk f' n' s' ps'::t,i,left,h,h1,h2=>by
  obtain⟨g1,g2,g3⟩ :=cA h
  rw [kF]
  split
  · rename_i h0
    have w:=aJo (.mk f' n' s' ps') left h0
    refine(aL4 f n s ps l0 left i f' n' s' ps' _ sd sd sd sd (ih _ (List.mem_of_getElem? g1) left h0 (by omega)) sd).ends ?_
    exact aCe f n s ps l0 ih t (i+1) _ g2 w.1 (by omega)
  ·exact aL5 f n s ps l0 left i sd sd
mutual
theorem vO :∀ (p:Pat) (left:Int),-1≤left→left≤1000→aE PP 124 [Pat.av p,.int .i64 left] (.int .i64 (mI p left))
 | .mk f n s ps,left,h0,h1=>by
  refine bK (by kernel_rfl) (by simp [AV.keylessL,kT,AV.keyless]) rfl ?_
  rw [mI]
  split
  ·exact aL2 f n s ps left sd
  · refine(aL3 f n s ps left sd sd).ends ?_
    exact aCe f n s ps left (fun p hp left h0 h1=>aDX ps p hp left h0 h1) ps 0 _ rfl (by omega) (by omega)
theorem aDX :∀ (ps:List Pat),∀p∈ps,∀left:Int,0≤left→left≤1000→aE PP 124 [Pat.av p,.int .i64 left] (.int .i64 (mI p left))
 | [],p,hp,_,_,_=>by cases hp
 | q::ps,p,hp,left,h0,h1=>by
  rcases List.mem_cons.1 hp with e|hp
  ·rw [e];exact vO q left (by omega) h1
  ·exact aDX ps p hp left h0 h1
end
mutual
def nX :Pat→Bool
 | .mk _ _ s ps=>oN ps&&decide (s.length≤30)
def oN :List Pat→Bool
 | [] =>true
 |p::ps=>nX p&&oN ps
end
mutual
def dL :Pat→Nat
 | .mk _ _ _ ps=>bP ps+1
def bP :List Pat→Nat
 | [] =>0
 |p::ps=>dL p+bP ps
end
theorem fA :∀ps:List Pat,ps.length≤bP ps
 | [] =>by simp [bP]
 | .mk _ _ _ qs::ps=>by have:=fA ps;simp only [bP,dL,List.length_cons];omega
mutual
theorem aDY :∀ (p:Pat) (left:Int),0≤mI p left→mI p left=left-dL p
 | .mk _ _ _ ps,left,h=>by
  rw [mI]at h ⊢
  split at h
  ·omega
  · rename_i h1
    rw [if_neg h1]
    have:=aCf ps (left-1) h
    simp only [dL];omega
theorem aCf :∀ (ps:List Pat) (left:Int),0≤kF ps left→kF ps left=left-bP ps
 | [],left,h=>by simp [kF,bP]
 | p ::ps,left,h=>by
  rw [kF]at h ⊢
  split at h
  · rename_i h1
    rw [if_pos h1]
    have a:=aCf ps _ h
    have b:=aDY p left (by omega)
    simp only [bP];omega
  ·omega
end
mutual
theorem aDZ :∀ (p:Pat) (left:Int),(dL p:Int) ≤left→mI p left=left-dL p
 | .mk _ _ _ ps,left,h=>by
  simp only [dL]at h ⊢
  rw [mI,if_neg (by omega),aCg ps (left-1) (by omega)];omega
theorem aCg :∀ (ps:List Pat) (left:Int),(bP ps:Int) ≤left→kF ps left=left-bP ps
 | [],left,h=>by simp [kF,bP]
 | p::ps,left,h=>by
  simp only [bP]at h ⊢
  rw [kF,if_pos (by omega),aDZ p left (by omega),aCg ps _ (by omega)];omega
end
theorem xA (p:Pat)(left:Int) :0≤mI p left↔ (dL p:Int) ≤left:=by
 constructor
 ·intro h;have:=aDY p left h;omega
 ·intro h;rw [aDZ p left h];omega
theorem vP (f n:Int)(s:aX)(ps:List Pat)(hl:ps.length<1000000)(ih:∀p∈ps,aE PP 125 [Pat.av p] (.bool (nX p))) :
  ∀ (t:List Pat) (i:Nat),ps.drop i=t→Ends PP 0 (jZ f n s ps (i:Int)).as (.ret (.bool (oN t&&decide (s.length≤30)))) (aA [] 0)
 | [],i,h=>by
  have:=cD h
  have e:decide (((List.length s:Nat) :Int) ≤ (30:Int)) =decide (s.length≤30) :=by congr 1;simp;omega
  rw [oN,Bool.true_and,←e]
  exact aFp f n s ps i sd
 | .mk f' n' s' ps'::t,i,h=>by
  obtain⟨g1,g2,g3⟩ :=cA h
  have ihp:=ih _ (List.mem_of_getElem? g1)
  rw [oN]
  cases hb:nX (.mk f' n' s' ps')with
  | false=>
   rw [hb]at ihp
   exact aFn f n s ps i f' n' s' ps' false sd sd sd ihp rfl
  | true=>
   rw [hb]at ihp
   refine(aFo f n s ps i f' n' s' ps' true sd sd sd ihp rfl sd).ends ?_
   rw [Bool.true_and]
   exact vP f n s ps hl ih t (i+1) g2
mutual
theorem vQ :∀ (p:Pat),dL p<1000000→aE PP 125 [Pat.av p] (.bool (nX p))
 | .mk f n s ps,h=>by
  refine bK (by kernel_rfl) (by simp [AV.keylessL,kT]) rfl ?_
  simp only [dL]at h
  have:=fA ps
  refine(aFm f n s ps).ends ?_
  rw [nX]
  exact vP f n s ps (by omega) (yI ps (by omega)) ps 0 rfl
theorem yI :∀ (ps:List Pat),bP ps<1000000→∀p∈ps,aE PP 125 [Pat.av p] (.bool (nX p))
 | [],_,p,hp=>by cases hp
 | q::ps,h,p,hp=>by
  simp only [bP]at h
  rcases List.mem_cons.1 hp with e|hp
  ·rw [e];exact vQ q (by omega)
  ·exact yI ps (by omega) p hp
end
def vR (p:Pat) :Bool:=decide (dL p≤16) &&nX p
theorem aHB (p:Pat) :aE PP 64 [Pat.av p] (.bool (vR p)) :=by
 refine bK (by kernel_rfl) (by simp [AV.keylessL,kT]) rfl ?_
 obtain⟨f,n,s,ps⟩ :=p
 have hw:=vO (.mk f n s ps) 16 (by omega) (by omega)
 by_cases h:dL (.mk f n s ps) ≤16
 · have e:vR (.mk f n s ps) =nX (.mk f n s ps) :=by simp [vR,h]
   rw [e]
   have hg:0≤mI (.mk f n s ps) 16:= (xA (.mk f n s ps) 16).2 (by omega)
   exact aJh f n s ps _ _ hw (decide_eq_true hg) (vQ (.mk f n s ps) (by omega))
 · have e:vR (.mk f n s ps) =false:=by simp [vR,h]
   rw [e]
   refine aJi f n s ps _ hw (decide_eq_false fun g=>h ?_)
   have:= (xA (.mk f n s ps) 16).1 g;omega
def gU (l:List Con) :Bool:=l.all fun c=>decide (c.name.length≤40)
def kA (l:List Pat) :Bool:=l.all vR
def bA (x:Node) :Bool:=decide (x.kids.length≤10) &&decide (x.pats.length≤10) &&kA x.pats
def aP (p:Prog) :Bool:=decide (p.nodes.length≤320) &&decide (p.funs.length≤320) &&decide (p.cons.length≤25) &&gU p.cons&&p.nodes.all bA
mutual
theorem aXe (p:Prog)(hn:p.nodes.length≤320) :∀ (t:List Node) (i:Nat),p.nodes.drop i=t→Ends PP 0 (fZ p (i:Int)).as (.ret (.bool (t.all bA))) (aA [] 0)
 | [],i,h=>by
  have:=cD h
  exact aDS p i sd
 | x :: t,i,h=>by
  obtain⟨g1,g2,g3⟩ :=cA h
  by_cases k1:x.kids.length≤10
  · by_cases k2:x.pats.length≤10
    · have e: (x::t).all bA= (kA (x.pats.drop 0) &&t.all bA) :=by simp [bA,k1,k2]
      rw [e]
      refine(aDR p i x sd sd sd sd sd).ends ?_
      have ih:=aXe p hn t (i+1) g2
      clear e g1 g2 h
      suffices ∀ (u:List Pat) (k:Nat),x.pats.drop k=u→Ends PP 0 (iZ p x.op x.n x.kids x.pats (k:Int) (i:Int)).as (.ret (.bool (kA u&&t.all bA))) (aA [] 0)from this _ 0 rfl
      intro u
      induction u with
      | nil=>
       intro k hk
       have:=cD hk
       refine(aDV p x.op x.n x.kids x.pats k i sd sd).ends ?_
       simp only [kA,List.all_nil,Bool.true_and]
       exact ih
      | cons q u ihu=>
       intro k hk
       obtain⟨q1,q2,q3⟩ :=cA hk
       obtain⟨f',n',s',ps'⟩ :=q
       have hp:=aHB (.mk f' n' s' ps')
       cases hb:vR (.mk f' n' s' ps')with
       | false=>
        rw [hb]at hp
        have e: (kA (.mk f' n' s' ps'::u) &&t.all bA) =false:=by simp [kA,hb]
        rw [e]
        exact aDT p x.op x.n x.kids x.pats k i f' n' s' ps' false sd sd sd hp rfl
       | true=>
        rw [hb]at hp
        have e: (kA (.mk f' n' s' ps'::u) &&t.all bA) = (kA u&&t.all bA) :=by simp [kA,hb]
        rw [e]
        refine(aDU p x.op x.n x.kids x.pats k i f' n' s' ps' true sd sd sd hp rfl sd).ends ?_
        exact ihu (k+1) q2
    · have e: (x::t).all bA=false:=by simp [bA,k2]
      rw [e]
      exact aDQ p i x sd sd sd sd sd
  · have e: (x::t).all bA=false:=by simp [bA,k1]
    rw [e]
    exact aDP p i x sd sd sd sd
end
theorem aXf (p:Prog)(hc:p.cons.length≤25)(hn:p.nodes.length≤320) :∀ (t:List Con) (i:Nat),p.cons.drop i=t→Ends PP 0 (iY p (i:Int)).as (.ret (.bool (gU t&&p.nodes.all bA))) (aA [] 0)
 | [],i,h=>by
  have:=cD h
  refine(aDO p i sd).ends ?_
  simp only [gU,List.all_nil,Bool.true_and]
  exact aXe p hn p.nodes 0 rfl
 | c ::t,i,h=>by
  obtain⟨g1,g2,g3⟩ :=cA h
  by_cases k:c.name.length≤40
  · have e: (gU (c::t) &&p.nodes.all bA) = (gU t&&p.nodes.all bA) :=by simp [gU,k]
    rw [e]
    refine(aDN p i c sd sd sd sd sd).ends ?_
    exact aXf p hc hn t (i+1) g2
  · have e: (gU (c::t) &&p.nodes.all bA) =false:=by simp [gU,k]
    rw [e]
    exact aDM p i c sd sd sd sd
theorem tX (p:Prog) :aE PP 17 [Prog.av p] (.bool (aP p)) :=by
 refine bK (by kernel_rfl) rfl rfl ?_
 by_cases h1:p.nodes.length≤320
 · by_cases h2:p.funs.length≤320
   · by_cases h3:p.cons.length≤25
     · have e:aP p= (gU p.cons&&p.nodes.all bA) :=by simp [aP,h1,h2,h3]
       rw [e]
       exact(aDL p sd sd sd).ends (aXf p h3 h1 p.cons 0 rfl)
     · have e:aP p=false:=by simp [aP,h3]
       rw [e];exact aDK p sd sd sd
   · have e:aP p=false:=by simp [aP,h2]
     rw [e];exact aDJ p sd sd
 · have e:aP p=false:=by simp [aP,h1]
   rw [e];exact aDI p sd
end Go.Hb
