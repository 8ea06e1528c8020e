/- A machine on abstract values, its soundness, ways, plain laws. -/
import Derived.Test.YtnljmgihoioocaaGreatHC
import Derived.RowKit3
set_option linter.defProp false
set_option linter.unusedVariables false
set_option linter.unusedSimpArgs false
set_option linter.unusedSectionVars false
set_option maxRecDepth 100000
namespace Go.Hb
open List (range')
open Nat (beq le_refl le_trans lt_of_lt_of_le lt_or_ge succ zero_le)
noncomputable section
section
variable {P :Program}
section
variable {call :bQ} {l:List Oper} {nt:Nat} {R:Nat→RS} {A:Nat→AV}
structure Pd (P:Program) (l:List Oper) (R:Nat→RS) (A:Nat→AV) (D:Nat→Prop) (j f:Nat) (ob:AObj) :Prop where
 done:D f
 op:∃o,l[f]?=some o∧dE o.op= .fresh∧bY (R f).tm l o=some true∧oJ P (R f).tm (R f).next o=some (A f,ob)
 late:j≤wY l f
theorem aOj {tm:T AV}{id:Nat}{o:Oper}{a:AV}{ob:AObj}(h:oJ P tm id o=some (a,ob)) :one1 ob=true:=by
 unfold oJ at h
 repeat' split at h
 all_goals first| (cases h;rfl) |cases h
theorem Pd.one {D:Nat→Prop}{j f:Nat}{ob:AObj}(p:Pd P l R A D j f ob) :one1 ob=true:=by
 obtain⟨o,_,_,_,h⟩ :=p.op;exact aOj h
structure Inv (P:Program) (l:List Oper) (nt:Nat) (R:Nat→RS) (A:Nat→AV) (E0:Emb) (h0:Hp) (w0:World) (D:Nat→Prop) [DecidablePred D] (j:Nat) (E:Emb) (w:World) (tmps:Array Value) :Prop where
 closed:Closed l D
 lt:∀i,D i→i<l.length
 eff:∀q e,(fV l 0)[q]?=some e→ (D e↔q<j)
 jle:j≤ (fV l 0).length
 ext:Ext E0 h0 w0 E (bT l R j) w
 nb: (R 0).h.nb≤ (bT l R j).nb
 rel:Rel E (bT l R j) w.heap
 size:tmps.size=nt
 tv:∀t a,eH (R 0).tm (sO l) A D l.length t=some a→∃v,tmps[t]?=some v∧VR E a v
 und:∀f o,¬D f→l[f]?=some o→dE o.op= .fresh→E (R f).next=none
 pd:∀f ob,Pd P l R A D j f ob→∃L,E (R f).next=some L∧OR E w.heap L ob∧w0.heap.size≤L.blk∧∀b o L',(bT l R j).look b=some o→E b=some L'→¬Own o L' L.blk
 pdi:∀f ob,Pd P l R A D j f ob→∀L,E (R f).next=some L→E.imm L.blk=none
 hn0:h0.nb= (R 0).next
 ul:∀b o,(bT l R j).look b=some o→E b=none→b<h0.nb∨ (R 0).h.nb≤b
 pd2:∀f g ob ob' L L',Pd P l R A D j f ob→Pd P l R A D j g ob'→f≠g→E (R f).next=some L→E (R g).next=some L'→L.blk≠L'.blk
variable {E0 :Emb} {h0:Hp} {w0:World} {D D':Nat→Prop} [DecidablePred D] [DecidablePred D'] {j:Nat} {E:Emb} {w:World} {tmps:Array Value}
theorem Inv.publish (T:Trace P call l nt R A)(I:Inv P l nt R A E0 h0 w0 D j E w tmps){ps:List (Nat×Nat×AObj)}
  (J:∀x ob,(j,x,ob) ∈ps→∃f,Pd P l R A D j f ob∧wY l f=j∧x= (R f).next) :
  Rel E (aN (bT l R j) j ps) w.heap∧Ext E0 h0 w0 E (aN (bT l R j) j ps) w ∧
   (∀x ob,(aN (bT l R j) j ps).look x=some ob→ (∃f,Pd P l R A D j f ob∧wY l f=j∧x= (R f).next) ∨ (bT l R j).look x=some ob) :=by
 have hl:∀x ob,(aN (bT l R j) j ps).look x=some ob→ (∃f,Pd P l R A D j f ob∧wY l f=j∧x= (R f).next) ∨ (bT l R j).look x=some ob:=fun x ob e=>
  (oN e).imp (J x ob) (fun z=>z)
 have n:∀ {f ob},Pd P l R A D j f ob→h0.nb≤ (R f).next∧ (R f).next< (R 0).h.nb:=fun p=>by
  obtain⟨d,O,Q,_⟩ :=p.op;have:=T.id_lt O Q;have:=I.hn0;omega
 refine⟨⟨fun b o e=>?_,fun b s o d L C e K k F m u=>?_,fun b hb=>?_,I.rel.imm,fun b o L e k i t=>?_,fun b o e=>?_⟩,⟨I.ext.le,I.ext.size,I.ext.keep,fun s d C e k i t G=>?_,?_,I.ext.os,I.ext.tape,I.ext.output,I.ext.low,I.ext.froz,I.ext.immo,fun b o e hb=>?_⟩,hl⟩
 · rcases hl b o e with⟨f,a,_,rfl⟩ |e
   ·obtain⟨L,c,B,_⟩ :=I.pd f o a;exact .inr ⟨L,c,B⟩
   ·exact I.rel.obj0 b o e
 · rcases hl b o e with⟨f,a,_,rfl⟩ |h
   · obtain⟨M,c,B,N,y⟩ :=I.pd f o a;rw [k]at c;cases c;rcases hl s d K with⟨g,v,_,rfl⟩ |H
     · obtain⟨i,r,q⟩ :=m;rw [cF a.one]at r;rw [cF v.one]at q;exact absurd (r.trans q.symm) (I.pd2 f g o d L C a v (fun e=>u (by rw [e])) k F)
     · obtain⟨i,r,q⟩ :=m;rw [cF a.one]at r;subst r;exact absurd q (y _ _ _ H F)
   · rcases hl s d K with⟨g,v,_,rfl⟩ |H
     · obtain⟨M,c,B,N,y⟩ :=I.pd g d v;rw [F]at c;cases c;obtain⟨i,r,q⟩ :=m;rw [cF v.one]at q;subst q;exact absurd r (y _ _ _ h k)
     ·exact I.rel.kin b s o d L C h H k F m u
 ·rw [eF]at hb;exact I.rel.fresh b hb
 · rcases hl b o e with⟨f,a,_,rfl⟩ |h
   · rw [cF a.one]at t;subst t;exact I.pdi f o a L k
   ·exact I.rel.apart b o L h k i t
 · rw [eF];rcases hl b o e with⟨f,a,_,rfl⟩ |h
   ·have:=n a;have:=I.nb;omega
   ·exact I.rel.keys b o h
 · rcases hl s d e with⟨f,a,_,rfl⟩ |h
   · obtain⟨M,c,B,N,y⟩ :=I.pd f d a;rw [k]at c;cases c;rw [cF a.one]at t;omega
   ·exact I.ext.own s d C h k i t G
 ·rw [eF];exact I.ext.nb
 · rcases hl b o e with⟨f,a,_,rfl⟩ |h
   ·have:=n a;omega
   ·exact I.ext.keys b o h hb
theorem Inv.lookIn (T:Trace P call l nt R A)(I:Inv P l nt R A E0 h0 w0 D j E w tmps){f:Nat}{ob:AObj}(c:Pd P l R A D j f ob) :
  Rel E ((bT l R j).set (R f).next ob) w.heap:=by
 have hl:∀x o,((bT l R j).set (R f).next ob).look x=some o→ (x= (R f).next∧o=ob) ∨ (bT l R j).look x=some o:=fun x o e=>by
  rw [aY]at e;split at e
  ·rename_i G;cases e;exact .inl ⟨G,rfl⟩
  ·exact .inr e
 have y:h0.nb≤ (R f).next∧ (R f).next< (R 0).h.nb:=by
  obtain⟨n,C,H,_⟩ :=c.op;have:=T.id_lt C H;have:=I.hn0;omega
 obtain⟨L,g,B,J,v⟩ :=I.pd f ob c;refine⟨fun b o e=>?_,fun b t o n q F e z k s a h=>?_,fun b hb=>?_,I.rel.imm,fun b o q e k i u=>?_,fun b o e=>?_⟩
 · rcases hl b o e with⟨rfl,rfl⟩ |e
   ·exact .inr ⟨L,g,B⟩
   ·exact I.rel.obj0 b o e
 · rcases hl b o e with⟨rfl,rfl⟩ |d
   · rw [k]at g;cases g;rcases hl t n z with⟨rfl,rfl⟩ |r
     ·exact absurd rfl h
     · obtain⟨i,p,m⟩ :=a;rw [cF c.one]at p;subst p;exact absurd m (v _ _ _ r s)
   · rcases hl t n z with⟨rfl,rfl⟩ |r
     · rw [s]at g;cases g;obtain⟨i,p,m⟩ :=a;rw [cF c.one]at m;subst m;exact absurd p (v _ _ _ d k)
     ·exact I.rel.kin b t o n q F d r k s a h
 ·exact I.rel.fresh b (by rw [jE]at hb;exact hb)
 · rcases hl b o e with⟨rfl,rfl⟩ |d
   · rw [cF c.one]at u;subst u;exact I.pdi f _ c q k
   ·exact I.rel.apart b o q d k i u
 · rw [jE];rcases hl b o e with⟨rfl,rfl⟩ |d
   ·have:=I.nb;omega
   ·exact I.rel.keys b o d
theorem aCJ (d:Option Nat)(v:Value)(a:Array Value) : (aAK d v a).size=a.size:=by cases d<;>simp [aAK]
theorem aIZ (T:Trace P call l nt R A)(r:Closed l D)(m:∀i,D i→i<l.length)(g:tmps.size=nt){i:Nat}{o:Oper}(n:l[i]?=some o)(u:¬D i)(hm:Met D o)(j:∀k,D' k↔ (D k∨k=i)){cv:Value}(q:VR E (A i) cv)
  (tv:∀t a,eH (R 0).tm (sO l) A D l.length t=some a→∃v,tmps[t]?=some v∧VR E a v) :
  ∀t a,eH (R 0).tm (sO l) A D' l.length t=some a→∃v,(aAK o.dst cv tmps)[t]?=some v∧VR E a v:=by
 intro t a b;rw [T.view_done r m n u hm t j]at b;have c:= (T.step i o n).1;split at b
 · rename_i h;cases b;refine⟨cv,?_,q⟩;rw [h]at c ⊢;unfold iJ at c;simp only at c;cases hb:Nat.blt t nt with
   |false=>rw [hb]at c;cases c
   | true=>
    rw [cX,decide_eq_true_eq]at hb;simp [aAK,g,hb]
 · rename_i h;obtain⟨v,p,s⟩ :=tv t a b;refine⟨v,?_,s⟩;unfold aAK;split
   · rename_i d f;rw [tL (fun e=>h (by rw [f,e]))];exact p
   ·exact p
theorem xA {i:Nat}{o:Oper}(d:Closed l D)(c:l[i]?=some o)(hm:Met D o)(b:∀k,D' k↔ (D k∨k=i)) :Closed l D':=by
 intro k ok a hk e he hb;rw [b];rcases(b k).1 hk with g|g
 ·exact .inl (d k ok a g e he hb)
 ·subst g;rw [c]at a;cases a;exact .inl (hm e he hb)
theorem aI0 {i:Nat}{o:Oper}(a:∀i,D i→i<l.length)(c:l[i]?=some o)(b:∀k,D' k↔ (D k∨k=i)) :∀k,D' k→k<l.length:=fun k hk=>by
 rcases(b k).1 hk with g|g
 ·exact a k g
 ·subst g;exact uB c
theorem Inv.quiet (T:Trace P call l nt R A)(I:Inv P l nt R A E0 h0 w0 D j E w tmps){i:Nat}{o:Oper}(d:l[i]?=some o)(x:¬D i)(hm:Met D o)(hk:dE o.op≠ .eff)(b:∀k,D' k↔ (D k∨k=i))
  (s:dE o.op= .fresh→bY (R i).tm l o=some false) {cv:Value} (t:VR E (A i) cv) :
  Inv P l nt R A E0 h0 w0 D' j E w (aAK o.dst cv tmps) :=by
 have a:∀f ob,Pd P l R A D' j f ob→Pd P l R A D j f ob:=fun f ob p=>by
  refine⟨?_,p.op,p.late⟩;rcases(b f).1 p.done with g|g
  ·exact g
  · subst g;obtain⟨u,c,h,r,z⟩ :=p.op;rw [d]at c;cases c;rw [s h]at r;cases r
 refine⟨xA I.closed d hm b,aI0 I.lt d b,fun q e he=>?_,I.jle,I.ext,I.nb,I.rel,by rw [aCJ];exact I.size,
  aIZ T I.closed I.lt I.size d x hm b t I.tv,fun f of n c h=>I.und f of (fun g=>n ((b f).2 (.inl g))) c h,fun f ob p=>I.pd f ob (a f ob p),fun f ob p=>I.pdi f ob (a f ob p),I.hn0,I.ul,fun f g ob m L v p y=>I.pd2 f g ob m L v (a f ob p) (a g m y)⟩
 rw [b,←I.eff q e he];constructor
 · rintro(g|g)
   ·exact g
   · subst g;obtain⟨_,_,u,c,h⟩ := (iT l 0).1 q e he;rw [Nat.sub_zero,d]at c;cases c;exact absurd h hk
 ·exact .inl
theorem Inv.turn (T:Trace P call l nt R A)(I:Inv P l nt R A E0 h0 w0 D j E w tmps){i:Nat}{o:Oper}(c:l[i]?=some o)(e:¬D i)(hm:Met D o)(hk:dE o.op= .eff) : (fV l 0)[j]?=some i:=by
 obtain⟨q,a⟩ := (iT l 0).2.1 i o c hk;rw [eS]at a;have f:¬q<j:=fun g=>e ((I.eff q i a).2 g);rcases lt_or_ge j q with g|g
 · exfalso;obtain⟨b,rfl⟩ :∃b,q=b+1:= ⟨q-1,by omega⟩;have d:= (zq0.1 a).1;have he: (fV l 0)[b]?=some ((fV l 0)[b]) :=kF (by omega);have:=lI I.closed I.lt (i+1) i (by omega) o c hm _ (T.before he a);have:= (I.eff _ _ he).1 this;omega
 · have:q=j:=by omega
   rw [←this];exact a
theorem Inv.waits (T:Trace P call l nt R A)(I:Inv P l nt R A E0 h0 w0 D j E w tmps){i:Nat}{o:Oper}(a:l[i]?=some o)(p:¬D i)(hm:Met D o)(hk:dE o.op= .eff) :
  ∀x ob,(j,x,ob) ∈ (R i).pend→∃f,Pd P l R A D j f ob∧wY l f=j∧x= (R f).next:=by
 intro x ob k;have e:=uB a;obtain⟨f,h,r,m,g,d,q,b,n⟩ :=T.pend_mem i (by omega) j x ob k;have c:=I.turn T a p hm hk;rw [b]at c;exact⟨f,⟨lI I.closed I.lt (i+1) i (by omega) o a hm f (aOi c),⟨h,m,g,d,q⟩,by omega⟩,b.symm,n⟩
theorem Inv.effect (T:Trace P call l nt R A)(I:Inv P l nt R A E0 h0 w0 D j E w tmps){i:Nat}{o:Oper}(G:l[i]?=some o)(x:¬D i)(hm:Met D o)(hk:dE o.op= .eff)(r:∀k,D' k↔ (D k∨k=i))
  {E':Emb} {w':World} {cv:Value} (hv:VR E' (A i) cv) (r':Rel E' (bT l R (j+1)) w'.heap) (n:Ext E (aN (bT l R j) j (R i).pend) w E' (bT l R (j+1)) w') :
  Inv P l nt R A E0 h0 w0 D' (j+1) E' w' (aAK o.dst cv tmps) :=by
 obtain⟨p1,p2,p3⟩ :=I.publish T (I.waits T G x hm hk);have O:=I.turn T G x hm hk;have hql:= (zq0.1 O).1
 have c:∀f ob,Pd P l R A D' (j+1) f ob→Pd P l R A D j f ob:=fun f ob p=>by
  refine⟨?_,p.op,by have:=p.late;omega⟩;rcases(r f).1 p.done with g|g
  ·exact g
  · subst g;obtain⟨o',B,F,h3,h4⟩ :=p.op;rw [G]at B;cases B;rw [hk]at F;cases F
 have y:∀f ob L,Pd P l R A D' (j+1) f ob→E (R f).next=some L→∀b o h,(aN (bT l R j) j (R i).pend).look b=some o→E b=some h→¬Own o h L.blk:=fun f ob L p hE b o h hb s d=>by
  have J:=c f ob p;rcases p3 b o hb with⟨g,hg,K,rfl⟩ |U
  · rw [cF hg.one]at d;exact I.pd2 g f o ob h L hg J (fun e=>by subst e;have:=p.late;omega) s hE d
  · obtain⟨Y,m,_,_,X⟩ :=I.pd f ob J;rw [hE]at m;cases m;exact X b o h U s d
 refine⟨xA I.closed G hm r,aI0 I.lt G r,fun q e he=>?_,by omega,p2.trans n,?_,r',by rw [aCJ];exact I.size,
  aIZ T I.closed I.lt I.size G x hm r hv (fun t a Q=>by obtain⟨v,B,F⟩ :=I.tv t a Q;exact⟨v,B,F.mono n.le⟩),fun f of W B F=>?_,fun f ob p=>?_,fun f ob p h N=>?_,I.hn0,fun b o hb hE=>?_,fun f g ob u L h p p' V hE s=>?_⟩
 · rw [r,I.eff q e he];constructor
   · rintro(g|g)
     ·omega
     · subst g;rcases Nat.lt_trichotomy q j with k|k|k
       ·omega
       ·omega
       ·have:= (aBx l O he).1 k;omega
   · intro g;rcases lt_or_ge q j with k|k
     ·exact .inl k
     · have:q=j:=by omega
       subst this;rw [O]at he;cases he;exact .inr rfl
 ·have:=n.nb;rw [eF]at this;have:=I.nb;omega
 · have hid:=T.id_lt B F;rw [n.low _ (by rw [eF];have:=I.nb;omega)];exact I.und f of (fun g=>W ((r f).2 (.inl g))) B F
 · obtain⟨L,m,z,k3,X⟩ :=I.pd f ob (c f ob p);have H:=y f ob L p m;refine⟨L,n.le.1 _ _ m,(z.mono n.le).heap fun i x=>n.keep _ (z.lt i x) fun b o h hb hE d=>H b o h hb hE (by rw [cF p.one]at x;rw [x];exact d),k3,fun b o h hb hE d=>?_⟩;obtain⟨b1,o1,Y,K,M,Z⟩ :=n.own b o h hb hE _ d (z.lt _ ((cF p.one).2 rfl));exact H b1 o1 Y K M Z
 · obtain⟨L,m,z,k3,X⟩ :=I.pd f ob (c f ob p);have e3:=n.le.1 _ _ m;rw [N]at e3;obtain rfl:h=L:=Option.some.inj e3;cases x:E'.imm h.blk with
   |none=>rfl
   | some C=>
    rcases n.immo _ C x (z.lt _ ((cF p.one).2 rfl))with g| ⟨b,o,L2,K,M,Z⟩
    ·rw [I.pdi f ob (c f ob p) h m]at g;cases g
    ·exact absurd Z (y f ob h p m b o L2 K M)
 · rcases lt_or_ge b (bT l R j).nb with g|g
   · obtain⟨S,e0⟩ :=n.keys b o hb (by rw [eF];exact g);rw [n.low b (by rw [eF];exact g)]at hE;rcases p3 b S e0 with⟨f,hf,_,rfl⟩ |e1
     · obtain⟨L,m,_⟩ :=I.pd f S hf;rw [m]at hE;cases hE
     ·exact I.ul b S e1 hE
   ·have:=I.nb;exact .inr (by omega)
 · obtain⟨Y,m,_⟩ :=I.pd f ob (c f ob p);obtain⟨L2,z,_⟩ :=I.pd g u (c g u p');rw [n.le.1 _ _ m]at hE;cases hE;rw [n.le.1 _ _ z]at s;cases s;exact I.pd2 f g ob u _ _ (c f ob p) (c g u p') V m z
theorem Inv.alloc (T:Trace P call l nt R A)(I:Inv P l nt R A E0 h0 w0 D j E w tmps){i:Nat}{o:Oper}(M:l[i]?=some o)(Y:¬D i)(hm:Met D o)(hk:dE o.op= .fresh)(z:∀k,D' k↔ (D k∨k=i))(hn0:h0.nb= (R 0).next)
  {ob:Obj} (hz:noFrz ob=true) {n:Nat} {cv:Value} (hv:VR (E.put (R i).next ⟨w.heap.size,0,n⟩) (A i) cv) (hob:∀aob,oJ P (R i).tm (R i).next o=some (A i,aob) →OR (E.put (R i).next ⟨w.heap.size,0,n⟩) (w.heap.push ob) ⟨w.heap.size,0,n⟩ aob) :
  Inv P l nt R A E0 h0 w0 D' j (E.put (R i).next ⟨w.heap.size,0,n⟩) {w with heap:=w.heap.push ob} (aAK o.dst cv tmps) :=by
 have hid:=T.id_lt M hk;have hf:E (R i).next=none:=I.und i o Y M hk
 have h:E.le (E.put (R i).next ⟨w.heap.size,0,n⟩) :=Emb.le_put hf;have B:∀ {x},x<w.heap.size→ (w.heap.push ob)[x]?=w.heap[x]?:=fun W=>by rw [Array.getElem?_push,if_neg (by omega)]
 have u:∀b s,(bT l R j).look b=some s→b≠ (R i).next:=fun b s hb e=>by
  cases hE:E b with
  |some L=>rw [e,hf]at hE;cases hE
  | none=>
   have J:=I.ul b s hb hE;have K:=I.hn0;omega
 have c:∀f aob,Pd P l R A D' j f aob→f≠i→Pd P l R A D j f aob:=fun f aob p r=> ⟨((z f).1 p.done).resolve_right r,p.op,p.late⟩
 have idne:∀f aob,Pd P l R A D' j f aob→f≠i→ (R f).next≠ (R i).next:=fun f aob p r=>by
  obtain⟨s,J,K,_⟩ :=p.op;exact T.id_ne J K M hk r
 refine⟨xA I.closed M hm z,aI0 I.lt M z,fun q e he=>?_,I.jle,?_,I.nb,?_,by rw [aCJ];exact I.size,
  aIZ T I.closed I.lt I.size M Y hm z hv (fun t a hta=>by obtain⟨v,J,K⟩ :=I.tv t a hta;exact⟨v,J,K.mono h⟩),fun f of X J K=>?_,fun f aob p=>?_,fun f aob p H O=>?_,I.hn0,fun b s hb hE=>I.ul b s hb (by rw [Emb.put_ne _ _ (u _ _ hb)]at hE;exact hE),fun f g aob m L H p Z r hE F=>?_⟩
 · rw [z,←I.eff q e he];constructor
   · rintro(g|g)
     ·exact g
     · subst g;obtain⟨_,_,s,J,K⟩ := (iT l 0).1 q e he;rw [Nat.sub_zero,M]at J;cases J;rw [hk]at K;cases K
   ·exact .inl
 · refine⟨I.ext.le.trans h,by have:=I.ext.size;simp;omega,fun x W hn=>?_,fun b' s H e k y Q hlt=>?_,I.ext.nb,I.ext.os,I.ext.tape,I.ext.output,fun x W=>?_,fun x W=> (wG w hz x).trans (I.ext.froz x W),I.ext.immo,I.ext.keys⟩
   · have:=I.ext.size;show(w.heap.push ob)[x]?=_;rw [B (by omega)];exact I.ext.keep x W hn
   · rw [Emb.put_ne _ _ (u _ _ e)]at k;exact I.ext.own b' s H e k y Q hlt
   ·rw [Emb.put_ne _ _ (by omega)];exact I.ext.low x W
 · refine⟨fun b s e=>?_,fun b b' o1 o2 L H e e' k k'=>?_,fun b hb=>?_,fun k C e=>?_,fun b s L e k y Q=>?_,I.rel.keys⟩
   · rcases I.rel.obj0 b s e with⟨u1,u2⟩ | ⟨L,U,g2⟩
     ·exact .inl ⟨u1,by rw [Emb.put_ne _ _ (u _ _ e)];exact u2⟩
     ·exact .inr ⟨L,h.1 _ _ U,(g2.mono h).heap fun y Q=>B (g2.lt y Q)⟩
   · rw [Emb.put_ne _ _ (u _ _ e)]at k;rw [Emb.put_ne _ _ (u _ _ e')]at k';exact I.rel.kin b b' o1 o2 L H e e' k k'
   · have:=I.nb;rw [Emb.put_ne _ _ (by omega)];exact I.rel.fresh b hb
   · obtain⟨e1,f1,g⟩ :=I.rel.imm k C e;exact⟨e1,f1,by rw [B (zq44.1 g).1];exact g⟩
   · rw [Emb.put_ne _ _ (u _ _ e)]at k;exact I.rel.apart b s L e k y Q
 · have r:f≠i:=fun e=>X ((z f).2 (.inr e));rw [Emb.put_ne _ _ (T.id_ne J K M hk r)];exact I.und f of (fun g=>X ((z f).2 (.inl g))) J K
 · by_cases d:f=i
   · subst d;obtain⟨s,U,g2,g3,g4⟩ :=p.op;rw [M]at U;cases U;refine⟨_,Emb.put_same _ _ _,hob aob g4,I.ext.size,fun b s H hb hE S=>?_⟩;rw [Emb.put_ne _ _ (u _ _ hb)]at hE;have:=I.rel.lt hb hE _ S;simp only at this;omega
   · obtain⟨L,N,V,k3,k4⟩ :=I.pd f aob (c f aob p d);refine⟨L,h.1 _ _ N,(V.mono h).heap (fun y Q=>B (V.lt y Q)),k3,fun b s H hb hE S=>?_⟩;rw [Emb.put_ne _ _ (u _ _ hb)]at hE;exact k4 b s H hb hE S
 · show E.imm H.blk=none;by_cases d:f=i
   · subst d;rw [Emb.put_same]at O;cases O;cases Y:E.imm w.heap.size with
     |none=>rfl
     |some C=>exact absurd (I.rel.immLt Y) (Nat.lt_irrefl _)
   · obtain⟨L,N,V,_⟩ :=I.pd f aob (c f aob p d);have e3:=h.1 _ _ N;rw [O]at e3;obtain rfl:H=L:=Option.some.inj e3;exact I.pdi f aob (c f aob p d) H N
 · by_cases d:f=i
   · by_cases G:g=i
     ·exact absurd (d.trans G.symm) r
     · subst d;rw [Emb.put_same]at hE;cases hE;obtain⟨L2,N,V,_⟩ :=I.pd g m (c g m Z G);rw [h.1 _ _ N]at F;cases F;have:=V.lt _ ((cF Z.one).2 rfl);simp only;omega
   · obtain⟨L1,N,V,_⟩ :=I.pd f aob (c f aob p d);rw [h.1 _ _ N]at hE;cases hE;by_cases G:g=i
     · subst G;rw [Emb.put_same]at F;cases F;have:=V.lt _ ((cF p.one).2 rfl);simp only;omega
     · obtain⟨L2,U,g2,_⟩ :=I.pd g m (c g m Z G);rw [h.1 _ _ U]at F;cases F;exact I.pd2 f g aob m _ _ (c f aob p d) (c g m Z G) r N U
end
def eJ (P:Program)(call:bQ) :Prop:=∀k c h v h',call k c h=some (v,h') →∃g,dT P h c=some g ∧
 ∀ (E:Emb) (w:World) (G:Frame),Rel E h w.heap→FR E g G→G.kind= .normal→∀cl base,∃cv w' E',Steps P (lone G (cl::base) w) (lone (cl.finish cv) base w') ∧VR E' v cv∧Rel E' h' w'.heap∧Ext E h w E' h' w'
def aZF (P:Program)(call:bQ)(k:Nat) :Prop:=∀c h v h',call k c h=some (v,h') →∃g,dT P h c=some g ∧
 ∀ (E:Emb) (w:World) (G:Frame),Rel E h w.heap→FR E g G→G.kind= .normal→∀cl base,∃cv w' E',Steps P (lone G (cl::base) w) (lone (cl.finish cv) base w') ∧VR E' v cv∧Rel E' h' w'.heap∧Ext E h w E' h' w'
theorem aI1 {E:Emb}{h:Hp}{w:World}(r:Rel E h w.heap){tm:T AV}{ρ:Operand→Value}{o:Oper}(hρ:Reads E tm ρ (· ∈o.op.operands)){id:Nat}(hid:E id=none){a:AV}{ob0:AObj}(h0:oJ P tm id o=some (a,ob0)) :
  ∃ob n cv,noFrz ob=true∧ (execOp ρ o).run P w= .ok (.value cv) {w with heap:=w.heap.push ob}∧VR (E.put id ⟨w.heap.size,0,n⟩) a cv∧OR (E.put id ⟨w.heap.size,0,n⟩) (w.heap.push ob) ⟨w.heap.size,0,n⟩ ob0:=by
 have hle:∀n,E.le (E.put id ⟨w.heap.size,0,n⟩) :=fun n=>Emb.le_put hid;have hpush:∀ob,(w.heap.push ob)[w.heap.size]?=some ob:=fun ob=>by simp
 unfold oJ at h0;unfold execOp;split at h0
 · rename_i e hop;rw [hop]at hρ;simp only [hop];split at h0
   · rename_i z hz;cases h0;obtain⟨cz,z1,z2⟩ :=iK hz;have hc:= (z2 E).cells;refine⟨.cells cz.cells e,cz.cells.size,.pointer (some ⟨w.heap.size,0,none⟩),rfl,by simp [Instr.alloc,z1,newVar,newRow],by simp only [VR];exact⟨_,Emb.put_same _ _ _,rfl⟩,?_⟩;exact wJ (C:=cz.cells) ⟨[],by simp⟩ (hc.mono (hle _)) (hpush _) _ (bC _) _ (le_refl _) _ _
   ·cases h0
 · rename_i t n ps hop;rw [hop]at hρ;simp only [hop];split at h0
   · rename_i l hl;split at h0
     · rename_i cs s hcs;cases h0;obtain⟨g1,g2⟩ :=hρ.parts (fun p hp=>by simp only [Op.operands,List.mem_toArray,zq24];exact⟨p,hp,rfl⟩) hl;obtain⟨out,e,k1,k2,k3⟩ :=qY (P:=P) r (qs:=ps.map fun(i,x) => (i,ρ x)) hcs (by rw [g1];simp) (by simpa [Function.comp_def]using g2);refine⟨.cells ⟨out⟩ e,out.length,.slice (some ⟨w.heap.size,0,none⟩) n n,rfl,by simp [k3 w],?_,?_⟩
       ·simp only [VR];exact⟨_,0,n,Emb.put_same _ _ _,rfl,le_refl _,le_refl _,fun _=>rfl,fun _=>rfl,by simpa using k2⟩
       ·exact wJ (C:= ⟨out⟩) ⟨[],by simp⟩ (k1.mono (hle _)) (hpush _) _ (bC _) _ (le_refl _) _ _
     ·cases h0
   ·cases h0
 ·cases h0
section
variable {call :bQ} {ops:Array Oper} {nt:Nat} {R:Nat→RS} {A:Nat→AV} {E0:Emb} {h0:Hp} {w0:World} {fn:FuncId} {ds:List Deferred} {kd:CallKind} {ro:Option Nat} {k:List Item} {cs:List Frame}
theorem aLt (T:Trace P call ops.toList nt R A){D:Nat→Prop}[DecidablePred D]{j:Nat}{E:Emb}{w:World}{tmps:Array Value}(I:Inv P ops.toList nt R A E0 h0 w0 D j E w tmps){i:Nat}{o:Oper}(ho:ops.toList[i]?=some o)(hi:¬D i)(hm:Met D o)(todo:List Item) :
  Reads E (R i).tm (rf fn tmps todo ds kd ro).eval (· ∈o.op.operands) :=by
 intro x hx a ha;cases x with
 | tmp t=>
  simp only [bO]at ha;have hn:t∈nH ops.toList o:=by
   simp only [nH,zq28,List.mem_filterMap];exact .inr (.inl ⟨.tmp t,by simpa using hx,rfl⟩)
  rw [←T.view_ready I.closed I.lt ho hi hm hn]at ha;obtain⟨v,h1,h2⟩ :=I.tv t a ha;simp only [Frame.eval,aAB,h1];exact h2
 |const v=>exact aES ha E
 |global g=>cases ha
 |func f=>simp only [bO]at ha;cases ha;simp only [Frame.eval,VR];exact⟨[],[],rfl,VRs.nil E,VRs.nil E⟩
theorem jS (T:Trace P call ops.toList nt R A){D:Nat→Prop}[DecidablePred D]{j:Nat}{E:Emb}{w:World}{tmps:Array Value}(I:Inv P ops.toList nt R A E0 h0 w0 D j E w tmps){i:Nat}{o:Oper}(ho:ops.toList[i]?=some o)(hi:¬D i)(hm:Met D o){b:Bool}
  (hw:bY (R i).tm ops.toList o=some b) :Region.wanted o (yielded ops tmps) =b:=by
 refine wU (E:=E) (tm:= (R i).tm) (fun g want hg o' ho' t ht a ha=>?_) hw;have hn:t∈nH ops.toList o:=by
  simp only [nH,zq28];refine .inr (.inr ?_);rw [hg];simp only [rN,ho',ht];simp
 rw [←T.view_ready I.closed I.lt ho hi hm hn]at ha;exact I.tv t a ha
theorem nZ {tmps:Array Value}{i:Nat}{is:List Nat}{o:Oper}(ho:ops[i]?=some o)(v:Value) :
  (rf fn tmps (.inRegion ops (i::is) ::k) ds kd ro).finish v=rf fn (aAK o.dst v tmps) (.inRegion ops is::k) ds kd ro:=by
 rw [aHd,ho];rfl
theorem aFb {b hi a:Nat}{ob:AObj}:∀ {ps:List (Nat×Nat×AObj)},aER b hi ps=some (a,ob) → (a,b,ob) ∈ps∧hi≤a
 | [],h=>by cases h
 | (a',id,o) ::ps,h=>by
  simp only [aER]at h;cases hc: (beq id b&&Nat.ble hi a')with
  | true=>
   rw [hc]at h;simp only [cond]at h;cases h;rw [cM]at hc;obtain rfl:=fN hc.1;exact⟨cN ..,Nat.le_of_ble_eq_true hc.2⟩
  | false=>
   rw [hc]at h;simp only [cond]at h;obtain⟨h1,h2⟩ :=aFb h;exact⟨cJ _ h1,h2⟩
theorem aVg {tm:T AV}{pend:List (Nat×Nat×AObj)}{hi:Nat}{o:Oper}{vs:List AV}(h:sG P tm pend hi o=some vs) :
  ∃s d x b off len c ez ex a t n1 n2 n3 el,o.op= .convert s d x∧bO tm x=some (.slice b off len c ez ex) ∧aER b hi pend=some (a,.cells t n1 n2 n3) ∧P.underlying s=some (.slice el) ∧P.underlying d=some .string∧getCells t off len=some vs∧P.underlying el=some (.int .u8) :=by
 unfold sG at h;split at h
 · rename_i s d x hop;split at h
   · rename_i b off len c ez ex hx;split at h
     · rename_i a t n1 n2 n3 hp;split at h
       · rename_i e vs' h1 h2 h3;split at h
         · rename_i h4;cases h;exact⟨s,d,x,b,off,len,c,ez,ex,a,t,n1,n2,n3,e,hop,hx,hp,h1,h2,h3,h4⟩
         ·cases h
       ·cases h
     ·cases h
   ·cases h
 ·cases h
theorem aOk {j:Nat}{i:Nat}{o:Oper}(hc:dE o.op= .eff→aZF P call j)(T:Trace P call ops.toList nt R A)(hn0:h0.nb= (R 0).next){D D':Nat→Prop}[DecidablePred D][DecidablePred D']{E:Emb}{w:World}{tmps:Array Value}(I:Inv P ops.toList nt R A E0 h0 w0 D j E w tmps)(ho:ops.toList[i]?=some o)(hi:¬D i)(hm:Met D o)(hD':∀k,D' k↔ (D k∨k=i))(is:List Nat) :
  ∃j' E' w' tmps',Steps P (lone (rf fn tmps (.inRegion ops (i::is) ::k) ds kd ro) cs w) (lone (rf fn tmps' (.inRegion ops is::k) ds kd ro) cs w') ∧Inv P ops.toList nt R A E0 h0 w0 D' j' E' w' tmps':=by
 have hoa:ops[i]?=some o:=by rw [←rN];exact ho
 have hil:=uB ho;have hρ:=aLt (fn:=fn) (ds:=ds) (kd:=kd) (ro:=ro) T I ho hi hm (.inRegion ops (i::is) ::k);obtain⟨_,c⟩ :=T.step i o ho
 have unw:bY (R i).tm ops.toList o=some false→step P (lone (rf fn tmps (.inRegion ops (i::is) ::k) ds kd ro) cs w) = .next (lone (rf fn (aAK o.dst Go.undef tmps) (.inRegion ops is::k) ds kd ro) cs w) :=fun hw=>by
  rw [aAo hoa (jS T I ho hi hm hw),nZ hoa]
 have value:∀ {hx:Hp} {h2:Hp} {a:AV} {w':World} {cv:Value},bY (R i).tm ops.toList o=some true→kE P hx (R i).tm o=some (.val a h2) →
   ((execOp (rf fn tmps (.inRegion ops (i::is) ::k) ds kd ro).eval o).run P w= .ok (.value cv) w'∨ ((execOp (rf fn tmps (.inRegion ops (i::is) ::k) ds kd ro).eval o).run P w= .ok .skip w'∧cv=Go.undef)) →
   step P (lone (rf fn tmps (.inRegion ops (i::is) ::k) ds kd ro) cs w) = .next (lone (rf fn (aAK o.dst cv tmps) (.inRegion ops is::k) ds kd ro) cs w') :=fun hw h0 hr=>by
  have hd:=aHG h0;rcases hr with hr| ⟨hr,rfl⟩
  ·rw [tY hoa (jS T I ho hi hm hw) (.inr hd) hr,nZ hoa]
  ·rw [aE4 hoa (jS T I ho hi hm hw) (.inr hd) hr,nZ hoa]
 have effStage:dE o.op= .eff→ (R i).h=bT ops.toList R j∧ (R (i+1)).h=bT ops.toList R (j+1) :=fun hk=>by
  have hq:=I.turn T ho hi hm hk;obtain⟨s1,s2⟩ :=T.sEff hq;have e1:=T.stage (i:=i) (by omega);have e2:=T.stage (i:=i+1) (by omega);rw [s1]at e1;rw [s2]at e2;exact⟨e1.symm,e2.symm⟩
 have effS:dE o.op= .eff→ (R i).s=j:=fun hk=> (T.sEff (I.turn T ho hi hm hk)).1;cases c with
 | unwE hw ha hk e=>
  have hk':dE o.op= .eff:=hk;obtain⟨e1,e2⟩ :=effStage hk';obtain⟨p1,p2,p3⟩ :=I.publish T (I.waits T ho hi hm hk');have e3:bT ops.toList R (j+1) =aN (bT ops.toList R j) j (R i).pend:=by
   rw [←e2,e,←e1,←effS hk']
  refine⟨j+1,E,w,_,.one (unw hw),I.effect T ho hi hm hk' hD' (by rw [ha];exact sJ E) (by rw [e3];exact p1) ?_⟩;rw [e3];exact Ext.refl _ _ _
 | unwF hw ha hk e=>
  have hk':dE o.op= .fresh:=hk;exact⟨j,E,w,_,.one (unw hw),I.quiet T ho hi hm (by rw [hk'];decide) hD' (fun _=>hw) (by rw [ha];exact sJ E)⟩
 | unwQ hw ha hk e=>
  have hk':dE o.op= .pure∨dE o.op= .read:=hk;exact⟨j,E,w,_,.one (unw hw),I.quiet T ho hi hm (by rcases hk' with hk'|hk'<;>rw [hk'] <;>decide) hD' (fun hf=>by rcases hk' with hk'|hk'<;>rw [hk']at hf<;>cases hf) (by rw [ha];exact sJ E)⟩
 | pure hx hw hk hv e=>
  have hk':dE o.op= .pure:=hk;have hv':=aVf (o:=o) hk' hv (bT ops.toList R j);obtain⟨_,cv,g1,g2⟩ := (tX I.rel hρ hv').2 (.inl hk');exact⟨j,E,w,_,.one (value hw hv' (.inl g1)),I.quiet T ho hi hm (by rw [hk'];decide) hD' (fun hf=>by rw [hk']at hf;cases hf) g2⟩
 | read hx hw hk hv e=>
  have hk':dE o.op= .read:=hk;obtain⟨b1,b2⟩ :=T.window I.closed I.lt I.eff I.jle ho hi hm;obtain⟨c1,c2⟩ :=T.cnt i (by omega);obtain⟨a1,a2⟩ :=T.window (D:= (· <i)) (T.nat_closed i) (fun x hx=>by omega) (fun q e he=> (c2 q e he).symm) c1 ho (by omega) (T.idOk i o ho);have hv':∃hx,kE P (bT ops.toList R j) (R i).tm o=some (.val (A i) hx) :=by
   by_cases hlh:bEy ops.toList i=wY ops.toList i
   · have: (R i).s=j:=by omega
     exact⟨hx,by rw [←this,T.stage (by omega)];exact hv⟩
   · have hmem: (⟨o,(R i).tm,bEy ops.toList i,wY ops.toList i,A i⟩ :Again) ∈ (R (i+1)).again:=by
      rw [e];simp only;rw [bM];have:decide ((tZ ops.toList i o).lo= (tZ ops.toList i o).hi) =false:=by
       rw [decide_eq_false_iff_not];exact hlh
      rw [this];exact cN ..
     have hmem':=T.again_mem (ops.toList.length- (i+1)) (i+1) (by omega) _ hmem;rw [show i+1+ (ops.toList.length- (i+1)) =ops.toList.length by omega]at hmem';have hj:=I.jle;have hse:=T.sEnd;exact T.again _ hmem' ((R ops.toList.length).s-j) _ (T.stage_get (k:=j) (by omega)) (by omega) (by simp only;omega) (by simp only;omega)
  obtain⟨hx',hv'⟩ :=hv';obtain⟨_,cv,g1,g2⟩ := (tX I.rel hρ hv').2 (.inr hk');exact⟨j,E,w,_,.one (value hw hv' (.inl g1)),I.quiet T ho hi hm (by rw [hk'];decide) hD' (fun hf=>by rw [hk']at hf;cases hf) g2⟩
 | own vs hw hk hv h1 e=>
  have hk':dE o.op= .read:=hk;obtain⟨b1,b2⟩ :=T.window I.closed I.lt I.eff I.jle ho hi hm;have hv0:sG P (R i).tm (R i).pend (wY ops.toList i) o=some vs:=hv;obtain⟨s,d,x,b,off,len,c,ez,ex,a,t,n1,n2,n3,el,g1,g2,g3,g4,g5,g6,g7⟩ :=aVg hv0;obtain⟨m1,m2⟩ :=aFb g3;obtain⟨f,o',q1,q2,q3,q4,q5,q6,q7⟩ :=T.pend_mem i (by omega) a b _ m1;obtain⟨L,_,_,hE,_⟩ :∃L off' cap,E b=some L∧True:=by
   have:=hρ x (by rw [g1];simp [Op.operands]) _ g2;simp only [VR]at this;obtain⟨L,o1,c1,k1,_⟩ :=this;exact⟨L,o1,c1,k1,trivial⟩
  have hD:D f:=by
   refine Classical.byContradiction fun hn=>?_;have:=I.und f o' hn q2 q3;rw [←q7,hE]at this;cases this
  have hpd:Pd P ops.toList R A D j f (.cells t n1 n2 n3) := ⟨hD,⟨o',q2,q3,q4,q5⟩,by omega⟩;have hr:=I.lookIn T hpd;rw [←q7]at hr;have hv':kE P ((bT ops.toList R j).set b (.cells t n1 n2 n3)) (R i).tm o=some (.val (A i) ((bT ops.toList R j).set b (.cells t n1 n2 n3))) :=by
   unfold kE;simp only [gU,g1,vS,g2,vY,g4,g5,g6,Hp.loadN,aY,if_true,g7,h1,val]
  obtain⟨_,cv,y1,y2⟩ := (tX hr hρ hv').2 (.inr hk');exact⟨j,E,w,_,.one (value hw hv' (.inl y1)),I.quiet T ho hi hm (by rw [hk'];decide) hD' (fun hf=>by rw [hk']at hf;cases hf) y2⟩
 | fresh aob hw hk hv e=>
  have hk':dE o.op= .fresh:=hk;obtain⟨ob,n,cv,hz,g1,g2,g3⟩ :=aI1 I.rel hρ (I.und i o hi ho hk') hv
  refine⟨j,_,_,_,.one ?_,I.alloc T ho hi hm hk' hD' hn0 hz g2 (fun aob' h'=>by
   have hv2:oJ P (R i).tm (R i).next o=some (A i,aob) :=hv
   rw [hv2]at h';cases h';exact g3)⟩
  have hd:∀c,o.op≠ .defer c:=fun c hc'=>by rw [hc']at hk';cases hk'
  rw [tY hoa (jS T I ho hi hm hw) (.inr hd) g1,nZ hoa]
 | eff h2 hw hk hv e=>
  have hk':dE o.op= .eff:=hk;obtain⟨e1,e2⟩ :=effStage hk';obtain⟨p1,p2,p3⟩ :=I.publish T (I.waits T ho hi hm hk');have e3:bT ops.toList R (j+1) =h2:=by rw [←e2,e]
  rw [effS hk',e1]at hv;rcases hv with hv| ⟨c,hv,hcv⟩
  · obtain⟨E',w',cv,g1,g2,g3,g4⟩ :=mT p1 hρ hv;refine⟨j+1,E',w',_,.one (value hw hv g1),I.effect T ho hi hm hk' hD' g2 (by rw [e3];exact g3) ?_⟩;rw [e3];exact g4
  · obtain⟨g,hg,hcall⟩ :=hc hk' c _ _ _ hcv;have hout:=mT p1 hρ hv;obtain⟨nx,G,g1,g2,g3⟩ :=rS p1 hg hout;have hd:=aE9 hv;have hkG:G.kind= .normal:=by
     rcases g2 with⟨f,args,_,rfl⟩ | ⟨l,f,t,aS,bd,_,rfl⟩ <;>rfl
    obtain⟨cv,w',E',s1,s2,s3,s4⟩ :=hcall E w G p1 g3 hkG (rf fn tmps (.inRegion ops (i::is) ::k) ds kd ro) cs;refine⟨j+1,E',w',_,?_,I.effect T ho hi hm hk' hD' s2 (by rw [e3];exact s3) (by rw [e3];exact s4)⟩;rw [nZ hoa]at s1;rcases g2 with⟨f,args,rfl,rfl⟩ | ⟨l,f,t,aS,bd,rfl,rfl⟩
    ·exact .head (aE5 hoa (jS T I ho hi hm hw) (.inr hd) g1) s1
    ·exact .head (aE6 hoa (jS T I ho hi hm hw) (.inr hd) g1) s1
theorem aSI (hc:eJ P call)(T:Trace P call ops.toList nt R A)(hn0:h0.nb= (R 0).next){D D':Nat→Prop}[DecidablePred D][DecidablePred D']{j:Nat}{E:Emb}{w:World}{tmps:Array Value}(I:Inv P ops.toList nt R A E0 h0 w0 D j E w tmps){i:Nat}{o:Oper}(ho:ops.toList[i]?=some o)(hi:¬D i)(hm:Met D o)(hD':∀k,D' k↔ (D k∨k=i))(is:List Nat) :
  ∃j' E' w' tmps',Steps P (lone (rf fn tmps (.inRegion ops (i::is) ::k) ds kd ro) cs w) (lone (rf fn tmps' (.inRegion ops is::k) ds kd ro) cs w') ∧Inv P ops.toList nt R A E0 h0 w0 D' j' E' w' tmps':=
 aOk (fun _=>hc j) T hn0 I ho hi hm hD' is
theorem aOl (hc:eJ P call)(T:Trace P call ops.toList nt R A)(hn0:h0.nb= (R 0).next){is:List Nat}{D:Nat→Bool}(hl:Legal ops.toList D is) :∀ {j:Nat} {E:Emb} {w:World} {tmps:Array Value},Inv P ops.toList nt R A E0 h0 w0 (fun k=>D k=true) j E w tmps →
  ∃ (D':Nat→Bool) (j':Nat) (E':Emb) (w':World) (tmps':Array Value),Steps P (lone (rf fn tmps (.inRegion ops is::k) ds kd ro) cs w) (lone (rf fn tmps' (.inRegion ops [] ::k) ds kd ro) cs w') ∧Inv P ops.toList nt R A E0 h0 w0 (fun k=>D' k=true) j' E' w' tmps'∧∀i,i<ops.toList.length→D' i=true:=by
 induction hl with
 | @nil D h=>intro j E w tmps I;exact⟨D,j,E,w,tmps,Steps.refl _ _,I,h⟩
 | @cons D i is o h1 h2 h3 h4 ih=>
  intro j E w tmps I;obtain⟨j',E',w',tmps',s1,I'⟩ :=aSI (D':=fun k=> (D k||k==i) =true) (fn:=fn) (ds:=ds) (kd:=kd) (ro:=ro) (k:=k) (cs:=cs) hc T hn0 I h1 (by simp [h2]) h3 (fun k=>by simp) is;obtain⟨D2,j2,E2,w2,tmps2,s2,I2,hall⟩ :=ih I';exact⟨D2,j2,E2,w2,tmps2,s1.trans s2,I2,hall⟩
end
theorem aDu {call:bQ}{h:Nat}{l:List Oper}:∀ {f:List Plan} {r d:RS},oK P call h l f r=some d→d.next=r.next+pX f
 | [],r,d,b=>by simp [oK]at b;subst b;rfl
 | p ::f,r,d,b=>by
  simp only [oK]at b;split at b
  · rename_i j e;obtain⟨a,_,c⟩ :=aDt e;have i:=aDu b;have g:=c.next
    rw [i,g];simp only [pX];cases hk:p.kd<;>simp [hk] <;>omega
  ·cases b
theorem aVh {call:bQ}{l:Nat}{ops:Array Oper}{tm:T AV}{h:Hp}{r:RS}(f: (kG ops).ok=true)
  (u:oK P call l (kG ops).ops (kG ops).plans {tm,h:={h with nb:=h.nb+ (kG ops).fresh},stages:=[],s:=0,pend:=[],next:=h.nb,again:=[]}=some r)
  (n:yS P (r.h::r.stages) r.s r.again) :
  ∃ (R:Nat→RS) (A:Nat→AV),Trace P call ops.toList l R A∧R 0= {tm,h:={h with nb:=h.nb+ (kG ops).fresh},stages:=[],s:=0,pend:=[],next:=h.nb,again:=[]}∧R ops.toList.length=r∧∀i p,(kG ops).plans[i]?=some p→lR P call l (kG ops).ops p (R i) =some (R (i+1)) :=by
 obtain⟨R,d,k,v⟩ :=aBv u;have j: (kG ops).plans.length=ops.toList.length:=wX _ _ _ _
 have g:∀i o,ops.toList[i]?=some o→ (kG ops).plans[i]?=some (tZ ops.toList i o) :=fun i o b=>by
  have:=aDs (lQ ops.toList []) (fV ops.toList 0) ops.toList 0 i;rw [b,Option.map_some,eS]at this;exact this
 have c:∀i,∃a,∀o,ops.toList[i]?=some o→iJ (R i).tm l o.dst a=some (R (i+1)).tm∧RC P call ops.toList (tZ ops.toList i o) (R i) (R (i+1)) a:=fun i=>by
  cases b:ops.toList[i]? with
  |none=>exact⟨.undef,fun o h=>by cases h⟩
  | some o=>
   obtain⟨a,q,m⟩ :=aDt (v i _ (g i o b));exact⟨a,fun D h=>by cases h;exact⟨q,m⟩⟩
 obtain⟨A,hA⟩ :=Classical.axiomOfChoice c;rw [j]at k;simp only [kG,cM]at f;obtain⟨⟨⟨⟨y,B⟩,w⟩,C⟩,F⟩ :=f;refine⟨R,A,⟨fun i o b=>hA i o b,y,B,fun i o b e he hb=>?_,by rw [d],by rw [d],by rw [d],by rw [d],?_,by rw [k];exact n⟩,d,k,v⟩
 · have t:=uB b;obtain⟨q,m⟩ :=wW w i o b e he hb;have hr:∀x,x<ops.size→ (List.range ops.size).getD x 0=x:=fun x z=>by simp [nW,z]
   rw [eS,hr _ q,hr _ (by simpa using t)]at m;exact m
 ·rw [k,aDu u,d];exact le_refl _
theorem aSJ {a:T AV}{b:Nat→Option Nat}{A:Nat→AV}{D:Nat→Prop}[DecidablePred D](c:∀k,¬D k)(n t:Nat) :eH a b A D n t=a.at t:=by
 rw [yR (i:=0) (zero_le n) (fun k _ _ _=>c k)];rfl
theorem aAu {call:bQ}(hc:eJ P call){C:Nat}{ops:Array Oper}{tm:T AV}{h:Hp}{d:RS}(u: (kG ops).ok=true)
  (J:oK P call C (kG ops).ops (kG ops).plans {tm,h:={h with nb:=h.nb+ (kG ops).fresh},stages:=[],s:=0,pend:=[],next:=h.nb,again:=[]}=some d)
  (H:yS P (d.h::d.stages) d.s d.again) {E:Emb} {w:World} {tmps:Array Value} (r:Rel E h w.heap) (y:TR E tm C tmps)
  (id:Nat) (fn:FuncId) (ds:List Deferred) (kd:CallKind) (ro:Option Nat) (k:List Item) (cs:List Frame) :
  ∃B w' c,Steps P (lone (rf fn tmps (.code (.region id ops true) ::k) ds kd ro) cs w) (lone (rf fn c k ds kd ro) cs w') ∧TR B d.tm C c∧Rel B (aN d.h d.s d.pend) w'.heap∧Ext E h w B (aN d.h d.s d.pend) w':=by
 obtain⟨R,A,T,n,D,_⟩ :=aVh u J H;have j:bT ops.toList R 0= {h with nb:=h.nb+ (kG ops).fresh}:=by
  have:=T.stage (i:=0) (zero_le _);rw [T.s0]at this;rw [this,n]
 have I:Inv P ops.toList C R A E h w (fun k=> (fun _:Nat=>false) k=true) 0 E {w with drawn:=w.drawn+1} tmps:=by
  refine⟨fun i o _ G=>by simp at G,fun i G=>by simp at G,fun q e _=>by simp,zero_le _,?_,by rw [j,n];exact le_refl _,?_,y.1,fun t a v=>?_,fun f o _ Z hk=>?_,fun f ob p=>?_,fun f ob p=>?_,by rw [n],fun b o hb hE=>?_,fun f g ob ob' L L' p=>?_⟩
  · rw [j];exact⟨Emb.le.refl E,le_refl _,fun _ _ _=>rfl,fun b o L M F i hi _=> ⟨b,o,L,M,F,hi⟩,Nat.le_add_right _ _,rfl,rfl,rfl,fun _ _=>rfl,fun _ _=>rfl,fun _ _ e _=>.inl e,fun _ o e _=> ⟨o,e⟩⟩
  ·rw [j];exact r.sub (fun _ _ e=>e) (Nat.le_add_right _ _)
  · rw [aSJ (by simp),n]at v;exact y.2 t a v
  · have:= (T.id_lt Z hk).1;rw [n]at this;exact r.fresh _ this
  ·have:=p.done;simp at this
  ·have:=p.done;simp at this
  ·rw [j]at hb;exact .inl (r.keys b o hb)
  ·have:=p.done;simp at this
 obtain⟨X,m,B,w',c,s1,z,l⟩ :=aOl (fn:=fn) (ds:=ds) (kd:=kd) (ro:=ro) (k:=k) (cs:=cs) hc T (by rw [n]) (aE7 u (P.follows .mixedOrders) (w.tape w.drawn (.order fn id))) I;have S:m=d.s:=by
  rw [←D,T.sEnd];have:=z.jle;rcases lt_or_ge m (fV ops.toList 0).length with g|g
  · have he: (fV ops.toList 0)[m]?=some ((fV ops.toList 0)[m]) :=kF g;obtain⟨_,F,_⟩ := (iT ops.toList 0).1 _ _ he;have:= (z.eff _ _ he).1 (l _ (by omega));omega
  ·omega
 have N:∀x ob,(m,x,ob) ∈d.pend→∃f,Pd P ops.toList R A (fun k=>X k=true) m f ob∧wY ops.toList f=m∧x= (R f).next:=fun x ob Q=>by
  rw [←D]at Q;obtain⟨f,o,M,F,h3,V,Y,W,h7⟩ :=T.pend_mem _ (le_refl _) m x ob Q;exact⟨f,⟨l f M,⟨o,F,h3,V,Y⟩,by omega⟩,W.symm,h7⟩
 obtain⟨U,O,_⟩ :=z.publish T N;have K:bT ops.toList R m=d.h:=by rw [S,←D];exact T.stage (le_refl _)
 rw [K,S]at U O;refine⟨B,w',c,.head (aZA id) (s1.trans (.one aAp)),⟨z.size,fun t a v=>?_⟩,U,O⟩;refine z.tv t a ?_;rw [←D,T.view t _ (le_refl _)]at v;rw [←v];exact uA fun k hk _=> ⟨fun _=>trivial,fun _=>l k hk⟩
theorem aI2 {call:bQ}(hc:eJ P call){g:Nat}{ops:Array Oper}{tm tm':T AV}{h h':Hp}(a:aEa P call g ops tm h=some (tm',h')){E:Emb}{w:World}{tmps:Array Value}(r:Rel E h w.heap)(i:TR E tm g tmps)
  (id:Nat) (fn:FuncId) (ds:List Deferred) (kd:CallKind) (ro:Option Nat) (k:List Item) (cs:List Frame) :
  ∃j w' b,Steps P (lone (rf fn tmps (.code (.region id ops true) ::k) ds kd ro) cs w) (lone (rf fn b k ds kd ro) cs w') ∧TR j tm' g b∧Rel j h' w'.heap∧Ext E h w j h' w':=by
 unfold aEa at a;simp only at a;cases c: (kG ops).ok with
 |false=>rw [c]at a;cases a
 | true=>
  rw [c]at a;simp only [cond]at a;split at a
  · rename_i e f;cases d:sH P (e.h::e.stages) e.s e.again with
    |false=>rw [d]at a;cases a
    | true=>
     rw [d]at a;simp only [Option.some.injEq,Prod.mk.injEq]at a;obtain⟨rfl,rfl⟩ :=a;exact aAu hc c f (aE8 d) r i id fn ds kd ro k cs
  ·cases a
end
section
variable {P :Program} {E:Emb} {h h':Hp} {w w':World}
theorem xB {l:Nat}{L:Loop}{ob':Obj}(hl:w.heap[l]?=some (.loop L)) : (setObj l ob').run P w= .ok () (cG w l ob') :=pZ hl (fun _ _ _ e=>by cases e)
theorem aBy (r:Rel E h w.heap){l:Nat}{L:Loc}(hE:E l=some L){st pe fn tm nt ps aS bd df}(hl:h.look l=some (.loop st pe fn tm nt ps aS bd df)) :
  ∃tmps a,w.heap[L.blk]?=some (.loop {state:=st,pending:=pe,fn,tmps,params:= ⟨ps⟩,assign:=aS,body:=bd,defers:=a.blk}) ∧E df=some a∧TR E tm nt tmps:=by
 obtain⟨d,b,c⟩ :=r.obj _ _ hl;rw [hE]at b;cases b;exact c
theorem rT (r:Rel E h w.heap){l:Nat}{L:Loc}(hE:E l=some L){st pe fn tm nt ps aS bd df tmps}{c:Loc}(hl:h.look l=some (.loop st pe fn tm nt ps aS bd df))(e:E df=some c)(f:TR E tm nt tmps)(a:LoopState)(b:Option Code) :
  Rel E (h.set l (.loop a b fn tm nt ps aS bd df)) (cG w L.blk (.loop {state:=a,pending:=b,fn,tmps,params:= ⟨ps⟩,assign:=aS,body:=bd,defers:=c.blk})).heap ∧
  Ext E h w E (h.set l (.loop a b fn tm nt ps aS bd df)) (cG w L.blk (.loop {state:=a,pending:=b,fn,tmps,params:= ⟨ps⟩,assign:=aS,body:=bd,defers:=c.blk})) :=
 r.setObj (.loop {state:=a,pending:=b,fn,tmps,params:= ⟨ps⟩,assign:=aS,body:=bd,defers:=c.blk}) hl hE rfl rfl (fun g d=> ⟨tmps,c,d,e,f⟩)
theorem aCK (r:Rel E h w.heap){l:Nat}{L:Loc}(hE:E l=some L){pe fn tm nt ps aS bd df}(hl:h.look l=some (.loop .ready pe fn tm nt ps aS bd df)) :
  ∃w',(Instr.beginRound L.blk).run P w= .ok () w'∧Rel E (h.set l (.loop .busy pe fn tm nt ps aS bd df)) w'.heap∧Ext E h w E (h.set l (.loop .busy pe fn tm nt ps aS bd df)) w':=by
 obtain⟨b,e,a,c,d⟩ :=aBy r hE hl;have:=rT r hE hl c d .busy pe;exact⟨_,by simp [Instr.beginRound,run_getLoop a,xB a],this⟩
theorem xC (r:Rel E h w.heap){l:Nat}{L:Loc}(hE:E l=some L){a:Option Code}(b:lE h l a=some h') :
  ∃w',(Instr.endRound L.blk a).run P w= .ok (.bool a.isNone) w'∧Rel E h' w'.heap∧Ext E h w E h' w':=by
 unfold lE at b;split at b
 · rename_i st i fn n j k o g p hl;cases b;obtain⟨d,m,c,e,f⟩ :=aBy r hE hl;have:=rT r hE hl e f (match a with|none=>.ready|some _=>.done) a;refine⟨_,?_,this⟩;cases a<;>simp [Instr.endRound,run_getLoop c,xB c]
 ·cases b
theorem aHf (r:Rel E h w.heap){l:Nat}{L:Loc}(hE:E l=some L){st pe fn tm nt ps aS bd df}(a:st≠ .busy)(hl:h.look l=some (.loop st pe fn tm nt ps aS bd df)) :
  ∃w',(Instr.endLoop L.blk).run P w= .ok pe w'∧Rel E (h.set l (.loop .exhausted pe fn tm nt ps aS bd df)) w'.heap∧Ext E h w E (h.set l (.loop .exhausted pe fn tm nt ps aS bd df)) w':=by
 obtain⟨c,f,b,d,e⟩ :=aBy r hE hl;have:=rT r hE hl d e .exhausted pe;refine⟨_,?_,this⟩;cases st<;>first|exact absurd rfl a|simp [Instr.endLoop,run_getLoop b,xB b]
theorem qA (r:Rel E h w.heap){b:Nat}{L:Loc}(hE:E b=some L)(hb:h.look b=some (.defd false)) :
  ∃w',(Instr.takeDeferred L.blk).run P w= .ok [] w'∧Rel E (h.set b (.defd true)) w'.heap∧Ext E h w E (h.set b (.defd true)) w':=by
 obtain⟨k,c,i⟩ :=r.obj _ _ hb;rw [hE]at c;cases c;have:=r.setObj (o':=.defd true) (.deferred none) hb hE rfl rfl (fun j d=>d);have a:w.heap[L.blk]?=some (.deferred (some [])) :=i;refine⟨cG w L.blk (.deferred none),?_,this⟩;have g: (getObj L.blk).run P w= .ok (.deferred (some [])) w:=by simp [getObj,Sem.run,a]
 have f: (setObj L.blk (.deferred none)).run P w= .ok () (cG w L.blk (.deferred none)) :=pZ a (fun _ _ _ e=>by cases e);simp [Instr.takeDeferred,g,f]
theorem aFc (r:Rel E h w.heap){fn:FuncId}{tm:T AV}{e:Nat}{tmps:Array Value}(l:TR E tm e tmps)(ps:List Nat)(b a:Code) :
  ∃ (L j:Loc) (w':World) (d:Emb),(Instr.enterLoop fn tmps ⟨ps⟩ b a none).run P w= .ok (L.blk,[{target:=.collected j.blk,args:= #[]}]) w'∧d h.nb=some j∧d (h.nb+1) =some L ∧
   Rel d ((h.new (.defd false)).new (.loop .ready none fn tm e ps b a h.nb)) w'.heap∧Ext E h w d ((h.new (.defd false)).new (.loop .ready none fn tm e ps b a h.nb)) w':=by
 obtain⟨k,g⟩ :=r.new (.defd false) (.deferred (some [])) 0 (fun _ _ _ _ f=>f)
 obtain⟨m,i⟩ :=Rel.new (w:={w with heap:=w.heap.push (.deferred (some []))}) k (.loop .ready none fn tm e ps b a h.nb)
  (.loop {state:=.ready,pending:=none,fn,tmps,params:= ⟨ps⟩,assign:=b,body:=a,defers:=w.heap.size}) 0
  (fun d n c _ f=> ⟨tmps,⟨w.heap.size,0,0⟩,f,c.1 _ _ (Emb.put_same _ _ _),(l.mono g.le).mono c⟩)
 refine⟨⟨(w.heap.push (.deferred (some []))).size,0,0⟩,⟨w.heap.size,0,0⟩,_,_,?_,?_,Emb.put_same _ _ _,m,g.trans i⟩
 · simp [Instr.enterLoop,newObj,Sem.run];rfl
 ·exact i.le.1 _ _ (Emb.put_same _ _ _)
theorem aFd (r:Rel E h w.heap){o:Nat}{g:Loc}(hE:E o=some g){st pe fn' tm' nt' ps' as' bd' df}(hl:h.look o=some (.loop st pe fn' tm' nt' ps' as' bd' df)){fn:FuncId}{tm:T AV}{d:Nat}{tmps:Array Value}(m:TR E tm d tmps)(ps:List Nat)(b a:Code) :
  ∃ (L:Loc) (w':World) (e:Emb),(Instr.enterLoop fn tmps ⟨ps⟩ b a (some g.blk)).run P w= .ok (L.blk,[]) w'∧e h.nb=some L ∧
   Rel e (h.new (.loop .ready none fn tm d ps b a df)) w'.heap∧Ext E h w e (h.new (.loop .ready none fn tm d ps b a df)) w':=by
 obtain⟨f,i,j,k,s⟩ :=aBy r hE hl
 obtain⟨p,l⟩ :=r.new (.loop .ready none fn tm d ps b a df)
  (.loop {state:=.ready,pending:=none,fn,tmps,params:= ⟨ps⟩,assign:=b,body:=a,defers:=i.blk}) 0
  (fun e q c _ n=> ⟨tmps,i,n,c.1 _ _ k,m.mono c⟩)
 exact⟨_,_,_,by simp [Instr.enterLoop,run_getLoop j,newObj,Sem.run],Emb.put_same _ _ _,p,l⟩
def aHH (tmps:Array Value) :ResultVar→Sem Value
 | .tmp t=>pure (tmps.getD t Go.undef)
 | .cell a t=>do loadVar t (←asAddr (tmps.getD a Go.undef))
theorem aOm (fd:Func)(tmps:Array Value) :results fd tmps= (do let vs ←fd.results.mapM (aHH tmps);pure (if h:vs.size=1 then vs[0]else .tuple vs) :Sem Value) :=by
 unfold results;rfl
theorem qZ {fd:Func}{tm:T AV}{B:Nat}{tmps:Array Value}(r:Rel E h w.heap)(p:TR E tm B tmps){f:List AV}(d:lS P h tm fd.results.toList=some f) :
  ∃cv,(results fd tmps).run P w= .ok cv w∧VR E (aAH f) cv:=by
 have key :∀ (m:List ResultVar) (f:List AV) (c:Array Value),lS P h tm m=some f→∃cvs,(m.foldlM (fun(G:Array Value) a=>Functor.map G.push (aHH tmps a)) c).run P w= .ok (c++ (⟨cvs⟩ :Array Value)) w∧VRs E f cvs:=by
  intro m
  induction m with
  |nil=>intro f c d;simp [lS]at d;subst d;exact⟨[],by simp,VRs.nil E⟩
  | cons x m F=>
   intro f c d;simp only [lS]at d;split at d
   · rename_i v o j H;cases d;have z:∃cv,(aHH tmps x).run P w= .ok cv w∧VR E v cv:=by
      unfold aRd at j;split at j
      · rename_i t;obtain⟨cv,l,i⟩ :=p.2 _ _ j;exact⟨cv,by simp [aHH,aAB,l],i⟩
      · rename_i a t;split at j
        · rename_i b A hb;obtain⟨cv,l,i⟩ :=p.2 _ _ hb;simp only [VR]at i;obtain⟨L,D,rfl⟩ :=i;obtain⟨cv,k,g⟩ :=aDn r j D;exact⟨cv,by simp [aHH,aAB,l,asAddr,k],g⟩
        ·cases j
     obtain⟨cv,k,g⟩ :=z;obtain⟨cvs,y,s⟩ :=F o (c.push cv) H;refine⟨cv::cvs,?_,VRs.cons g s⟩;rw [List.foldlM_cons,Sem.run_bind,Sem.run_map,k];simp only [Result.andThen_ok];rw [y];congr 1;apply Array.ext';simp
   ·cases d
 obtain⟨cvs,k,g⟩ :=key _ _ #[] d;have hm: (fd.results.mapM (aHH tmps)).run P w= .ok (⟨cvs⟩ :Array Value) w:=by
  rw [Array.mapM_eq_foldlM,←Array.foldlM_toList,k];congr 1;apply Array.ext';simp
 rw [aOm];simp only [Sem.run_bind,hm,Result.andThen_ok,Sem.run_pure];refine⟨_,rfl,?_⟩;have n:=g.length;unfold aAH;split
 · rename_i v;obtain⟨u,I,rfl,l,i⟩ :=g.cons_inv;rw [i.nil_inv];exact l
 · rename_i C
   have:¬ (⟨cvs⟩ :Array Value).size=1:=fun e=>by
    have q:cvs.length=1:=e
    match f,n with
    | [x],_=>exact C x rfl
    | [],h=>simp [q]at h
    |_::_::_,h=>simp [q]at h
   rw [dif_neg this];simp only [VR];exact⟨cvs,rfl,g⟩
theorem CR.noGoexit :∀ {c:List (AV×Bool)} {a:List PanicEntry},CR E c a→a.dropWhile (!·.goexit) = []
 | [],_,h=>by simp only [CR]at h;subst h;rfl
 | _::_,_,h=>by
  simp only [CR]at h;obtain⟨v,a,rfl,_,b⟩ :=h;simp [b.noGoexit]
theorem aI3 {a:AMode}{m:FrameMode}(d:MR E a m) :MR E (aIE a) (settle m) :=by
 cases a with
 |run=>simp only [MR]at d;subst d;exact rfl
 |ret=>simp only [MR]at d;subst d;exact rfl
 | pan c=>
  simp only [MR]at d;obtain⟨j,rfl,e⟩ :=d;cases c with
  |nil=>simp only [CR]at e;subst e;exact⟨[],rfl,by simp [CR]⟩
  | cons x l=>
   obtain⟨v,b⟩ :=x;have f:=e;simp only [CR]at e;obtain⟨k,h,rfl,i,g⟩ :=e;cases b with
   |true=>simp only [aIE,settle,g.noGoexit];exact rfl
   |false=>exact⟨_,rfl,f⟩
theorem xE {a:AFrame}{c:Frame}(f:FR E a c){g:List (AV×Bool)}{ps:List PanicEntry}(d:CR E g ps) :FR E (a.raise g) (c.raise ps) :=by
 unfold AFrame.raise Frame.raise;have hm:=f.mode;cases b:a.mode with
 |run=>rw [b]at hm;simp only [MR]at hm;rw [hm];exact⟨f.fn,f.tm,f.todo,f.defers,⟨ps,rfl,d⟩,f.kind,f.round⟩
 |ret=>rw [b]at hm;simp only [MR]at hm;rw [hm];exact⟨f.fn,f.tm,f.todo,f.defers,⟨ps,rfl,d⟩,f.kind,f.round⟩
 | pan e=>
  rw [b]at hm;simp only [MR]at hm;obtain⟨qs,i,h⟩ :=hm;rw [i];exact⟨f.fn,f.tm,f.todo,f.defers,⟨_,rfl,d.append h⟩,f.kind,f.round⟩
theorem uC (id:Nat) :∀ {k d:List AItem} {l:List Item},nJ id k=some d→IRs E k l→∃a,exitTo id l=some a∧IRs E d a
 | [],_,_,h,_=>by simp [nJ]at h
 | i ::k,d,l,h,r=>by
  obtain⟨n,g,rfl,c,m⟩ :=r.cons_inv;cases i<;>simp only [nJ]at h<;>simp only [IR]at c
  case inBlock j=>
   subst c;rw [bM]at h;simp only [exitTo];by_cases e:j=id
   · simp only [e,decide_true,cond,Option.some.injEq]at h;subst h;exact⟨g,by simp [e],m⟩
   · simp only [e,decide_false,cond]at h;obtain⟨a,b,f⟩ :=uC id h m;exact⟨a,by simp [e,b],f⟩
  all_goals
   obtain⟨a,b,f⟩ :=uC id h m;refine⟨a,?_,f⟩
   first
    | (subst c;simpa [exitTo]using b)
    | (obtain⟨L,_,rfl⟩ :=c;simpa [exitTo]using b)
    | (obtain⟨rfl,_⟩ :=c;simpa [exitTo]using b)
theorem rA (id:Nat) :∀ {k:List AItem} {b:List Item},nJ id k=none→IRs E k b→exitTo id b=none
 | [],_,_,r=>by rw [r.nil_inv];rfl
 | i ::k,b,h,r=>by
  obtain⟨j,g,rfl,a,f⟩ :=r.cons_inv;cases i<;>simp only [nJ]at h<;>simp only [IR]at a
  case inBlock d=>
   subst a;rw [bM]at h;simp only [exitTo];by_cases e:d=id
   ·simp only [e,decide_true,cond]at h;cases h
   · simp only [e,decide_false,cond]at h;simp [e,rA id h f]
  all_goals
   have c:=rA id h f
   first
    | (subst a;simpa [exitTo]using c)
    | (obtain⟨L,_,rfl⟩ :=a;simpa [exitTo]using c)
    | (obtain⟨rfl,_⟩ :=a;simpa [exitTo]using c)
theorem uD (l:Nat) :∀ {k f:List AItem} {m:List Item},nK l k=some f→IRs E k m→∃a,gotoIn l m=some a∧IRs E f a
 | [],_,_,h,_=>by simp [nK]at h
 | i ::k,f,m,h,r=>by
  obtain⟨o,j,rfl,d,n⟩ :=r.cons_inv;cases i<;>simp only [nK]at h<;>simp only [IR]at d
  case inScope e=>
   subst d;simp only [gotoIn];split at h
   · rename_i c hr;cases h;exact⟨.code c:: .inScope e::j,by simp [hr],IRs.cons rfl (IRs.cons rfl n)⟩
   · rename_i hr;obtain⟨a,b,g⟩ :=uD l h n;exact⟨a,by simp [hr,b],g⟩
  all_goals
   obtain⟨a,b,g⟩ :=uD l h n;refine⟨a,?_,g⟩
   first
    | (subst d;simpa [gotoIn]using b)
    | (obtain⟨L,_,rfl⟩ :=d;simpa [gotoIn]using b)
    | (obtain⟨rfl,_⟩ :=d;simpa [gotoIn]using b)
theorem rB (l:Nat) :∀ {k:List AItem} {b:List Item},nK l k=none→IRs E k b→gotoIn l b=none
 | [],_,_,r=>by rw [r.nil_inv];rfl
 | i ::k,b,h,r=>by
  obtain⟨g,f,rfl,a,d⟩ :=r.cons_inv;cases i<;>simp only [nK]at h<;>simp only [IR]at a
  case inScope e=>
   subst a;simp only [gotoIn];split at h
   ·cases h
   · rename_i hr;simp [hr,rB l h d]
  all_goals
   have c:=rB l h d
   first
    | (subst a;simpa [gotoIn]using c)
    | (obtain⟨L,_,rfl⟩ :=a;simpa [gotoIn]using c)
    | (obtain⟨rfl,_⟩ :=a;simpa [gotoIn]using c)
def Goes (P:Program)(E:Emb)(h:Hp)(fr:Frame)(cs:List Frame)(w:World)(base:List Frame)(s':AS) :Prop:=
 ∃E' fr' cs' w',Steps P (lone fr (cs++base) w) (lone fr' (cs'++base) w') ∧FR E' s'.fr fr'∧FRs E' s'.cs cs'∧Rel E' s'.h w'.heap∧Ext E h w E' s'.h w'
section
variable {fn :FuncId} {tmps:Array Value} {ds:List Deferred} {kd:CallKind} {ro:Option Nat} {k:List Item} {ccs base:List Frame} {todo:List Item}
theorem drop_cons {a:Type}{l:List a}{i:Nat}{x:a}{xs:List a}(h:x::xs=l.drop i) :l[i]?=some x∧xs=l.drop (i+1) :=by
 have b: (l.drop i)[0]?=some x:=by rw [←h];rfl
 rw [List.getElem?_drop,Nat.add_zero]at b;refine⟨b,?_⟩;have:l.drop (i+1) = (l.drop i).drop 1:=by rw [List.drop_drop]
 rw [this,←h];rfl
theorem aFe {all:Array Oper}{i:Nat}{o:Oper}{rest:List Oper}{b:Item}(a:IR E (.ops all i (o::rest)) b) :
  b= .inRegion all (i::range' (i+1) rest.length) ∧all[i]?=some o∧IR E (.ops all (succ i) rest) (.inRegion all (range' (i+1) rest.length)) :=by
 simp only [IR]at a;obtain⟨rfl,e⟩ :=a;obtain⟨c,d⟩ :=drop_cons e;exact⟨by simp [List.range'_succ],by rw [←rN];exact c,rfl,d⟩
theorem aBz {c n:AFrame}{v:AV}{q:Frame}{cv:Value}(a:c.finish v=some n)(f:FR E c q)(t:VR E v cv) :FR E n (q.finish cv) :=by
 unfold AFrame.finish at a;have b:=f.todo;split at a
 · rename_i all i o p k h;split at a
   · rename_i w j;cases a;rw [h]at b;obtain⟨x,s,e,d,m⟩ :=b.cons_inv;obtain⟨rfl,g,u⟩ :=aFe d;have r:=aAL f.tm j t;unfold Frame.finish;rw [e];simp only [g,Option.bind_some];refine⟨f.fn,?_,IRs.cons u m,f.defers,f.mode,f.kind,f.round⟩;unfold aAK at r;exact r
   ·cases a
 · rename_i l k h;cases a;rw [h]at b;obtain⟨x,s,e,d,m⟩ :=b.cons_inv;simp only [IR]at d;obtain⟨L,g,rfl⟩ :=d;unfold Frame.finish;rw [e];exact⟨f.fn,f.tm,IRs.cons ⟨L,g,rfl⟩ m,f.defers,f.mode,f.kind,f.round⟩
 ·cases a
theorem aAv {fr:AFrame}{cfr:Frame}(hk:cfr.kind=fr.kind){cs:List AFrame}(fs:FRs E cs ccs){v:AV}{cv:Value}{f:AS}(b:aBh fr cs v h=some f)(j:VR E v cv) :
  ∃c d,ccs=c::d∧FR E f.fr (handed cfr c cv) ∧FRs E f.cs d∧f.h=h∧ (cfr.kind= .normal∨cfr.kind= .deferred) :=by
 unfold aBh at b;split at b
 ·cases b
 · rename_i c cs;obtain⟨k,d,rfl,e,i⟩ :=fs.cons_inv;refine⟨k,d,rfl,?_⟩;split at b
   · rename_i a;split at b
     · rename_i l g;cases b;refine⟨?_,i,rfl,.inl (by rw [hk,a])⟩;simp only [handed,hk,a];exact aBz g e j
     ·cases b
   · rename_i a;cases b;refine⟨?_,i,rfl,.inr (by rw [hk,a])⟩;simp only [handed,hk,a];exact⟨e.fn,e.tm,e.todo,e.defers,aI3 e.mode,e.kind,e.round⟩
   ·cases b
theorem Goes.one {s':AS}{fr fr':Frame}{cs':List Frame}{E':Emb}(h1:step P (lone fr (ccs++base) w) = .next (lone fr' (cs'++base) w'))(f:FR E' s'.fr fr')(fs:FRs E' s'.cs cs')(r:Rel E' s'.h w'.heap)(x:Ext E h w E' s'.h w') :Goes P E h fr ccs w base s':=
 ⟨E',fr',cs',w',.one h1,f,fs,r,x⟩
theorem uE {l:Nat}(hr:RR E (some l) ro) :∃L,E l=some L∧ro=some L.blk:=by simpa only [RR]using hr
theorem pA {fr:AFrame}{cs:List AFrame}{a:Option Code}{s':AS}(r:Rel E h w.heap)(f:FR E fr (rf fn tmps todo ds kd ro))(fs:FRs E cs ccs)(b:rO fr cs h a=some s')
  (n: (todo= [] ∧a=none) ∨ (∃k,todo= .code .ret::k∧a=some .ret) ∨ (∃id k,todo= .code (.exit id) ::k∧a=some (.exit id) ∧exitTo id k=none) ∨ (∃t k,todo= .code (.goto t) ::k∧a=some (.goto t) ∧gotoIn t k=none)) :
  Goes P E h (rf fn tmps todo ds kd ro) ccs w base s':=by
 unfold rO at b;have d:=f.round;split at b
 · rename_i g;rw [g]at d;simp only [RR]at d;subst d
   have i:∀j,(step P (lone (rf fn tmps j ds kd none) (ccs++base) w) = .next (lone {rf fn tmps j ds kd none with mode:=.returning} (ccs++base) w)) →j=todo→some ⟨{fr with mode:=.ret},cs,h⟩ =some s'→Goes P E h (rf fn tmps todo ds kd none) ccs w base s':=fun j q e b=>by
    cases b;subst e;exact Goes.one q ⟨f.fn,f.tm,f.todo,f.defers,rfl,f.kind,by rw [show({fr with mode:=AMode.ret}:AFrame).roundOf=fr.roundOf from rfl,g];exact rfl⟩ fs r (Ext.refl _ _ _)
   split at b
   · rcases n with⟨e,_⟩ | ⟨_,_,e⟩ | ⟨_,_,_,e,_⟩ | ⟨_,_,_,e,_⟩
     ·exact i [] bEw e.symm b
     ·cases e
     ·cases e
     ·cases e
   · rcases n with⟨_,e⟩ | ⟨k,e,_⟩ | ⟨_,_,_,e,_⟩ | ⟨_,_,_,e,_⟩
     ·cases e
     ·exact i _ bEx e.symm b
     ·cases e
     ·cases e
   ·cases b
 · rename_i l g;rw [g]at d;obtain⟨L,hE,rfl⟩ :=uE d;split at b
   · rename_i C o;obtain⟨B,u,x,A⟩ :=xC (P:=P) r hE o;have v:VR E (.bool a.isNone) (.bool a.isNone) :=by simp only [VR]
     obtain⟨c,m,rfl,s,z,p,y⟩ :=aAv (cfr:=rf fn tmps todo ds kd (some L.blk)) f.kind fs b v;refine Goes.one (cs':=m) (wR y n u) s z (by rw [p];exact x) (by rw [p];exact A)
   ·cases b
theorem FR.run {fr:AFrame}{c:Frame}(f:FR E fr c)(hm:fr.mode= .run) :c=rf c.fn c.tmps c.todo c.defers c.kind c.roundOf:=by
 have:=f.mode;rw [hm]at this;simp only [MR]at this;cases c;simp only at this;subst this;rfl
theorem hX {fr:AFrame}{cs:List AFrame}{s':AS}{c:List AItem}{a:List Item}(r:Rel E h w.heap)(f:FR E fr (rf fn tmps todo ds kd ro))(hm:fr.mode= .run)(fs:FRs E cs ccs)(b:toC fr c cs h=some s')(d:IRs E c a)
  (h1:step P (lone (rf fn tmps todo ds kd ro) (ccs++base) w) = .next (lone (rf fn tmps a ds kd ro) (ccs++base) w)) :Goes P E h (rf fn tmps todo ds kd ro) ccs w base s':=by
 unfold toC at b;cases b;exact Goes.one h1 ⟨f.fn,f.tm,d,f.defers,f.mode,f.kind,f.round⟩ fs r (Ext.refl _ _ _)
theorem aSK (r:Rel E h w.heap){fr:AFrame}{cs:List AFrame}{call:bQ}{all:Array Oper}{i:Nat}{o:Oper}{rest:List Oper}{ak:List AItem}(hm:fr.mode= .run)(Z:fr.todo= .ops all i (o::rest) ::ak)
  (f:FR E fr (rf fn tmps todo ds kd ro)) (fs:FRs E cs ccs) {s':AS} (m:lT P call ⟨fr,cs,h⟩ =some s') :Goes P E h (rf fn tmps todo ds kd ro) ccs w base s':=by
 unfold lT at m;simp only [hm,Z]at m;have ft:=f.todo;rw [Z]at ft;obtain⟨it,k,e,i1,Y⟩ :=ft.cons_inv;simp only at e;subst e;obtain⟨rfl,I,W⟩ :=aFe i1;have V: (all[i]?).bind (·.dst) =o.dst:=by rw [I];rfl
 have a:∀ {b},bY fr.tm all.toList o=some b→Region.wanted o (yielded all tmps) =b:=fun h=>aAq f.tm h;have B:=TR.reads (E:=E) f.tm fn (.inRegion all (i::range' (i+1) rest.length) ::k) ds kd ro (· ∈o.op.operands)
 have put:∀ {X:Emb} {s:T AV} {v:AV} {C:Value},E.le X→iJ fr.tm fr.nt o.dst v=some s→VR X v C→TR X s fr.nt (match o.dst with|some d=>tmps.setIfInBounds d C|none=>tmps) :=fun hle hp hv=>by
  have:=aAL (f.tm.mono hle) hp hv;unfold aAK at this;exact this
 split at m
 ·cases m
 · rename_i K;split at m
   · rename_i s n;cases m;refine Goes.one (aAo I (a K)) ⟨f.fn,?_,IRs.cons W Y,f.defers,by simp only [hm];exact rfl,f.kind,f.round⟩ fs r (Ext.refl _ _ _);simp only [Frame.finish,V];exact put (Emb.le.refl E) n (sJ E)
   ·cases m
 · rename_i K;split at m
   · rename_i v h2 j;split at m
     · rename_i s n;cases m;have y:=aHG j;obtain⟨X,w',C,z,O,g3,H⟩ :=mT r B j;have ff:FR X {fr with tm:=s,todo:=.ops all (succ i) rest::ak,mode:=.run} ((rf fn tmps (.inRegion all (i::range' (i+1) rest.length) ::k) ds kd ro).finish C) :=by
        simp only [Frame.finish,V];exact⟨f.fn,put H.le n O,IRs.cons (W.mono H.le) (Y.mono H.le),f.defers.mono H.le,by simp only [hm];exact rfl,f.kind,f.round.mono H.le⟩
       rcases z with z| ⟨z,rfl⟩
       ·exact Goes.one (tY I (a K) (.inr y) z) ff (fs.mono H.le) g3 H
       ·exact Goes.one (aE4 I (a K) (.inr y) z) ff (fs.mono H.le) g3 H
     ·cases m
   · rename_i c j;unfold rP at m;split at m
     · rename_i g hg;cases m;have y:=aE9 j;obtain⟨nx,G,z,O,g3⟩ :=rS r hg (mT r B j);have U:FRs E (fr::cs) (rf fn tmps (.inRegion all (i::range' (i+1) rest.length) ::k) ds kd ro::ccs) :=FRs.cons f fs;rcases O with⟨f',args,rfl,rfl⟩ | ⟨l,f',t,aS,bd,rfl,rfl⟩
       ·exact Goes.one (aE5 I (a K) (.inr y) z) g3 U r (Ext.refl _ _ _)
       ·exact Goes.one (aE6 I (a K) (.inr y) z) g3 U r (Ext.refl _ _ _)
     ·cases m
   · rename_i d j;split at m
     · rename_i s L n;cases m;have u:=f.round;rw [L]at u;simp only [RR]at u;subst u;obtain⟨cd,z,O⟩ :=mT r B j;refine Goes.one (aLo I (a K) z) ?_ fs r (Ext.refl _ _ _);simp only [Frame.finish,V];exact⟨f.fn,put (Emb.le.refl E) n (sJ E),IRs.cons W Y,DRs.cons O f.defers,by simp only [hm];exact rfl,f.kind,by simp only [L];exact rfl⟩
     ·cases m
   · rename_i v j;cases m;obtain⟨C,z,O⟩ :=mT r B j;have y:∀c,o.op≠ .defer c:=by
      intro c hc;unfold kE at j;split at j
      ·rename_i r hr;cases j;obtain⟨d,e⟩ :=aAM c hc hr;cases e
      ·rw [aCI c hc]at j;cases j
     exact Goes.one (aLp I (a K) (.inr y) z) (xE f (ps:=[{v:=C,recovered:=false}]) ⟨C,[],rfl,O,rfl⟩) fs r (Ext.refl _ _ _)
   · rename_i j;split at m
     · rename_i c cs' L hkd;have u:=f.round;rw [L]at u;simp only [RR]at u;subst u;have fk:=f.kind;rw [hkd]at fk;simp only at fk;subst fk;obtain⟨R,p,rfl,M,f2⟩ :=fs.cons_inv;have z: (execOp (rf fn tmps (.inRegion all (i::range' (i+1) rest.length) ::k) ds .deferred none).eval o).run P w= .ok .recover w:=mT r B j;have J:=aHc (P:=P) (k:=k) (ds:=ds) (cs:=p++base) (fn:=fn) (rest:=range' (i+1) rest.length) (tmps:=tmps) I (a K) (c:=R) z;have A:=M.mode;split at m
       · rename_i v older q;split at m
         · rename_i s n;cases m;rw [q]at A;simp only [MR,CR]at A;obtain⟨ps,e1,C,Q,rfl,D,e3⟩ :=A;rw [e1]at J;simp only at J;refine Goes.one (cs':={R with mode:=.panicking ({v:=C,recovered:=true}::Q)}::p) J ?_ (FRs.cons ⟨M.fn,M.tm,M.todo,M.defers,⟨_,rfl,C,Q,rfl,D,e3⟩,M.kind,M.round⟩ f2) r (Ext.refl _ _ _);simp only [Frame.finish,V];exact⟨f.fn,put (Emb.le.refl E) n D,IRs.cons W Y,f.defers,by simp only [hm];exact rfl,f.kind,f.round⟩
         ·cases m
       · rename_i hno;split at m
         · rename_i s n;cases m;have S:step P (lone (rf fn tmps (.inRegion all (i::range' (i+1) rest.length) ::k) ds .deferred none) (R:: (p++base)) w) = .next (lone ((rf fn tmps (.inRegion all (i::range' (i+1) rest.length) ::k) ds .deferred none).finish .nilIface) (R:: (p++base)) w) :=by
            rw [J];split
            · rename_i v older q;exfalso;cases F:c.mode with
              |run=>rw [F]at A;simp only [MR]at A;rw [A]at q;cases q
              |ret=>rw [F]at A;simp only [MR]at A;rw [A]at q;cases q
              | pan N=>
               rw [F]at A;simp only [MR]at A;obtain⟨ps,e1,D⟩ :=A;rw [e1]at q;cases q;cases N with
               |nil=>simp only [CR]at D;cases D
               | cons x xs=>
                obtain⟨xv,xb⟩ :=x;simp only [CR]at D;obtain⟨C,Q,D,_,_⟩ :=D;cases D;exact hno _ _ F
            ·rfl
           refine Goes.one (cs':=R::p) S ?_ (FRs.cons M f2) r (Ext.refl _ _ _);simp only [Frame.finish,V];exact⟨f.fn,put (Emb.le.refl E) n (by simp only [VR]),IRs.cons W Y,f.defers,by simp only [hm];exact rfl,f.kind,f.round⟩
         ·cases m
     ·cases m
   ·cases m
end
section
variable {fn :FuncId} {tmps:Array Value} {ds:List Deferred} {kd:CallKind} {ro:Option Nat} {ccs base:List Frame} {todo:List Item}
theorem aVi (r:Rel E h w.heap){fr:AFrame}{cs:List AFrame}{call:bQ}{g:Operand}{ps:Array Nat}{assign body:Code}{ak:List AItem}(hm:fr.mode= .run)(htd:fr.todo= .code (.rangeFunc g ps assign body) ::ak)
  (f:FR E fr (rf fn tmps todo ds kd ro)) (fs:FRs E cs ccs) {s':AS} (h0:lT P call ⟨fr,cs,h⟩ =some s') :Goes P E h (rf fn tmps todo ds kd ro) ccs w base s':=by
 unfold lT at h0;simp only [hm,htd]at h0;have ft:=f.todo;rw [htd]at ft;obtain⟨it,k,e,i1,i2⟩ :=ft.cons_inv;simp only at e;subst e;simp only [IR]at i1;subst i1;have hfn:fn=fr.fn:=f.fn;split at h0
 ·cases h0
 · rename_i fv hfv;have fr0:=f.round
   have res:∀ {E':Emb} {h2:Hp} {w2:World} {L:Loc} {la:Nat} {mark:List Deferred} {todo':List AItem} {defers':List ADef} {c:AIn},Ext E h w E' h2 w2→Rel E' h2 w2.heap→E' la=some L →
     (Instr.enterLoop fn tmps ps assign body ro).run P w= .ok (L.blk,mark) w2→vZ P fv [.yield la] =some (.call c) →DRs E' defers' (mark++ds) →IRs E' todo' (.inRangeFunc L.blk::k) →
     rP P {fr with todo:=todo',defers:=defers'} cs h2 c=some s'→Goes P E h (rf fn tmps (.code (.rangeFunc g ps assign body) ::k) ds kd ro) ccs w base s':=by
    intro E' h2 w2 L la mark todo' defers' c x r2 hL he hc hds htd' h0;unfold rP at h0;split at h0
    · rename_i G hG;cases h0;have hρ:=TR.reads (E:=E') (f.tm.mono x.le) fn (.inRangeFunc L.blk::k) (mark++ds) kd ro (fun _=>True);obtain⟨d,k1,k2⟩ :=aBm (P:=P) (cargs:=[.func (.yield L.blk) #[] #[]]) r2 hc (hρ g trivial _ hfv) (VRs.cons (by simp only [VR];exact⟨L,hL,rfl⟩) (VRs.nil E'));obtain⟨nx,CG,g1,g2,g3⟩ :=rS r2 hG k2;have hres: (resolve (rf fn tmps (.inRangeFunc L.blk::k) (mark++ds) kd ro).eval {callee:=.value g,args:= #[.const (.func (.yield L.blk) #[] #[])],argTypes:= #[]} 0).run P w2= .ok d w2:=by
       simp only [resolve];rw [show(#[Operand.const (.func (.yield L.blk) #[] #[])] :Array Operand).map (rf fn tmps (.inRangeFunc L.blk::k) (mark++ds) kd ro).eval= ⟨[.func (.yield L.blk) #[] #[]]⟩from by simp [Frame.eval]];exact k1
      exact Goes.one (cs':=rf fn tmps (.inRangeFunc L.blk::k) (mark++ds) kd ro::ccs) (aIW he hres g1 g2) g3
       (FRs.cons ⟨f.fn,f.tm.mono x.le,htd',hds,by simp only [hm];exact rfl,f.kind,f.round.mono x.le⟩ (fs.mono x.le)) r2 x
    ·cases h0
   have hps:ps= ⟨ps.toList⟩ :=rfl;split at h0
   · rename_i hro;rw [hro]at fr0;simp only [RR]at fr0;subst fr0;obtain⟨L,Ld,w2,E',e1,e2,e3,r2,x⟩ :=aFc (P:=P) r f.tm ps.toList assign body (fn:=fn);split at h0
     · rename_i c hc;refine res (E':=E') (w2:=w2) (L:=L) (la:=h.nb+1) (mark:=[{target:=.collected Ld.blk,args:= #[]}]) (todo':=.inRF (h.nb+1) ::ak) (defers':=.col h.nb::fr.defers) (h2:= (h.new (.defd false)).new (.loop .ready none fr.fn fr.tm fr.nt ps.toList assign body h.nb)) (c:=c) ?_ ?_ e3 e1 hc ?_ ?_ ?_
       ·rw [←hfn];exact x
       ·rw [←hfn];exact r2
       ·exact DRs.cons ⟨Ld,e2,rfl⟩ (f.defers.mono x.le)
       ·exact IRs.cons ⟨L,e3,rfl⟩ (i2.mono x.le)
       ·simp only [hm];exact h0
     ·cases h0
   · rename_i o hro;rw [hro]at fr0;obtain⟨Lo,hEo,rfl⟩ :=uE fr0;split at h0
     · rename_i st pe fn' tm' nt' ps' as' bd' df hl;obtain⟨L,w2,E',e1,e3,r2,x⟩ :=aFd (P:=P) r hEo hl f.tm ps.toList assign body (fn:=fn);split at h0
       · rename_i c hc;refine res (E':=E') (w2:=w2) (L:=L) (la:=h.nb) (mark:=[]) (todo':=.inRF h.nb::ak) (defers':=fr.defers) (h2:=h.new (.loop .ready none fr.fn fr.tm fr.nt ps.toList assign body df)) (c:=c) ?_ ?_ e3 e1 hc ?_ ?_ ?_
         ·rw [←hfn];exact x
         ·rw [←hfn];exact r2
         ·exact f.defers.mono x.le
         ·exact IRs.cons ⟨L,e3,rfl⟩ (i2.mono x.le)
         ·simpa [hm,hro]using h0
       ·cases h0
     ·cases h0
theorem xF {call:bQ}(hc:eJ P call){s s':AS}(h0:lT P call s=some s'){fr:Frame}(f:FR E s.fr fr)(fs:FRs E s.cs ccs)(r:Rel E s.h w.heap)(base:List Frame) :Goes P E s.h fr ccs w base s':=by
 obtain⟨afr,cs,h⟩ :=s;simp only at f fs r ⊢;cases hm:afr.mode with
 | run =>
  have e:=f.run hm;generalize fr.fn=fn at e;generalize fr.tmps=tmps at e;generalize fr.todo=todo at e;generalize fr.defers=ds at e;generalize fr.kind=kd at e;generalize fr.roundOf=ro at e;subst e;have ft:=f.todo;simp only at ft;cases htd:afr.todo with
  | nil=>
   rw [htd]at ft;have e:=ft.nil_inv;subst e;unfold lT at h0;simp only [hm,htd]at h0;exact pA r f fs h0 (.inl ⟨rfl,rfl⟩)
  | cons it ak=>
   rw [htd]at ft;obtain⟨ci,ck,e,i1,i2⟩ :=ft.cons_inv;subst e;have h00:=h0;unfold lT at h0;simp only [hm,htd]at h0;cases it with
   | code c=>
    simp only [IR]at i1;subst i1;cases c with
    |ret=>exact pA r f fs h0 (.inr (.inl ⟨ck,rfl,rfl⟩))
    |skip=>exact hX r f hm fs h0 i2 aZy
    |label l=>exact hX r f hm fs h0 i2 (aU9 l)
    |seq a b=>exact hX r f hm fs h0 (IRs.cons rfl (IRs.cons rfl i2)) (bEv a b)
    | cond c x y=>
     simp only at h0;have hρ:=TR.reads (E:=E) f.tm fn (.code (.cond c x y) ::ck) ds kd ro (fun _=>True);split at h0
     · rename_i hcv;have:=hρ c trivial _ hcv;simp only [VR]at this;exact hX r f hm fs h0 (IRs.cons rfl i2) (aRe c x y true this)
     · rename_i hcv;have:=hρ c trivial _ hcv;simp only [VR]at this;exact hX r f hm fs h0 (IRs.cons rfl i2) (aRe c x y false this)
     ·cases h0
    |block id c=>exact hX r f hm fs h0 (IRs.cons rfl (IRs.cons rfl i2)) (aVa id c)
    |loop c=>exact hX r f hm fs h0 (IRs.cons rfl (IRs.cons rfl i2)) (aZz c)
    |scope c=>exact hX r f hm fs h0 (IRs.cons rfl (IRs.cons rfl i2)) (aVb c)
    | exit id=>
     simp only at h0;split at h0
     · rename_i k' hk';obtain⟨ck',g1,g2⟩ :=uC id hk' i2;exact hX r f hm fs h0 g2 (aZB id g1)
     · rename_i hk';exact pA r f fs h0 (.inr (.inr (.inl ⟨id,ck,rfl,rfl,rA id hk' i2⟩)))
    | goto l=>
     simp only at h0;split at h0
     · rename_i k' hk';obtain⟨ck',g1,g2⟩ :=uD l hk' i2;exact hX r f hm fs h0 g2 (aZC l g1)
     · rename_i hk';exact pA r f fs h0 (.inr (.inr (.inr ⟨l,ck,rfl,rfl,rB l hk' i2⟩)))
    | region id ops draw=>
     cases draw with
     | false=>
      refine hX r f hm fs h0 (IRs.cons ⟨?_,rfl⟩ i2) (aSG id);rw [List.range_eq_range'];simp
     | true=>
      simp only at h0;split at h0
      · rename_i tm' h' hr;cases h0;obtain⟨E',w',tmps',s1,t1,r1,x1⟩ :=aI2 hc hr r f.tm id fn ds kd ro ck (ccs++base);exact⟨E',_,ccs,w',s1,⟨f.fn,t1,i2.mono x1.le,f.defers.mono x1.le,by simp only [hm];exact rfl,f.kind,f.round.mono x1.le⟩,fs.mono x1.le,r1,x1⟩
      ·cases h0
    |rangeFunc g ps assign body=>exact aVi r hm htd f fs h00
    |refuse _=>cases h0
   |inBlock id=>simp only [IR]at i1;subst i1;exact hX r f hm fs h0 i2 (aOe id)
   |inLoop c=>simp only [IR]at i1;subst i1;exact hX r f hm fs h0 (IRs.cons rfl (IRs.cons rfl i2)) (aSF c)
   |inScope c=>simp only [IR]at i1;subst i1;exact hX r f hm fs h0 i2 (aOf c)
   | ops all i rest=>
    cases rest with
    | nil=>
     simp only [IR]at i1;obtain⟨rfl,_⟩ :=i1;exact hX r f hm fs h0 i2 (by simpa using aAp)
    |cons o rest=>exact aSK r hm htd f fs h00
   |inRF l=>cases h0
   |junk=>cases h0
   | endRF l=>
    simp only [IR]at i1;obtain⟨L,hE,rfl⟩ :=i1;simp only at h0;split at h0
    ·cases h0
    · rename_i st pe fn' tm' nt' ps' as' bd' df hno hl;cases h0;obtain⟨w',g1,g2,g3⟩ :=aHf (P:=P) r hE (fun e=>hno e) hl;refine Goes.one (cs':=ccs) (aVc g1) ⟨f.fn,f.tm,?_,f.defers,by simp only [hm];exact rfl,f.kind,f.round⟩ fs g2 g3;cases pe with
      |none=>simpa using i2
      |some c=>simpa using IRs.cons (E:=E) (a:=.code c) (i:=.code c) rfl i2
    ·cases h0
   | beginRound=>
    simp only [IR]at i1;subst i1;simp only at h0;split at h0
    ·cases h0
    · rename_i l hro;have fr0:=f.round;rw [hro]at fr0;obtain⟨L,hE,rfl⟩ :=uE fr0;split at h0
      · rename_i pe fn' tm' nt' ps' as' bd' df hl;cases h0;obtain⟨w',g1,g2,g3⟩ :=aCK (P:=P) r hE hl;exact Goes.one (cs':=ccs) (aHe g1) ⟨f.fn,f.tm,i2,f.defers,by simp only [hm];exact rfl,f.kind,by simp only [hro];exact⟨L,hE,rfl⟩⟩ fs g2 g3
      ·cases h0
 | ret =>
  have fm:=f.mode;rw [hm]at fm;simp only [MR]at fm;have hnr:fr.mode≠ .run:=by rw [fm];intro e;cases e
  have fd:=f.defers;unfold lT at h0;simp only [hm]at h0;split at h0
  · rename_i b dl hdl;rw [hdl]at fd;obtain⟨d,ds',e,d1,d2⟩ :=fd.cons_inv;obtain⟨L,hE,rfl⟩ :=d1;split at h0
    · rename_i hb;cases h0;obtain⟨w',g1,g2,g3⟩ :=qA (P:=P) r hE hb;exact Goes.one (cs':=ccs) (aBt hnr e g1) ⟨f.fn,f.tm,f.todo,d2,by simp only [hm];exact fm,f.kind,f.round⟩ fs g2 g3
    ·cases h0
  · rename_i g args dl hdl;rw [hdl]at fd;obtain⟨d,ds',e,d1,d2⟩ :=fd.cons_inv;obtain⟨cap,a,rfl,ha⟩ :=d1;cases hcl:eY P g with
    |false=>rw [hcl]at h0;cases h0
    | true=>
     rw [hcl]at h0;simp only [cond]at h0;split at h0
     · rename_i G hG;cases h0;have:=gW hG ha;refine Goes.one (cs':={fr with defers:=ds'}::ccs) (aDr hnr e hcl) ?_ (FRs.cons ⟨f.fn,f.tm,f.todo,d2,by simp only [hm];exact fm,f.kind,f.round⟩ fs) r (Ext.refl _ _ _);rw [show(⟨a⟩ :Array Value) ++ ⟨cap⟩ = ⟨a++cap⟩by apply Array.ext';simp];exact this
     ·cases h0
  · rename_i hdl;rw [hdl]at fd;have e:=fd.nil_inv;split at h0
    ·cases h0
    · rename_i fdd hfd;split at h0
      · rename_i vs hvs;obtain⟨cv,g1,g2⟩ :=qZ r f.tm hvs;obtain⟨c,cs1,rfl,k1,k2,k3,k4⟩ :=aAv f.kind fs h0 g2;refine Goes.one (cs':=cs1) (aLq fm e (by rw [f.fn];exact hfd) g1 k4) k1 k2 (by rw [k3];exact r) (by rw [k3];exact Ext.refl _ _ _)
      ·cases h0
 | pan chain=>
  have fm:=f.mode;rw [hm]at fm;simp only [MR]at fm;obtain⟨ps,fm,hcr⟩ :=fm;have hnr:fr.mode≠ .run:=by rw [fm];intro e;cases e
  have fd:=f.defers;unfold lT at h0;simp only [hm]at h0;split at h0
  · rename_i b dl hdl;rw [hdl]at fd;obtain⟨d,ds',e,d1,d2⟩ :=fd.cons_inv;obtain⟨L,hE,rfl⟩ :=d1;split at h0
    · rename_i hb;cases h0;obtain⟨w',g1,g2,g3⟩ :=qA (P:=P) r hE hb;exact Goes.one (cs':=ccs) (aBt hnr e g1) ⟨f.fn,f.tm,f.todo,d2,by simp only [hm];exact⟨ps,fm,hcr⟩,f.kind,f.round⟩ fs g2 g3
    ·cases h0
  · rename_i g args dl hdl;rw [hdl]at fd;obtain⟨d,ds',e,d1,d2⟩ :=fd.cons_inv;obtain⟨cap,a,rfl,ha⟩ :=d1;cases hcl:eY P g with
    |false=>rw [hcl]at h0;cases h0
    | true=>
     rw [hcl]at h0;simp only [cond]at h0;split at h0
     · rename_i G hG;cases h0;have:=gW hG ha;refine Goes.one (cs':={fr with defers:=ds'}::ccs) (aDr hnr e hcl) ?_ (FRs.cons ⟨f.fn,f.tm,f.todo,d2,by simp only [hm];exact⟨ps,fm,hcr⟩,f.kind,f.round⟩ fs) r (Ext.refl _ _ _);rw [show(⟨a⟩ :Array Value) ++ ⟨cap⟩ = ⟨a++cap⟩by apply Array.ext';simp];exact this
     ·cases h0
  · rename_i hdl;rw [hdl]at fd;have e:=fd.nil_inv;split at h0
    · rename_i fdd c cs' hfd;cases h0;obtain⟨cc,ccs',rfl,f1,f2⟩ :=fs.cons_inv;exact Goes.one (cs':=ccs') (wS fm e (by rw [f.fn];exact hfd)) (xE f1 hcr) f2 r (Ext.refl _ _ _)
    ·cases h0
end
def GrownO (W W':World) :Prop:=W.keptBut W' (fun _=>False) ∧ (∀a:Addr,a.block<W.heap.size→W'.frozen? a=W.frozen? a) ∧W.heap.size≤W'.heap.size
theorem aDv {s:AS}{v:AV}{h':Hp}(a:wC P s=some (v,h')){fr:Frame}(f:FR E s.fr fr)(r:Rel E s.h w.heap)(z:Frame)(base:List Frame) :
  s.cs= [] ∧∃n w',step P (lone fr (z::base) w) = .next (lone (z.finish n) base w') ∧VR E v n∧Rel E h' w'.heap∧Ext E s.h w E h' w':=by
 obtain⟨p,R,h⟩ :=s;unfold wC at a;simp only at a f r ⊢;split at a
 · rename_i hk;refine⟨rfl,?_⟩;have x:=f.kind;rw [hk]at x;have H:=f.mode;have J:=f.defers;have u:=f.round;have j:=f.todo
   have i:∀ {l:Nat} {c:Option Code} {o:Hp} {b:Bool},p.mode= .run→p.roundOf=some l→lE h l c=some o→b=c.isNone →
     ((fr.todo= [] ∧c=none) ∨ (∃k,fr.todo= .code .ret::k∧c=some .ret) ∨ (∃id k,fr.todo= .code (.exit id) ::k∧c=some (.exit id) ∧exitTo id k=none) ∨ (∃t k,fr.todo= .code (.goto t) ::k∧c=some (.goto t) ∧gotoIn t k=none)) →
     some (AV.bool b,o) =some (v,h') →∃n w',step P (lone fr (z::base) w) = .next (lone (z.finish n) base w') ∧VR E v n∧Rel E h' w'.heap∧Ext E h w E h' w':=by
    intro l c o b hm hl he hb K a;cases a;rw [hl]at u;obtain⟨L,hE,O⟩ :=uE u;have e:=f.run hm;rw [O,x]at e;obtain⟨N,A,B,Q⟩ :=xC (P:=P) r hE he;rw [e];refine⟨.bool c.isNone,N,?_,by rw [hb];simp only [VR],B,Q⟩;exact wR (.inl rfl) K A
   split at a
   · rename_i hm d;split at a
     · rename_i M F G;rw [hm]at H;simp only [MR]at H;rw [F]at J;split at a
       · rename_i S C;cases a;obtain⟨n,A,B⟩ :=qZ r f.tm C;refine⟨n,w,?_,B,r,Ext.refl _ _ _⟩;rw [aLq H J.nil_inv (by rw [f.fn];exact G) A (.inl x)];simp only [handed,x]
       ·cases a
     ·cases a
   · rename_i l hm d g;rw [g]at j;split at a
     · rename_i o he;exact i hm d he rfl (.inl ⟨j.nil_inv,rfl⟩) a
     ·cases a
   · rename_i l k hm d g;rw [g]at j;obtain⟨I,q,e,m,y⟩ :=j.cons_inv;simp only [IR]at m;subst m;split at a
     · rename_i o he;exact i hm d he rfl (.inr (.inl ⟨q,e,rfl⟩)) a
     ·cases a
   · rename_i l id k hm d g;rw [g]at j;obtain⟨I,q,e,m,y⟩ :=j.cons_inv;simp only [IR]at m;subst m;split at a
     ·cases a
     · rename_i D;split at a
       · rename_i o he;exact i hm d he rfl (.inr (.inr (.inl ⟨id,q,e,rfl,rA id D y⟩))) a
       ·cases a
   · rename_i l t k hm d g;rw [g]at j;obtain⟨I,q,e,m,y⟩ :=j.cons_inv;simp only [IR]at m;subst m;split at a
     ·cases a
     · rename_i D;split at a
       · rename_i o he;exact i hm d he rfl (.inr (.inr (.inr ⟨t,q,e,rfl,rB t D y⟩))) a
       ·cases a
   ·cases a
 ·cases a
theorem aFf {call:bQ}(hc:eJ P call) :∀ {n:Nat} {s:AS} {v:AV} {h:Hp},aIF P call n s=some (v,h) →∀ (E:Emb) (w:World) (fr:Frame) (c:List Frame),FR E s.fr fr→FRs E s.cs c→Rel E s.h w.heap→∀g a,
  ∃e d i,Steps P (lone fr (c++g::a) w) (lone (g.finish e) a d) ∧VR i v e∧Rel i h d.heap∧Ext E s.h w i h d
 |0,s,v,h,b=>by simp [aIF]at b
 | n + 1,s,v,h,b=>by
  intro E w fr c f fs r g a;simp only [aIF]at b;split at b
  · rename_i x A;cases b;obtain⟨F,e,d,t,l,p,j⟩ :=aDv A f r g a;rw [F]at fs;rw [fs.nil_inv];exact⟨e,d,E,.one t,l,p,j⟩
  · split at b
    · rename_i H o;obtain⟨G,q,k,C,D,u,m,y,B⟩ :=xF hc o f fs r (g::a);obtain⟨e,d,i,z,l,p,j⟩ :=aFf hc b G C q k u m y g a;exact⟨e,d,i,D.trans z,l,p,B.trans j⟩
    ·cases b
theorem uF (n:Nat) :∀d,eJ P (wE P n d)
 |0=>fun _ c h v k a=>by simp [wE]at a
 | d +1=>fun _ c h v k a=>by
  simp only [wE]at a;split at a
  · rename_i g o;refine⟨g,o,fun E w G r f hk j b=>?_⟩;obtain⟨p,i,s,m,l,q,e⟩ :=aFf (uF n d) a E w G [] f rfl r j b;exact⟨p,i,s,m,l,q,e⟩
  ·cases a
noncomputable def aCL (P:Program)(call:bQ) :Nat→AS→Option AS
 |0,s=>some s
 | n+1,s=>match lT P call s with
  |some s'=>aCL P call n s'
  |none=>none
def Leads (P:Program)(s s':AS) :Prop:=∀ (E:Emb) (fr:Frame) (ccs:List Frame) (w:World) (base:List Frame),FR E s.fr fr→FRs E s.cs ccs→Rel E s.h w.heap→Goes P E s.h fr ccs w base s'
theorem Leads.trans {a b c:AS}(h1:Leads P a b)(h2:Leads P b c) :Leads P a c:=fun E fr i w d f fs r=>by
 obtain⟨y,l,g,p,u,q,h,s,n⟩ :=h1 E fr i w d f fs r;obtain⟨x,e,j,m,v,o,k,z,t⟩ :=h2 y l g p d q h s;exact⟨x,e,j,m,u.trans v,o,k,z,n.trans t⟩
theorem Leads.refl (a:AS) :Leads P a a:=fun E fr b w c f fs r=> ⟨E,fr,b,w,Steps.refl _ _,f,fs,r,Ext.refl _ _ _⟩
theorem rC {call:bQ}(hc:eJ P call) :∀ {n:Nat} {s c:AS},aCL P call n s=some c→Leads P s c
 |0,s,c,a=>by simp [aCL]at a;subst a;exact Leads.refl s
 | n +1,s,c,a=>by
  simp only [aCL]at a;split at a
  · rename_i g d;exact Leads.trans (fun E fr e w b f fs r=>xF hc d f fs r b) (rC hc a)
  ·cases a
theorem uG (call:bQ) :∀ (n:Nat) (s:AS),nL P call n s=aCL P call n s
 |0,_=>rfl
 | n+1,s=>by
  show(match aU3 P call s with|some a=>nL P call n a|none=>none) = (match lT P call s with|some a=>aCL P call n a|none=>none);rw [aU4 P call s];cases lT P call s with
  |none=>rfl
  |some a=>exact uG call n a
end
section
variable {P :Program}
structure ExtM (m:Nat) (E:Emb) (h:Hp) (w:World) (E':Emb) (h':Hp) (w':World) :Prop where
 low:∀b,b<m→E' b=E b
 imm:∀k C,E.imm k=some C→E'.imm k=some C
 size:w.heap.size≤w'.heap.size
 keep:∀i,i<w.heap.size→ (∀b o L,h.look b=some o→E b=some L→¬Own o L i) →w'.heap[i]?=w.heap[i]?
 own:∀b' o' L',h'.look b'=some o'→E' b'=some L'→∀i,Own o' L' i→i<w.heap.size→∃b o L,h.look b=some o∧E b=some L∧Own o L i
 nb:m≤h'.nb
 os:w'.os=w.os
 tape:w'.tape=w.tape
 output:w'.output=w.output
 froz:∀a,a.block<w.heap.size→w'.frozen? a=w.frozen? a
 immo:∀k C,E'.imm k=some C→k<w.heap.size→E.imm k=some C∨∃b o L,h.look b=some o∧E b=some L∧Own o L k
 keys:∀b o,h'.look b=some o→b<m→∃o0,h.look b=some o0
theorem Ext.toM {E E':Emb}{h h':Hp}{w w':World}(x:Ext E h w E' h' w'){m:Nat}(hm:m≤h.nb) :ExtM m E h w E' h' w':=
 ⟨fun b hb=>x.low b (lt_of_lt_of_le hb hm),x.le.2,x.size,x.keep,x.own,le_trans hm x.nb,x.os,x.tape,x.output,x.froz,x.immo,fun b o e hb=>x.keys b o e (lt_of_lt_of_le hb hm)⟩
theorem ExtM.le {E E':Emb}{h h':Hp}{w w':World}(x:ExtM h.nb E h w E' h' w')(r:Rel E h w.heap) :E.le E':=
 ⟨fun b L e=>by rw [x.low b (r.nb_gt e)];exact e,x.imm⟩
theorem ExtM.toExt {E E':Emb}{h h':Hp}{w w':World}(x:ExtM h.nb E h w E' h' w')(r:Rel E h w.heap) :Ext E h w E' h' w':=
 ⟨x.le r,x.size,x.keep,x.own,x.nb,x.os,x.tape,x.output,x.low,x.froz,x.immo,x.keys⟩
theorem ExtM.trans {m:Nat}{u s t:Emb}{h1 h2 p:Hp}{r w2 q:World}(a:ExtM m u h1 r s h2 w2)(b:ExtM m s h2 w2 t p q) :ExtM m u h1 r t p q where
 low:=fun x c=> (b.low x c).trans (a.low x c)
 imm:=fun k C e=>b.imm k C (a.imm k C e)
 size:=le_trans a.size b.size
 keep:=fun i j n=>by
  rw [b.keep i (lt_of_lt_of_le j a.size) fun x o L c hE hb=>by
   obtain⟨A,F,z,d,f,l⟩ :=a.own x o L c hE i hb j;exact n A F z d f l]
  exact a.keep i j n
 own:=fun x o L c hE i j h=>by
  obtain⟨w,v,B,d,f,l⟩ :=b.own x o L c hE i j (lt_of_lt_of_le h a.size);exact a.own w v B d f i l h
 nb:=b.nb
 os:=b.os.trans a.os
 tape:=b.tape.trans a.tape
 output:=b.output.trans a.output
 froz:=fun x c=> (b.froz x (lt_of_lt_of_le c a.size)).trans (a.froz x c)
 immo:=fun k C e hk=>by
  rcases b.immo k C e (lt_of_lt_of_le hk a.size)with g| ⟨x,o,L,d,f,l⟩
  ·exact a.immo k C g hk
  ·exact .inr (a.own x o L d f k l hk)
 keys:=fun x o e c=>by
  obtain⟨y,D⟩ :=b.keys x o e c;exact a.keys x y D c
theorem ExtM.refl {m:Nat}{E:Emb}{h:Hp}{w:World}(hm:m≤h.nb) :ExtM m E h w E h w:= (Ext.refl E h w).toM hm
def LeadsM (P:Program)(m:Nat)(s s':AS) :Prop:=m≤s.h.nb→∀ (E:Emb) (fr:Frame) (ccs:List Frame) (w:World) (base:List Frame),FR E s.fr fr→FRs E s.cs ccs→Rel E s.h w.heap →
 ∃E' fr' cs' w',Steps P (lone fr (ccs++base) w) (lone fr' (cs'++base) w') ∧FR E' s'.fr fr'∧FRs E' s'.cs cs'∧Rel E' s'.h w'.heap∧ExtM m E s.h w E' s'.h w'
theorem LeadsM.trans {m:Nat}{a b c:AS}(h1:LeadsM P m a b)(h2:LeadsM P m b c) :LeadsM P m a c:=fun hm E fr i w d f fs r=>by
 obtain⟨z,l,g,q,v,s,h,t,n⟩ :=h1 hm E fr i w d f fs r;obtain⟨y,e,j,o,x,p,k,A,u⟩ :=h2 n.nb z l g q d s h t;exact⟨y,e,j,o,v.trans x,p,k,A,n.trans u⟩
theorem LeadsM.refl {m:Nat}(a:AS) :LeadsM P m a a:=fun hm E fr b w _ f fs r=> ⟨E,fr,b,w,Steps.refl _ _,f,fs,r,ExtM.refl hm⟩
theorem Leads.toM {m:Nat}{a b:AS}(h:Leads P a b) :LeadsM P m a b:=fun hm E fr g w c f fs r=>by
 obtain⟨p,i,d,k,o,l,e,n,j⟩ :=h E fr g w c f fs r;exact⟨p,i,d,k,o,l,e,n,j.toM hm⟩
def qB :bQ:=fun _ _ _=>none
theorem bZ :eJ P qB:=fun _ _ _ _ _ e=>by cases e
theorem dL {call:bQ}(hc:eJ P call){m:Nat}{s s':AS}(b:lT P call s=some s') :LeadsM P m s s':=
 Leads.toM fun _ _ _ _ a f fs r=>xF hc b f fs r a
inductive Res where
 |ret (v:AV)
 |pan (chain:List (AV×Bool))
def Got (E:Emb)(cl:Frame) :Res→Frame→Prop
 | .ret v,cl'=>∃cv,cl'=cl.finish cv∧VR E v cv
 | .pan ch,cl'=>∃ps,cl'=cl.raise ps∧CR E ch ps
def Ends (P:Program)(m:Nat)(s:AS)(res:Res)(h':Hp) :Prop:=m≤s.h.nb→∀ (E:Emb) (fr:Frame) (ccs:List Frame) (w:World),FR E s.fr fr→FRs E s.cs ccs→Rel E s.h w.heap→∀ (cl:Frame) (base:List Frame),
 ∃cl' w' E',Steps P (lone fr (ccs++cl::base) w) (lone cl' base w') ∧Got E' cl res cl'∧Rel E' h' w'.heap∧ExtM m E s.h w E' h' w'
theorem LeadsM.ends {m:Nat}{a b:AS}{d:Res}{h':Hp}(h1:LeadsM P m a b)(h2:Ends P m b d h') :Ends P m a d h':=fun hm E fr g w f fs r l c=>by
 obtain⟨y,j,e,o,t,p,h,q,k⟩ :=h1 hm E fr g w (l::c) f fs r;obtain⟨i,n,x,v,s,z,u⟩ :=h2 k.nb y j e o p h q l c;exact⟨i,n,x,t.trans v,s,z,k.trans u⟩
theorem mU {m:Nat}{s:AS}{v:AV}{h':Hp}(d:wC P s=some (v,h')) :Ends P m s (.ret v) h':=fun hm E fr h w f fs r g a=>by
 obtain⟨j,k,e,c,i,l,b⟩ :=aDv d f r g a;rw [j]at fs;rw [fs.nil_inv];exact⟨_,e,E,.one c,⟨k,rfl,i⟩,l,b.toM hm⟩
def Spec (P:Program)(c:AIn)(h:Hp)(res:Res)(h':Hp) :Prop:=∃g,dT P h c=some g∧Ends P h.nb ⟨g,[],h⟩ res h'
def aM (P:Program)(f:Nat)(args:List AV)(v:AV) :Prop:=∀h,Spec P (.enter f args) h (.ret v) h
def bEz (P:Program)(f:Nat)(args:List AV)(ch:List (AV×Bool)) :Prop:=∀h,Spec P (.enter f args) h (.pan ch) h
theorem Spec.sound {c:AIn}{h h':Hp}{v:AV}(s:Spec P c h (.ret v) h') :∃g,dT P h c=some g ∧
  ∀ (E:Emb) (w:World) (G:Frame),Rel E h w.heap→FR E g G→G.kind= .normal→∀d a,∃e w' b,Steps P (lone G (d::a) w) (lone (d.finish e) a w') ∧VR b v e∧Rel b h' w'.heap∧Ext E h w b h' w':=by
 obtain⟨g,m,he⟩ :=s;refine⟨g,m,fun E w G r f _ d a=>?_⟩;obtain⟨i,w',b,l,⟨e,rfl,j⟩,n,k⟩ :=he (le_refl _) E G [] w f rfl r d a;exact⟨e,w',b,l,j,n,k.toExt r⟩
theorem aAw {m:Nat}{s:AS}{g c d:AFrame}{cs:List AFrame}{h2 o:Hp}{v:AV}(t:LeadsM P m s ⟨g,c::cs,h2⟩)(h1:Ends P h2.nb ⟨g,[],h2⟩ (.ret v) o)(x:c.finish v=some d) :LeadsM P m s ⟨d,cs,o⟩ :=fun hm E fr i w b f fs r=>by
 obtain⟨I,k,u,C,F,y,j,h,n⟩ :=t hm E fr i w b f fs r;obtain⟨B,a,rfl,p,H⟩ :=j.cons_inv;obtain⟨D,q,G,A,⟨K,rfl,z⟩,J,l⟩ :=h1 (le_refl _) I k [] C y rfl h B (a++b);have e:=l.le h;exact⟨G,_,a,q,F.trans A,aBz x (p.mono e) z,H.mono e,J,n.trans ((l.toExt h).toM n.nb)⟩
theorem xG {m:Nat}{s:AS}{g c:AFrame}{cs:List AFrame}{h2 n:Hp}{o:List (AV×Bool)}(t:LeadsM P m s ⟨g,c::cs,h2⟩)(h1:Ends P h2.nb ⟨g,[],h2⟩ (.pan o) n) :LeadsM P m s ⟨c.raise o,cs,n⟩ :=fun hm E fr h w b f fs r=>by
 obtain⟨G,j,u,A,C,v,i,e,l⟩ :=t hm E fr h w b f fs r;obtain⟨z,a,rfl,p,F⟩ :=i.cons_inv;obtain⟨B,q,D,y,⟨I,rfl,x⟩,H,k⟩ :=h1 (le_refl _) G j [] A v rfl e z (a++b);have d:=k.le e;exact⟨D,_,a,q,C.trans y,xE (p.mono d) x,F.mono d,H,l.trans ((k.toExt e).toM l.nb)⟩
def oU (m:Nat)(h h':Hp)(v v':AV) :Prop:=∀ (E:Emb) (w:World),Rel E h w.heap→∃E',E.le E'∧Rel E' h' w.heap∧ExtM m E h w E' h' w∧∀cv,VR E v cv→VR E' v' cv
theorem jG {m:Nat}{fr:AFrame}{cs:List AFrame}{h h':Hp}{j:Nat}{v v':AV}(p:fr.tm.at j=some v)(k:m≤h.nb→oU m h h' v v') :LeadsM P m ⟨fr,cs,h⟩ ⟨{fr with tm:=fr.tm.put j v'},cs,h'⟩ :=fun hm E u g w l f fs r=>by
 obtain⟨q,b,o,s,n⟩ :=k hm E w r;refine⟨q,u,g,w,Steps.refl _ _,⟨f.fn,⟨f.tm.1,fun t a e=>?_⟩,f.todo.mono b,f.defers.mono b,f.mode.mono b,f.kind,f.round.mono b⟩,fs.mono b,o,s⟩;rw [T.at_put]at e;split at e
 · rename_i k;cases e;subst k;obtain⟨c,d,i⟩ :=f.tm.2 _ _ p;exact⟨c,d,n c i⟩
 · obtain⟨c,d,i⟩ :=f.tm.2 t a e;exact⟨c,d,i.mono b⟩
theorem aHI {m:Nat}{h:Hp}{v v':AV}(b:∀E a,VR E v a→VR E v' a) :m≤h.nb→oU m h h v v':=fun hm E w r=> ⟨E,Emb.le.refl E,r,ExtM.refl hm,b E⟩
theorem aCM {m:Nat}{h:Hp}(e:Nat) :m≤h.nb→oU m h (h.new (.lst e [])) .nils (.gl h.nb e 0 0 false) :=fun hm E w r=>by
 obtain⟨c,b⟩ :=aHE r e;refine⟨E,Emb.le.refl E,c,b.toM hm,fun d a=>?_⟩;simp only [VR]at a ⊢;exact .inl ⟨trivial,none,a⟩
theorem aFg {m:Nat}{h:Hp}(e:Nat) :m≤h.nb→oU m h h .nils (.ilst e [] true) :=aHI fun E c a=>by
 simp only [VR]at a ⊢;exact⟨[],VRs.nil _,fun _ b=>by(cases b),.inl ⟨rfl,none,0,a,fun _=>rfl,fun _=>rfl⟩⟩
mutual
def AV.frz (b:Nat)(ys:List AV) :AV→AV
 | .gl b' e off len ex=>bif beq b' b then .ilst e ys ex else .gl b' e off len ex
 | .func f fs cs=>.func f (AV.frzL b ys fs) (AV.frzL b ys cs)
 | .meth n r=>.meth n (AV.frz b ys r)
 | .via t f p r=>.via t f p (AV.frz b ys r)
 | .iface t v=>.iface t (AV.frz b ys v)
 | .agg vs=>.agg (AV.frzL b ys vs)
 | .tup vs=>.tup (AV.frzL b ys vs)
 |v=>v
def AV.frzL (b:Nat)(ys:List AV) :List AV→List AV
 | [] =>[]
 |a::aS=>AV.frz b ys a::AV.frzL b ys aS
end
mutual
def AV.frzOk (b e:Nat)(xs ys:List AV) :AV→Prop
 | .gl b' e' off len _=>b'=b→e'=e∧off+len≤xs.length∧ (xs.drop off).take len=ys
 | .func _ fs cs=>AV.frzOkL b e xs ys fs∧AV.frzOkL b e xs ys cs
 | .meth _ r=>AV.frzOk b e xs ys r
 | .via _ _ _ r=>AV.frzOk b e xs ys r
 | .iface _ v=>AV.frzOk b e xs ys v
 | .agg vs=>AV.frzOkL b e xs ys vs
 | .tup vs=>AV.frzOkL b e xs ys vs
 |_=>True
def AV.frzOkL (b e:Nat)(xs ys:List AV) :List AV→Prop
 | [] =>True
 |a::aS=>AV.frzOk b e xs ys a∧AV.frzOkL b e xs ys aS
end
mutual
theorem aCN {E E':Emb}(c:E.le E'){b e:Nat}{xs ys:List AV}(i:∀g len j d,g+len≤xs.length→ (xs.drop g).take len=ys→VR E (.gl b e g len j) d→VR E' (.ilst e ys j) d) :
  ∀ (v:AV) (d:Value),AV.frzOk b e xs ys v→VR E v d→VR E' (AV.frz b ys v) d
 | .gl s q g len j,d,k,r=>by
  simp only [AV.frz,bM,cond_eq_ite,decide_eq_true_eq];split
  · rename_i hb;simp only [AV.frzOk]at k;obtain⟨rfl,o,n⟩ :=k hb;subst hb;exact i g len j d o n r
  ·exact r.mono c
 | .func _ fs p,d,k,r=>by
  simp only [AV.frzOk]at k;simp only [AV.frz,VR]at r ⊢;obtain⟨a,b,f,h,m⟩ :=r;exact⟨a,b,f,aBA c i fs a k.1 h,aBA c i p b k.2 m⟩
 | .meth _ a,d,k,r=>by
  simp only [AV.frzOk]at k;simp only [AV.frz,VR]at r ⊢;obtain⟨u,f,h⟩ :=r;exact⟨u,f,aCN c i a u k h⟩
 | .via _ _ _ a,d,k,r=>by
  simp only [AV.frzOk]at k;simp only [AV.frz,VR]at r ⊢;obtain⟨u,f,h⟩ :=r;exact⟨u,f,aCN c i a u k h⟩
 | .iface _ a,d,k,r=>by
  simp only [AV.frzOk]at k;simp only [AV.frz,VR]at r ⊢;obtain⟨u,f,h⟩ :=r;exact⟨u,f,aCN c i a u k h⟩
 | .agg l,d,k,r=>by
  simp only [AV.frzOk]at k;simp only [AV.frz,VR]at r ⊢;obtain⟨u,f,h⟩ :=r;exact⟨u,f,aBA c i l u k h⟩
 | .tup l,d,k,r=>by
  simp only [AV.frzOk]at k;simp only [AV.frz,VR]at r ⊢;obtain⟨u,f,h⟩ :=r;exact⟨u,f,aBA c i l u k h⟩
 | .bool _,_,_,r=>r.mono c
 | .int _ _,_,_,r=>r.mono c
 | .str _ _,_,_,r=>r.mono c
 | .ptr _ _,_,_,r=>r.mono c
 | .nilp,_,_,r=>r.mono c
 | .slice ..,_,_,r=>r.mono c
 | .nils,_,_,r=>r.mono c
 | .map _,_,_,r=>r.mono c
 | .nilm,_,_,r=>r.mono c
 | .yield _,_,_,r=>r.mono c
 | .nilf,_,_,r=>r.mono c
 | .nili,_,_,r=>r.mono c
 | .ilst ..,_,_,r=>r.mono c
 | .iptr _,_,_,r=>r.mono c
 | .ep ..,_,_,r=>r.mono c
 | .val _,_,_,r=>r.mono c
theorem aBA {E E':Emb}(f:E.le E'){b e:Nat}{xs ys:List AV}(i:∀c len h j,c+len≤xs.length→ (xs.drop c).take len=ys→VR E (.gl b e c len h) j→VR E' (.ilst e ys h) j) :
  ∀ (g:List AV) (d:List Value),AV.frzOkL b e xs ys g→VRs E g d→VRs E' (AV.frzL b ys g) d
 | [],_,_,r=>by simpa [AV.frzL,VRs]using r
 | a::p,_,k,r=>by
  simp only [AV.frzOkL]at k;simp only [AV.frzL,VRs]at r ⊢;obtain⟨u,l,n,o,m⟩ :=r;exact⟨u,l,n,aCN f i a u k.1 o,aBA f i p l k.2 m⟩
end
theorem sP {m:Nat}{h:Hp}{b e:Nat}{xs ys:List AV}{v:AV}(hb:h.look b=some (.lst e xs))(hk:AV.keylessL xs=true)(S:AV.frzOk b e xs ys v) :m≤h.nb→oU m h (h.del b) v (AV.frz b ys v) :=fun hm E w r=>by
 obtain⟨rd,Q⟩ :=r.drop b;rcases r.obj0 b _ hb with⟨u1,u2⟩ | ⟨L,hE,C,el,y,Z,o2,V,O,o5⟩
 · cases xs
   case cons x xs=>cases u1
   refine⟨E,Emb.le.refl E,rd,Q.toM hm,fun t K=>aCN (Emb.le.refl E) (fun c len Y t k2 G A=>?_) v t S K⟩;have:ys= [] :=by rw [←G];simp
   subst this;simp only [VR]at A ⊢;rcases A with⟨_,a,rfl⟩ | ⟨L,a,n,hE,_⟩
   ·exact⟨[],VRs.nil _,fun _ B=>by(cases B),.inl ⟨rfl,a,0,rfl,fun _=>rfl,fun _=>rfl⟩⟩
   ·rw [u2]at hE;cases hE
 · have J :=r.apart b _ L hb hE L.blk rfl
   let E':Emb:= ⟨E.loc,fun k=>if k=L.blk then some C else E.imm k⟩
   have g:E.le E':= ⟨fun _ _ e=>e,fun k D e=>by
    show(if k=L.blk then some C else E.imm k) =some D;rw [if_neg (fun M=>by rw [M,J]at e;cases e)];exact e⟩
   have f:∀ {x o},(h.del b).look x=some o→x≠b∧h.look x=some o:=fun {x o} e=>by
    rw [lU]at e;split at e
    ·cases e
    ·rename_i s;exact⟨s,e⟩
   have hvl:=V.length;have H:=fY hk V;refine⟨E',g,⟨fun x o s=>?_,rd.kin,rd.fresh,fun k D e=>?_,fun x o N s q i U=>?_,rd.keys⟩,⟨fun _ _=>rfl,g.2,le_refl _,fun _ _ _=>rfl,Q.own,le_trans hm (le_refl _),rfl,rfl,rfl,fun _ _=>rfl,fun k D e hlt=>?_,fun x o e _=> ⟨o,(f e).2⟩⟩,fun t K=>aCN g (fun c len Y t k2 G A=>?_) v t S K⟩
   · rcases rd.obj0 x o s with u| ⟨N,X,F⟩
     ·exact .inl u
     ·exact .inr ⟨N,X,F.mono g⟩
   · simp only [E']at e;split at e
     ·rename_i l;cases e;subst l;exact⟨el,(0,0),Z⟩
     ·exact r.imm k D e
   · obtain⟨h1,T⟩ :=f s;show(if i=L.blk then some C else E.imm i) =none;rw [if_neg (fun M=>yP r hb hE T q h1 (by rw [←M];exact U))];exact r.apart x o N T q i U
   · simp only [E']at e;split at e
     ·rename_i l;subst l;exact .inr ⟨b,_,L,hb,hE,rfl⟩
     ·exact .inl e
   · simp only [VR]at A ⊢;have p:∀u∈y.drop c,okE e u:=fun u B=>O u (List.mem_of_mem_drop B);have I:∀u∈ (y.drop c).take len,okE e u:=fun u B=>p u (List.mem_of_mem_take B);have d: ((y.drop c).take len).length=len:=by rw [List.length_take,List.length_drop];omega
     refine⟨(y.drop c).take len,?_,I,?_⟩
     ·rw [←G];exact((H.drop c).take len).mono g.pp
     · rcases A with⟨rfl,a,rfl⟩ | ⟨L',a,n,z,rfl,F,g3,W⟩
       ·exact .inl ⟨by simp,a,0,rfl,fun _=>rfl,fun _=>rfl⟩
       · rw [hE]at z;cases z;by_cases hc:n=0
         · subst hc;have:len=0:=by omega
           subst this;exact .inl ⟨by simp,_,0,rfl,fun _=>rfl,fun _=>rfl⟩
         · obtain⟨rfl,g5⟩ :=W hc;refine .inr ⟨L.blk,_,n,C,by rw [d],by simp [E'],by rw [d];exact F,fun he=>by rw [d];exact g3 he,fun j R=>?_⟩;rw [d]at R;have h6:c*e+len*e≤y.length*e:=by rw [←Nat.add_mul];exact Nat.mul_le_mul_right _ (by omega)
           rw [sM _ p,pK _ O,List.getElem?_take_of_lt R,List.getElem?_drop,←o5 _ (by omega)];congr 1;omega
theorem Rel.reobj {E:Emb}{h:Hp}{H:Array Obj}(r:Rel E h H){k:Nat}{o o':AObj}(hk:h.look k=some o)(M:kH o=false)(A:∀L,E k=some L→OR E H L o')
  (h1:bS o'=bS o) (h2:jD o'=jD o) (B:nOf o'=nOf o) (q:∀L i,Own o' L i→Own o L i:=by exact fun _ _ h=>h) :Rel E (h.set k o') H:=by
 have g:∀ {x a},(h.set k o').look x=some a→∃f,h.look x=some f∧bS a=bS f∧jD a=jD f∧nOf a=nOf f∧∀L i,Own a L i→Own f L i:=fun {x a} e=>by
  rw [aY]at e;split at e
  ·rename_i c;cases e;subst c;exact⟨o,hk,h1,h2,B,q⟩
  ·exact⟨a,e,rfl,rfl,rfl,fun _ _ h=>h⟩
 refine⟨fun x a e=>?_,fun x y a S Q J u w m I l n=>?_,fun x c=>r.fresh x c,r.imm,fun x a L e m i O=>?_,fun x a e=>?_⟩
 · rw [aY]at e;split at e
   · rename_i c;cases e;subst c;obtain⟨L,p,_⟩ :=r.obj _ _ hk M;exact .inr ⟨L,p,A L p⟩
   ·exact r.obj0 x a e
 · obtain⟨b,d,R,D,F,j⟩ :=g u;obtain⟨s,G,t,C,v,N⟩ :=g w;obtain⟨i,K,z⟩ :=l;have:=r.kin x y b s Q J d G m I ⟨i,j _ _ K,N _ _ z⟩ n;unfold Kin at this ⊢;rw [R,D,F,t,C,v];exact this
 ·obtain⟨b,d,_,_,_,j⟩ :=g e;exact r.apart x b L d m i (j _ _ O)
 ·obtain⟨b,d,_⟩ :=g e;exact r.keys x b d
theorem jT {m:Nat}{E E':Emb}{h h1:Hp}{w w':World}(x:ExtM m E h w E' h1 w'){k:Nat}{o o':AObj}(hk:h1.look k=some o)(l:∀L i,Own o' L i→Own o L i:=by exact fun _ _ h=>h) :ExtM m E h w E' (h1.set k o') w':=by
 have g:∀ {x a},(h1.set k o').look x=some a→∃j,h1.look x=some j∧∀L i,Own a L i→Own j L i:=fun {x a} e=>by
  rw [aY]at e;split at e
  ·rename_i q;cases e;subst q;exact⟨o,hk,l⟩
  ·exact⟨a,e,fun _ _ h=>h⟩
 exact⟨x.low,x.imm,x.size,x.keep,fun r o' p e n i s d=>by obtain⟨c,f,t⟩ :=g e;exact x.own r c p f n i (t _ _ s) d,x.nb,x.os,x.tape,x.output,x.froz,x.immo,fun b o e hb=>by obtain⟨c,f,_⟩ :=g e;exact x.keys b c f hb⟩
theorem hY {m:Nat}{fr:AFrame}{cs:List AFrame}{h h1:Hp}{k o n:Nat}{t:T AV}{ol:List Nat}{sup:Bool}{v v':AV}(hk:h.look k=some (.cells t n ol sup))(c:h1.look k=some (.cells t n ol sup))(F:t.at o=some v)(A:m≤h.nb→oU m h h1 v v') :
  LeadsM P m ⟨fr,cs,h⟩ ⟨fr,cs,h1.set k (.cells (t.put o v') n ol sup)⟩ :=fun hm E J j w s f fs r=>by
 obtain⟨u,b,G,B,p⟩ :=A hm E w r;have hr:Rel u (h1.set k (.cells (t.put o v') n ol sup)) w.heap:=by
  refine G.reobj c rfl (fun L H=>?_) rfl rfl rfl;obtain⟨K,hE,C,D,z,y,x⟩ :=r.obj _ _ hk;have:=b.1 _ _ hE;rw [H]at this;cases this;refine⟨C,D,z,y,fun i a d=>?_⟩;rw [T.at_put]at d;split at d
  · rename_i I;cases d;subst I;obtain⟨g,e,l,q⟩ :=x _ _ F;exact⟨g,e,l,p e q⟩
  · obtain⟨g,e,l,q⟩ :=x i a d;exact⟨g,e,l,q.mono b⟩
 exact⟨u,J,j,w,Steps.refl _ _,f.mono b,fs.mono b,hr,jT B c⟩
theorem aCO {m:Nat}{h:Hp}{b n c e k:Nat}{x g:Bool}{t:T AV}{cs:List AV}(hb:h.look b=some (.cells t k [] false))(hg:getCells t 0 (n*e) =some cs)(h1:dD cs=true)(he:g=false→e=1) :
  m≤h.nb→oU m h (h.set b (.lst e (vT g e n cs))) (.slice b 0 n c e x) (.gl b e 0 n (x&&beq c n)) :=fun hm E w r=>by
 obtain⟨L,hE,C,s,K,I,o3⟩ :=r.obj _ _ hb;obtain⟨hcl,F⟩ :=nM hg
 have hc:∀j,j<n*e→∃v,C[L.sh+j]?=some v∧∀a,cs[j]?=some a→VR E a v:=fun j d=>by
  have V:=F j d;have R:cs[j]?=some (cs[j]'(by omega)) :=by simp
  rw [R,eS]at V;obtain⟨_,v,l,H⟩ :=o3 _ _ V;exact⟨v,l,fun a o=>by rw [R]at o;cases o;exact H⟩
 have D:L.sh+n*e≤C.size∨n*e=0:=by
  by_cases h0:n*e=0
  ·exact .inr h0
  · obtain⟨v,l,_⟩ :=hc (n*e-1) (by omega);have:= (zq44.1 l).1;exact .inl (by omega)
 let q:= (C.extract L.sh (L.sh+n*e)).toList
 have A:q.length=n*e:=by simp [q];omega
 have f:∀j,j<n*e→q[j]?=C[L.sh+j]?:=fun j d=>by
  simp only [q];rw [rN,Array.getElem?_extract,if_pos (by rcases D with h|h<;>omega)]
 have p:VRs E cs q:=VRs.of_get (by omega) fun i a o=>by
  have W:i<n*e:=by have:= (zq0.1 o).1;omega
  obtain⟨v,l,H⟩ :=hc i W;exact⟨v,by rw [f i W];exact l,H a o⟩
 obtain⟨Q,O,J,M,X⟩ :=wP g he n p A (p.ones h1)
 have hob:OR E w.heap L (.lst e (vT g e n cs)) := ⟨C,s,Q,K,I,O,X,fun j d=>by
  rw [M]at d;rw [J,f j d]⟩
 obtain⟨U,N⟩ :=r.setObj (o':=.lst e (vT g e n cs)) (.cells C s (0,0)) hb hE rfl rfl (fun H' hH=> ⟨C,s,Q,hH,I,O,X,fun j d=>by
  rw [M]at d;rw [J,f j d]⟩)
 have Y: ({w with heap:=w.heap.setIfInBounds L.blk (.cells C s (0,0))}:World) =w:=qU K;have z:w.heap.setIfInBounds L.blk (.cells C s (0,0)) =w.heap:=congrArg World.heap Y;rw [z]at U;rw [Y]at N;refine⟨E,Emb.le.refl E,U,N.toM hm,fun cv S=>?_⟩;simp only [VR]at S ⊢;obtain⟨L',y,G,u,rfl,g1,g2,g3,Z,g5⟩ :=S;rw [hE]at u;cases u;refine .inr ⟨L,y,G,hE,rfl,by omega,fun he=>?_,fun B=> ⟨by rw [Z B];omega,g5⟩⟩;simp only [cM]at he;have:=fN he.2;have:=g3 he.1;omega
mutual
def AV.ren (τ:Nat→Nat) :AV→AV
 | .ptr b o=>.ptr (τ b) o
 | .slice b o l c e x=>.slice (τ b) o l c e x
 | .map r=>.map (τ r)
 | .func f fs cs=>.func f (AV.renL τ fs) (AV.renL τ cs)
 | .yield l=>.yield (τ l)
 | .meth n r=>.meth n (AV.ren τ r)
 | .via t f p r=>.via t f p (AV.ren τ r)
 | .iface t v=>.iface t (AV.ren τ v)
 | .agg vs=>.agg (AV.renL τ vs)
 | .tup vs=>.tup (AV.renL τ vs)
 | .gl b e o l x=>.gl (τ b) e o l x
 | .ep b e i o=>.ep (τ b) e i o
 |v=>v
def AV.renL (τ:Nat→Nat) :List AV→List AV
 | [] =>[]
 |a::aS=>AV.ren τ a::AV.renL τ aS
end
def Emb.ren (τ:Nat→Nat)(E:Emb) :Emb:= ⟨fun b=>E (τ b),E.imm⟩
mutual
theorem eP (a:Nat→Nat)(E:Emb) :∀ (v:AV) (c:Value),VR E (AV.ren a v) c↔VR (E.ren a) v c
 | .bool _,_=>by simp [AV.ren,VR]
 | .int _ _,_=>by simp [AV.ren,VR]
 | .str _ _,_=>by simp [AV.ren,VR]
 | .ptr _ _,_=>by simp [AV.ren,VR,Emb.ren]
 | .nilp,_=>by simp [AV.ren,VR]
 | .slice ..,_=>by simp [AV.ren,VR,Emb.ren]
 | .nils,_=>by simp [AV.ren,VR]
 | .map _,_=>by simp [AV.ren,VR,Emb.ren]
 | .nilm,_=>by simp [AV.ren,VR]
 | .func f fs d,_=>by simp only [AV.ren,VR,nN a E fs,nN a E d]
 | .yield _,_=>by simp [AV.ren,VR,Emb.ren]
 | .meth n r,_=>by simp only [AV.ren,VR,eP a E r]
 | .via _ _ _ r,_=>by simp only [AV.ren,VR,eP a E r]
 | .nilf,_=>by simp [AV.ren,VR]
 | .iface _ v,_=>by simp only [AV.ren,VR,eP a E v]
 | .nili,_=>by simp [AV.ren,VR]
 | .agg b,_=>by simp only [AV.ren,VR,nN a E b]
 | .tup b,_=>by simp only [AV.ren,VR,nN a E b]
 | .ilst ..,_=>by simp only [AV.ren,VR];exact Iff.rfl
 | .iptr _,_=>by simp only [AV.ren,VR];exact Iff.rfl
 | .gl ..,_=>by simp [AV.ren,VR,Emb.ren]
 | .ep ..,_=>by simp [AV.ren,VR,Emb.ren]
 | .val _,_=>by simp [AV.ren,VR]
theorem nN (c:Nat→Nat)(E:Emb) :∀ (d:List AV) (b:List Value),VRs E (AV.renL c d) b↔VRs (E.ren c) d b
 | [],_=>by simp [AV.renL,VRs]
 |a::e,_=>by simp only [AV.renL,VRs,eP c E a,nN c E e]
end
theorem aDw (c:Nat→Nat) :∀ (b a:List AV),AV.renL c (b++a) =AV.renL c b++AV.renL c a
 | [],_=>rfl
 |x::b,a=>by simp [AV.renL,aDw c b a]
theorem aH {b:Type}(f:b→AV)(c:∀a,AV.keyless (f a) =true) :∀ (l:List b),AV.keylessL (l.map f) =true
 | [] =>rfl
 |a::d=>by simp [AV.keylessL,c a,aH f c d]
theorem keylessL_mem :∀ {xs:List AV},AV.keylessL xs=true↔∀x∈xs,AV.keyless x=true
 | [] =>by simp [AV.keylessL]
 |x::xs=>by simp [AV.keylessL,keylessL_mem (xs:=xs)]
end
end
end Go.Hb
