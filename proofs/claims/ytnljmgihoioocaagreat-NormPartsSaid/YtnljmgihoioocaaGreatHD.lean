/- A machine on abstract values, its soundness, ways, plain laws. -/
import Derived.Test.YtnljmgihoioocaaGreatHC
import Derived.RowKit3
set_option linter.defProp false
set_option linter.unusedVariables false
set_option linter.unusedSimpArgs false
set_option linter.unusedSectionVars false
set_option maxRecDepth 100000
namespace Go.Hb
open List (range')
open Nat (beq le_refl le_trans lt_of_lt_of_le lt_or_ge succ zero_le)
noncomputable section
section
variable {P :Program}
section
variable {call :bR} {l:List Oper} {nt:Nat} {R:Nat→RS} {A:Nat→AV}
structure Pd (P:Program) (l:List Oper) (R:Nat→RS) (A:Nat→AV) (D:Nat→Prop) (j f:Nat) (ob:AObj) :Prop where
 done:D f
 op:∃o,l[f]?=some o∧dG o.op= .fresh∧cM (R f).tm l o=some true∧oU P (R f).tm (R f).next o=some (A f,ob)
 late:j≤yB l f
theorem aPw {tm:T AV}{id:Nat}{o:Oper}{a:AV}{ob:AObj}(h:oU P tm id o=some (a,ob)) :one1 ob=true:=by
 unfold oU at h
 repeat' split at h
 all_goals first| (cases h;rfl) |cases h
theorem Pd.one {D:Nat→Prop}{j f:Nat}{ob:AObj}(p:Pd P l R A D j f ob) :one1 ob=true:=by
 obtain⟨o,_,_,_,h⟩ :=p.op;exact aPw h
structure Inv (P:Program) (l:List Oper) (nt:Nat) (R:Nat→RS) (A:Nat→AV) (E0:Emb) (h0:Hp) (w0:World) (D:Nat→Prop) [DecidablePred D] (j:Nat) (E:Emb) (w:World) (tmps:Array Value) :Prop where
 closed:Closed l D
 lt:∀i,D i→i<l.length
 eff:∀q e,(fY l 0)[q]?=some e→ (D e↔q<j)
 jle:j≤ (fY l 0).length
 ext:Ext E0 h0 w0 E (bX l R j) w
 nb: (R 0).h.nb≤ (bX l R j).nb
 rel:Rel E (bX l R j) w.heap
 size:tmps.size=nt
 tv:∀t a,eJ (R 0).tm (tB l) A D l.length t=some a→∃v,tmps[t]?=some v∧VR E a v
 und:∀f o,¬D f→l[f]?=some o→dG o.op= .fresh→E (R f).next=none
 pd:∀f ob,Pd P l R A D j f ob→∃L,E (R f).next=some L∧OR E w.heap L ob∧w0.heap.size≤L.blk∧∀b o L',(bX l R j).look b=some o→E b=some L'→¬Own o L' L.blk
 pdi:∀f ob,Pd P l R A D j f ob→∀L,E (R f).next=some L→E.imm L.blk=none
 hn0:h0.nb= (R 0).next
 ul:∀b o,(bX l R j).look b=some o→E b=none→b<h0.nb∨ (R 0).h.nb≤b
 pd2:∀f g ob ob' L L',Pd P l R A D j f ob→Pd P l R A D j g ob'→f≠g→E (R f).next=some L→E (R g).next=some L'→L.blk≠L'.blk
variable {E0 :Emb} {h0:Hp} {w0:World} {D D':Nat→Prop} [DecidablePred D] [DecidablePred D'] {j:Nat} {E:Emb} {w:World} {tmps:Array Value}
theorem Inv.publish (T:Trace P call l nt R A)(I:Inv P l nt R A E0 h0 w0 D j E w tmps){ps:List (Nat×Nat×AObj)}
  (H:∀x ob,(j,x,ob) ∈ps→∃f,Pd P l R A D j f ob∧yB l f=j∧x= (R f).next) :
  Rel E (aQ (bX l R j) j ps) w.heap∧Ext E0 h0 w0 E (aQ (bX l R j) j ps) w ∧
   (∀x ob,(aQ (bX l R j) j ps).look x=some ob→ (∃f,Pd P l R A D j f ob∧yB l f=j∧x= (R f).next) ∨ (bX l R j).look x=some ob) :=by
 have hl:∀x ob,(aQ (bX l R j) j ps).look x=some ob→ (∃f,Pd P l R A D j f ob∧yB l f=j∧x= (R f).next) ∨ (bX l R j).look x=some ob:=fun x ob e=>
  (oY e).imp (H x ob) (fun z=>z)
 have n:∀ {f ob},Pd P l R A D j f ob→h0.nb≤ (R f).next∧ (R f).next< (R 0).h.nb:=fun p=>by
  obtain⟨d,Q,O,_⟩ :=p.op;have:=T.id_lt Q O;have:=I.hn0;omega
 refine⟨⟨fun b o e=>?_,fun b t o d L B e N k y m u=>?_,fun b hb=>?_,I.rel.imm,fun b o L e k i s=>?_,fun b o e=>?_⟩,⟨I.ext.le,I.ext.size,I.ext.keep,fun t d B e k i s G=>?_,?_,I.ext.os,I.ext.tape,I.ext.output,I.ext.low,I.ext.froz,I.ext.immo,fun b o e hb=>?_⟩,hl⟩
 · rcases hl b o e with⟨f,a,_,rfl⟩ |e
   ·obtain⟨L,h,C,_⟩ :=I.pd f o a;exact .inr ⟨L,h,C⟩
   ·exact I.rel.obj0 b o e
 · rcases hl b o e with⟨f,a,_,rfl⟩ |c
   · obtain⟨K,h,C,M,F⟩ :=I.pd f o a;rw [k]at h;cases h;rcases hl t d N with⟨g,v,_,rfl⟩ |J
     · obtain⟨i,r,q⟩ :=m;rw [cG a.one]at r;rw [cG v.one]at q;exact absurd (r.trans q.symm) (I.pd2 f g o d L B a v (fun e=>u (by rw [e])) k y)
     · obtain⟨i,r,q⟩ :=m;rw [cG a.one]at r;subst r;exact absurd q (F _ _ _ J y)
   · rcases hl t d N with⟨g,v,_,rfl⟩ |J
     · obtain⟨K,h,C,M,F⟩ :=I.pd g d v;rw [y]at h;cases h;obtain⟨i,r,q⟩ :=m;rw [cG v.one]at q;subst q;exact absurd r (F _ _ _ c k)
     ·exact I.rel.kin b t o d L B c J k y m u
 ·rw [eH]at hb;exact I.rel.fresh b hb
 · rcases hl b o e with⟨f,a,_,rfl⟩ |c
   · rw [cG a.one]at s;subst s;exact I.pdi f o a L k
   ·exact I.rel.apart b o L c k i s
 · rw [eH];rcases hl b o e with⟨f,a,_,rfl⟩ |c
   ·have:=n a;have:=I.nb;omega
   ·exact I.rel.keys b o c
 · rcases hl t d e with⟨f,a,_,rfl⟩ |c
   · obtain⟨K,h,C,M,F⟩ :=I.pd f d a;rw [k]at h;cases h;rw [cG a.one]at s;omega
   ·exact I.ext.own t d B c k i s G
 ·rw [eH];exact I.ext.nb
 · rcases hl b o e with⟨f,a,_,rfl⟩ |c
   ·have:=n a;omega
   ·exact I.ext.keys b o c hb
theorem Inv.lookIn (T:Trace P call l nt R A)(I:Inv P l nt R A E0 h0 w0 D j E w tmps){f:Nat}{ob:AObj}(d:Pd P l R A D j f ob) :
  Rel E ((bX l R j).set (R f).next ob) w.heap:=by
 have hl:∀x o,((bX l R j).set (R f).next ob).look x=some o→ (x= (R f).next∧o=ob) ∨ (bX l R j).look x=some o:=fun x o e=>by
  rw [aY]at e;split at e
  ·rename_i G;cases e;exact .inl ⟨G,rfl⟩
  ·exact .inr e
 have v:h0.nb≤ (R f).next∧ (R f).next< (R 0).h.nb:=by
  obtain⟨n,H,C,_⟩ :=d.op;have:=T.id_lt H C;have:=I.hn0;omega
 obtain⟨L,h,F,J,y⟩ :=I.pd f ob d;refine⟨fun b o e=>?_,fun b t o n m B e z k s a g=>?_,fun b hb=>?_,I.rel.imm,fun b o m e k i r=>?_,fun b o e=>?_⟩
 · rcases hl b o e with⟨rfl,rfl⟩ |e
   ·exact .inr ⟨L,h,F⟩
   ·exact I.rel.obj0 b o e
 · rcases hl b o e with⟨rfl,rfl⟩ |c
   · rw [k]at h;cases h;rcases hl t n z with⟨rfl,rfl⟩ |u
     ·exact absurd rfl g
     · obtain⟨i,q,p⟩ :=a;rw [cG d.one]at q;subst q;exact absurd p (y _ _ _ u s)
   · rcases hl t n z with⟨rfl,rfl⟩ |u
     · rw [s]at h;cases h;obtain⟨i,q,p⟩ :=a;rw [cG d.one]at p;subst p;exact absurd q (y _ _ _ c k)
     ·exact I.rel.kin b t o n m B c u k s a g
 ·exact I.rel.fresh b (by rw [jP]at hb;exact hb)
 · rcases hl b o e with⟨rfl,rfl⟩ |c
   · rw [cG d.one]at r;subst r;exact I.pdi f _ d m k
   ·exact I.rel.apart b o m c k i r
 · rw [jP];rcases hl b o e with⟨rfl,rfl⟩ |c
   ·have:=I.nb;omega
   ·exact I.rel.keys b o c
theorem aC7 (d:Option Nat)(v:Value)(a:Array Value) : (aBI d v a).size=a.size:=by cases d<;>simp [aBI]
theorem aJW (T:Trace P call l nt R A)(r:Closed l D)(g:∀i,D i→i<l.length)(f:tmps.size=nt){i:Nat}{o:Oper}(m:l[i]?=some o)(q:¬D i)(hm:Met D o)(j:∀k,D' k↔ (D k∨k=i)){cv:Value}(p:VR E (A i) cv)
  (tv:∀t a,eJ (R 0).tm (tB l) A D l.length t=some a→∃v,tmps[t]?=some v∧VR E a v) :
  ∀t a,eJ (R 0).tm (tB l) A D' l.length t=some a→∃v,(aBI o.dst cv tmps)[t]?=some v∧VR E a v:=by
 intro t a b;rw [T.view_done r g m q hm t j]at b;have c:= (T.step i o m).1;split at b
 · rename_i hd;cases b;refine⟨cv,?_,p⟩;rw [hd]at c ⊢;unfold kJ at c;simp only at c;cases hb:Nat.blt t nt with
   |false=>rw [hb]at c;cases c
   | true=>
    rw [dK,decide_eq_true_eq]at hb;simp [aBI,f,hb]
 · rename_i hd;obtain⟨v,n,s⟩ :=tv t a b;refine⟨v,?_,s⟩;unfold aBI;split
   · rename_i d h;rw [tY (fun e=>hd (by rw [h,e]))];exact n
   ·exact n
theorem yD {i:Nat}{o:Oper}(d:Closed l D)(c:l[i]?=some o)(hm:Met D o)(b:∀k,D' k↔ (D k∨k=i)) :Closed l D':=by
 intro k ok a hk e he hb;rw [b];rcases(b k).1 hk with g|g
 ·exact .inl (d k ok a g e he hb)
 ·subst g;rw [c]at a;cases a;exact .inl (hm e he hb)
theorem aJX {i:Nat}{o:Oper}(a:∀i,D i→i<l.length)(c:l[i]?=some o)(b:∀k,D' k↔ (D k∨k=i)) :∀k,D' k→k<l.length:=fun k hk=>by
 rcases(b k).1 hk with g|g
 ·exact a k g
 ·subst g;exact uM c
theorem Inv.quiet (T:Trace P call l nt R A)(I:Inv P l nt R A E0 h0 w0 D j E w tmps){i:Nat}{o:Oper}(m:l[i]?=some o)(t:¬D i)(hm:Met D o)(hk:dG o.op≠ .eff)(b:∀k,D' k↔ (D k∨k=i))
  (x:dG o.op= .fresh→cM (R i).tm l o=some false) {cv:Value} (s:VR E (A i) cv) :
  Inv P l nt R A E0 h0 w0 D' j E w (aBI o.dst cv tmps) :=by
 have a:∀f ob,Pd P l R A D' j f ob→Pd P l R A D j f ob:=fun f ob p=>by
  refine⟨?_,p.op,p.late⟩;rcases(b f).1 p.done with g|g
  ·exact g
  · subst g;obtain⟨y,c,h,r,z⟩ :=p.op;rw [m]at c;cases c;rw [x h]at r;cases r
 refine⟨yD I.closed m hm b,aJX I.lt m b,fun q e he=>?_,I.jle,I.ext,I.nb,I.rel,by rw [aC7];exact I.size,
  aJW T I.closed I.lt I.size m t hm b s I.tv,fun f of n c h=>I.und f of (fun g=>n ((b f).2 (.inl g))) c h,fun f ob p=>I.pd f ob (a f ob p),fun f ob p=>I.pdi f ob (a f ob p),I.hn0,I.ul,fun f g ob d L v p u=>I.pd2 f g ob d L v (a f ob p) (a g d u)⟩
 rw [b,←I.eff q e he];constructor
 · rintro(g|g)
   ·exact g
   · subst g;obtain⟨_,_,y,c,h⟩ := (jA l 0).1 q e he;rw [Nat.sub_zero,m]at c;cases c;exact absurd h hk
 ·exact .inl
theorem Inv.turn (T:Trace P call l nt R A)(I:Inv P l nt R A E0 h0 w0 D j E w tmps){i:Nat}{o:Oper}(c:l[i]?=some o)(d:¬D i)(hm:Met D o)(hk:dG o.op= .eff) : (fY l 0)[j]?=some i:=by
 obtain⟨q,a⟩ := (jA l 0).2.1 i o c hk;rw [eX]at a;have f:¬q<j:=fun g=>d ((I.eff q i a).2 g);rcases lt_or_ge j q with g|g
 · exfalso;obtain⟨b,rfl⟩ :∃b,q=b+1:= ⟨q-1,by omega⟩;have e:= (zq0.1 a).1;have he: (fY l 0)[b]?=some ((fY l 0)[b]) :=kH (by omega);have:=lR I.closed I.lt (i+1) i (by omega) o c hm _ (T.before he a);have:= (I.eff _ _ he).1 this;omega
 · have:q=j:=by omega
   rw [←this];exact a
theorem Inv.waits (T:Trace P call l nt R A)(I:Inv P l nt R A E0 h0 w0 D j E w tmps){i:Nat}{o:Oper}(a:l[i]?=some o)(d:¬D i)(hm:Met D o)(hk:dG o.op= .eff) :
  ∀x ob,(j,x,ob) ∈ (R i).pend→∃f,Pd P l R A D j f ob∧yB l f=j∧x= (R f).next:=by
 intro x ob q;have e:=uM a;obtain⟨f,n,r,m,h,p,g,c,k⟩ :=T.pend_mem i (by omega) j x ob q;have b:=I.turn T a d hm hk;rw [c]at b;exact⟨f,⟨lR I.closed I.lt (i+1) i (by omega) o a hm f (aPv b),⟨n,m,h,p,g⟩,by omega⟩,c.symm,k⟩
theorem Inv.effect (T:Trace P call l nt R A)(I:Inv P l nt R A E0 h0 w0 D j E w tmps){i:Nat}{o:Oper}(G:l[i]?=some o)(u:¬D i)(hm:Met D o)(hk:dG o.op= .eff)(r:∀k,D' k↔ (D k∨k=i))
  {E':Emb} {w':World} {cv:Value} (hv:VR E' (A i) cv) (r':Rel E' (bX l R (j+1)) w'.heap) (n:Ext E (aQ (bX l R j) j (R i).pend) w E' (bX l R (j+1)) w') :
  Inv P l nt R A E0 h0 w0 D' (j+1) E' w' (aBI o.dst cv tmps) :=by
 obtain⟨p1,p2,p3⟩ :=I.publish T (I.waits T G u hm hk);have N:=I.turn T G u hm hk;have hql:= (zq0.1 N).1
 have c:∀f ob,Pd P l R A D' (j+1) f ob→Pd P l R A D j f ob:=fun f ob p=>by
  refine⟨?_,p.op,by have:=p.late;omega⟩;rcases(r f).1 p.done with g|g
  ·exact g
  · subst g;obtain⟨o',F,B,h3,h4⟩ :=p.op;rw [G]at F;cases F;rw [hk]at B;cases B
 have z:∀f ob L,Pd P l R A D' (j+1) f ob→E (R f).next=some L→∀b o h,(aQ (bX l R j) j (R i).pend).look b=some o→E b=some h→¬Own o h L.blk:=fun f ob L p hE b o h hb s d=>by
  have J:=c f ob p;rcases p3 b o hb with⟨g,hg,K,rfl⟩ |Y
  · rw [cG hg.one]at d;exact I.pd2 g f o ob h L hg J (fun e=>by subst e;have:=p.late;omega) s hE d
  · obtain⟨Q,m,_,_,Z⟩ :=I.pd f ob J;rw [hE]at m;cases m;exact Z b o h Y s d
 refine⟨yD I.closed G hm r,aJX I.lt G r,fun q e he=>?_,by omega,p2.trans n,?_,r',by rw [aC7];exact I.size,
  aJW T I.closed I.lt I.size G u hm r hv (fun t a V=>by obtain⟨v,F,B⟩ :=I.tv t a V;exact⟨v,F,B.mono n.le⟩),fun f of O F B=>?_,fun f ob p=>?_,fun f ob p h U=>?_,I.hn0,fun b o hb hE=>?_,fun f g ob x L h p p' M hE s=>?_⟩
 · rw [r,I.eff q e he];constructor
   · rintro(g|g)
     ·omega
     · subst g;rcases Nat.lt_trichotomy q j with k|k|k
       ·omega
       ·omega
       ·have:= (aBM l N he).1 k;omega
   · intro g;rcases lt_or_ge q j with k|k
     ·exact .inl k
     · have:q=j:=by omega
       subst this;rw [N]at he;cases he;exact .inr rfl
 ·have:=n.nb;rw [eH]at this;have:=I.nb;omega
 · have hid:=T.id_lt F B;rw [n.low _ (by rw [eH];have:=I.nb;omega)];exact I.und f of (fun g=>O ((r f).2 (.inl g))) F B
 · obtain⟨L,m,y,k3,Z⟩ :=I.pd f ob (c f ob p);have H:=z f ob L p m;refine⟨L,n.le.1 _ _ m,(y.mono n.le).heap fun i u=>n.keep _ (y.lt i u) fun b o h hb hE d=>H b o h hb hE (by rw [cG p.one]at u;rw [u];exact d),k3,fun b o h hb hE d=>?_⟩;obtain⟨b1,o1,Q,K,X,S⟩ :=n.own b o h hb hE _ d (y.lt _ ((cG p.one).2 rfl));exact H b1 o1 Q K X S
 · obtain⟨L,m,y,k3,Z⟩ :=I.pd f ob (c f ob p);have e3:=n.le.1 _ _ m;rw [U]at e3;obtain rfl:h=L:=Option.some.inj e3;cases u:E'.imm h.blk with
   |none=>rfl
   | some C=>
    rcases n.immo _ C u (y.lt _ ((cG p.one).2 rfl))with g| ⟨b,o,L2,K,X,S⟩
    ·rw [I.pdi f ob (c f ob p) h m]at g;cases g
    ·exact absurd S (z f ob h p m b o L2 K X)
 · rcases lt_or_ge b (bX l R j).nb with g|g
   · obtain⟨W,e0⟩ :=n.keys b o hb (by rw [eH];exact g);rw [n.low b (by rw [eH];exact g)]at hE;rcases p3 b W e0 with⟨f,hf,_,rfl⟩ |e1
     · obtain⟨L,m,_⟩ :=I.pd f W hf;rw [m]at hE;cases hE
     ·exact I.ul b W e1 hE
   ·have:=I.nb;exact .inr (by omega)
 · obtain⟨Q,m,_⟩ :=I.pd f ob (c f ob p);obtain⟨L2,y,_⟩ :=I.pd g x (c g x p');rw [n.le.1 _ _ m]at hE;cases hE;rw [n.le.1 _ _ y]at s;cases s;exact I.pd2 f g ob x _ _ (c f ob p) (c g x p') M m y
theorem Inv.alloc (T:Trace P call l nt R A)(I:Inv P l nt R A E0 h0 w0 D j E w tmps){i:Nat}{o:Oper}(M:l[i]?=some o)(Z:¬D i)(hm:Met D o)(hk:dG o.op= .fresh)(z:∀k,D' k↔ (D k∨k=i))(hn0:h0.nb= (R 0).next)
  {ob:Obj} (hz:noFrz ob=true) {n:Nat} {cv:Value} (hv:VR (E.put (R i).next ⟨w.heap.size,0,n⟩) (A i) cv) (hob:∀aob,oU P (R i).tm (R i).next o=some (A i,aob) →OR (E.put (R i).next ⟨w.heap.size,0,n⟩) (w.heap.push ob) ⟨w.heap.size,0,n⟩ aob) :
  Inv P l nt R A E0 h0 w0 D' j (E.put (R i).next ⟨w.heap.size,0,n⟩) {w with heap:=w.heap.push ob} (aBI o.dst cv tmps) :=by
 have hid:=T.id_lt M hk;have hf:E (R i).next=none:=I.und i o Z M hk
 have h:E.le (E.put (R i).next ⟨w.heap.size,0,n⟩) :=Emb.le_put hf;have B:∀ {x},x<w.heap.size→ (w.heap.push ob)[x]?=w.heap[x]?:=fun W=>by rw [Array.getElem?_push,if_neg (by omega)]
 have u:∀b s,(bX l R j).look b=some s→b≠ (R i).next:=fun b s hb e=>by
  cases hE:E b with
  |some L=>rw [e,hf]at hE;cases hE
  | none=>
   have K:=I.ul b s hb hE;have J:=I.hn0;omega
 have c:∀f aob,Pd P l R A D' j f aob→f≠i→Pd P l R A D j f aob:=fun f aob p r=> ⟨((z f).1 p.done).resolve_right r,p.op,p.late⟩
 have idne:∀f aob,Pd P l R A D' j f aob→f≠i→ (R f).next≠ (R i).next:=fun f aob p r=>by
  obtain⟨s,K,J,_⟩ :=p.op;exact T.id_ne K J M hk r
 refine⟨yD I.closed M hm z,aJX I.lt M z,fun q e he=>?_,I.jle,?_,I.nb,?_,by rw [aC7];exact I.size,
  aJW T I.closed I.lt I.size M Z hm z hv (fun t a hta=>by obtain⟨v,K,J⟩ :=I.tv t a hta;exact⟨v,K,J.mono h⟩),fun f of X K J=>?_,fun f aob p=>?_,fun f aob p H O=>?_,I.hn0,fun b s hb hE=>I.ul b s hb (by rw [Emb.put_ne _ _ (u _ _ hb)]at hE;exact hE),fun f g aob m L H p Y r hE G=>?_⟩
 · rw [z,←I.eff q e he];constructor
   · rintro(g|g)
     ·exact g
     · subst g;obtain⟨_,_,s,K,J⟩ := (jA l 0).1 q e he;rw [Nat.sub_zero,M]at K;cases K;rw [hk]at J;cases J
   ·exact .inl
 · refine⟨I.ext.le.trans h,by have:=I.ext.size;simp;omega,fun x W hn=>?_,fun b' s H e k y V hlt=>?_,I.ext.nb,I.ext.os,I.ext.tape,I.ext.output,fun x W=>?_,fun x W=> (xG w hz x).trans (I.ext.froz x W),I.ext.immo,I.ext.keys⟩
   · have:=I.ext.size;show(w.heap.push ob)[x]?=_;rw [B (by omega)];exact I.ext.keep x W hn
   · rw [Emb.put_ne _ _ (u _ _ e)]at k;exact I.ext.own b' s H e k y V hlt
   ·rw [Emb.put_ne _ _ (by omega)];exact I.ext.low x W
 · refine⟨fun b s e=>?_,fun b b' o1 o2 L H e e' k k'=>?_,fun b hb=>?_,fun k C e=>?_,fun b s L e k y V=>?_,I.rel.keys⟩
   · rcases I.rel.obj0 b s e with⟨u1,u2⟩ | ⟨L,Q,g2⟩
     ·exact .inl ⟨u1,by rw [Emb.put_ne _ _ (u _ _ e)];exact u2⟩
     ·exact .inr ⟨L,h.1 _ _ Q,(g2.mono h).heap fun y V=>B (g2.lt y V)⟩
   · rw [Emb.put_ne _ _ (u _ _ e)]at k;rw [Emb.put_ne _ _ (u _ _ e')]at k';exact I.rel.kin b b' o1 o2 L H e e' k k'
   · have:=I.nb;rw [Emb.put_ne _ _ (by omega)];exact I.rel.fresh b hb
   · obtain⟨e1,f1,g⟩ :=I.rel.imm k C e;exact⟨e1,f1,by rw [B (zq44.1 g).1];exact g⟩
   · rw [Emb.put_ne _ _ (u _ _ e)]at k;exact I.rel.apart b s L e k y V
 · have r:f≠i:=fun e=>X ((z f).2 (.inr e));rw [Emb.put_ne _ _ (T.id_ne K J M hk r)];exact I.und f of (fun g=>X ((z f).2 (.inl g))) K J
 · by_cases d:f=i
   · subst d;obtain⟨s,Q,g2,g3,g4⟩ :=p.op;rw [M]at Q;cases Q;refine⟨_,Emb.put_same _ _ _,hob aob g4,I.ext.size,fun b s H hb hE U=>?_⟩;rw [Emb.put_ne _ _ (u _ _ hb)]at hE;have:=I.rel.lt hb hE _ U;simp only at this;omega
   · obtain⟨L,N,S,k3,k4⟩ :=I.pd f aob (c f aob p d);refine⟨L,h.1 _ _ N,(S.mono h).heap (fun y V=>B (S.lt y V)),k3,fun b s H hb hE U=>?_⟩;rw [Emb.put_ne _ _ (u _ _ hb)]at hE;exact k4 b s H hb hE U
 · show E.imm H.blk=none;by_cases d:f=i
   · subst d;rw [Emb.put_same]at O;cases O;cases Z:E.imm w.heap.size with
     |none=>rfl
     |some C=>exact absurd (I.rel.immLt Z) (Nat.lt_irrefl _)
   · obtain⟨L,N,S,_⟩ :=I.pd f aob (c f aob p d);have e3:=h.1 _ _ N;rw [O]at e3;obtain rfl:H=L:=Option.some.inj e3;exact I.pdi f aob (c f aob p d) H N
 · by_cases d:f=i
   · by_cases F:g=i
     ·exact absurd (d.trans F.symm) r
     · subst d;rw [Emb.put_same]at hE;cases hE;obtain⟨L2,N,S,_⟩ :=I.pd g m (c g m Y F);rw [h.1 _ _ N]at G;cases G;have:=S.lt _ ((cG Y.one).2 rfl);simp only;omega
   · obtain⟨L1,N,S,_⟩ :=I.pd f aob (c f aob p d);rw [h.1 _ _ N]at hE;cases hE;by_cases F:g=i
     · subst F;rw [Emb.put_same]at G;cases G;have:=S.lt _ ((cG p.one).2 rfl);simp only;omega
     · obtain⟨L2,Q,g2,_⟩ :=I.pd g m (c g m Y F);rw [h.1 _ _ Q]at G;cases G;exact I.pd2 f g aob m _ _ (c f aob p d) (c g m Y F) r N Q
end
def eP (P:Program)(call:bR) :Prop:=∀k c h v h',call k c h=some (v,h') →∃g,dW P h c=some g ∧
 ∀ (E:Emb) (w:World) (G:Frame),Rel E h w.heap→FR E g G→G.kind= .normal→∀cl base,∃cv w' E',Steps P (lone G (cl::base) w) (lone (cl.finish cv) base w') ∧VR E' v cv∧Rel E' h' w'.heap∧Ext E h w E' h' w'
def bAO (P:Program)(call:bR)(k:Nat) :Prop:=∀c h v h',call k c h=some (v,h') →∃g,dW P h c=some g ∧
 ∀ (E:Emb) (w:World) (G:Frame),Rel E h w.heap→FR E g G→G.kind= .normal→∀cl base,∃cv w' E',Steps P (lone G (cl::base) w) (lone (cl.finish cv) base w') ∧VR E' v cv∧Rel E' h' w'.heap∧Ext E h w E' h' w'
theorem aJY {E:Emb}{h:Hp}{w:World}(r:Rel E h w.heap){tm:T AV}{ρ:Operand→Value}{o:Oper}(hρ:Reads E tm ρ (· ∈o.op.operands)){id:Nat}(hid:E id=none){a:AV}{ob0:AObj}(h0:oU P tm id o=some (a,ob0)) :
  ∃ob n cv,noFrz ob=true∧ (execOp ρ o).run P w= .ok (.value cv) {w with heap:=w.heap.push ob}∧VR (E.put id ⟨w.heap.size,0,n⟩) a cv∧OR (E.put id ⟨w.heap.size,0,n⟩) (w.heap.push ob) ⟨w.heap.size,0,n⟩ ob0:=by
 have hle:∀n,E.le (E.put id ⟨w.heap.size,0,n⟩) :=fun n=>Emb.le_put hid;have hpush:∀ob,(w.heap.push ob)[w.heap.size]?=some ob:=fun ob=>by simp
 unfold oU at h0;unfold execOp;split at h0
 · rename_i e hop;rw [hop]at hρ;simp only [hop];split at h0
   · rename_i z hz;cases h0;obtain⟨cz,z1,z2⟩ :=iT hz;have hc:= (z2 E).cells;refine⟨.cells cz.cells e,cz.cells.size,.pointer (some ⟨w.heap.size,0,none⟩),rfl,by simp [Instr.alloc,z1,newVar,newRow],by simp only [VR];exact⟨_,Emb.put_same _ _ _,rfl⟩,?_⟩;exact xJ (C:=cz.cells) ⟨[],by simp⟩ (hc.mono (hle _)) (hpush _) _ (bH _) _ (le_refl _) _ _
   ·cases h0
 · rename_i t n ps hop;rw [hop]at hρ;simp only [hop];split at h0
   · rename_i l hl;split at h0
     · rename_i cs s hcs;cases h0;obtain⟨g1,g2⟩ :=hρ.parts (fun p hp=>by simp only [Op.operands,List.mem_toArray,zq24];exact⟨p,hp,rfl⟩) hl;obtain⟨out,e,k1,k2,k3⟩ :=rI (P:=P) r (qs:=ps.map fun(i,x) => (i,ρ x)) hcs (by rw [g1];simp) (by simpa [Function.comp_def]using g2);refine⟨.cells ⟨out⟩ e,out.length,.slice (some ⟨w.heap.size,0,none⟩) n n,rfl,by simp [k3 w],?_,?_⟩
       ·simp only [VR];exact⟨_,0,n,Emb.put_same _ _ _,rfl,le_refl _,le_refl _,fun _=>rfl,fun _=>rfl,by simpa using k2⟩
       ·exact xJ (C:= ⟨out⟩) ⟨[],by simp⟩ (k1.mono (hle _)) (hpush _) _ (bH _) _ (le_refl _) _ _
     ·cases h0
   ·cases h0
 ·cases h0
section
variable {call :bR} {ops:Array Oper} {nt:Nat} {R:Nat→RS} {A:Nat→AV} {E0:Emb} {h0:Hp} {w0:World} {fn:FuncId} {ds:List Deferred} {kd:CallKind} {ro:Option Nat} {k:List Item} {cs:List Frame}
theorem aMy (T:Trace P call ops.toList nt R A){D:Nat→Prop}[DecidablePred D]{j:Nat}{E:Emb}{w:World}{tmps:Array Value}(I:Inv P ops.toList nt R A E0 h0 w0 D j E w tmps){i:Nat}{o:Oper}(ho:ops.toList[i]?=some o)(hi:¬D i)(hm:Met D o)(todo:List Item) :
  Reads E (R i).tm (rf fn tmps todo ds kd ro).eval (· ∈o.op.operands) :=by
 intro x hx a ha;cases x with
 | tmp t=>
  simp only [cE]at ha;have hn:t∈nS ops.toList o:=by
   simp only [nS,zq28,List.mem_filterMap];exact .inr (.inl ⟨.tmp t,by simpa using hx,rfl⟩)
  rw [←T.view_ready I.closed I.lt ho hi hm hn]at ha;obtain⟨v,h1,h2⟩ :=I.tv t a ha;simp only [Frame.eval,aAR,h1];exact h2
 |const v=>exact aFx ha E
 |global g=>cases ha
 |func f=>simp only [cE]at ha;cases ha;simp only [Frame.eval,VR];exact⟨[],[],rfl,VRs.nil E,VRs.nil E⟩
theorem kE (T:Trace P call ops.toList nt R A){D:Nat→Prop}[DecidablePred D]{j:Nat}{E:Emb}{w:World}{tmps:Array Value}(I:Inv P ops.toList nt R A E0 h0 w0 D j E w tmps){i:Nat}{o:Oper}(ho:ops.toList[i]?=some o)(hi:¬D i)(hm:Met D o){b:Bool}
  (hw:cM (R i).tm ops.toList o=some b) :Region.wanted o (yielded ops tmps) =b:=by
 refine xX (E:=E) (tm:= (R i).tm) (fun g want hg o' ho' t ht a ha=>?_) hw;have hn:t∈nS ops.toList o:=by
  simp only [nS,zq28];refine .inr (.inr ?_);rw [hg];simp only [sU,ho',ht];simp
 rw [←T.view_ready I.closed I.lt ho hi hm hn]at ha;exact I.tv t a ha
theorem oP {tmps:Array Value}{i:Nat}{is:List Nat}{o:Oper}(ho:ops[i]?=some o)(v:Value) :
  (rf fn tmps (.inRegion ops (i::is) ::k) ds kd ro).finish v=rf fn (aBI o.dst v tmps) (.inRegion ops is::k) ds kd ro:=by
 rw [aH6,ho];rfl
theorem aFR {b hi a:Nat}{ob:AObj}:∀ {ps:List (Nat×Nat×AObj)},aFw b hi ps=some (a,ob) → (a,b,ob) ∈ps∧hi≤a
 | [],h=>by cases h
 | (a',id,o) ::ps,h=>by
  simp only [aFw]at h;cases hc: (beq id b&&Nat.ble hi a')with
  | true=>
   rw [hc]at h;simp only [cond]at h;cases h;rw [cF]at hc;obtain rfl:=iF hc.1;exact⟨dT ..,Nat.le_of_ble_eq_true hc.2⟩
  | false=>
   rw [hc]at h;simp only [cond]at h;obtain⟨h1,h2⟩ :=aFR h;exact⟨eD _ h1,h2⟩
theorem aWl {tm:T AV}{pend:List (Nat×Nat×AObj)}{hi:Nat}{o:Oper}{vs:List AV}(h:xB P tm pend hi o=some vs) :
  ∃s d x b off len c ez ex a t n1 n2 n3 el,o.op= .convert s d x∧cE tm x=some (.slice b off len c ez ex) ∧aFw b hi pend=some (a,.cells t n1 n2 n3) ∧P.underlying s=some (.slice el) ∧P.underlying d=some .string∧getCells t off len=some vs∧P.underlying el=some (.int .u8) :=by
 unfold xB at h;split at h
 · rename_i s d x hop;split at h
   · rename_i b off len c ez ex hx;split at h
     · rename_i a t n1 n2 n3 hp;split at h
       · rename_i e vs' h1 h2 h3;split at h
         · rename_i h4;cases h;exact⟨s,d,x,b,off,len,c,ez,ex,a,t,n1,n2,n3,e,hop,hx,hp,h1,h2,h3,h4⟩
         ·cases h
       ·cases h
     ·cases h
   ·cases h
 ·cases h
theorem aPx {j:Nat}{i:Nat}{o:Oper}(hc:dG o.op= .eff→bAO P call j)(T:Trace P call ops.toList nt R A)(hn0:h0.nb= (R 0).next){D D':Nat→Prop}[DecidablePred D][DecidablePred D']{E:Emb}{w:World}{tmps:Array Value}(I:Inv P ops.toList nt R A E0 h0 w0 D j E w tmps)(ho:ops.toList[i]?=some o)(hi:¬D i)(hm:Met D o)(hD':∀k,D' k↔ (D k∨k=i))(is:List Nat) :
  ∃j' E' w' tmps',Steps P (lone (rf fn tmps (.inRegion ops (i::is) ::k) ds kd ro) cs w) (lone (rf fn tmps' (.inRegion ops is::k) ds kd ro) cs w') ∧Inv P ops.toList nt R A E0 h0 w0 D' j' E' w' tmps':=by
 have hoa:ops[i]?=some o:=by rw [←sU];exact ho
 have hil:=uM ho;have hρ:=aMy (fn:=fn) (ds:=ds) (kd:=kd) (ro:=ro) T I ho hi hm (.inRegion ops (i::is) ::k);obtain⟨_,c⟩ :=T.step i o ho
 have unw:cM (R i).tm ops.toList o=some false→step P (lone (rf fn tmps (.inRegion ops (i::is) ::k) ds kd ro) cs w) = .next (lone (rf fn (aBI o.dst Go.undef tmps) (.inRegion ops is::k) ds kd ro) cs w) :=fun hw=>by
  rw [aAB hoa (kE T I ho hi hm hw),oP hoa]
 have value:∀ {hx:Hp} {h2:Hp} {a:AV} {w':World} {cv:Value},cM (R i).tm ops.toList o=some true→mS P hx (R i).tm o=some (.val a h2) →
   ((execOp (rf fn tmps (.inRegion ops (i::is) ::k) ds kd ro).eval o).run P w= .ok (.value cv) w'∨ ((execOp (rf fn tmps (.inRegion ops (i::is) ::k) ds kd ro).eval o).run P w= .ok .skip w'∧cv=Go.undef)) →
   step P (lone (rf fn tmps (.inRegion ops (i::is) ::k) ds kd ro) cs w) = .next (lone (rf fn (aBI o.dst cv tmps) (.inRegion ops is::k) ds kd ro) cs w') :=fun hw h0 hr=>by
  have hd:=aIy h0;rcases hr with hr| ⟨hr,rfl⟩
  ·rw [aAX hoa (kE T I ho hi hm hw) (.inr hd) hr,oP hoa]
  ·rw [aFJ hoa (kE T I ho hi hm hw) (.inr hd) hr,oP hoa]
 have effStage:dG o.op= .eff→ (R i).h=bX ops.toList R j∧ (R (i+1)).h=bX ops.toList R (j+1) :=fun hk=>by
  have hq:=I.turn T ho hi hm hk;obtain⟨s1,s2⟩ :=T.sEff hq;have e1:=T.stage (i:=i) (by omega);have e2:=T.stage (i:=i+1) (by omega);rw [s1]at e1;rw [s2]at e2;exact⟨e1.symm,e2.symm⟩
 have effS:dG o.op= .eff→ (R i).s=j:=fun hk=> (T.sEff (I.turn T ho hi hm hk)).1;cases c with
 | unwE hw ha hk e=>
  have hk':dG o.op= .eff:=hk;obtain⟨e1,e2⟩ :=effStage hk';obtain⟨p1,p2,p3⟩ :=I.publish T (I.waits T ho hi hm hk');have e3:bX ops.toList R (j+1) =aQ (bX ops.toList R j) j (R i).pend:=by
   rw [←e2,e,←e1,←effS hk']
  refine⟨j+1,E,w,_,.one (unw hw),I.effect T ho hi hm hk' hD' (by rw [ha];exact sW E) (by rw [e3];exact p1) ?_⟩;rw [e3];exact Ext.refl _ _ _
 | unwF hw ha hk e=>
  have hk':dG o.op= .fresh:=hk;exact⟨j,E,w,_,.one (unw hw),I.quiet T ho hi hm (by rw [hk'];decide) hD' (fun _=>hw) (by rw [ha];exact sW E)⟩
 | unwQ hw ha hk e=>
  have hk':dG o.op= .pure∨dG o.op= .read:=hk;exact⟨j,E,w,_,.one (unw hw),I.quiet T ho hi hm (by rcases hk' with hk'|hk'<;>rw [hk'] <;>decide) hD' (fun hf=>by rcases hk' with hk'|hk'<;>rw [hk']at hf<;>cases hf) (by rw [ha];exact sW E)⟩
 | pure hx hw hk hv e=>
  have hk':dG o.op= .pure:=hk;have hv':=aWk (o:=o) hk' hv (bX ops.toList R j);obtain⟨_,cv,g1,g2⟩ := (uJ I.rel hρ hv').2 (.inl hk');exact⟨j,E,w,_,.one (value hw hv' (.inl g1)),I.quiet T ho hi hm (by rw [hk'];decide) hD' (fun hf=>by rw [hk']at hf;cases hf) g2⟩
 | read hx hw hk hv e=>
  have hk':dG o.op= .read:=hk;obtain⟨b1,b2⟩ :=T.window I.closed I.lt I.eff I.jle ho hi hm;obtain⟨c1,c2⟩ :=T.cnt i (by omega);obtain⟨a1,a2⟩ :=T.window (D:= (· <i)) (T.nat_closed i) (fun x hx=>by omega) (fun q e he=> (c2 q e he).symm) c1 ho (by omega) (T.idOk i o ho);have hv':∃hx,mS P (bX ops.toList R j) (R i).tm o=some (.val (A i) hx) :=by
   by_cases hlh:bF4 ops.toList i=yB ops.toList i
   · have: (R i).s=j:=by omega
     exact⟨hx,by rw [←this,T.stage (by omega)];exact hv⟩
   · have hmem: (⟨o,(R i).tm,bF4 ops.toList i,yB ops.toList i,A i⟩ :Again) ∈ (R (i+1)).again:=by
      rw [e];simp only;rw [bQ];have:decide ((uK ops.toList i o).lo= (uK ops.toList i o).hi) =false:=by
       rw [decide_eq_false_iff_not];exact hlh
      rw [this];exact dT ..
     have hmem':=T.again_mem (ops.toList.length- (i+1)) (i+1) (by omega) _ hmem;rw [show i+1+ (ops.toList.length- (i+1)) =ops.toList.length by omega]at hmem';have hj:=I.jle;have hse:=T.sEnd;exact T.again _ hmem' ((R ops.toList.length).s-j) _ (T.stage_get (k:=j) (by omega)) (by omega) (by simp only;omega) (by simp only;omega)
  obtain⟨hx',hv'⟩ :=hv';obtain⟨_,cv,g1,g2⟩ := (uJ I.rel hρ hv').2 (.inr hk');exact⟨j,E,w,_,.one (value hw hv' (.inl g1)),I.quiet T ho hi hm (by rw [hk'];decide) hD' (fun hf=>by rw [hk']at hf;cases hf) g2⟩
 | own vs hw hk hv h1 e=>
  have hk':dG o.op= .read:=hk;obtain⟨b1,b2⟩ :=T.window I.closed I.lt I.eff I.jle ho hi hm;have hv0:xB P (R i).tm (R i).pend (yB ops.toList i) o=some vs:=hv;obtain⟨s,d,x,b,off,len,c,ez,ex,a,t,n1,n2,n3,el,g1,g2,g3,g4,g5,g6,g7⟩ :=aWl hv0;obtain⟨m1,m2⟩ :=aFR g3;obtain⟨f,o',q1,q2,q3,q4,q5,q6,q7⟩ :=T.pend_mem i (by omega) a b _ m1;obtain⟨L,_,_,hE,_⟩ :∃L off' cap,E b=some L∧True:=by
   have:=hρ x (by rw [g1];simp [Op.operands]) _ g2;simp only [VR]at this;obtain⟨L,o1,c1,k1,_⟩ :=this;exact⟨L,o1,c1,k1,trivial⟩
  have hD:D f:=by
   refine Classical.byContradiction fun hn=>?_;have:=I.und f o' hn q2 q3;rw [←q7,hE]at this;cases this
  have hpd:Pd P ops.toList R A D j f (.cells t n1 n2 n3) := ⟨hD,⟨o',q2,q3,q4,q5⟩,by omega⟩;have hr:=I.lookIn T hpd;rw [←q7]at hr;have hv':mS P ((bX ops.toList R j).set b (.cells t n1 n2 n3)) (R i).tm o=some (.val (A i) ((bX ops.toList R j).set b (.cells t n1 n2 n3))) :=by
   unfold mS;simp only [kA,g1,ev1,g2,wV,g4,g5,g6,Hp.loadN,aY,if_true,g7,h1,val]
  obtain⟨_,cv,y1,y2⟩ := (uJ hr hρ hv').2 (.inr hk');exact⟨j,E,w,_,.one (value hw hv' (.inl y1)),I.quiet T ho hi hm (by rw [hk'];decide) hD' (fun hf=>by rw [hk']at hf;cases hf) y2⟩
 | fresh aob hw hk hv e=>
  have hk':dG o.op= .fresh:=hk;obtain⟨ob,n,cv,hz,g1,g2,g3⟩ :=aJY I.rel hρ (I.und i o hi ho hk') hv
  refine⟨j,_,_,_,.one ?_,I.alloc T ho hi hm hk' hD' hn0 hz g2 (fun aob' h'=>by
   have hv2:oU P (R i).tm (R i).next o=some (A i,aob) :=hv
   rw [hv2]at h';cases h';exact g3)⟩
  have hd:∀c,o.op≠ .defer c:=fun c hc'=>by rw [hc']at hk';cases hk'
  rw [aAX hoa (kE T I ho hi hm hw) (.inr hd) g1,oP hoa]
 | eff h2 hw hk hv e=>
  have hk':dG o.op= .eff:=hk;obtain⟨e1,e2⟩ :=effStage hk';obtain⟨p1,p2,p3⟩ :=I.publish T (I.waits T ho hi hm hk');have e3:bX ops.toList R (j+1) =h2:=by rw [←e2,e]
  rw [effS hk',e1]at hv;rcases hv with hv| ⟨c,hv,hcv⟩
  · obtain⟨E',w',cv,g1,g2,g3,g4⟩ :=nF p1 hρ hv;refine⟨j+1,E',w',_,.one (value hw hv g1),I.effect T ho hi hm hk' hD' g2 (by rw [e3];exact g3) ?_⟩;rw [e3];exact g4
  · obtain⟨g,hg,hcall⟩ :=hc hk' c _ _ _ hcv;have hout:=nF p1 hρ hv;obtain⟨nx,G,g1,g2,g3⟩ :=sF p1 hg hout;have hd:=aFP hv;have hkG:G.kind= .normal:=by
     rcases g2 with⟨f,args,_,rfl⟩ | ⟨l,f,t,aS,bd,_,rfl⟩ <;>rfl
    obtain⟨cv,w',E',s1,s2,s3,s4⟩ :=hcall E w G p1 g3 hkG (rf fn tmps (.inRegion ops (i::is) ::k) ds kd ro) cs;refine⟨j+1,E',w',_,?_,I.effect T ho hi hm hk' hD' s2 (by rw [e3];exact s3) (by rw [e3];exact s4)⟩;rw [oP hoa]at s1;rcases g2 with⟨f,args,rfl,rfl⟩ | ⟨l,f,t,aS,bd,rfl,rfl⟩
    ·exact .head (aFK hoa (kE T I ho hi hm hw) (.inr hd) g1) s1
    ·exact .head (aFL hoa (kE T I ho hi hm hw) (.inr hd) g1) s1
theorem aTY (hc:eP P call)(T:Trace P call ops.toList nt R A)(hn0:h0.nb= (R 0).next){D D':Nat→Prop}[DecidablePred D][DecidablePred D']{j:Nat}{E:Emb}{w:World}{tmps:Array Value}(I:Inv P ops.toList nt R A E0 h0 w0 D j E w tmps){i:Nat}{o:Oper}(ho:ops.toList[i]?=some o)(hi:¬D i)(hm:Met D o)(hD':∀k,D' k↔ (D k∨k=i))(is:List Nat) :
  ∃j' E' w' tmps',Steps P (lone (rf fn tmps (.inRegion ops (i::is) ::k) ds kd ro) cs w) (lone (rf fn tmps' (.inRegion ops is::k) ds kd ro) cs w') ∧Inv P ops.toList nt R A E0 h0 w0 D' j' E' w' tmps':=
 aPx (fun _=>hc j) T hn0 I ho hi hm hD' is
theorem aPy (hc:eP P call)(T:Trace P call ops.toList nt R A)(hn0:h0.nb= (R 0).next){is:List Nat}{D:Nat→Bool}(hl:Legal ops.toList D is) :∀ {j:Nat} {E:Emb} {w:World} {tmps:Array Value},Inv P ops.toList nt R A E0 h0 w0 (fun k=>D k=true) j E w tmps →
  ∃ (D':Nat→Bool) (j':Nat) (E':Emb) (w':World) (tmps':Array Value),Steps P (lone (rf fn tmps (.inRegion ops is::k) ds kd ro) cs w) (lone (rf fn tmps' (.inRegion ops [] ::k) ds kd ro) cs w') ∧Inv P ops.toList nt R A E0 h0 w0 (fun k=>D' k=true) j' E' w' tmps'∧∀i,i<ops.toList.length→D' i=true:=by
 induction hl with
 | @nil D h=>intro j E w tmps I;exact⟨D,j,E,w,tmps,Steps.refl _ _,I,h⟩
 | @cons D i is o h1 h2 h3 h4 ih=>
  intro j E w tmps I;obtain⟨j',E',w',tmps',s1,I'⟩ :=aTY (D':=fun k=> (D k||k==i) =true) (fn:=fn) (ds:=ds) (kd:=kd) (ro:=ro) (k:=k) (cs:=cs) hc T hn0 I h1 (by simp [h2]) h3 (fun k=>by simp) is;obtain⟨D2,j2,E2,w2,tmps2,s2,I2,hall⟩ :=ih I';exact⟨D2,j2,E2,w2,tmps2,s1.trans s2,I2,hall⟩
end
theorem aD0 {call:bR}{i:Nat}{l:List Oper}:∀ {e:List Plan} {r d:RS},oV P call i l e r=some d→d.next=r.next+qA e
 | [],r,d,b=>by simp [oV]at b;subst b;rfl
 | p ::e,r,d,b=>by
  simp only [oV]at b;split at b
  · rename_i j f;obtain⟨a,_,c⟩ :=aDZ f;have h:=aD0 b;have g:=c.next
    rw [h,g];simp only [qA];cases hk:p.kd<;>simp [hk] <;>omega
  ·cases b
theorem aWm {call:bR}{k:Nat}{ops:Array Oper}{tm:T AV}{h:Hp}{r:RS}(f: (kS ops).ok=true)
  (u:oV P call k (kS ops).ops (kS ops).plans {tm,h:={h with nb:=h.nb+ (kS ops).fresh},stages:=[],s:=0,pend:=[],next:=h.nb,again:=[]}=some r)
  (n:zN P (r.h::r.stages) r.s r.again) :
  ∃ (R:Nat→RS) (A:Nat→AV),Trace P call ops.toList k R A∧R 0= {tm,h:={h with nb:=h.nb+ (kS ops).fresh},stages:=[],s:=0,pend:=[],next:=h.nb,again:=[]}∧R ops.toList.length=r∧∀i p,(kS ops).plans[i]?=some p→pF P call k (kS ops).ops p (R i) =some (R (i+1)) :=by
 obtain⟨R,d,l,v⟩ :=aBK u;have j: (kS ops).plans.length=ops.toList.length:=yA _ _ _ _
 have g:∀i o,ops.toList[i]?=some o→ (kS ops).plans[i]?=some (uK ops.toList i o) :=fun i o b=>by
  have:=aDY (lZ ops.toList []) (fY ops.toList 0) ops.toList 0 i;rw [b,Option.map_some,eX]at this;exact this
 have c:∀i,∃a,∀o,ops.toList[i]?=some o→kJ (R i).tm k o.dst a=some (R (i+1)).tm∧RC P call ops.toList (uK ops.toList i o) (R i) (R (i+1)) a:=fun i=>by
  cases b:ops.toList[i]? with
  |none=>exact⟨.undef,fun o h=>by cases h⟩
  | some o=>
   obtain⟨a,q,m⟩ :=aDZ (v i _ (g i o b));exact⟨a,fun D h=>by cases h;exact⟨q,m⟩⟩
 obtain⟨A,hA⟩ :=Classical.axiomOfChoice c;rw [j]at l;simp only [kS,cF]at f;obtain⟨⟨⟨⟨B,y⟩,w⟩,F⟩,C⟩ :=f;refine⟨R,A,⟨fun i o b=>hA i o b,B,y,fun i o b e he hb=>?_,by rw [d],by rw [d],by rw [d],by rw [d],?_,by rw [l];exact n⟩,d,l,v⟩
 · have t:=uM b;obtain⟨q,m⟩ :=xZ w i o b e he hb;have hr:∀x,x<ops.size→ (List.range ops.size).getD x 0=x:=fun x z=>by simp [hQ,z]
   rw [eX,hr _ q,hr _ (by simpa using t)]at m;exact m
 ·rw [l,aD0 u,d];exact le_refl _
theorem aTZ {a:T AV}{b:Nat→Option Nat}{A:Nat→AV}{D:Nat→Prop}[DecidablePred D](c:∀k,¬D k)(n t:Nat) :eJ a b A D n t=a.at t:=by
 rw [zM (i:=0) (zero_le n) (fun k _ _ _=>c k)];rfl
theorem aAG {call:bR}(hc:eP P call){F:Nat}{ops:Array Oper}{tm:T AV}{h:Hp}{d:RS}(z: (kS ops).ok=true)
  (M:oV P call F (kS ops).ops (kS ops).plans {tm,h:={h with nb:=h.nb+ (kS ops).fresh},stages:=[],s:=0,pend:=[],next:=h.nb,again:=[]}=some d)
  (K:zN P (d.h::d.stages) d.s d.again) {E:Emb} {w:World} {tmps:Array Value} (r:Rel E h w.heap) (v:TR E tm F tmps)
  (id:Nat) (fn:FuncId) (ds:List Deferred) (kd:CallKind) (ro:Option Nat) (k:List Item) (cs:List Frame) :
  ∃u w' c,Steps P (lone (rf fn tmps (.code (.region id ops true) ::k) ds kd ro) cs w) (lone (rf fn c k ds kd ro) cs w') ∧TR u d.tm F c∧Rel u (aQ d.h d.s d.pend) w'.heap∧Ext E h w u (aQ d.h d.s d.pend) w':=by
 obtain⟨R,A,T,n,C,_⟩ :=aWm z M K;have j:bX ops.toList R 0= {h with nb:=h.nb+ (kS ops).fresh}:=by
  have:=T.stage (i:=0) (zero_le _);rw [T.s0]at this;rw [this,n]
 have I:Inv P ops.toList F R A E h w (fun k=> (fun _:Nat=>false) k=true) 0 E {w with drawn:=w.drawn+1} tmps:=by
  refine⟨fun i o _ hd=>by simp at hd,fun i hd=>by simp at hd,fun q e _=>by simp,zero_le _,?_,by rw [j,n];exact le_refl _,?_,v.1,fun t a B=>?_,fun f o _ ho hk=>?_,fun f ob p=>?_,fun f ob p=>?_,by rw [n],fun b o hb hE=>?_,fun f g ob ob' L L' p=>?_⟩
  · rw [j];exact⟨Emb.le.refl E,le_refl _,fun _ _ _=>rfl,fun b o L H D i U _=> ⟨b,o,L,H,D,U⟩,Nat.le_add_right _ _,rfl,rfl,rfl,fun _ _=>rfl,fun _ _=>rfl,fun _ _ e _=>.inl e,fun _ o e _=> ⟨o,e⟩⟩
  ·rw [j];exact r.sub (fun _ _ e=>e) (Nat.le_add_right _ _)
  · rw [aTZ (by simp),n]at B;exact v.2 t a B
  · have:= (T.id_lt ho hk).1;rw [n]at this;exact r.fresh _ this
  ·have:=p.done;simp at this
  ·have:=p.done;simp at this
  ·rw [j]at hb;exact .inl (r.keys b o hb)
  ·have:=p.done;simp at this
 obtain⟨Z,m,u,w',c,W,y,l⟩ :=aPy (fn:=fn) (ds:=ds) (kd:=kd) (ro:=ro) (k:=k) (cs:=cs) hc T (by rw [n]) (aFN z (P.follows .mixedOrders) (w.tape w.drawn (.order fn id))) I;have Q:m=d.s:=by
  rw [←C,T.sEnd];have:=y.jle;rcases lt_or_ge m (fY ops.toList 0).length with g|g
  · have he: (fY ops.toList 0)[m]?=some ((fY ops.toList 0)[m]) :=kH g;obtain⟨_,D,_⟩ := (jA ops.toList 0).1 _ _ he;have:= (y.eff _ _ he).1 (l _ (by omega));omega
  ·omega
 have J:∀x ob,(m,x,ob) ∈d.pend→∃f,Pd P ops.toList R A (fun k=>Z k=true) m f ob∧yB ops.toList f=m∧x= (R f).next:=fun x ob S=>by
  rw [←C]at S;obtain⟨f,o,H,D,h3,h4,V,Y,X⟩ :=T.pend_mem _ (le_refl _) m x ob S;exact⟨f,⟨l f H,⟨o,D,h3,h4,V⟩,by omega⟩,Y.symm,X⟩
 obtain⟨N,O,_⟩ :=y.publish T J;have G:bX ops.toList R m=d.h:=by rw [Q,←C];exact T.stage (le_refl _)
 rw [G,Q]at N O;refine⟨u,w',c,.head (bAJ id) (W.trans (.one aAC)),⟨y.size,fun t a B=>?_⟩,N,O⟩;refine y.tv t a ?_;rw [←C,T.view t _ (le_refl _)]at B;rw [←B];exact uL fun k hk _=> ⟨fun _=>trivial,fun _=>l k hk⟩
theorem aJZ {call:bR}(hc:eP P call){i:Nat}{ops:Array Oper}{tm tm':T AV}{h h':Hp}(a:aEO P call i ops tm h=some (tm',h')){E:Emb}{w:World}{tmps:Array Value}(r:Rel E h w.heap)(g:TR E tm i tmps)
  (id:Nat) (fn:FuncId) (ds:List Deferred) (kd:CallKind) (ro:Option Nat) (k:List Item) (cs:List Frame) :
  ∃f w' b,Steps P (lone (rf fn tmps (.code (.region id ops true) ::k) ds kd ro) cs w) (lone (rf fn b k ds kd ro) cs w') ∧TR f tm' i b∧Rel f h' w'.heap∧Ext E h w f h' w':=by
 unfold aEO at a;simp only at a;cases d: (kS ops).ok with
 |false=>rw [d]at a;cases a
 | true=>
  rw [d]at a;simp only [cond]at a;split at a
  · rename_i e j;cases c:sV P (e.h::e.stages) e.s e.again with
    |false=>rw [c]at a;cases a
    | true=>
     rw [c]at a;simp only [Option.some.injEq,Prod.mk.injEq]at a;obtain⟨rfl,rfl⟩ :=a;exact aAG hc d j (aFO c) r g id fn ds kd ro k cs
  ·cases a
end
section
variable {P :Program} {E:Emb} {h h':Hp} {w w':World}
theorem yE {l:Nat}{L:Loop}{ob':Obj}(hl:w.heap[l]?=some (.loop L)) : (setObj l ob').run P w= .ok () (cI w l ob') :=uF hl (fun _ _ _ e=>by cases e)
theorem aBN (r:Rel E h w.heap){l:Nat}{L:Loc}(hE:E l=some L){st pe fn tm nt ps aS bd df}(hl:h.look l=some (.loop st pe fn tm nt ps aS bd df)) :
  ∃tmps b,w.heap[L.blk]?=some (.loop {state:=st,pending:=pe,fn,tmps,params:= ⟨ps⟩,assign:=aS,body:=bd,defers:=b.blk}) ∧E df=some b∧TR E tm nt tmps:=by
 obtain⟨d,a,c⟩ :=r.obj _ _ hl;rw [hE]at a;cases a;exact c
theorem sG (r:Rel E h w.heap){l:Nat}{L:Loc}(hE:E l=some L){st pe fn tm nt ps aS bd df tmps}{c:Loc}(hl:h.look l=some (.loop st pe fn tm nt ps aS bd df))(hd:E df=some c)(e:TR E tm nt tmps)(a:LoopState)(b:Option Code) :
  Rel E (h.set l (.loop a b fn tm nt ps aS bd df)) (cI w L.blk (.loop {state:=a,pending:=b,fn,tmps,params:= ⟨ps⟩,assign:=aS,body:=bd,defers:=c.blk})).heap ∧
  Ext E h w E (h.set l (.loop a b fn tm nt ps aS bd df)) (cI w L.blk (.loop {state:=a,pending:=b,fn,tmps,params:= ⟨ps⟩,assign:=aS,body:=bd,defers:=c.blk})) :=
 r.setObj (.loop {state:=a,pending:=b,fn,tmps,params:= ⟨ps⟩,assign:=aS,body:=bd,defers:=c.blk}) hl hE rfl rfl (fun f d=> ⟨tmps,c,d,hd,e⟩)
theorem aC8 (r:Rel E h w.heap){l:Nat}{L:Loc}(hE:E l=some L){pe fn tm nt ps aS bd df}(hl:h.look l=some (.loop .ready pe fn tm nt ps aS bd df)) :
  ∃w',(Instr.beginRound L.blk).run P w= .ok () w'∧Rel E (h.set l (.loop .busy pe fn tm nt ps aS bd df)) w'.heap∧Ext E h w E (h.set l (.loop .busy pe fn tm nt ps aS bd df)) w':=by
 obtain⟨a,e,b,d,c⟩ :=aBN r hE hl;have:=sG r hE hl d c .busy pe;exact⟨_,by simp [Instr.beginRound,run_getLoop b,yE b],this⟩
theorem yF (r:Rel E h w.heap){l:Nat}{L:Loc}(hE:E l=some L){a:Option Code}(b:lM h l a=some h') :
  ∃w',(Instr.endRound L.blk a).run P w= .ok (.bool a.isNone) w'∧Rel E h' w'.heap∧Ext E h w E h' w':=by
 unfold lM at b;split at b
 · rename_i st o fn p i m g k j hl;cases b;obtain⟨c,n,d,f,e⟩ :=aBN r hE hl;have:=sG r hE hl f e (match a with|none=>.ready|some _=>.done) a;refine⟨_,?_,this⟩;cases a<;>simp [Instr.endRound,run_getLoop d,yE d]
 ·cases b
theorem aH9 (r:Rel E h w.heap){l:Nat}{L:Loc}(hE:E l=some L){st pe fn tm nt ps aS bd df}(a:st≠ .busy)(hl:h.look l=some (.loop st pe fn tm nt ps aS bd df)) :
  ∃w',(Instr.endLoop L.blk).run P w= .ok pe w'∧Rel E (h.set l (.loop .exhausted pe fn tm nt ps aS bd df)) w'.heap∧Ext E h w E (h.set l (.loop .exhausted pe fn tm nt ps aS bd df)) w':=by
 obtain⟨b,f,c,e,d⟩ :=aBN r hE hl;have:=sG r hE hl e d .exhausted pe;refine⟨_,?_,this⟩;cases st<;>first|exact absurd rfl a|simp [Instr.endLoop,run_getLoop c,yE c]
theorem qD (r:Rel E h w.heap){b:Nat}{L:Loc}(hE:E b=some L)(hb:h.look b=some (.defd false)) :
  ∃w',(Instr.takeDeferred L.blk).run P w= .ok [] w'∧Rel E (h.set b (.defd true)) w'.heap∧Ext E h w E (h.set b (.defd true)) w':=by
 obtain⟨k,c,i⟩ :=r.obj _ _ hb;rw [hE]at c;cases c;have:=r.setObj (o':=.defd true) (.deferred none) hb hE rfl rfl (fun j d=>d);have a:w.heap[L.blk]?=some (.deferred (some [])) :=i;refine⟨cI w L.blk (.deferred none),?_,this⟩;have g: (getObj L.blk).run P w= .ok (.deferred (some [])) w:=by simp [getObj,Sem.run,a]
 have f: (setObj L.blk (.deferred none)).run P w= .ok () (cI w L.blk (.deferred none)) :=uF a (fun _ _ _ e=>by cases e);simp [Instr.takeDeferred,g,f]
theorem aFS (r:Rel E h w.heap){fn:FuncId}{tm:T AV}{e:Nat}{tmps:Array Value}(l:TR E tm e tmps)(ps:List Nat)(b d:Code) :
  ∃ (L j:Loc) (w':World) (a:Emb),(Instr.enterLoop fn tmps ⟨ps⟩ b d none).run P w= .ok (L.blk,[{target:=.collected j.blk,args:= #[]}]) w'∧a h.nb=some j∧a (h.nb+1) =some L ∧
   Rel a ((h.new (.defd false)).new (.loop .ready none fn tm e ps b d h.nb)) w'.heap∧Ext E h w a ((h.new (.defd false)).new (.loop .ready none fn tm e ps b d h.nb)) w':=by
 obtain⟨k,i⟩ :=r.new (.defd false) (.deferred (some [])) 0 (fun _ _ _ _ f=>f)
 obtain⟨m,g⟩ :=Rel.new (w:={w with heap:=w.heap.push (.deferred (some []))}) k (.loop .ready none fn tm e ps b d h.nb)
  (.loop {state:=.ready,pending:=none,fn,tmps,params:= ⟨ps⟩,assign:=b,body:=d,defers:=w.heap.size}) 0
  (fun a n c _ f=> ⟨tmps,⟨w.heap.size,0,0⟩,f,c.1 _ _ (Emb.put_same _ _ _),(l.mono i.le).mono c⟩)
 refine⟨⟨(w.heap.push (.deferred (some []))).size,0,0⟩,⟨w.heap.size,0,0⟩,_,_,?_,?_,Emb.put_same _ _ _,m,i.trans g⟩
 · simp [Instr.enterLoop,newObj,Sem.run];rfl
 ·exact g.le.1 _ _ (Emb.put_same _ _ _)
theorem aFT (r:Rel E h w.heap){o:Nat}{i:Loc}(hE:E o=some i){st pe fn' tm' nt' ps' as' bd' df}(hl:h.look o=some (.loop st pe fn' tm' nt' ps' as' bd' df)){fn:FuncId}{tm:T AV}{e:Nat}{tmps:Array Value}(l:TR E tm e tmps)(ps:List Nat)(a c:Code) :
  ∃ (L:Loc) (w':World) (d:Emb),(Instr.enterLoop fn tmps ⟨ps⟩ a c (some i.blk)).run P w= .ok (L.blk,[]) w'∧d h.nb=some L ∧
   Rel d (h.new (.loop .ready none fn tm e ps a c df)) w'.heap∧Ext E h w d (h.new (.loop .ready none fn tm e ps a c df)) w':=by
 obtain⟨f,g,n,p,q⟩ :=aBN r hE hl
 obtain⟨m,k⟩ :=r.new (.loop .ready none fn tm e ps a c df)
  (.loop {state:=.ready,pending:=none,fn,tmps,params:= ⟨ps⟩,assign:=a,body:=c,defers:=g.blk}) 0
  (fun d s b _ j=> ⟨tmps,g,j,b.1 _ _ p,l.mono b⟩)
 exact⟨_,_,_,by simp [Instr.enterLoop,run_getLoop n,newObj,Sem.run],Emb.put_same _ _ _,m,k⟩
def aIz (tmps:Array Value) :ResultVar→Sem Value
 | .tmp t=>pure (tmps.getD t Go.undef)
 | .cell a t=>do loadVar t (←asAddr (tmps.getD a Go.undef))
theorem aPz (fd:Func)(tmps:Array Value) :results fd tmps= (do let vs ←fd.results.mapM (aIz tmps);pure (if h:vs.size=1 then vs[0]else .tuple vs) :Sem Value) :=by
 unfold results;rfl
theorem yG {fd:Func}{tm:T AV}{C:Nat}{tmps:Array Value}(r:Rel E h w.heap)(q:TR E tm C tmps){f:List AV}(d:mA P h tm fd.results.toList=some f) :
  ∃cv,(results fd tmps).run P w= .ok cv w∧VR E (aCY f) cv:=by
 have key :∀ (m:List ResultVar) (f:List AV) (c:Array Value),mA P h tm m=some f→∃cvs,(m.foldlM (fun(s:Array Value) a=>Functor.map s.push (aIz tmps a)) c).run P w= .ok (c++ (⟨cvs⟩ :Array Value)) w∧VRs E f cvs:=by
  intro m
  induction m with
  |nil=>intro f c d;simp [mA]at d;subst d;exact⟨[],by simp,VRs.nil E⟩
  | cons x m F=>
   intro f c d;simp only [mA]at d;split at d
   · rename_i v o i A;cases d;have H:∃cv,(aIz tmps x).run P w= .ok cv w∧VR E v cv:=by
      unfold aSi at i;split at i
      · rename_i t;obtain⟨cv,l,j⟩ :=q.2 _ _ i;exact⟨cv,by simp [aIz,aAR,l],j⟩
      · rename_i a t;split at i
        · rename_i b y hb;obtain⟨cv,l,j⟩ :=q.2 _ _ hb;simp only [VR]at j;obtain⟨L,D,rfl⟩ :=j;obtain⟨cv,k,g⟩ :=aDU r i D;exact⟨cv,by simp [aIz,aAR,l,asAddr,k],g⟩
        ·cases i
     obtain⟨cv,k,g⟩ :=H;obtain⟨cvs,z,G⟩ :=F o (c.push cv) A;refine⟨cv::cvs,?_,VRs.cons g G⟩;rw [List.foldlM_cons,Sem.run_bind,Sem.run_map,k];simp only [Result.andThen_ok];rw [z];congr 1;apply Array.ext';simp
   ·cases d
 obtain⟨cvs,k,g⟩ :=key _ _ #[] d;have hm: (fd.results.mapM (aIz tmps)).run P w= .ok (⟨cvs⟩ :Array Value) w:=by
  rw [Array.mapM_eq_foldlM,←Array.foldlM_toList,k];congr 1;apply Array.ext';simp
 rw [aPz];simp only [Sem.run_bind,hm,Result.andThen_ok,Sem.run_pure];refine⟨_,rfl,?_⟩;have n:=g.length;unfold aCY;split
 · rename_i v;obtain⟨u,I,rfl,l,j⟩ :=g.cons_inv;rw [j.nil_inv];exact l
 · rename_i B
   have:¬ (⟨cvs⟩ :Array Value).size=1:=fun e=>by
    have p:cvs.length=1:=e
    match f,n with
    | [x],_=>exact B x rfl
    | [],h=>simp [p]at h
    |_::_::_,h=>simp [p]at h
   rw [dif_neg this];simp only [VR];exact⟨cvs,rfl,g⟩
theorem CR.noGoexit :∀ {c:List (AV×Bool)} {a:List PanicEntry},CR E c a→a.dropWhile (!·.goexit) = []
 | [],_,h=>by simp only [CR]at h;subst h;rfl
 | _::_,_,h=>by
  simp only [CR]at h;obtain⟨v,a,rfl,_,b⟩ :=h;simp [b.noGoexit]
theorem aJ0 {a:AMode}{m:FrameMode}(d:MR E a m) :MR E (aJE a) (settle m) :=by
 cases a with
 |run=>simp only [MR]at d;subst d;exact rfl
 |ret=>simp only [MR]at d;subst d;exact rfl
 | pan c=>
  simp only [MR]at d;obtain⟨k,rfl,e⟩ :=d;cases c with
  |nil=>simp only [CR]at e;subst e;exact⟨[],rfl,by simp [CR]⟩
  | cons x l=>
   obtain⟨v,b⟩ :=x;have f:=e;simp only [CR]at e;obtain⟨i,g,rfl,j,h⟩ :=e;cases b with
   |true=>simp only [aJE,settle,h.noGoexit];exact rfl
   |false=>exact⟨_,rfl,f⟩
theorem yH {a:AFrame}{c:Frame}(f:FR E a c){g:List (AV×Bool)}{ps:List PanicEntry}(d:CR E g ps) :FR E (a.raise g) (c.raise ps) :=by
 unfold AFrame.raise Frame.raise;have hm:=f.mode;cases b:a.mode with
 |run=>rw [b]at hm;simp only [MR]at hm;rw [hm];exact⟨f.fn,f.tm,f.todo,f.defers,⟨ps,rfl,d⟩,f.kind,f.round⟩
 |ret=>rw [b]at hm;simp only [MR]at hm;rw [hm];exact⟨f.fn,f.tm,f.todo,f.defers,⟨ps,rfl,d⟩,f.kind,f.round⟩
 | pan e=>
  rw [b]at hm;simp only [MR]at hm;obtain⟨qs,i,h⟩ :=hm;rw [i];exact⟨f.fn,f.tm,f.todo,f.defers,⟨_,rfl,d.append h⟩,f.kind,f.round⟩
theorem uN (id:Nat) :∀ {k f:List AItem} {m:List Item},nT id k=some f→IRs E k m→∃a,exitTo id m=some a∧IRs E f a
 | [],_,_,h,_=>by simp [nT]at h
 | i ::k,f,m,h,r=>by
  obtain⟨n,l,rfl,c,g⟩ :=r.cons_inv;cases i<;>simp only [nT]at h<;>simp only [IR]at c
  case inBlock d=>
   subst c;rw [bQ]at h;simp only [exitTo];by_cases e:d=id
   · simp only [e,decide_true,cond,Option.some.injEq]at h;subst h;exact⟨l,by simp [e],g⟩
   · simp only [e,decide_false,cond]at h;obtain⟨a,b,j⟩ :=uN id h g;exact⟨a,by simp [e,b],j⟩
  all_goals
   obtain⟨a,b,j⟩ :=uN id h g;refine⟨a,?_,j⟩
   first
    | (subst c;simpa [exitTo]using b)
    | (obtain⟨L,_,rfl⟩ :=c;simpa [exitTo]using b)
    | (obtain⟨rfl,_⟩ :=c;simpa [exitTo]using b)
theorem rJ (id:Nat) :∀ {k:List AItem} {d:List Item},nT id k=none→IRs E k d→exitTo id d=none
 | [],_,_,r=>by rw [r.nil_inv];rfl
 | i ::k,d,h,r=>by
  obtain⟨j,g,rfl,a,f⟩ :=r.cons_inv;cases i<;>simp only [nT]at h<;>simp only [IR]at a
  case inBlock c=>
   subst a;rw [bQ]at h;simp only [exitTo];by_cases e:c=id
   ·simp only [e,decide_true,cond]at h;cases h
   · simp only [e,decide_false,cond]at h;simp [e,rJ id h f]
  all_goals
   have b:=rJ id h f
   first
    | (subst a;simpa [exitTo]using b)
    | (obtain⟨L,_,rfl⟩ :=a;simpa [exitTo]using b)
    | (obtain⟨rfl,_⟩ :=a;simpa [exitTo]using b)
theorem uO (l:Nat) :∀ {k f:List AItem} {n:List Item},nU l k=some f→IRs E k n→∃a,gotoIn l n=some a∧IRs E f a
 | [],_,_,h,_=>by simp [nU]at h
 | i ::k,f,n,h,r=>by
  obtain⟨o,m,rfl,e,g⟩ :=r.cons_inv;cases i<;>simp only [nU]at h<;>simp only [IR]at e
  case inScope d=>
   subst e;simp only [gotoIn];split at h
   · rename_i b hr;cases h;exact⟨.code b:: .inScope d::m,by simp [hr],IRs.cons rfl (IRs.cons rfl g)⟩
   · rename_i hr;obtain⟨a,c,j⟩ :=uO l h g;exact⟨a,by simp [hr,c],j⟩
  all_goals
   obtain⟨a,c,j⟩ :=uO l h g;refine⟨a,?_,j⟩
   first
    | (subst e;simpa [gotoIn]using c)
    | (obtain⟨L,_,rfl⟩ :=e;simpa [gotoIn]using c)
    | (obtain⟨rfl,_⟩ :=e;simpa [gotoIn]using c)
theorem rK (l:Nat) :∀ {k:List AItem} {c:List Item},nU l k=none→IRs E k c→gotoIn l c=none
 | [],_,_,r=>by rw [r.nil_inv];rfl
 | i ::k,c,h,r=>by
  obtain⟨g,f,rfl,a,d⟩ :=r.cons_inv;cases i<;>simp only [nU]at h<;>simp only [IR]at a
  case inScope e=>
   subst a;simp only [gotoIn];split at h
   ·cases h
   · rename_i hr;simp [hr,rK l h d]
  all_goals
   have b:=rK l h d
   first
    | (subst a;simpa [gotoIn]using b)
    | (obtain⟨L,_,rfl⟩ :=a;simpa [gotoIn]using b)
    | (obtain⟨rfl,_⟩ :=a;simpa [gotoIn]using b)
def Goes (P:Program)(E:Emb)(h:Hp)(fr:Frame)(cs:List Frame)(w:World)(base:List Frame)(s':AS) :Prop:=
 ∃E' fr' cs' w',Steps P (lone fr (cs++base) w) (lone fr' (cs'++base) w') ∧FR E' s'.fr fr'∧FRs E' s'.cs cs'∧Rel E' s'.h w'.heap∧Ext E h w E' s'.h w'
section
variable {fn :FuncId} {tmps:Array Value} {ds:List Deferred} {kd:CallKind} {ro:Option Nat} {k:List Item} {ccs base:List Frame} {todo:List Item}
theorem drop_cons {a:Type}{l:List a}{i:Nat}{x:a}{xs:List a}(h:x::xs=l.drop i) :l[i]?=some x∧xs=l.drop (i+1) :=by
 have b: (l.drop i)[0]?=some x:=by rw [←h];rfl
 rw [List.getElem?_drop,Nat.add_zero]at b;refine⟨b,?_⟩;have:l.drop (i+1) = (l.drop i).drop 1:=by rw [List.drop_drop]
 rw [this,←h];rfl
theorem aMz {all:Array Oper}{i:Nat}{o:Oper}{rest:List Oper}{b:Item}(a:IR E (.ops all i (o::rest)) b) :
  b= .inRegion all (i::range' (i+1) rest.length) ∧all[i]?=some o∧IR E (.ops all (succ i) rest) (.inRegion all (range' (i+1) rest.length)) :=by
 simp only [IR]at a;obtain⟨rfl,e⟩ :=a;obtain⟨c,d⟩ :=drop_cons e;exact⟨by simp [List.range'_succ],by rw [←sU];exact c,rfl,d⟩
theorem aBO {c q:AFrame}{v:AV}{n:Frame}{cv:Value}(a:c.finish v=some q)(f:FR E c n)(s:VR E v cv) :FR E q (n.finish cv) :=by
 unfold AFrame.finish at a;have b:=f.todo;split at a
 · rename_i all i o p k g;split at a
   · rename_i u h;cases a;rw [g]at b;obtain⟨x,t,e,d,j⟩ :=b.cons_inv;obtain⟨rfl,m,w⟩ :=aMz d;have r:=aFM f.tm h s;unfold Frame.finish;rw [e];simp only [m,Option.bind_some];refine⟨f.fn,?_,IRs.cons w j,f.defers,f.mode,f.kind,f.round⟩;unfold aBI at r;exact r
   ·cases a
 · rename_i l k g;cases a;rw [g]at b;obtain⟨x,t,e,d,j⟩ :=b.cons_inv;simp only [IR]at d;obtain⟨L,m,rfl⟩ :=d;unfold Frame.finish;rw [e];exact⟨f.fn,f.tm,IRs.cons ⟨L,m,rfl⟩ j,f.defers,f.mode,f.kind,f.round⟩
 ·cases a
theorem aAH {fr:AFrame}{cfr:Frame}(hk:cfr.kind=fr.kind){cs:List AFrame}(fs:FRs E cs ccs){v:AV}{cv:Value}{f:AS}(d:aBv fr cs v h=some f)(j:VR E v cv) :
  ∃c b,ccs=c::b∧FR E f.fr (handed cfr c cv) ∧FRs E f.cs b∧f.h=h∧ (cfr.kind= .normal∨cfr.kind= .deferred) :=by
 unfold aBv at d;split at d
 ·cases d
 · rename_i c cs;obtain⟨k,b,rfl,e,i⟩ :=fs.cons_inv;refine⟨k,b,rfl,?_⟩;split at d
   · rename_i a;split at d
     · rename_i l g;cases d;refine⟨?_,i,rfl,.inl (by rw [hk,a])⟩;simp only [handed,hk,a];exact aBO g e j
     ·cases d
   · rename_i a;cases d;refine⟨?_,i,rfl,.inr (by rw [hk,a])⟩;simp only [handed,hk,a];exact⟨e.fn,e.tm,e.todo,e.defers,aJ0 e.mode,e.kind,e.round⟩
   ·cases d
theorem Goes.one {s':AS}{fr fr':Frame}{cs':List Frame}{E':Emb}(h1:step P (lone fr (ccs++base) w) = .next (lone fr' (cs'++base) w'))(f:FR E' s'.fr fr')(fs:FRs E' s'.cs cs')(r:Rel E' s'.h w'.heap)(x:Ext E h w E' s'.h w') :Goes P E h fr ccs w base s':=
 ⟨E',fr',cs',w',.one h1,f,fs,r,x⟩
theorem uP {l:Nat}(hr:RR E (some l) ro) :∃L,E l=some L∧ro=some L.blk:=by simpa only [RR]using hr
theorem pI {fr:AFrame}{cs:List AFrame}{a:Option Code}{s':AS}(r:Rel E h w.heap)(f:FR E fr (rf fn tmps todo ds kd ro))(fs:FRs E cs ccs)(b:sC fr cs h a=some s')
  (m: (todo= [] ∧a=none) ∨ (∃k,todo= .code .ret::k∧a=some .ret) ∨ (∃id k,todo= .code (.exit id) ::k∧a=some (.exit id) ∧exitTo id k=none) ∨ (∃t k,todo= .code (.goto t) ::k∧a=some (.goto t) ∧gotoIn t k=none)) :
  Goes P E h (rf fn tmps todo ds kd ro) ccs w base s':=by
 unfold sC at b;have d:=f.round;split at b
 · rename_i g;rw [g]at d;simp only [RR]at d;subst d
   have i:∀j,(step P (lone (rf fn tmps j ds kd none) (ccs++base) w) = .next (lone {rf fn tmps j ds kd none with mode:=.returning} (ccs++base) w)) →j=todo→some ⟨{fr with mode:=.ret},cs,h⟩ =some s'→Goes P E h (rf fn tmps todo ds kd none) ccs w base s':=fun j s e b=>by
    cases b;subst e;exact Goes.one s ⟨f.fn,f.tm,f.todo,f.defers,rfl,f.kind,by rw [show({fr with mode:=AMode.ret}:AFrame).roundOf=fr.roundOf from rfl,g];exact rfl⟩ fs r (Ext.refl _ _ _)
   split at b
   · rcases m with⟨e,_⟩ | ⟨_,_,e⟩ | ⟨_,_,_,e,_⟩ | ⟨_,_,_,e,_⟩
     ·exact i [] bFZ e.symm b
     ·cases e
     ·cases e
     ·cases e
   · rcases m with⟨_,e⟩ | ⟨k,e,_⟩ | ⟨_,_,_,e,_⟩ | ⟨_,_,_,e,_⟩
     ·cases e
     ·exact i _ bF3 e.symm b
     ·cases e
     ·cases e
   ·cases b
 · rename_i l g;rw [g]at d;obtain⟨L,hE,rfl⟩ :=uP d;split at b
   · rename_i C o;obtain⟨B,y,z,v⟩ :=yF (P:=P) r hE o;have q:VR E (.bool a.isNone) (.bool a.isNone) :=by simp only [VR]
     obtain⟨c,n,rfl,x,u,p,A⟩ :=aAH (cfr:=rf fn tmps todo ds kd (some L.blk)) f.kind fs b q;refine Goes.one (cs':=n) (xT A m y) x u (by rw [p];exact z) (by rw [p];exact v)
   ·cases b
theorem FR.run {fr:AFrame}{c:Frame}(f:FR E fr c)(hm:fr.mode= .run) :c=rf c.fn c.tmps c.todo c.defers c.kind c.roundOf:=by
 have:=f.mode;rw [hm]at this;simp only [MR]at this;cases c;simp only at this;subst this;rfl
theorem iH {fr:AFrame}{cs:List AFrame}{s':AS}{b:List AItem}{a:List Item}(r:Rel E h w.heap)(f:FR E fr (rf fn tmps todo ds kd ro))(hm:fr.mode= .run)(fs:FRs E cs ccs)(c:toC fr b cs h=some s')(d:IRs E b a)
  (h1:step P (lone (rf fn tmps todo ds kd ro) (ccs++base) w) = .next (lone (rf fn tmps a ds kd ro) (ccs++base) w)) :Goes P E h (rf fn tmps todo ds kd ro) ccs w base s':=by
 unfold toC at c;cases c;exact Goes.one h1 ⟨f.fn,f.tm,d,f.defers,f.mode,f.kind,f.round⟩ fs r (Ext.refl _ _ _)
theorem aT0 (r:Rel E h w.heap){fr:AFrame}{cs:List AFrame}{call:bR}{all:Array Oper}{i:Nat}{o:Oper}{rest:List Oper}{ak:List AItem}(hm:fr.mode= .run)(V:fr.todo= .ops all i (o::rest) ::ak)
  (f:FR E fr (rf fn tmps todo ds kd ro)) (fs:FRs E cs ccs) {s':AS} (m:mB P call ⟨fr,cs,h⟩ =some s') :Goes P E h (rf fn tmps todo ds kd ro) ccs w base s':=by
 unfold mB at m;simp only [hm,V]at m;have ft:=f.todo;rw [V]at ft;obtain⟨it,k,e,i1,Y⟩ :=ft.cons_inv;simp only at e;subst e;obtain⟨rfl,I,S⟩ :=aMz i1;have hd: (all[i]?).bind (·.dst) =o.dst:=by rw [I];rfl
 have a:∀ {b},cM fr.tm all.toList o=some b→Region.wanted o (yielded all tmps) =b:=fun h=>aH8 f.tm h;have B:=TR.reads (E:=E) f.tm fn (.inRegion all (i::range' (i+1) rest.length) ::k) ds kd ro (· ∈o.op.operands)
 have put:∀ {X:Emb} {s:T AV} {v:AV} {C:Value},E.le X→kJ fr.tm fr.nt o.dst v=some s→VR X v C→TR X s fr.nt (match o.dst with|some d=>tmps.setIfInBounds d C|none=>tmps) :=fun hle hp hv=>by
  have:=aFM (f.tm.mono hle) hp hv;unfold aBI at this;exact this
 split at m
 ·cases m
 · rename_i L;split at m
   · rename_i s n;cases m;refine Goes.one (aAB I (a L)) ⟨f.fn,?_,IRs.cons S Y,f.defers,by simp only [hm];exact rfl,f.kind,f.round⟩ fs r (Ext.refl _ _ _);simp only [Frame.finish,hd];exact put (Emb.le.refl E) n (sW E)
   ·cases m
 · rename_i L;split at m
   · rename_i v h2 j;split at m
     · rename_i s n;cases m;have y:=aIy j;obtain⟨X,w',C,z,Q,U,J⟩ :=nF r B j;have ff:FR X {fr with tm:=s,todo:=.ops all (succ i) rest::ak,mode:=.run} ((rf fn tmps (.inRegion all (i::range' (i+1) rest.length) ::k) ds kd ro).finish C) :=by
        simp only [Frame.finish,hd];exact⟨f.fn,put J.le n Q,IRs.cons (S.mono J.le) (Y.mono J.le),f.defers.mono J.le,by simp only [hm];exact rfl,f.kind,f.round.mono J.le⟩
       rcases z with z| ⟨z,rfl⟩
       ·exact Goes.one (aAX I (a L) (.inr y) z) ff (fs.mono J.le) U J
       ·exact Goes.one (aFJ I (a L) (.inr y) z) ff (fs.mono J.le) U J
     ·cases m
   · rename_i c j;unfold sD at m;split at m
     · rename_i g hg;cases m;have y:=aFP j;obtain⟨nx,G,z,Q,U⟩ :=sF r hg (nF r B j);have W:FRs E (fr::cs) (rf fn tmps (.inRegion all (i::range' (i+1) rest.length) ::k) ds kd ro::ccs) :=FRs.cons f fs;rcases Q with⟨f',args,rfl,rfl⟩ | ⟨l,f',t,aS,bd,rfl,rfl⟩
       ·exact Goes.one (aFK I (a L) (.inr y) z) U W r (Ext.refl _ _ _)
       ·exact Goes.one (aFL I (a L) (.inr y) z) U W r (Ext.refl _ _ _)
     ·cases m
   · rename_i d j;split at m
     · rename_i s K n;cases m;have u:=f.round;rw [K]at u;simp only [RR]at u;subst u;obtain⟨cd,z,Q⟩ :=nF r B j;refine Goes.one (aMt I (a L) z) ?_ fs r (Ext.refl _ _ _);simp only [Frame.finish,hd];exact⟨f.fn,put (Emb.le.refl E) n (sW E),IRs.cons S Y,DRs.cons Q f.defers,by simp only [hm];exact rfl,f.kind,by simp only [K];exact rfl⟩
     ·cases m
   · rename_i v j;cases m;obtain⟨C,z,Q⟩ :=nF r B j;have y:∀c,o.op≠ .defer c:=by
      intro c hc;unfold mS at j;split at j
      ·rename_i r hr;cases j;obtain⟨d,e⟩ :=aAY c hc hr;cases e
      ·rw [aC6 c hc]at j;cases j
     exact Goes.one (aMu I (a L) (.inr y) z) (yH f (ps:=[{v:=C,recovered:=false}]) ⟨C,[],rfl,Q,rfl⟩) fs r (Ext.refl _ _ _)
   · rename_i j;split at m
     · rename_i c cs' K hkd;have u:=f.round;rw [K]at u;simp only [RR]at u;subst u;have fk:=f.kind;rw [hkd]at fk;simp only at fk;subst fk;obtain⟨R,p,rfl,M,f2⟩ :=fs.cons_inv;have z: (execOp (rf fn tmps (.inRegion all (i::range' (i+1) rest.length) ::k) ds .deferred none).eval o).run P w= .ok .recover w:=nF r B j;have D:=aH5 (P:=P) (k:=k) (ds:=ds) (cs:=p++base) (fn:=fn) (rest:=range' (i+1) rest.length) (tmps:=tmps) I (a L) (c:=R) z;have A:=M.mode;split at m
       · rename_i v older q;split at m
         · rename_i s n;cases m;rw [q]at A;simp only [MR,CR]at A;obtain⟨ps,e1,C,N,rfl,H,e3⟩ :=A;rw [e1]at D;simp only at D;refine Goes.one (cs':={R with mode:=.panicking ({v:=C,recovered:=true}::N)}::p) D ?_ (FRs.cons ⟨M.fn,M.tm,M.todo,M.defers,⟨_,rfl,C,N,rfl,H,e3⟩,M.kind,M.round⟩ f2) r (Ext.refl _ _ _);simp only [Frame.finish,hd];exact⟨f.fn,put (Emb.le.refl E) n H,IRs.cons S Y,f.defers,by simp only [hm];exact rfl,f.kind,f.round⟩
         ·cases m
       · rename_i hno;split at m
         · rename_i s n;cases m;have Z:step P (lone (rf fn tmps (.inRegion all (i::range' (i+1) rest.length) ::k) ds .deferred none) (R:: (p++base)) w) = .next (lone ((rf fn tmps (.inRegion all (i::range' (i+1) rest.length) ::k) ds .deferred none).finish .nilIface) (R:: (p++base)) w) :=by
            rw [D];split
            · rename_i v older q;exfalso;cases F:c.mode with
              |run=>rw [F]at A;simp only [MR]at A;rw [A]at q;cases q
              |ret=>rw [F]at A;simp only [MR]at A;rw [A]at q;cases q
              | pan O=>
               rw [F]at A;simp only [MR]at A;obtain⟨ps,e1,H⟩ :=A;rw [e1]at q;cases q;cases O with
               |nil=>simp only [CR]at H;cases H
               | cons x xs=>
                obtain⟨xv,xb⟩ :=x;simp only [CR]at H;obtain⟨C,N,H,_,_⟩ :=H;cases H;exact hno _ _ F
            ·rfl
           refine Goes.one (cs':=R::p) Z ?_ (FRs.cons M f2) r (Ext.refl _ _ _);simp only [Frame.finish,hd];exact⟨f.fn,put (Emb.le.refl E) n (by simp only [VR]),IRs.cons S Y,f.defers,by simp only [hm];exact rfl,f.kind,f.round⟩
         ·cases m
     ·cases m
   ·cases m
end
section
variable {fn :FuncId} {tmps:Array Value} {ds:List Deferred} {kd:CallKind} {ro:Option Nat} {ccs base:List Frame} {todo:List Item}
theorem aWn (r:Rel E h w.heap){fr:AFrame}{cs:List AFrame}{call:bR}{g:Operand}{ps:Array Nat}{assign body:Code}{ak:List AItem}(hm:fr.mode= .run)(htd:fr.todo= .code (.rangeFunc g ps assign body) ::ak)
  (f:FR E fr (rf fn tmps todo ds kd ro)) (fs:FRs E cs ccs) {s':AS} (h0:mB P call ⟨fr,cs,h⟩ =some s') :Goes P E h (rf fn tmps todo ds kd ro) ccs w base s':=by
 unfold mB at h0;simp only [hm,htd]at h0;have ft:=f.todo;rw [htd]at ft;obtain⟨it,k,e,i1,i2⟩ :=ft.cons_inv;simp only at e;subst e;simp only [IR]at i1;subst i1;have hfn:fn=fr.fn:=f.fn;split at h0
 ·cases h0
 · rename_i fv hfv;have fr0:=f.round
   have res:∀ {E':Emb} {h2:Hp} {w2:World} {L:Loc} {la:Nat} {mark:List Deferred} {todo':List AItem} {defers':List ADef} {c:AIn},Ext E h w E' h2 w2→Rel E' h2 w2.heap→E' la=some L →
     (Instr.enterLoop fn tmps ps assign body ro).run P w= .ok (L.blk,mark) w2→wY P fv [.yield la] =some (.call c) →DRs E' defers' (mark++ds) →IRs E' todo' (.inRangeFunc L.blk::k) →
     sD P {fr with todo:=todo',defers:=defers'} cs h2 c=some s'→Goes P E h (rf fn tmps (.code (.rangeFunc g ps assign body) ::k) ds kd ro) ccs w base s':=by
    intro E' h2 w2 L la mark todo' defers' c x r2 hL he hc hds htd' h0;unfold sD at h0;split at h0
    · rename_i G hG;cases h0;have hρ:=TR.reads (E:=E') (f.tm.mono x.le) fn (.inRangeFunc L.blk::k) (mark++ds) kd ro (fun _=>True);obtain⟨d,k1,k2⟩ :=aBA (P:=P) (cargs:=[.func (.yield L.blk) #[] #[]]) r2 hc (hρ g trivial _ hfv) (VRs.cons (by simp only [VR];exact⟨L,hL,rfl⟩) (VRs.nil E'));obtain⟨nx,CG,g1,g2,g3⟩ :=sF r2 hG k2;have hres: (resolve (rf fn tmps (.inRangeFunc L.blk::k) (mark++ds) kd ro).eval {callee:=.value g,args:= #[.const (.func (.yield L.blk) #[] #[])],argTypes:= #[]} 0).run P w2= .ok d w2:=by
       simp only [resolve];rw [show(#[Operand.const (.func (.yield L.blk) #[] #[])] :Array Operand).map (rf fn tmps (.inRangeFunc L.blk::k) (mark++ds) kd ro).eval= ⟨[.func (.yield L.blk) #[] #[]]⟩from by simp [Frame.eval]];exact k1
      exact Goes.one (cs':=rf fn tmps (.inRangeFunc L.blk::k) (mark++ds) kd ro::ccs) (aJT he hres g1 g2) g3
       (FRs.cons ⟨f.fn,f.tm.mono x.le,htd',hds,by simp only [hm];exact rfl,f.kind,f.round.mono x.le⟩ (fs.mono x.le)) r2 x
    ·cases h0
   have hps:ps= ⟨ps.toList⟩ :=rfl;split at h0
   · rename_i hro;rw [hro]at fr0;simp only [RR]at fr0;subst fr0;obtain⟨L,Ld,w2,E',e1,e2,e3,r2,x⟩ :=aFS (P:=P) r f.tm ps.toList assign body (fn:=fn);split at h0
     · rename_i c hc;refine res (E':=E') (w2:=w2) (L:=L) (la:=h.nb+1) (mark:=[{target:=.collected Ld.blk,args:= #[]}]) (todo':=.inRF (h.nb+1) ::ak) (defers':=.col h.nb::fr.defers) (h2:= (h.new (.defd false)).new (.loop .ready none fr.fn fr.tm fr.nt ps.toList assign body h.nb)) (c:=c) ?_ ?_ e3 e1 hc ?_ ?_ ?_
       ·rw [←hfn];exact x
       ·rw [←hfn];exact r2
       ·exact DRs.cons ⟨Ld,e2,rfl⟩ (f.defers.mono x.le)
       ·exact IRs.cons ⟨L,e3,rfl⟩ (i2.mono x.le)
       ·simp only [hm];exact h0
     ·cases h0
   · rename_i o hro;rw [hro]at fr0;obtain⟨Lo,hEo,rfl⟩ :=uP fr0;split at h0
     · rename_i st pe fn' tm' nt' ps' as' bd' df hl;obtain⟨L,w2,E',e1,e3,r2,x⟩ :=aFT (P:=P) r hEo hl f.tm ps.toList assign body (fn:=fn);split at h0
       · rename_i c hc;refine res (E':=E') (w2:=w2) (L:=L) (la:=h.nb) (mark:=[]) (todo':=.inRF h.nb::ak) (defers':=fr.defers) (h2:=h.new (.loop .ready none fr.fn fr.tm fr.nt ps.toList assign body df)) (c:=c) ?_ ?_ e3 e1 hc ?_ ?_ ?_
         ·rw [←hfn];exact x
         ·rw [←hfn];exact r2
         ·exact f.defers.mono x.le
         ·exact IRs.cons ⟨L,e3,rfl⟩ (i2.mono x.le)
         ·simpa [hm,hro]using h0
       ·cases h0
     ·cases h0
theorem yI {call:bR}(hc:eP P call){s s':AS}(h0:mB P call s=some s'){fr:Frame}(f:FR E s.fr fr)(fs:FRs E s.cs ccs)(r:Rel E s.h w.heap)(base:List Frame) :Goes P E s.h fr ccs w base s':=by
 obtain⟨afr,cs,h⟩ :=s;simp only at f fs r ⊢;cases hm:afr.mode with
 | run =>
  have e:=f.run hm;generalize fr.fn=fn at e;generalize fr.tmps=tmps at e;generalize fr.todo=todo at e;generalize fr.defers=ds at e;generalize fr.kind=kd at e;generalize fr.roundOf=ro at e;subst e;have ft:=f.todo;simp only at ft;cases htd:afr.todo with
  | nil=>
   rw [htd]at ft;have e:=ft.nil_inv;subst e;unfold mB at h0;simp only [hm,htd]at h0;exact pI r f fs h0 (.inl ⟨rfl,rfl⟩)
  | cons it ak=>
   rw [htd]at ft;obtain⟨ci,ck,e,i1,i2⟩ :=ft.cons_inv;subst e;have h00:=h0;unfold mB at h0;simp only [hm,htd]at h0;cases it with
   | code c=>
    simp only [IR]at i1;subst i1;cases c with
    |ret=>exact pI r f fs h0 (.inr (.inl ⟨ck,rfl,rfl⟩))
    |skip=>exact iH r f hm fs h0 i2 bAH
    |label l=>exact iH r f hm fs h0 i2 (aWe l)
    |seq a b=>exact iH r f hm fs h0 (IRs.cons rfl (IRs.cons rfl i2)) (bFY a b)
    | cond c x y=>
     simp only at h0;have hρ:=TR.reads (E:=E) f.tm fn (.code (.cond c x y) ::ck) ds kd ro (fun _=>True);split at h0
     · rename_i hcv;have:=hρ c trivial _ hcv;simp only [VR]at this;exact iH r f hm fs h0 (IRs.cons rfl i2) (aSj c x y true this)
     · rename_i hcv;have:=hρ c trivial _ hcv;simp only [VR]at this;exact iH r f hm fs h0 (IRs.cons rfl i2) (aSj c x y false this)
     ·cases h0
    |block id c=>exact iH r f hm fs h0 (IRs.cons rfl (IRs.cons rfl i2)) (aWf id c)
    |loop c=>exact iH r f hm fs h0 (IRs.cons rfl (IRs.cons rfl i2)) (bAI c)
    |scope c=>exact iH r f hm fs h0 (IRs.cons rfl (IRs.cons rfl i2)) (aWg c)
    | exit id=>
     simp only at h0;split at h0
     · rename_i k' hk';obtain⟨ck',g1,g2⟩ :=uN id hk' i2;exact iH r f hm fs h0 g2 (bAK id g1)
     · rename_i hk';exact pI r f fs h0 (.inr (.inr (.inl ⟨id,ck,rfl,rfl,rJ id hk' i2⟩)))
    | goto l=>
     simp only at h0;split at h0
     · rename_i k' hk';obtain⟨ck',g1,g2⟩ :=uO l hk' i2;exact iH r f hm fs h0 g2 (bAL l g1)
     · rename_i hk';exact pI r f fs h0 (.inr (.inr (.inr ⟨l,ck,rfl,rfl,rK l hk' i2⟩)))
    | region id ops draw=>
     cases draw with
     | false=>
      refine iH r f hm fs h0 (IRs.cons ⟨?_,rfl⟩ i2) (aTW id);rw [List.range_eq_range'];simp
     | true=>
      simp only at h0;split at h0
      · rename_i tm' h' hr;cases h0;obtain⟨E',w',tmps',s1,t1,r1,x1⟩ :=aJZ hc hr r f.tm id fn ds kd ro ck (ccs++base);exact⟨E',_,ccs,w',s1,⟨f.fn,t1,i2.mono x1.le,f.defers.mono x1.le,by simp only [hm];exact rfl,f.kind,f.round.mono x1.le⟩,fs.mono x1.le,r1,x1⟩
      ·cases h0
    |rangeFunc g ps assign body=>exact aWn r hm htd f fs h00
    |refuse _=>cases h0
   |inBlock id=>simp only [IR]at i1;subst i1;exact iH r f hm fs h0 i2 (aPr id)
   |inLoop c=>simp only [IR]at i1;subst i1;exact iH r f hm fs h0 (IRs.cons rfl (IRs.cons rfl i2)) (aTV c)
   |inScope c=>simp only [IR]at i1;subst i1;exact iH r f hm fs h0 i2 (aPs c)
   | ops all i rest=>
    cases rest with
    | nil=>
     simp only [IR]at i1;obtain⟨rfl,_⟩ :=i1;exact iH r f hm fs h0 i2 (by simpa using aAC)
    |cons o rest=>exact aT0 r hm htd f fs h00
   |inRF l=>cases h0
   |junk=>cases h0
   | endRF l=>
    simp only [IR]at i1;obtain⟨L,hE,rfl⟩ :=i1;simp only at h0;split at h0
    ·cases h0
    · rename_i st pe fn' tm' nt' ps' as' bd' df hno hl;cases h0;obtain⟨w',g1,g2,g3⟩ :=aH9 (P:=P) r hE (fun e=>hno e) hl;refine Goes.one (cs':=ccs) (aWh g1) ⟨f.fn,f.tm,?_,f.defers,by simp only [hm];exact rfl,f.kind,f.round⟩ fs g2 g3;cases pe with
      |none=>simpa using i2
      |some c=>simpa using IRs.cons (E:=E) (a:=.code c) (i:=.code c) rfl i2
    ·cases h0
   | beginRound=>
    simp only [IR]at i1;subst i1;simp only at h0;split at h0
    ·cases h0
    · rename_i l hro;have fr0:=f.round;rw [hro]at fr0;obtain⟨L,hE,rfl⟩ :=uP fr0;split at h0
      · rename_i pe fn' tm' nt' ps' as' bd' df hl;cases h0;obtain⟨w',g1,g2,g3⟩ :=aC8 (P:=P) r hE hl;exact Goes.one (cs':=ccs) (aH7 g1) ⟨f.fn,f.tm,i2,f.defers,by simp only [hm];exact rfl,f.kind,by simp only [hro];exact⟨L,hE,rfl⟩⟩ fs g2 g3
      ·cases h0
 | ret =>
  have fm:=f.mode;rw [hm]at fm;simp only [MR]at fm;have hnr:fr.mode≠ .run:=by rw [fm];intro e;cases e
  have fd:=f.defers;unfold mB at h0;simp only [hm]at h0;split at h0
  · rename_i b dl hdl;rw [hdl]at fd;obtain⟨d,ds',e,d1,d2⟩ :=fd.cons_inv;obtain⟨L,hE,rfl⟩ :=d1;split at h0
    · rename_i hb;cases h0;obtain⟨w',g1,g2,g3⟩ :=qD (P:=P) r hE hb;exact Goes.one (cs':=ccs) (aBH hnr e g1) ⟨f.fn,f.tm,f.todo,d2,by simp only [hm];exact fm,f.kind,f.round⟩ fs g2 g3
    ·cases h0
  · rename_i g args dl hdl;rw [hdl]at fd;obtain⟨d,ds',e,d1,d2⟩ :=fd.cons_inv;obtain⟨cap,a,rfl,ha⟩ :=d1;cases hcl:fG P g with
    |false=>rw [hcl]at h0;cases h0
    | true=>
     rw [hcl]at h0;simp only [cond]at h0;split at h0
     · rename_i G hG;cases h0;have:=kD hG ha;refine Goes.one (cs':={fr with defers:=ds'}::ccs) (aDX hnr e hcl) ?_ (FRs.cons ⟨f.fn,f.tm,f.todo,d2,by simp only [hm];exact fm,f.kind,f.round⟩ fs) r (Ext.refl _ _ _);rw [show(⟨a⟩ :Array Value) ++ ⟨cap⟩ = ⟨a++cap⟩by apply Array.ext';simp];exact this
     ·cases h0
  · rename_i hdl;rw [hdl]at fd;have e:=fd.nil_inv;split at h0
    ·cases h0
    · rename_i fdd hfd;split at h0
      · rename_i vs hvs;obtain⟨cv,g1,g2⟩ :=yG r f.tm hvs;obtain⟨c,cs1,rfl,k1,k2,k3,k4⟩ :=aAH f.kind fs h0 g2;refine Goes.one (cs':=cs1) (aMv fm e (by rw [f.fn];exact hfd) g1 k4) k1 k2 (by rw [k3];exact r) (by rw [k3];exact Ext.refl _ _ _)
      ·cases h0
 | pan chain=>
  have fm:=f.mode;rw [hm]at fm;simp only [MR]at fm;obtain⟨ps,fm,hcr⟩ :=fm;have hnr:fr.mode≠ .run:=by rw [fm];intro e;cases e
  have fd:=f.defers;unfold mB at h0;simp only [hm]at h0;split at h0
  · rename_i b dl hdl;rw [hdl]at fd;obtain⟨d,ds',e,d1,d2⟩ :=fd.cons_inv;obtain⟨L,hE,rfl⟩ :=d1;split at h0
    · rename_i hb;cases h0;obtain⟨w',g1,g2,g3⟩ :=qD (P:=P) r hE hb;exact Goes.one (cs':=ccs) (aBH hnr e g1) ⟨f.fn,f.tm,f.todo,d2,by simp only [hm];exact⟨ps,fm,hcr⟩,f.kind,f.round⟩ fs g2 g3
    ·cases h0
  · rename_i g args dl hdl;rw [hdl]at fd;obtain⟨d,ds',e,d1,d2⟩ :=fd.cons_inv;obtain⟨cap,a,rfl,ha⟩ :=d1;cases hcl:fG P g with
    |false=>rw [hcl]at h0;cases h0
    | true=>
     rw [hcl]at h0;simp only [cond]at h0;split at h0
     · rename_i G hG;cases h0;have:=kD hG ha;refine Goes.one (cs':={fr with defers:=ds'}::ccs) (aDX hnr e hcl) ?_ (FRs.cons ⟨f.fn,f.tm,f.todo,d2,by simp only [hm];exact⟨ps,fm,hcr⟩,f.kind,f.round⟩ fs) r (Ext.refl _ _ _);rw [show(⟨a⟩ :Array Value) ++ ⟨cap⟩ = ⟨a++cap⟩by apply Array.ext';simp];exact this
     ·cases h0
  · rename_i hdl;rw [hdl]at fd;have e:=fd.nil_inv;split at h0
    · rename_i fdd c cs' hfd;cases h0;obtain⟨cc,ccs',rfl,f1,f2⟩ :=fs.cons_inv;exact Goes.one (cs':=ccs') (xU fm e (by rw [f.fn];exact hfd)) (yH f1 hcr) f2 r (Ext.refl _ _ _)
    ·cases h0
end
def GrownO (W W':World) :Prop:=W.keptBut W' (fun _=>False) ∧ (∀a:Addr,a.block<W.heap.size→W'.frozen? a=W.frozen? a) ∧W.heap.size≤W'.heap.size
theorem aD1 {s:AS}{v:AV}{h':Hp}(a:xC P s=some (v,h')){fr:Frame}(f:FR E s.fr fr)(r:Rel E s.h w.heap)(z:Frame)(base:List Frame) :
  s.cs= [] ∧∃o w',step P (lone fr (z::base) w) = .next (lone (z.finish o) base w') ∧VR E v o∧Rel E h' w'.heap∧Ext E s.h w E h' w':=by
 obtain⟨u,R,h⟩ :=s;unfold xC at a;simp only at a f r ⊢;split at a
 · rename_i hk;refine⟨rfl,?_⟩;have y:=f.kind;rw [hk]at y;have A:=f.mode;have I:=f.defers;have p:=f.round;have j:=f.todo
   have i:∀ {l:Nat} {c:Option Code} {n:Hp} {b:Bool},u.mode= .run→u.roundOf=some l→lM h l c=some n→b=c.isNone →
     ((fr.todo= [] ∧c=none) ∨ (∃k,fr.todo= .code .ret::k∧c=some .ret) ∨ (∃id k,fr.todo= .code (.exit id) ::k∧c=some (.exit id) ∧exitTo id k=none) ∨ (∃t k,fr.todo= .code (.goto t) ::k∧c=some (.goto t) ∧gotoIn t k=none)) →
     some (AV.bool b,n) =some (v,h') →∃o w',step P (lone fr (z::base) w) = .next (lone (z.finish o) base w') ∧VR E v o∧Rel E h' w'.heap∧Ext E h w E h' w':=by
    intro l c n b hm hl he hb N a;cases a;rw [hl]at p;obtain⟨L,hE,M⟩ :=uP p;have e:=f.run hm;rw [M,y]at e;obtain⟨O,B,D,K⟩ :=yF (P:=P) r hE he;rw [e];refine⟨.bool c.isNone,O,?_,by rw [hb];simp only [VR],D,K⟩;exact xT (.inl rfl) N B
   split at a
   · rename_i hm d;split at a
     · rename_i Q C H;rw [hm]at A;simp only [MR]at A;rw [C]at I;split at a
       · rename_i S F;cases a;obtain⟨o,B,D⟩ :=yG r f.tm F;refine⟨o,w,?_,D,r,Ext.refl _ _ _⟩;rw [aMv A I.nil_inv (by rw [f.fn];exact H) B (.inl y)];simp only [handed,y]
       ·cases a
     ·cases a
   · rename_i l hm d g;rw [g]at j;split at a
     · rename_i n he;exact i hm d he rfl (.inl ⟨j.nil_inv,rfl⟩) a
     ·cases a
   · rename_i l k hm d g;rw [g]at j;obtain⟨J,q,e,m,x⟩ :=j.cons_inv;simp only [IR]at m;subst m;split at a
     · rename_i n he;exact i hm d he rfl (.inr (.inl ⟨q,e,rfl⟩)) a
     ·cases a
   · rename_i l id k hm d g;rw [g]at j;obtain⟨J,q,e,m,x⟩ :=j.cons_inv;simp only [IR]at m;subst m;split at a
     ·cases a
     · rename_i G;split at a
       · rename_i n he;exact i hm d he rfl (.inr (.inr (.inl ⟨id,q,e,rfl,rJ id G x⟩))) a
       ·cases a
   · rename_i l t k hm d g;rw [g]at j;obtain⟨J,q,e,m,x⟩ :=j.cons_inv;simp only [IR]at m;subst m;split at a
     ·cases a
     · rename_i G;split at a
       · rename_i n he;exact i hm d he rfl (.inr (.inr (.inr ⟨t,q,e,rfl,rK t G x⟩))) a
       ·cases a
   ·cases a
 ·cases a
theorem aFU {call:bR}(hc:eP P call) :∀ {n:Nat} {s:AS} {v:AV} {i:Hp},aJF P call n s=some (v,i) →∀ (E:Emb) (w:World) (fr:Frame) (c:List Frame),FR E s.fr fr→FRs E s.cs c→Rel E s.h w.heap→∀g a,
  ∃e d h,Steps P (lone fr (c++g::a) w) (lone (g.finish e) a d) ∧VR h v e∧Rel h i d.heap∧Ext E s.h w h i d
 |0,s,v,i,b=>by simp [aJF]at b
 | n + 1,s,v,i,b=>by
  intro E w fr c f fs r g a;simp only [aJF]at b;split at b
  · rename_i x F;cases b;obtain⟨u,e,d,z,p,k,q⟩ :=aD1 F f r g a;rw [u]at fs;rw [fs.nil_inv];exact⟨e,d,E,.one z,p,k,q⟩
  · split at b
    · rename_i H l;obtain⟨t,j,m,C,G,y,o,B,D⟩ :=yI hc l f fs r (g::a);obtain⟨e,d,h,A,p,k,q⟩ :=aFU hc b t C j m y o B g a;exact⟨e,d,h,G.trans A,p,k,D.trans q⟩
    ·cases b
theorem uQ (n:Nat) :∀d,eP P (xE P n d)
 |0=>fun _ c h v j a=>by simp [xE]at a
 | d +1=>fun _ c h v j a=>by
  simp only [xE]at a;split at a
  · rename_i g e;refine⟨g,e,fun E w G r f hk p b=>?_⟩;obtain⟨l,k,i,q,o,m,s⟩ :=aFU (uQ n d) a E w G [] f rfl r p b;exact⟨l,k,i,q,o,m,s⟩
  ·cases a
noncomputable def aC9 (P:Program)(call:bR) :Nat→AS→Option AS
 |0,s=>some s
 | n+1,s=>match mB P call s with
  |some s'=>aC9 P call n s'
  |none=>none
def Leads (P:Program)(s s':AS) :Prop:=∀ (E:Emb) (fr:Frame) (ccs:List Frame) (w:World) (base:List Frame),FR E s.fr fr→FRs E s.cs ccs→Rel E s.h w.heap→Goes P E s.h fr ccs w base s'
theorem Leads.trans {a b c:AS}(h1:Leads P a b)(h2:Leads P b c) :Leads P a c:=fun E fr g w d f fs r=>by
 obtain⟨m,h,j,q,y,u,k,n,v⟩ :=h1 E fr g w d f fs r;obtain⟨t,i,l,s,z,x,e,p,o⟩ :=h2 m h j q d u k n;exact⟨t,i,l,s,y.trans z,x,e,p,v.trans o⟩
theorem Leads.refl (a:AS) :Leads P a a:=fun E fr b w c f fs r=> ⟨E,fr,b,w,Steps.refl _ _,f,fs,r,Ext.refl _ _ _⟩
theorem rM {call:bR}(hc:eP P call) :∀ {n:Nat} {s c:AS},aC9 P call n s=some c→Leads P s c
 |0,s,c,a=>by simp [aC9]at a;subst a;exact Leads.refl s
 | n +1,s,c,a=>by
  simp only [aC9]at a;split at a
  · rename_i g d;exact Leads.trans (fun E fr e w b f fs r=>yI hc d f fs r b) (rM hc a)
  ·cases a
theorem uR (call:bR) :∀ (n:Nat) (s:AS),nV P call n s=aC9 P call n s
 |0,_=>rfl
 | n+1,s=>by
  show(match aV8 P call s with|some a=>nV P call n a|none=>none) = (match mB P call s with|some a=>aC9 P call n a|none=>none);rw [aV9 P call s];cases mB P call s with
  |none=>rfl
  |some a=>exact uR call n a
end
section
variable {P :Program}
structure ExtM (m:Nat) (E:Emb) (h:Hp) (w:World) (E':Emb) (h':Hp) (w':World) :Prop where
 low:∀b,b<m→E' b=E b
 imm:∀k C,E.imm k=some C→E'.imm k=some C
 size:w.heap.size≤w'.heap.size
 keep:∀i,i<w.heap.size→ (∀b o L,h.look b=some o→E b=some L→¬Own o L i) →w'.heap[i]?=w.heap[i]?
 own:∀b' o' L',h'.look b'=some o'→E' b'=some L'→∀i,Own o' L' i→i<w.heap.size→∃b o L,h.look b=some o∧E b=some L∧Own o L i
 nb:m≤h'.nb
 os:w'.os=w.os
 tape:w'.tape=w.tape
 output:w'.output=w.output
 froz:∀a,a.block<w.heap.size→w'.frozen? a=w.frozen? a
 immo:∀k C,E'.imm k=some C→k<w.heap.size→E.imm k=some C∨∃b o L,h.look b=some o∧E b=some L∧Own o L k
 keys:∀b o,h'.look b=some o→b<m→∃o0,h.look b=some o0
theorem Ext.toM {E E':Emb}{h h':Hp}{w w':World}(x:Ext E h w E' h' w'){m:Nat}(hm:m≤h.nb) :ExtM m E h w E' h' w':=
 ⟨fun b hb=>x.low b (lt_of_lt_of_le hb hm),x.le.2,x.size,x.keep,x.own,le_trans hm x.nb,x.os,x.tape,x.output,x.froz,x.immo,fun b o e hb=>x.keys b o e (lt_of_lt_of_le hb hm)⟩
theorem ExtM.le {E E':Emb}{h h':Hp}{w w':World}(x:ExtM h.nb E h w E' h' w')(r:Rel E h w.heap) :E.le E':=
 ⟨fun b L e=>by rw [x.low b (r.nb_gt e)];exact e,x.imm⟩
theorem ExtM.toExt {E E':Emb}{h h':Hp}{w w':World}(x:ExtM h.nb E h w E' h' w')(r:Rel E h w.heap) :Ext E h w E' h' w':=
 ⟨x.le r,x.size,x.keep,x.own,x.nb,x.os,x.tape,x.output,x.low,x.froz,x.immo,x.keys⟩
theorem ExtM.trans {m:Nat}{n q r:Emb}{h1 h2 s:Hp}{t w2 u:World}(a:ExtM m n h1 t q h2 w2)(b:ExtM m q h2 w2 r s u) :ExtM m n h1 t r s u where
 low:=fun x c=> (b.low x c).trans (a.low x c)
 imm:=fun k C e=>b.imm k C (a.imm k C e)
 size:=le_trans a.size b.size
 keep:=fun i d p=>by
  rw [b.keep i (lt_of_lt_of_le d a.size) fun x o L c hE hb=>by
   obtain⟨z,F,y,h,l,f⟩ :=a.own x o L c hE i hb d;exact p z F y h l f]
  exact a.keep i d p
 own:=fun x o L c hE i d j=>by
  obtain⟨w,A,D,h,l,f⟩ :=b.own x o L c hE i d (lt_of_lt_of_le j a.size);exact a.own w A D h l i f j
 nb:=b.nb
 os:=b.os.trans a.os
 tape:=b.tape.trans a.tape
 output:=b.output.trans a.output
 froz:=fun x c=> (b.froz x (lt_of_lt_of_le c a.size)).trans (a.froz x c)
 immo:=fun k C e hk=>by
  rcases b.immo k C e (lt_of_lt_of_le hk a.size)with g| ⟨x,o,L,h,l,f⟩
  ·exact a.immo k C g hk
  ·exact .inr (a.own x o L h l k f hk)
 keys:=fun x o e c=>by
  obtain⟨B,v⟩ :=b.keys x o e c;exact a.keys x B v c
theorem ExtM.refl {m:Nat}{E:Emb}{h:Hp}{w:World}(hm:m≤h.nb) :ExtM m E h w E h w:= (Ext.refl E h w).toM hm
def LeadsM (P:Program)(m:Nat)(s s':AS) :Prop:=m≤s.h.nb→∀ (E:Emb) (fr:Frame) (ccs:List Frame) (w:World) (base:List Frame),FR E s.fr fr→FRs E s.cs ccs→Rel E s.h w.heap →
 ∃E' fr' cs' w',Steps P (lone fr (ccs++base) w) (lone fr' (cs'++base) w') ∧FR E' s'.fr fr'∧FRs E' s'.cs cs'∧Rel E' s'.h w'.heap∧ExtM m E s.h w E' s'.h w'
theorem LeadsM.trans {m:Nat}{a b c:AS}(h1:LeadsM P m a b)(h2:LeadsM P m b c) :LeadsM P m a c:=fun hm E fr g w d f fs r=>by
 obtain⟨o,h,j,t,z,x,k,p,n⟩ :=h1 hm E fr g w d f fs r;obtain⟨v,i,l,u,A,y,e,s,q⟩ :=h2 n.nb o h j t d x k p;exact⟨v,i,l,u,z.trans A,y,e,s,n.trans q⟩
theorem LeadsM.refl {m:Nat}(a:AS) :LeadsM P m a a:=fun hm E fr b w _ f fs r=> ⟨E,fr,b,w,Steps.refl _ _,f,fs,r,ExtM.refl hm⟩
theorem Leads.toM {m:Nat}{a b:AS}(h:Leads P a b) :LeadsM P m a b:=fun hm E fr d w c f fs r=>by
 obtain⟨j,e,g,l,p,n,i,k,o⟩ :=h E fr d w c f fs r;exact⟨j,e,g,l,p,n,i,k,o.toM hm⟩
def qE :bR:=fun _ _ _=>none
theorem cH :eP P qE:=fun _ _ _ _ _ e=>by cases e
theorem dX {call:bR}(hc:eP P call){m:Nat}{s s':AS}(b:mB P call s=some s') :LeadsM P m s s':=
 Leads.toM fun _ _ _ _ a f fs r=>yI hc b f fs r a
inductive Res where
 |ret (v:AV)
 |pan (chain:List (AV×Bool))
def Got (E:Emb)(cl:Frame) :Res→Frame→Prop
 | .ret v,cl'=>∃cv,cl'=cl.finish cv∧VR E v cv
 | .pan ch,cl'=>∃ps,cl'=cl.raise ps∧CR E ch ps
def Ends (P:Program)(m:Nat)(s:AS)(res:Res)(h':Hp) :Prop:=m≤s.h.nb→∀ (E:Emb) (fr:Frame) (ccs:List Frame) (w:World),FR E s.fr fr→FRs E s.cs ccs→Rel E s.h w.heap→∀ (cl:Frame) (base:List Frame),
 ∃cl' w' E',Steps P (lone fr (ccs++cl::base) w) (lone cl' base w') ∧Got E' cl res cl'∧Rel E' h' w'.heap∧ExtM m E s.h w E' h' w'
theorem LeadsM.ends {m:Nat}{a b:AS}{d:Res}{h':Hp}(h1:LeadsM P m a b)(h2:Ends P m b d h') :Ends P m a d h':=fun hm E fr e w f fs r k c=>by
 obtain⟨n,g,i,s,y,v,j,o,l⟩ :=h1 hm E fr e w (k::c) f fs r;obtain⟨h,t,u,z,x,q,p⟩ :=h2 l.nb n g i s v j o k c;exact⟨h,t,u,y.trans z,x,q,l.trans p⟩
theorem nG {m:Nat}{s:AS}{v:AV}{h':Hp}(d:xC P s=some (v,h')) :Ends P m s (.ret v) h':=fun hm E fr b w f fs r k a=>by
 obtain⟨c,g,e,j,i,h,l⟩ :=aD1 d f r k a;rw [c]at fs;rw [fs.nil_inv];exact⟨_,e,E,.one j,⟨g,rfl,i⟩,h,l.toM hm⟩
def Spec (P:Program)(c:AIn)(h:Hp)(res:Res)(h':Hp) :Prop:=∃g,dW P h c=some g∧Ends P h.nb ⟨g,[],h⟩ res h'
def aJ (P:Program)(f:Nat)(args:List AV)(v:AV) :Prop:=∀h,Spec P (.enter f args) h (.ret v) h
theorem Spec.sound {c:AIn}{h h':Hp}{v:AV}(s:Spec P c h (.ret v) h') :∃g,dW P h c=some g ∧
  ∀ (E:Emb) (w:World) (G:Frame),Rel E h w.heap→FR E g G→G.kind= .normal→∀e a,∃d w' b,Steps P (lone G (e::a) w) (lone (e.finish d) a w') ∧VR b v d∧Rel b h' w'.heap∧Ext E h w b h' w':=by
 obtain⟨g,i,he⟩ :=s;refine⟨g,i,fun E w G r f _ e a=>?_⟩;obtain⟨j,w',b,n,⟨d,rfl,m⟩,l,k⟩ :=he (le_refl _) E G [] w f rfl r e a;exact⟨d,w',b,n,m,l,k.toExt r⟩
theorem aAI {m:Nat}{s:AS}{g c d:AFrame}{cs:List AFrame}{h2 n:Hp}{v:AV}(u:LeadsM P m s ⟨g,c::cs,h2⟩)(h1:Ends P h2.nb ⟨g,[],h2⟩ (.ret v) n)(x:c.finish v=some d) :LeadsM P m s ⟨d,cs,n⟩ :=fun hm E fr h w a f fs r=>by
 obtain⟨p,i,C,F,I,A,k,j,o⟩ :=u hm E fr h w a f fs r;obtain⟨J,b,rfl,z,t⟩ :=k.cons_inv;obtain⟨q,G,y,B,⟨K,rfl,H⟩,D,l⟩ :=h1 (le_refl _) p i [] F A rfl j J (b++a);have e:=l.le j;exact⟨y,_,b,G,I.trans B,aBO x (z.mono e) H,t.mono e,D,o.trans ((l.toExt j).toM o.nb)⟩
theorem aFV {m:Nat}{s:AS}{g c:AFrame}{cs:List AFrame}{h2 l:Hp}{o:List (AV×Bool)}(u:LeadsM P m s ⟨g,c::cs,h2⟩)(h1:Ends P h2.nb ⟨g,[],h2⟩ (.pan o) l) :LeadsM P m s ⟨c.raise o,cs,l⟩ :=fun hm E fr e w a f fs r=>by
 obtain⟨p,h,A,C,G,y,j,i,n⟩ :=u hm E fr e w a f fs r;obtain⟨H,b,rfl,x,t⟩ :=j.cons_inv;obtain⟨q,D,v,z,⟨I,rfl,F⟩,B,k⟩ :=h1 (le_refl _) p h [] C y rfl i H (b++a);have d:=k.le i;exact⟨v,_,b,D,G.trans z,yH (x.mono d) F,t.mono d,B,n.trans ((k.toExt i).toM n.nb)⟩
def rN (m:Nat)(h h':Hp)(v v':AV) :Prop:=∀ (E:Emb) (w:World),Rel E h w.heap→∃E',E.le E'∧Rel E' h' w.heap∧ExtM m E h w E' h' w∧∀cv,VR E v cv→VR E' v' cv
theorem jS {m:Nat}{fr:AFrame}{cs:List AFrame}{h h':Hp}{j:Nat}{v v':AV}(q:fr.tm.at j=some v)(g:m≤h.nb→rN m h h' v v') :LeadsM P m ⟨fr,cs,h⟩ ⟨{fr with tm:=fr.tm.put j v'},cs,h'⟩ :=fun hm E p d w l f fs r=>by
 obtain⟨o,b,s,u,n⟩ :=g hm E w r;refine⟨o,p,d,w,Steps.refl _ _,⟨f.fn,⟨f.tm.1,fun t a e=>?_⟩,f.todo.mono b,f.defers.mono b,f.mode.mono b,f.kind,f.round.mono b⟩,fs.mono b,s,u⟩;rw [T.at_put]at e;split at e
 · rename_i g;cases e;subst g;obtain⟨c,k,i⟩ :=f.tm.2 _ _ q;exact⟨c,k,n c i⟩
 · obtain⟨c,k,i⟩ :=f.tm.2 t a e;exact⟨c,k,i.mono b⟩
theorem aIA {m:Nat}{h:Hp}{v v':AV}(b:∀E a,VR E v a→VR E v' a) :m≤h.nb→rN m h h v v':=fun hm E w r=> ⟨E,Emb.le.refl E,r,ExtM.refl hm,b E⟩
theorem aDa {m:Nat}{h:Hp}(e:Nat) :m≤h.nb→rN m h (h.new (.lst e [])) .nils (.gl h.nb e 0 0 false) :=fun hm E w r=>by
 obtain⟨b,c⟩ :=aIw r e;refine⟨E,Emb.le.refl E,b,c.toM hm,fun d a=>?_⟩;simp only [VR]at a ⊢;exact .inl ⟨trivial,none,a⟩
theorem aFW {m:Nat}{h:Hp}(e:Nat) :m≤h.nb→rN m h h .nils (.ilst e [] true) :=aIA fun E c a=>by
 simp only [VR]at a ⊢;exact⟨[],VRs.nil _,fun _ b=>by(cases b),.inl ⟨rfl,none,0,a,fun _=>rfl,fun _=>rfl⟩⟩
mutual
def AV.frz (b:Nat)(ys:List AV) :AV→AV
 | .gl b' e off len ex=>bif beq b' b then .ilst e ys ex else .gl b' e off len ex
 | .func f fs cs=>.func f (AV.frzL b ys fs) (AV.frzL b ys cs)
 | .meth n r=>.meth n (AV.frz b ys r)
 | .via t f p r=>.via t f p (AV.frz b ys r)
 | .iface t v=>.iface t (AV.frz b ys v)
 | .agg vs=>.agg (AV.frzL b ys vs)
 | .tup vs=>.tup (AV.frzL b ys vs)
 |v=>v
def AV.frzL (b:Nat)(ys:List AV) :List AV→List AV
 | [] =>[]
 |a::aS=>AV.frz b ys a::AV.frzL b ys aS
end
mutual
def AV.frzOk (b e:Nat)(xs ys:List AV) :AV→Prop
 | .gl b' e' off len _=>b'=b→e'=e∧off+len≤xs.length∧ (xs.drop off).take len=ys
 | .func _ fs cs=>AV.frzOkL b e xs ys fs∧AV.frzOkL b e xs ys cs
 | .meth _ r=>AV.frzOk b e xs ys r
 | .via _ _ _ r=>AV.frzOk b e xs ys r
 | .iface _ v=>AV.frzOk b e xs ys v
 | .agg vs=>AV.frzOkL b e xs ys vs
 | .tup vs=>AV.frzOkL b e xs ys vs
 |_=>True
def AV.frzOkL (b e:Nat)(xs ys:List AV) :List AV→Prop
 | [] =>True
 |a::aS=>AV.frzOk b e xs ys a∧AV.frzOkL b e xs ys aS
end
mutual
theorem aDb {E E':Emb}(c:E.le E'){b e:Nat}{xs ys:List AV}(i:∀f len j d,f+len≤xs.length→ (xs.drop f).take len=ys→VR E (.gl b e f len j) d→VR E' (.ilst e ys j) d) :
  ∀ (v:AV) (d:Value),AV.frzOk b e xs ys v→VR E v d→VR E' (AV.frz b ys v) d
 | .gl q s f len j,d,k,r=>by
  simp only [AV.frz,bQ,cond_eq_ite,decide_eq_true_eq];split
  · rename_i hb;simp only [AV.frzOk]at k;obtain⟨rfl,o,n⟩ :=k hb;subst hb;exact i f len j d o n r
  ·exact r.mono c
 | .func _ fs m,d,k,r=>by
  simp only [AV.frzOk]at k;simp only [AV.frz,VR]at r ⊢;obtain⟨a,b,h,g,p⟩ :=r;exact⟨a,b,h,aBP c i fs a k.1 g,aBP c i m b k.2 p⟩
 | .meth _ a,d,k,r=>by
  simp only [AV.frzOk]at k;simp only [AV.frz,VR]at r ⊢;obtain⟨u,h,g⟩ :=r;exact⟨u,h,aDb c i a u k g⟩
 | .via _ _ _ a,d,k,r=>by
  simp only [AV.frzOk]at k;simp only [AV.frz,VR]at r ⊢;obtain⟨u,h,g⟩ :=r;exact⟨u,h,aDb c i a u k g⟩
 | .iface _ a,d,k,r=>by
  simp only [AV.frzOk]at k;simp only [AV.frz,VR]at r ⊢;obtain⟨u,h,g⟩ :=r;exact⟨u,h,aDb c i a u k g⟩
 | .agg l,d,k,r=>by
  simp only [AV.frzOk]at k;simp only [AV.frz,VR]at r ⊢;obtain⟨u,h,g⟩ :=r;exact⟨u,h,aBP c i l u k g⟩
 | .tup l,d,k,r=>by
  simp only [AV.frzOk]at k;simp only [AV.frz,VR]at r ⊢;obtain⟨u,h,g⟩ :=r;exact⟨u,h,aBP c i l u k g⟩
 | .bool _,_,_,r=>r.mono c
 | .int _ _,_,_,r=>r.mono c
 | .str _ _,_,_,r=>r.mono c
 | .ptr _ _,_,_,r=>r.mono c
 | .nilp,_,_,r=>r.mono c
 | .slice ..,_,_,r=>r.mono c
 | .nils,_,_,r=>r.mono c
 | .map _,_,_,r=>r.mono c
 | .nilm,_,_,r=>r.mono c
 | .yield _,_,_,r=>r.mono c
 | .nilf,_,_,r=>r.mono c
 | .nili,_,_,r=>r.mono c
 | .ilst ..,_,_,r=>r.mono c
 | .iptr _,_,_,r=>r.mono c
 | .ep ..,_,_,r=>r.mono c
 | .val _,_,_,r=>r.mono c
theorem aBP {E E':Emb}(d:E.le E'){b e:Nat}{xs ys:List AV}(h:∀c len i j,c+len≤xs.length→ (xs.drop c).take len=ys→VR E (.gl b e c len i) j→VR E' (.ilst e ys i) j) :
  ∀ (g:List AV) (f:List Value),AV.frzOkL b e xs ys g→VRs E g f→VRs E' (AV.frzL b ys g) f
 | [],_,_,r=>by simpa [AV.frzL,VRs]using r
 | a::m,_,k,r=>by
  simp only [AV.frzOkL]at k;simp only [AV.frzL,VRs]at r ⊢;obtain⟨u,l,p,o,n⟩ :=r;exact⟨u,l,p,aDb d h a u k.1 o,aBP d h m l k.2 n⟩
end
theorem aDc {m:Nat}{h:Hp}{b e:Nat}{xs ys:List AV}{v:AV}(hb:h.look b=some (.lst e xs))(hk:AV.keylessL xs=true)(U:AV.frzOk b e xs ys v) :m≤h.nb→rN m h (h.del b) v (AV.frz b ys v) :=fun hm E w r=>by
 obtain⟨rd,R⟩ :=r.drop b;rcases r.obj0 b _ hb with⟨u1,Z⟩ | ⟨L,hE,C,el,B,o1,o2,V,S,Y⟩
 · cases xs
   case cons x xs=>cases u1
   refine⟨E,Emb.le.refl E,rd,R.toM hm,fun y H=>aDb (Emb.le.refl E) (fun c len W y X I p=>?_) v y U H⟩;have:ys= [] :=by rw [←I];simp
   subst this;simp only [VR]at p ⊢;rcases p with⟨_,a,rfl⟩ | ⟨L,a,l,hE,_⟩
   ·exact⟨[],VRs.nil _,fun _ z=>by(cases z),.inl ⟨rfl,a,0,rfl,fun _=>rfl,fun _=>rfl⟩⟩
   ·rw [Z]at hE;cases hE
 · have J :=r.apart b _ L hb hE L.blk rfl
   let E':Emb:= ⟨E.loc,fun k=>if k=L.blk then some C else E.imm k⟩
   have g:E.le E':= ⟨fun _ _ e=>e,fun k D e=>by
    show(if k=L.blk then some C else E.imm k) =some D;rw [if_neg (fun N=>by rw [N,J]at e;cases e)];exact e⟩
   have f:∀ {x o},(h.del b).look x=some o→x≠b∧h.look x=some o:=fun {x o} e=>by
    rw [qB]at e;split at e
    ·cases e
    ·rename_i A;exact⟨A,e⟩
   have hvl:=V.length;have K:=gG hk V;refine⟨E',g,⟨fun x o A=>?_,rd.kin,rd.fresh,fun k D e=>?_,fun x o G A t i O=>?_,rd.keys⟩,⟨fun _ _=>rfl,g.2,le_refl _,fun _ _ _=>rfl,R.own,le_trans hm (le_refl _),rfl,rfl,rfl,fun _ _=>rfl,fun k D e hlt=>?_,fun x o e _=> ⟨o,(f e).2⟩⟩,fun y H=>aDb g (fun c len W y X I p=>?_) v y U H⟩
   · rcases rd.obj0 x o A with u| ⟨G,g1,M⟩
     ·exact .inl u
     ·exact .inr ⟨G,g1,M.mono g⟩
   · simp only [E']at e;split at e
     ·rename_i n;cases e;subst n;exact⟨el,(0,0),o1⟩
     ·exact r.imm k D e
   · obtain⟨h1,Q⟩ :=f A;show(if i=L.blk then some C else E.imm i) =none;rw [if_neg (fun N=>zK r hb hE Q t h1 (by rw [←N];exact O))];exact r.apart x o G Q t i O
   · simp only [E']at e;split at e
     ·rename_i n;subst n;exact .inr ⟨b,_,L,hb,hE,rfl⟩
     ·exact .inl e
   · simp only [VR]at p ⊢;have q:∀u∈B.drop c,okE e u:=fun u z=>S u (List.mem_of_mem_drop z);have F:∀u∈ (B.drop c).take len,okE e u:=fun u z=>q u (List.mem_of_mem_take z);have d: ((B.drop c).take len).length=len:=by rw [List.length_take,List.length_drop];omega
     refine⟨(B.drop c).take len,?_,F,?_⟩
     ·rw [←I];exact((K.drop c).take len).mono g.pp
     · rcases p with⟨rfl,a,rfl⟩ | ⟨L',a,l,s,rfl,M,g3,g4⟩
       ·exact .inl ⟨by simp,a,0,rfl,fun _=>rfl,fun _=>rfl⟩
       · rw [hE]at s;cases s;by_cases hc:l=0
         · subst hc;have:len=0:=by omega
           subst this;exact .inl ⟨by simp,_,0,rfl,fun _=>rfl,fun _=>rfl⟩
         · obtain⟨rfl,g5⟩ :=g4 hc;refine .inr ⟨L.blk,_,l,C,by rw [d],by simp [E'],by rw [d];exact M,fun he=>by rw [d];exact g3 he,fun j T=>?_⟩;rw [d]at T;have h6:c*e+len*e≤B.length*e:=by rw [←Nat.add_mul];exact Nat.mul_le_mul_right _ (by omega)
           rw [sZ _ q,pS _ S,List.getElem?_take_of_lt T,List.getElem?_drop,←Y _ (by omega)];congr 1;omega
theorem Rel.reobj {E:Emb}{h:Hp}{H:Array Obj}(r:Rel E h H){k:Nat}{o o':AObj}(hk:h.look k=some o)(M:lN o=false)(N:∀L,E k=some L→OR E H L o')
  (h1:bW o'=bW o) (h2:jO o'=jO o) (K:nOf o'=nOf o) (O:∀L i,Own o' L i→Own o L i:=by exact fun _ _ h=>h) :Rel E (h.set k o') H:=by
 have g:∀ {x a},(h.set k o').look x=some a→∃d,h.look x=some d∧bW a=bW d∧jO a=jO d∧nOf a=nOf d∧∀L i,Own a L i→Own d L i:=fun {x a} e=>by
  rw [aY]at e;split at e
  ·rename_i f;cases e;subst f;exact⟨o,hk,h1,h2,K,O⟩
  ·exact⟨a,e,rfl,rfl,rfl,fun _ _ h=>h⟩
 refine⟨fun x a e=>?_,fun x y a S D J q w n G l j=>?_,fun x f=>r.fresh x f,r.imm,fun x a L e n i t=>?_,fun x a e=>?_⟩
 · rw [aY]at e;split at e
   · rename_i f;cases e;subst f;obtain⟨L,p,_⟩ :=r.obj _ _ hk M;exact .inr ⟨L,p,N L p⟩
   ·exact r.obj0 x a e
 · obtain⟨c,b,Q,z,s,m⟩ :=g q;obtain⟨C,B,A,v,F,u⟩ :=g w;obtain⟨i,R,I⟩ :=l;have:=r.kin x y c C D J b B n G ⟨i,m _ _ R,u _ _ I⟩ j;unfold Kin at this ⊢;rw [Q,z,s,A,v,F];exact this
 ·obtain⟨c,b,_,_,_,m⟩ :=g e;exact r.apart x c L b n i (m _ _ t)
 ·obtain⟨c,b,_⟩ :=g e;exact r.keys x c b
theorem nY {m:Nat}{E E':Emb}{h h1:Hp}{w w':World}(x:ExtM m E h w E' h1 w'){k:Nat}{o o':AObj}(hk:h1.look k=some o)(r:∀L i,Own o' L i→Own o L i:=by exact fun _ _ h=>h) :ExtM m E h w E' (h1.set k o') w':=by
 have g:∀ {x a},(h1.set k o').look x=some a→∃j,h1.look x=some j∧∀L i,Own a L i→Own j L i:=fun {x a} e=>by
  rw [aY]at e;split at e
  ·rename_i t;cases e;subst t;exact⟨o,hk,r⟩
  ·exact⟨a,e,fun _ _ h=>h⟩
 exact⟨x.low,x.imm,x.size,x.keep,fun q o' p e l i n d=>by obtain⟨f,c,s⟩ :=g e;exact x.own q f p c l i (s _ _ n) d,x.nb,x.os,x.tape,x.output,x.froz,x.immo,fun b o e hb=>by obtain⟨f,c,_⟩ :=g e;exact x.keys b f c hb⟩
theorem jT {m:Nat}{fr:AFrame}{cs:List AFrame}{h h1:Hp}{k o n:Nat}{t:T AV}{ol:List Nat}{sup:Bool}{v v':AV}(hk:h.look k=some (.cells t n ol sup))(c:h1.look k=some (.cells t n ol sup))(F:t.at o=some v)(G:m≤h.nb→rN m h h1 v v') :
  LeadsM P m ⟨fr,cs,h⟩ ⟨fr,cs,h1.set k (.cells (t.put o v') n ol sup)⟩ :=fun hm E z g w u f fs r=>by
 obtain⟨s,b,J,D,p⟩ :=G hm E w r;have hr:Rel s (h1.set k (.cells (t.put o v') n ol sup)) w.heap:=by
  refine J.reobj c rfl (fun L I=>?_) rfl rfl rfl;obtain⟨K,hE,C,H,B,A,x⟩ :=r.obj _ _ hk;have:=b.1 _ _ hE;rw [I]at this;cases this;refine⟨C,H,B,A,fun i a d=>?_⟩;rw [T.at_put]at d;split at d
  · rename_i y;cases d;subst y;obtain⟨l,e,q,j⟩ :=x _ _ F;exact⟨l,e,q,p e j⟩
  · obtain⟨l,e,q,j⟩ :=x i a d;exact⟨l,e,q,j.mono b⟩
 exact⟨s,z,g,w,Steps.refl _ _,f.mono b,fs.mono b,hr,nY D c⟩
theorem aDd {m:Nat}{h:Hp}{b n c e k:Nat}{x g:Bool}{t:T AV}{cs:List AV}(hb:h.look b=some (.cells t k [] false))(Z:getCells t 0 (n*e) =some cs)(h1:dF cs=true)(he:g=false→e=1) :
  m≤h.nb→rN m h (h.set b (.lst e (wN g e n cs))) (.slice b 0 n c e x) (.gl b e 0 n (x&&beq c n)) :=fun hm E w r=>by
 obtain⟨L,hE,C,q,Q,M,o3⟩ :=r.obj _ _ hb;obtain⟨hcl,G⟩ :=nW Z
 have hc:∀j,j<n*e→∃v,C[L.sh+j]?=some v∧∀a,cs[j]?=some a→VR E a v:=fun j d=>by
  have J:=G j d;have W:cs[j]?=some (cs[j]'(by omega)) :=by simp
  rw [W,eX]at J;obtain⟨_,v,o,y⟩ :=o3 _ _ J;exact⟨v,o,fun a p=>by rw [W]at p;cases p;exact y⟩
 have A:L.sh+n*e≤C.size∨n*e=0:=by
  by_cases h0:n*e=0
  ·exact .inr h0
  · obtain⟨v,o,_⟩ :=hc (n*e-1) (by omega);have:= (zq44.1 o).1;exact .inl (by omega)
 let s:= (C.extract L.sh (L.sh+n*e)).toList
 have H:s.length=n*e:=by simp [s];omega
 have f:∀j,j<n*e→s[j]?=C[L.sh+j]?:=fun j d=>by
  simp only [s];rw [sU,Array.getElem?_extract,if_pos (by rcases A with h|h<;>omega)]
 have u:VRs E cs s:=VRs.of_get (by omega) fun i a p=>by
  have I:i<n*e:=by have:= (zq0.1 p).1;omega
  obtain⟨v,o,y⟩ :=hc i I;exact⟨v,by rw [f i I];exact o,y a p⟩
 obtain⟨Y,N,X,O,U⟩ :=xQ g he n u H (u.ones h1)
 have hob:OR E w.heap L (.lst e (wN g e n cs)) := ⟨C,q,Y,Q,M,N,U,fun j d=>by
  rw [O]at d;rw [X,f j d]⟩
 obtain⟨K,R⟩ :=r.setObj (o':=.lst e (wN g e n cs)) (.cells C q (0,0)) hb hE rfl rfl (fun H' hH=> ⟨C,q,Y,hH,M,N,U,fun j d=>by
  rw [O]at d;rw [X,f j d]⟩)
 have V: ({w with heap:=w.heap.setIfInBounds L.blk (.cells C q (0,0))}:World) =w:=rE Q;have B:w.heap.setIfInBounds L.blk (.cells C q (0,0)) =w.heap:=congrArg World.heap V;rw [B]at K;rw [V]at R;refine⟨E,Emb.le.refl E,K,R.toM hm,fun cv S=>?_⟩;simp only [VR]at S ⊢;obtain⟨L',z,F,l,rfl,g1,g2,g3,g4,g5⟩ :=S;rw [hE]at l;cases l;refine .inr ⟨L,z,F,hE,rfl,by omega,fun he=>?_,fun D=> ⟨by rw [g4 D];omega,g5⟩⟩;simp only [cF]at he;have:=iF he.2;have:=g3 he.1;omega
mutual
def AV.ren (τ:Nat→Nat) :AV→AV
 | .ptr b o=>.ptr (τ b) o
 | .slice b o l c e x=>.slice (τ b) o l c e x
 | .map r=>.map (τ r)
 | .func f fs cs=>.func f (AV.renL τ fs) (AV.renL τ cs)
 | .yield l=>.yield (τ l)
 | .meth n r=>.meth n (AV.ren τ r)
 | .via t f p r=>.via t f p (AV.ren τ r)
 | .iface t v=>.iface t (AV.ren τ v)
 | .agg vs=>.agg (AV.renL τ vs)
 | .tup vs=>.tup (AV.renL τ vs)
 | .gl b e o l x=>.gl (τ b) e o l x
 | .ep b e i o=>.ep (τ b) e i o
 |v=>v
def AV.renL (τ:Nat→Nat) :List AV→List AV
 | [] =>[]
 |a::aS=>AV.ren τ a::AV.renL τ aS
end
def Emb.ren (τ:Nat→Nat)(E:Emb) :Emb:= ⟨fun b=>E (τ b),E.imm⟩
mutual
theorem gU (a:Nat→Nat)(E:Emb) :∀ (v:AV) (c:Value),VR E (AV.ren a v) c↔VR (E.ren a) v c
 | .bool _,_=>by simp [AV.ren,VR]
 | .int _ _,_=>by simp [AV.ren,VR]
 | .str _ _,_=>by simp [AV.ren,VR]
 | .ptr _ _,_=>by simp [AV.ren,VR,Emb.ren]
 | .nilp,_=>by simp [AV.ren,VR]
 | .slice ..,_=>by simp [AV.ren,VR,Emb.ren]
 | .nils,_=>by simp [AV.ren,VR]
 | .map _,_=>by simp [AV.ren,VR,Emb.ren]
 | .nilm,_=>by simp [AV.ren,VR]
 | .func f fs d,_=>by simp only [AV.ren,VR,nZ a E fs,nZ a E d]
 | .yield _,_=>by simp [AV.ren,VR,Emb.ren]
 | .meth n r,_=>by simp only [AV.ren,VR,gU a E r]
 | .via _ _ _ r,_=>by simp only [AV.ren,VR,gU a E r]
 | .nilf,_=>by simp [AV.ren,VR]
 | .iface _ v,_=>by simp only [AV.ren,VR,gU a E v]
 | .nili,_=>by simp [AV.ren,VR]
 | .agg b,_=>by simp only [AV.ren,VR,nZ a E b]
 | .tup b,_=>by simp only [AV.ren,VR,nZ a E b]
 | .ilst ..,_=>by simp only [AV.ren,VR];exact Iff.rfl
 | .iptr _,_=>by simp only [AV.ren,VR];exact Iff.rfl
 | .gl ..,_=>by simp [AV.ren,VR,Emb.ren]
 | .ep ..,_=>by simp [AV.ren,VR,Emb.ren]
 | .val _,_=>by simp [AV.ren,VR]
theorem nZ (c:Nat→Nat)(E:Emb) :∀ (d:List AV) (b:List Value),VRs E (AV.renL c d) b↔VRs (E.ren c) d b
 | [],_=>by simp [AV.renL,VRs]
 |a::e,_=>by simp only [AV.renL,VRs,gU c E a,nZ c E e]
end
theorem aD2 (b:Nat→Nat) :∀ (a c:List AV),AV.renL b (a++c) =AV.renL b a++AV.renL b c
 | [],_=>rfl
 |x::a,c=>by simp [AV.renL,aD2 b a c]
theorem aG {b:Type}(f:b→AV)(c:∀a,AV.keyless (f a) =true) :∀ (l:List b),AV.keylessL (l.map f) =true
 | [] =>rfl
 |a::d=>by simp [AV.keylessL,c a,aG f c d]
theorem keylessL_mem :∀ {xs:List AV},AV.keylessL xs=true↔∀x∈xs,AV.keyless x=true
 | [] =>by simp [AV.keylessL]
 |x::xs=>by simp [AV.keylessL,keylessL_mem (xs:=xs)]
end
end
end Go.Hb
