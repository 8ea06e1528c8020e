/- A machine on abstract values, its soundness, ways, plain laws. -/
import Derived.Test.YtmadhnaeihdkeaaGreatHC
import Derived.RowKit3
set_option linter.defProp false
set_option linter.unusedVariables false
set_option linter.unusedSimpArgs false
set_option linter.unusedSectionVars false
set_option maxRecDepth 100000
namespace Go.Hb
open List (range')
open Nat (beq le_refl le_trans lt_of_lt_of_le lt_or_ge succ zero_le)
noncomputable section
section
variable {P :Program}
section
variable {call :bB} {l:List Oper} {nt:Nat} {R:Nat→RS} {A:Nat→AV}
structure Pd (P:Program) (l:List Oper) (R:Nat→RS) (A:Nat→AV) (D:Nat→Prop) (j f:Nat) (ob:AObj) :Prop where
 done:D f
 op:∃o,l[f]?=some o∧cC o.op= .fresh∧bC (R f).tm l o=some true∧lF P (R f).tm (R f).next o=some (A f,ob)
 late:j≤tJ l f
theorem aKt {tm:T AV}{id:Nat}{o:Oper}{a:AV}{ob:AObj}(h:lF P tm id o=some (a,ob)) :one1 ob=true:=by
 unfold lF at h
 repeat' split at h
 all_goals first| (cases h;rfl) |cases h
theorem Pd.one {D:Nat→Prop}{j f:Nat}{ob:AObj}(p:Pd P l R A D j f ob) :one1 ob=true:=by
 obtain⟨o,_,_,_,h⟩ :=p.op;exact aKt h
structure Inv (P:Program) (l:List Oper) (nt:Nat) (R:Nat→RS) (A:Nat→AV) (E0:Emb) (h0:Hp) (w0:World) (D:Nat→Prop) [DecidablePred D] (j:Nat) (E:Emb) (w:World) (tmps:Array Value) :Prop where
 closed:Closed l D
 lt:∀i,D i→i<l.length
 eff:∀q e,(dU l 0)[q]?=some e→ (D e↔q<j)
 jle:j≤ (dU l 0).length
 ext:Ext E0 h0 w0 E (bD l R j) w
 nb: (R 0).h.nb≤ (bD l R j).nb
 rel:Rel E (bD l R j) w.heap
 size:tmps.size=nt
 tv:∀t a,dB (R 0).tm (pI l) A D l.length t=some a→∃v,tmps[t]?=some v∧VR E a v
 und:∀f o,¬D f→l[f]?=some o→cC o.op= .fresh→E (R f).next=none
 pd:∀f ob,Pd P l R A D j f ob→∃L,E (R f).next=some L∧OR E w.heap L ob∧w0.heap.size≤L.blk∧∀b o L',(bD l R j).look b=some o→E b=some L'→¬Own o L' L.blk
 pdi:∀f ob,Pd P l R A D j f ob→∀L,E (R f).next=some L→E.imm L.blk=none
 hn0:h0.nb= (R 0).next
 ul:∀b o,(bD l R j).look b=some o→E b=none→b<h0.nb∨ (R 0).h.nb≤b
 pd2:∀f g ob ob' L L',Pd P l R A D j f ob→Pd P l R A D j g ob'→f≠g→E (R f).next=some L→E (R g).next=some L'→L.blk≠L'.blk
variable {E0 :Emb} {h0:Hp} {w0:World} {D D':Nat→Prop} [DecidablePred D] [DecidablePred D'] {j:Nat} {E:Emb} {w:World} {tmps:Array Value}
theorem Inv.publish (T:Trace P call l nt R A)(I:Inv P l nt R A E0 h0 w0 D j E w tmps){ps:List (Nat×Nat×AObj)}
  (G:∀x ob,(j,x,ob) ∈ps→∃f,Pd P l R A D j f ob∧tJ l f=j∧x= (R f).next) :
  Rel E (aI (bD l R j) j ps) w.heap∧Ext E0 h0 w0 E (aI (bD l R j) j ps) w ∧
   (∀x ob,(aI (bD l R j) j ps).look x=some ob→ (∃f,Pd P l R A D j f ob∧tJ l f=j∧x= (R f).next) ∨ (bD l R j).look x=some ob) :=by
 have hl:∀x ob,(aI (bD l R j) j ps).look x=some ob→ (∃f,Pd P l R A D j f ob∧tJ l f=j∧x= (R f).next) ∨ (bD l R j).look x=some ob:=fun x ob e=>
  (lI e).imp (G x ob) (fun z=>z)
 have n:∀ {f ob},Pd P l R A D j f ob→h0.nb≤ (R f).next∧ (R f).next< (R 0).h.nb:=fun p=>by
  obtain⟨c,O,Q,_⟩ :=p.op;have:=T.id_lt O Q;have:=I.hn0;omega
 refine⟨⟨fun b o e=>?_,fun b s o c L C e M k B m v=>?_,fun b hb=>?_,I.rel.imm,fun b o L e k i t=>?_,fun b o e=>?_⟩,⟨I.ext.le,I.ext.size,I.ext.keep,fun s c C e k i t J=>?_,?_,I.ext.os,I.ext.tape,I.ext.output,I.ext.low,I.ext.froz,I.ext.immo,fun b o e hb=>?_⟩,hl⟩
 · rcases hl b o e with⟨f,a,_,rfl⟩ |e
   ·obtain⟨L,d,F,_⟩ :=I.pd f o a;exact .inr ⟨L,d,F⟩
   ·exact I.rel.obj0 b o e
 · rcases hl b o e with⟨f,a,_,rfl⟩ |h
   · obtain⟨K,d,F,N,y⟩ :=I.pd f o a;rw [k]at d;cases d;rcases hl s c M with⟨g,u,_,rfl⟩ |H
     · obtain⟨i,r,q⟩ :=m;rw [bO a.one]at r;rw [bO u.one]at q;exact absurd (r.trans q.symm) (I.pd2 f g o c L C a u (fun e=>v (by rw [e])) k B)
     · obtain⟨i,r,q⟩ :=m;rw [bO a.one]at r;subst r;exact absurd q (y _ _ _ H B)
   · rcases hl s c M with⟨g,u,_,rfl⟩ |H
     · obtain⟨K,d,F,N,y⟩ :=I.pd g c u;rw [B]at d;cases d;obtain⟨i,r,q⟩ :=m;rw [bO u.one]at q;subst q;exact absurd r (y _ _ _ h k)
     ·exact I.rel.kin b s o c L C h H k B m v
 ·rw [cY]at hb;exact I.rel.fresh b hb
 · rcases hl b o e with⟨f,a,_,rfl⟩ |h
   · rw [bO a.one]at t;subst t;exact I.pdi f o a L k
   ·exact I.rel.apart b o L h k i t
 · rw [cY];rcases hl b o e with⟨f,a,_,rfl⟩ |h
   ·have:=n a;have:=I.nb;omega
   ·exact I.rel.keys b o h
 · rcases hl s c e with⟨f,a,_,rfl⟩ |h
   · obtain⟨K,d,F,N,y⟩ :=I.pd f c a;rw [k]at d;cases d;rw [bO a.one]at t;omega
   ·exact I.ext.own s c C h k i t J
 ·rw [cY];exact I.ext.nb
 · rcases hl b o e with⟨f,a,_,rfl⟩ |h
   ·have:=n a;omega
   ·exact I.ext.keys b o h hb
theorem Inv.lookIn (T:Trace P call l nt R A)(I:Inv P l nt R A E0 h0 w0 D j E w tmps){f:Nat}{ob:AObj}(d:Pd P l R A D j f ob) :
  Rel E ((bD l R j).set (R f).next ob) w.heap:=by
 have hl:∀x o,((bD l R j).set (R f).next ob).look x=some o→ (x= (R f).next∧o=ob) ∨ (bD l R j).look x=some o:=fun x o e=>by
  rw [aU]at e;split at e
  ·rename_i F;cases e;exact .inl ⟨F,rfl⟩
  ·exact .inr e
 have v:h0.nb≤ (R f).next∧ (R f).next< (R 0).h.nb:=by
  obtain⟨m,C,B,_⟩ :=d.op;have:=T.id_lt C B;have:=I.hn0;omega
 obtain⟨L,g,H,J,y⟩ :=I.pd f ob d;refine⟨fun b o e=>?_,fun b r o m n G e z k u a h=>?_,fun b hb=>?_,I.rel.imm,fun b o n e k i s=>?_,fun b o e=>?_⟩
 · rcases hl b o e with⟨rfl,rfl⟩ |e
   ·exact .inr ⟨L,g,H⟩
   ·exact I.rel.obj0 b o e
 · rcases hl b o e with⟨rfl,rfl⟩ |c
   · rw [k]at g;cases g;rcases hl r m z with⟨rfl,rfl⟩ |t
     ·exact absurd rfl h
     · obtain⟨i,q,p⟩ :=a;rw [bO d.one]at q;subst q;exact absurd p (y _ _ _ t u)
   · rcases hl r m z with⟨rfl,rfl⟩ |t
     · rw [u]at g;cases g;obtain⟨i,q,p⟩ :=a;rw [bO d.one]at p;subst p;exact absurd q (y _ _ _ c k)
     ·exact I.rel.kin b r o m n G c t k u a h
 ·exact I.rel.fresh b (by rw [fU]at hb;exact hb)
 · rcases hl b o e with⟨rfl,rfl⟩ |c
   · rw [bO d.one]at s;subst s;exact I.pdi f _ d n k
   ·exact I.rel.apart b o n c k i s
 · rw [fU];rcases hl b o e with⟨rfl,rfl⟩ |c
   ·have:=I.nb;omega
   ·exact I.rel.keys b o c
theorem aAj (d:Option Nat)(v:Value)(a:Array Value) : (yM d v a).size=a.size:=by cases d<;>simp [yM]
theorem aFR (T:Trace P call l nt R A)(r:Closed l D)(h:∀i,D i→i<l.length)(g:tmps.size=nt){i:Nat}{o:Oper}(n:l[i]?=some o)(q:¬D i)(hm:Met D o)(f:∀k,D' k↔ (D k∨k=i)){cv:Value}(s:VR E (A i) cv)
  (tv:∀t a,dB (R 0).tm (pI l) A D l.length t=some a→∃v,tmps[t]?=some v∧VR E a v) :
  ∀t a,dB (R 0).tm (pI l) A D' l.length t=some a→∃v,(yM o.dst cv tmps)[t]?=some v∧VR E a v:=by
 intro t a b;rw [T.view_done r h n q hm t f]at b;have c:= (T.step i o n).1;split at b
 · rename_i hd;cases b;refine⟨cv,?_,s⟩;rw [hd]at c ⊢;unfold fQ at c;simp only at c;cases hb:Nat.blt t nt with
   |false=>rw [hb]at c;cases c
   | true=>
    rw [cF,decide_eq_true_eq]at hb;simp [yM,g,hb]
 · rename_i hd;obtain⟨v,m,p⟩ :=tv t a b;refine⟨v,?_,p⟩;unfold yM;split
   · rename_i d j;rw [pW (fun e=>hd (by rw [j,e]))];exact m
   ·exact m
theorem tL {i:Nat}{o:Oper}(c:Closed l D)(d:l[i]?=some o)(hm:Met D o)(b:∀k,D' k↔ (D k∨k=i)) :Closed l D':=by
 intro k ok a hk e he hb;rw [b];rcases(b k).1 hk with g|g
 ·exact .inl (c k ok a g e he hb)
 ·subst g;rw [d]at a;cases a;exact .inl (hm e he hb)
theorem aFS {i:Nat}{o:Oper}(b:∀i,D i→i<l.length)(c:l[i]?=some o)(a:∀k,D' k↔ (D k∨k=i)) :∀k,D' k→k<l.length:=fun k hk=>by
 rcases(a k).1 hk with g|g
 ·exact b k g
 ·subst g;exact qK c
theorem Inv.quiet (T:Trace P call l nt R A)(I:Inv P l nt R A E0 h0 w0 D j E w tmps){i:Nat}{o:Oper}(d:l[i]?=some o)(t:¬D i)(hm:Met D o)(hk:cC o.op≠ .eff)(b:∀k,D' k↔ (D k∨k=i))
  (x:cC o.op= .fresh→bC (R i).tm l o=some false) {cv:Value} (u:VR E (A i) cv) :
  Inv P l nt R A E0 h0 w0 D' j E w (yM o.dst cv tmps) :=by
 have a:∀f ob,Pd P l R A D' j f ob→Pd P l R A D j f ob:=fun f ob p=>by
  refine⟨?_,p.op,p.late⟩;rcases(b f).1 p.done with g|g
  ·exact g
  · subst g;obtain⟨s,c,h,r,z⟩ :=p.op;rw [d]at c;cases c;rw [x h]at r;cases r
 refine⟨tL I.closed d hm b,aFS I.lt d b,fun q e he=>?_,I.jle,I.ext,I.nb,I.rel,by rw [aAj];exact I.size,
  aFR T I.closed I.lt I.size d t hm b u I.tv,fun f of n c h=>I.und f of (fun g=>n ((b f).2 (.inl g))) c h,fun f ob p=>I.pd f ob (a f ob p),fun f ob p=>I.pdi f ob (a f ob p),I.hn0,I.ul,fun f g ob m L y p v=>I.pd2 f g ob m L y (a f ob p) (a g m v)⟩
 rw [b,←I.eff q e he];constructor
 · rintro(g|g)
   ·exact g
   · subst g;obtain⟨_,_,s,c,h⟩ := (fG l 0).1 q e he;rw [Nat.sub_zero,d]at c;cases c;exact absurd h hk
 ·exact .inl
theorem Inv.turn (T:Trace P call l nt R A)(I:Inv P l nt R A E0 h0 w0 D j E w tmps){i:Nat}{o:Oper}(c:l[i]?=some o)(f:¬D i)(hm:Met D o)(hk:cC o.op= .eff) : (dU l 0)[j]?=some i:=by
 obtain⟨q,a⟩ := (fG l 0).2.1 i o c hk;rw [jS]at a;have d:¬q<j:=fun g=>f ((I.eff q i a).2 g);rcases lt_or_ge j q with g|g
 · exfalso;obtain⟨b,rfl⟩ :∃b,q=b+1:= ⟨q-1,by omega⟩;have e:= (zq0.1 a).1;have he: (dU l 0)[b]?=some ((dU l 0)[b]) :=lZ (by omega);have:=iW I.closed I.lt (i+1) i (by omega) o c hm _ (T.before he a);have:= (I.eff _ _ he).1 this;omega
 · have:q=j:=by omega
   rw [←this];exact a
theorem Inv.waits (T:Trace P call l nt R A)(I:Inv P l nt R A E0 h0 w0 D j E w tmps){i:Nat}{o:Oper}(a:l[i]?=some o)(k:¬D i)(hm:Met D o)(hk:cC o.op= .eff) :
  ∀x ob,(j,x,ob) ∈ (R i).pend→∃f,Pd P l R A D j f ob∧tJ l f=j∧x= (R f).next:=by
 intro x ob p;have g:=qK a;obtain⟨f,d,r,e,m,n,h,c,q⟩ :=T.pend_mem i (by omega) j x ob p;have b:=I.turn T a k hm hk;rw [c]at b;exact⟨f,⟨iW I.closed I.lt (i+1) i (by omega) o a hm f (aKs b),⟨d,e,m,n,h⟩,by omega⟩,c.symm,q⟩
theorem Inv.effect (T:Trace P call l nt R A)(I:Inv P l nt R A E0 h0 w0 D j E w tmps){i:Nat}{o:Oper}(G:l[i]?=some o)(x:¬D i)(hm:Met D o)(hk:cC o.op= .eff)(r:∀k,D' k↔ (D k∨k=i))
  {E':Emb} {w':World} {cv:Value} (hv:VR E' (A i) cv) (r':Rel E' (bD l R (j+1)) w'.heap) (m:Ext E (aI (bD l R j) j (R i).pend) w E' (bD l R (j+1)) w') :
  Inv P l nt R A E0 h0 w0 D' (j+1) E' w' (yM o.dst cv tmps) :=by
 obtain⟨p1,p2,p3⟩ :=I.publish T (I.waits T G x hm hk);have S:=I.turn T G x hm hk;have hql:= (zq0.1 S).1
 have c:∀f ob,Pd P l R A D' (j+1) f ob→Pd P l R A D j f ob:=fun f ob p=>by
  refine⟨?_,p.op,by have:=p.late;omega⟩;rcases(r f).1 p.done with g|g
  ·exact g
  · subst g;obtain⟨o',B,F,h3,h4⟩ :=p.op;rw [G]at B;cases B;rw [hk]at F;cases F
 have z:∀f ob L,Pd P l R A D' (j+1) f ob→E (R f).next=some L→∀b o h,(aI (bD l R j) j (R i).pend).look b=some o→E b=some h→¬Own o h L.blk:=fun f ob L p hE b o h hb s d=>by
  have J:=c f ob p;rcases p3 b o hb with⟨g,hg,K,rfl⟩ |Y
  · rw [bO hg.one]at d;exact I.pd2 g f o ob h L hg J (fun e=>by subst e;have:=p.late;omega) s hE d
  · obtain⟨M,n,_,_,X⟩ :=I.pd f ob J;rw [hE]at n;cases n;exact X b o h Y s d
 refine⟨tL I.closed G hm r,aFS I.lt G r,fun q e he=>?_,by omega,p2.trans m,?_,r',by rw [aAj];exact I.size,
  aFR T I.closed I.lt I.size G x hm r hv (fun t a Z=>by obtain⟨v,B,F⟩ :=I.tv t a Z;exact⟨v,B,F.mono m.le⟩),fun f of W B F=>?_,fun f ob p=>?_,fun f ob p h N=>?_,I.hn0,fun b o hb hE=>?_,fun f g ob u L h p p' U hE s=>?_⟩
 · rw [r,I.eff q e he];constructor
   · rintro(g|g)
     ·omega
     · subst g;rcases Nat.lt_trichotomy q j with k|k|k
       ·omega
       ·omega
       ·have:= (yQ l S he).1 k;omega
   · intro g;rcases lt_or_ge q j with k|k
     ·exact .inl k
     · have:q=j:=by omega
       subst this;rw [S]at he;cases he;exact .inr rfl
 ·have:=m.nb;rw [cY]at this;have:=I.nb;omega
 · have hid:=T.id_lt B F;rw [m.low _ (by rw [cY];have:=I.nb;omega)];exact I.und f of (fun g=>W ((r f).2 (.inl g))) B F
 · obtain⟨L,n,y,k3,X⟩ :=I.pd f ob (c f ob p);have H:=z f ob L p n;refine⟨L,m.le.1 _ _ n,(y.mono m.le).heap fun i x=>m.keep _ (y.lt i x) fun b o h hb hE d=>H b o h hb hE (by rw [bO p.one]at x;rw [x];exact d),k3,fun b o h hb hE d=>?_⟩;obtain⟨b1,o1,M,K,V,O⟩ :=m.own b o h hb hE _ d (y.lt _ ((bO p.one).2 rfl));exact H b1 o1 M K V O
 · obtain⟨L,n,y,k3,X⟩ :=I.pd f ob (c f ob p);have e3:=m.le.1 _ _ n;rw [N]at e3;obtain rfl:h=L:=Option.some.inj e3;cases x:E'.imm h.blk with
   |none=>rfl
   | some C=>
    rcases m.immo _ C x (y.lt _ ((bO p.one).2 rfl))with g| ⟨b,o,L2,K,V,O⟩
    ·rw [I.pdi f ob (c f ob p) h n]at g;cases g
    ·exact absurd O (z f ob h p n b o L2 K V)
 · rcases lt_or_ge b (bD l R j).nb with g|g
   · obtain⟨Q,e0⟩ :=m.keys b o hb (by rw [cY];exact g);rw [m.low b (by rw [cY];exact g)]at hE;rcases p3 b Q e0 with⟨f,hf,_,rfl⟩ |e1
     · obtain⟨L,n,_⟩ :=I.pd f Q hf;rw [n]at hE;cases hE
     ·exact I.ul b Q e1 hE
   ·have:=I.nb;exact .inr (by omega)
 · obtain⟨M,n,_⟩ :=I.pd f ob (c f ob p);obtain⟨L2,y,_⟩ :=I.pd g u (c g u p');rw [m.le.1 _ _ n]at hE;cases hE;rw [m.le.1 _ _ y]at s;cases s;exact I.pd2 f g ob u _ _ (c f ob p) (c g u p') U n y
theorem Inv.alloc (T:Trace P call l nt R A)(I:Inv P l nt R A E0 h0 w0 D j E w tmps){i:Nat}{o:Oper}(N:l[i]?=some o)(Z:¬D i)(hm:Met D o)(hk:cC o.op= .fresh)(z:∀k,D' k↔ (D k∨k=i))(hn0:h0.nb= (R 0).next)
  {ob:Obj} (hz:noFrz ob=true) {n:Nat} {cv:Value} (hv:VR (E.put (R i).next ⟨w.heap.size,0,n⟩) (A i) cv) (hob:∀aob,lF P (R i).tm (R i).next o=some (A i,aob) →OR (E.put (R i).next ⟨w.heap.size,0,n⟩) (w.heap.push ob) ⟨w.heap.size,0,n⟩ aob) :
  Inv P l nt R A E0 h0 w0 D' j (E.put (R i).next ⟨w.heap.size,0,n⟩) {w with heap:=w.heap.push ob} (yM o.dst cv tmps) :=by
 have hid:=T.id_lt N hk;have hf:E (R i).next=none:=I.und i o Z N hk
 have h:E.le (E.put (R i).next ⟨w.heap.size,0,n⟩) :=Emb.le_put hf;have B:∀ {x},x<w.heap.size→ (w.heap.push ob)[x]?=w.heap[x]?:=fun W=>by rw [Array.getElem?_push,if_neg (by omega)]
 have s:∀b u,(bD l R j).look b=some u→b≠ (R i).next:=fun b u hb e=>by
  cases hE:E b with
  |some L=>rw [e,hf]at hE;cases hE
  | none=>
   have J:=I.ul b u hb hE;have K:=I.hn0;omega
 have c:∀f aob,Pd P l R A D' j f aob→f≠i→Pd P l R A D j f aob:=fun f aob p r=> ⟨((z f).1 p.done).resolve_right r,p.op,p.late⟩
 have idne:∀f aob,Pd P l R A D' j f aob→f≠i→ (R f).next≠ (R i).next:=fun f aob p r=>by
  obtain⟨u,J,K,_⟩ :=p.op;exact T.id_ne J K N hk r
 refine⟨tL I.closed N hm z,aFS I.lt N z,fun q e he=>?_,I.jle,?_,I.nb,?_,by rw [aAj];exact I.size,
  aFR T I.closed I.lt I.size N Z hm z hv (fun t a hta=>by obtain⟨v,J,K⟩ :=I.tv t a hta;exact⟨v,J,K.mono h⟩),fun f of X J K=>?_,fun f aob p=>?_,fun f aob p H U=>?_,I.hn0,fun b u hb hE=>I.ul b u hb (by rw [Emb.put_ne _ _ (s _ _ hb)]at hE;exact hE),fun f g aob m L H p p' r hE G=>?_⟩
 · rw [z,←I.eff q e he];constructor
   · rintro(g|g)
     ·exact g
     · subst g;obtain⟨_,_,u,J,K⟩ := (fG l 0).1 q e he;rw [Nat.sub_zero,N]at J;cases J;rw [hk]at K;cases K
   ·exact .inl
 · refine⟨I.ext.le.trans h,by have:=I.ext.size;simp;omega,fun x W hn=>?_,fun b' u H e k y V hlt=>?_,I.ext.nb,I.ext.os,I.ext.tape,I.ext.output,fun x W=>?_,fun x W=> (sP w hz x).trans (I.ext.froz x W),I.ext.immo,I.ext.keys⟩
   · have:=I.ext.size;show(w.heap.push ob)[x]?=_;rw [B (by omega)];exact I.ext.keep x W hn
   · rw [Emb.put_ne _ _ (s _ _ e)]at k;exact I.ext.own b' u H e k y V hlt
   ·rw [Emb.put_ne _ _ (by omega)];exact I.ext.low x W
 · refine⟨fun b u e=>?_,fun b b' o1 o2 L H e e' k k'=>?_,fun b hb=>?_,fun k C e=>?_,fun b u L e k y V=>?_,I.rel.keys⟩
   · rcases I.rel.obj0 b u e with⟨u1,u2⟩ | ⟨L,O,Y⟩
     ·exact .inl ⟨u1,by rw [Emb.put_ne _ _ (s _ _ e)];exact u2⟩
     ·exact .inr ⟨L,h.1 _ _ O,(Y.mono h).heap fun y V=>B (Y.lt y V)⟩
   · rw [Emb.put_ne _ _ (s _ _ e)]at k;rw [Emb.put_ne _ _ (s _ _ e')]at k';exact I.rel.kin b b' o1 o2 L H e e' k k'
   · have:=I.nb;rw [Emb.put_ne _ _ (by omega)];exact I.rel.fresh b hb
   · obtain⟨e1,f1,g⟩ :=I.rel.imm k C e;exact⟨e1,f1,by rw [B (zq44.1 g).1];exact g⟩
   · rw [Emb.put_ne _ _ (s _ _ e)]at k;exact I.rel.apart b u L e k y V
 · have r:f≠i:=fun e=>X ((z f).2 (.inr e));rw [Emb.put_ne _ _ (T.id_ne J K N hk r)];exact I.und f of (fun g=>X ((z f).2 (.inl g))) J K
 · by_cases d:f=i
   · subst d;obtain⟨u,O,Y,g3,g4⟩ :=p.op;rw [N]at O;cases O;refine⟨_,Emb.put_same _ _ _,hob aob g4,I.ext.size,fun b u H hb hE S=>?_⟩;rw [Emb.put_ne _ _ (s _ _ hb)]at hE;have:=I.rel.lt hb hE _ S;simp only at this;omega
   · obtain⟨L,M,Q,k3,k4⟩ :=I.pd f aob (c f aob p d);refine⟨L,h.1 _ _ M,(Q.mono h).heap (fun y V=>B (Q.lt y V)),k3,fun b u H hb hE S=>?_⟩;rw [Emb.put_ne _ _ (s _ _ hb)]at hE;exact k4 b u H hb hE S
 · show E.imm H.blk=none;by_cases d:f=i
   · subst d;rw [Emb.put_same]at U;cases U;cases Z:E.imm w.heap.size with
     |none=>rfl
     |some C=>exact absurd (I.rel.immLt Z) (Nat.lt_irrefl _)
   · obtain⟨L,M,Q,_⟩ :=I.pd f aob (c f aob p d);have e3:=h.1 _ _ M;rw [U]at e3;obtain rfl:H=L:=Option.some.inj e3;exact I.pdi f aob (c f aob p d) H M
 · by_cases d:f=i
   · by_cases F:g=i
     ·exact absurd (d.trans F.symm) r
     · subst d;rw [Emb.put_same]at hE;cases hE;obtain⟨L2,M,Q,_⟩ :=I.pd g m (c g m p' F);rw [h.1 _ _ M]at G;cases G;have:=Q.lt _ ((bO p'.one).2 rfl);simp only;omega
   · obtain⟨L1,M,Q,_⟩ :=I.pd f aob (c f aob p d);rw [h.1 _ _ M]at hE;cases hE;by_cases F:g=i
     · subst F;rw [Emb.put_same]at G;cases G;have:=Q.lt _ ((bO p.one).2 rfl);simp only;omega
     · obtain⟨L2,O,Y,_⟩ :=I.pd g m (c g m p' F);rw [h.1 _ _ O]at G;cases G;exact I.pd2 f g aob m _ _ (c f aob p d) (c g m p' F) r M O
end
def dD (P:Program)(call:bB) :Prop:=∀k c h v h',call k c h=some (v,h') →∃g,cX P h c=some g ∧
 ∀ (E:Emb) (w:World) (G:Frame),Rel E h w.heap→FR E g G→G.kind= .normal→∀cl base,∃cv w' E',Steps P (lone G (cl::base) w) (lone (cl.finish cv) base w') ∧VR E' v cv∧Rel E' h' w'.heap∧Ext E h w E' h' w'
def aUc (P:Program)(call:bB)(k:Nat) :Prop:=∀c h v h',call k c h=some (v,h') →∃g,cX P h c=some g ∧
 ∀ (E:Emb) (w:World) (G:Frame),Rel E h w.heap→FR E g G→G.kind= .normal→∀cl base,∃cv w' E',Steps P (lone G (cl::base) w) (lone (cl.finish cv) base w') ∧VR E' v cv∧Rel E' h' w'.heap∧Ext E h w E' h' w'
theorem aFT {E:Emb}{h:Hp}{w:World}(r:Rel E h w.heap){tm:T AV}{ρ:Operand→Value}{o:Oper}(hρ:Reads E tm ρ (· ∈o.op.operands)){id:Nat}(hid:E id=none){a:AV}{ob0:AObj}(h0:lF P tm id o=some (a,ob0)) :
  ∃ob n cv,noFrz ob=true∧ (execOp ρ o).run P w= .ok (.value cv) {w with heap:=w.heap.push ob}∧VR (E.put id ⟨w.heap.size,0,n⟩) a cv∧OR (E.put id ⟨w.heap.size,0,n⟩) (w.heap.push ob) ⟨w.heap.size,0,n⟩ ob0:=by
 have hle:∀n,E.le (E.put id ⟨w.heap.size,0,n⟩) :=fun n=>Emb.le_put hid;have hpush:∀ob,(w.heap.push ob)[w.heap.size]?=some ob:=fun ob=>by simp
 unfold lF at h0;unfold execOp;split at h0
 · rename_i e hop;rw [hop]at hρ;simp only [hop];split at h0
   · rename_i z hz;cases h0;obtain⟨cz,z1,z2⟩ :=eX hz;have hc:= (z2 E).cells;refine⟨.cells cz.cells e,cz.cells.size,.pointer (some ⟨w.heap.size,0,none⟩),rfl,by simp [Instr.alloc,z1,newVar,newRow],by simp only [VR];exact⟨_,Emb.put_same _ _ _,rfl⟩,?_⟩;exact sS (C:=cz.cells) ⟨[],by simp⟩ (hc.mono (hle _)) (hpush _) _ (aX _) _ (le_refl _) _ _
   ·cases h0
 · rename_i t n ps hop;rw [hop]at hρ;simp only [hop];split at h0
   · rename_i l hl;split at h0
     · rename_i cs s hcs;cases h0;obtain⟨g1,g2⟩ :=hρ.parts (fun p hp=>by simp only [Op.operands,List.mem_toArray,zq24];exact⟨p,hp,rfl⟩) hl;obtain⟨out,e,k1,k2,k3⟩ :=nO (P:=P) r (qs:=ps.map fun(i,x) => (i,ρ x)) hcs (by rw [g1];simp) (by simpa [Function.comp_def]using g2);refine⟨.cells ⟨out⟩ e,out.length,.slice (some ⟨w.heap.size,0,none⟩) n n,rfl,by simp [k3 w],?_,?_⟩
       ·simp only [VR];exact⟨_,0,n,Emb.put_same _ _ _,rfl,le_refl _,le_refl _,fun _=>rfl,fun _=>rfl,by simpa using k2⟩
       ·exact sS (C:= ⟨out⟩) ⟨[],by simp⟩ (k1.mono (hle _)) (hpush _) _ (aX _) _ (le_refl _) _ _
     ·cases h0
   ·cases h0
 ·cases h0
section
variable {call :bB} {ops:Array Oper} {nt:Nat} {R:Nat→RS} {A:Nat→AV} {E0:Emb} {h0:Hp} {w0:World} {fn:FuncId} {ds:List Deferred} {kd:CallKind} {ro:Option Nat} {k:List Item} {cs:List Frame}
theorem aHL (T:Trace P call ops.toList nt R A){D:Nat→Prop}[DecidablePred D]{j:Nat}{E:Emb}{w:World}{tmps:Array Value}(I:Inv P ops.toList nt R A E0 h0 w0 D j E w tmps){i:Nat}{o:Oper}(ho:ops.toList[i]?=some o)(hi:¬D i)(hm:Met D o)(todo:List Item) :
  Reads E (R i).tm (rf fn tmps todo ds kd ro).eval (· ∈o.op.operands) :=by
 intro x hx a ha;cases x with
 | tmp t=>
  simp only [bG]at ha;have hn:t∈kG ops.toList o:=by
   simp only [kG,zq28,List.mem_filterMap];exact .inr (.inl ⟨.tmp t,by simpa using hx,rfl⟩)
  rw [←T.view_ready I.closed I.lt ho hi hm hn]at ha;obtain⟨v,h1,h2⟩ :=I.tv t a ha;simp only [Frame.eval,wM,h1];exact h2
 |const v=>exact aB4 ha E
 |global g=>cases ha
 |func f=>simp only [bG]at ha;cases ha;simp only [Frame.eval,VR];exact⟨[],[],rfl,VRs.nil E,VRs.nil E⟩
theorem gP (T:Trace P call ops.toList nt R A){D:Nat→Prop}[DecidablePred D]{j:Nat}{E:Emb}{w:World}{tmps:Array Value}(I:Inv P ops.toList nt R A E0 h0 w0 D j E w tmps){i:Nat}{o:Oper}(ho:ops.toList[i]?=some o)(hi:¬D i)(hm:Met D o){b:Bool}
  (hw:bC (R i).tm ops.toList o=some b) :Region.wanted o (yielded ops tmps) =b:=by
 refine tD (E:=E) (tm:= (R i).tm) (fun g want hg o' ho' t ht a ha=>?_) hw;have hn:t∈kG ops.toList o:=by
  simp only [kG,zq28];refine .inr (.inr ?_);rw [hg];simp only [oZ,ho',ht];simp
 rw [←T.view_ready I.closed I.lt ho hi hm hn]at ha;exact I.tv t a ha
theorem kV {tmps:Array Value}{i:Nat}{is:List Nat}{o:Oper}(ho:ops[i]?=some o)(v:Value) :
  (rf fn tmps (.inRegion ops (i::is) ::k) ds kd ro).finish v=rf fn (yM o.dst v tmps) (.inRegion ops is::k) ds kd ro:=by
 rw [aD0,ho];rfl
theorem aCm {b hi a:Nat}{ob:AObj}:∀ {ps:List (Nat×Nat×AObj)},aB3 b hi ps=some (a,ob) → (a,b,ob) ∈ps∧hi≤a
 | [],h=>by cases h
 | (a',id,o) ::ps,h=>by
  simp only [aB3]at h;cases hc: (beq id b&&Nat.ble hi a')with
  | true=>
   rw [hc]at h;simp only [cond]at h;cases h;rw [dC]at hc;obtain rfl:=eP hc.1;exact⟨dJ ..,Nat.le_of_ble_eq_true hc.2⟩
  | false=>
   rw [hc]at h;simp only [cond]at h;obtain⟨h1,h2⟩ :=aCm h;exact⟨dR _ h1,h2⟩
theorem aPU {tm:T AV}{pend:List (Nat×Nat×AObj)}{hi:Nat}{o:Oper}{vs:List AV}(h:sM P tm pend hi o=some vs) :
  ∃s d x b off len c ez ex a t n1 n2 n3 el,o.op= .convert s d x∧bG tm x=some (.slice b off len c ez ex) ∧aB3 b hi pend=some (a,.cells t n1 n2 n3) ∧P.underlying s=some (.slice el) ∧P.underlying d=some .string∧getCells t off len=some vs∧P.underlying el=some (.int .u8) :=by
 unfold sM at h;split at h
 · rename_i s d x hop;split at h
   · rename_i b off len c ez ex hx;split at h
     · rename_i a t n1 n2 n3 hp;split at h
       · rename_i e vs' h1 h2 h3;split at h
         · rename_i h4;cases h;exact⟨s,d,x,b,off,len,c,ez,ex,a,t,n1,n2,n3,e,hop,hx,hp,h1,h2,h3,h4⟩
         ·cases h
       ·cases h
     ·cases h
   ·cases h
 ·cases h
theorem aKu {j:Nat}{i:Nat}{o:Oper}(hc:cC o.op= .eff→aUc P call j)(T:Trace P call ops.toList nt R A)(hn0:h0.nb= (R 0).next){D D':Nat→Prop}[DecidablePred D][DecidablePred D']{E:Emb}{w:World}{tmps:Array Value}(I:Inv P ops.toList nt R A E0 h0 w0 D j E w tmps)(ho:ops.toList[i]?=some o)(hi:¬D i)(hm:Met D o)(hD':∀k,D' k↔ (D k∨k=i))(is:List Nat) :
  ∃j' E' w' tmps',Steps P (lone (rf fn tmps (.inRegion ops (i::is) ::k) ds kd ro) cs w) (lone (rf fn tmps' (.inRegion ops is::k) ds kd ro) cs w') ∧Inv P ops.toList nt R A E0 h0 w0 D' j' E' w' tmps':=by
 have hoa:ops[i]?=some o:=by rw [←oZ];exact ho
 have hil:=qK ho;have hρ:=aHL (fn:=fn) (ds:=ds) (kd:=kd) (ro:=ro) T I ho hi hm (.inRegion ops (i::is) ::k);obtain⟨_,c⟩ :=T.step i o ho
 have unw:bC (R i).tm ops.toList o=some false→step P (lone (rf fn tmps (.inRegion ops (i::is) ::k) ds kd ro) cs w) = .next (lone (rf fn (yM o.dst Go.undef tmps) (.inRegion ops is::k) ds kd ro) cs w) :=fun hw=>by
  rw [vX hoa (gP T I ho hi hm hw),kV hoa]
 have value:∀ {hx:Hp} {h2:Hp} {a:AV} {w':World} {cv:Value},bC (R i).tm ops.toList o=some true→iO P hx (R i).tm o=some (.val a h2) →
   ((execOp (rf fn tmps (.inRegion ops (i::is) ::k) ds kd ro).eval o).run P w= .ok (.value cv) w'∨ ((execOp (rf fn tmps (.inRegion ops (i::is) ::k) ds kd ro).eval o).run P w= .ok .skip w'∧cv=Go.undef)) →
   step P (lone (rf fn tmps (.inRegion ops (i::is) ::k) ds kd ro) cs w) = .next (lone (rf fn (yM o.dst cv tmps) (.inRegion ops is::k) ds kd ro) cs w') :=fun hw h0 hr=>by
  have hd:=aEA h0;rcases hr with hr| ⟨hr,rfl⟩
  ·rw [wS hoa (gP T I ho hi hm hw) (.inr hd) hr,kV hoa]
  ·rw [aCg hoa (gP T I ho hi hm hw) (.inr hd) hr,kV hoa]
 have effStage:cC o.op= .eff→ (R i).h=bD ops.toList R j∧ (R (i+1)).h=bD ops.toList R (j+1) :=fun hk=>by
  have hq:=I.turn T ho hi hm hk;obtain⟨s1,s2⟩ :=T.sEff hq;have e1:=T.stage (i:=i) (by omega);have e2:=T.stage (i:=i+1) (by omega);rw [s1]at e1;rw [s2]at e2;exact⟨e1.symm,e2.symm⟩
 have effS:cC o.op= .eff→ (R i).s=j:=fun hk=> (T.sEff (I.turn T ho hi hm hk)).1;cases c with
 | unwE hw ha hk e=>
  have hk':cC o.op= .eff:=hk;obtain⟨e1,e2⟩ :=effStage hk';obtain⟨p1,p2,p3⟩ :=I.publish T (I.waits T ho hi hm hk');have e3:bD ops.toList R (j+1) =aI (bD ops.toList R j) j (R i).pend:=by
   rw [←e2,e,←e1,←effS hk']
  refine⟨j+1,E,w,_,.one (unw hw),I.effect T ho hi hm hk' hD' (by rw [ha];exact pD E) (by rw [e3];exact p1) ?_⟩;rw [e3];exact Ext.refl _ _ _
 | unwF hw ha hk e=>
  have hk':cC o.op= .fresh:=hk;exact⟨j,E,w,_,.one (unw hw),I.quiet T ho hi hm (by rw [hk'];decide) hD' (fun _=>hw) (by rw [ha];exact pD E)⟩
 | unwQ hw ha hk e=>
  have hk':cC o.op= .pure∨cC o.op= .read:=hk;exact⟨j,E,w,_,.one (unw hw),I.quiet T ho hi hm (by rcases hk' with hk'|hk'<;>rw [hk'] <;>decide) hD' (fun hf=>by rcases hk' with hk'|hk'<;>rw [hk']at hf<;>cases hf) (by rw [ha];exact pD E)⟩
 | pure hx hw hk hv e=>
  have hk':cC o.op= .pure:=hk;have hv':=aPT (o:=o) hk' hv (bD ops.toList R j);obtain⟨_,cv,g1,g2⟩ := (qH I.rel hρ hv').2 (.inl hk');exact⟨j,E,w,_,.one (value hw hv' (.inl g1)),I.quiet T ho hi hm (by rw [hk'];decide) hD' (fun hf=>by rw [hk']at hf;cases hf) g2⟩
 | read hx hw hk hv e=>
  have hk':cC o.op= .read:=hk;obtain⟨b1,b2⟩ :=T.window I.closed I.lt I.eff I.jle ho hi hm;obtain⟨c1,c2⟩ :=T.cnt i (by omega);obtain⟨a1,a2⟩ :=T.window (D:= (· <i)) (T.nat_closed i) (fun x hx=>by omega) (fun q e he=> (c2 q e he).symm) c1 ho (by omega) (T.idOk i o ho);have hv':∃hx,iO P (bD ops.toList R j) (R i).tm o=some (.val (A i) hx) :=by
   by_cases hlh:aWc ops.toList i=tJ ops.toList i
   · have: (R i).s=j:=by omega
     exact⟨hx,by rw [←this,T.stage (by omega)];exact hv⟩
   · have hmem: (⟨o,(R i).tm,aWc ops.toList i,tJ ops.toList i,A i⟩ :Again) ∈ (R (i+1)).again:=by
      rw [e];simp only;rw [aZ];have:decide ((qI ops.toList i o).lo= (qI ops.toList i o).hi) =false:=by
       rw [decide_eq_false_iff_not];exact hlh
      rw [this];exact dJ ..
     have hmem':=T.again_mem (ops.toList.length- (i+1)) (i+1) (by omega) _ hmem;rw [show i+1+ (ops.toList.length- (i+1)) =ops.toList.length by omega]at hmem';have hj:=I.jle;have hse:=T.sEnd;exact T.again _ hmem' ((R ops.toList.length).s-j) _ (T.stage_get (k:=j) (by omega)) (by omega) (by simp only;omega) (by simp only;omega)
  obtain⟨hx',hv'⟩ :=hv';obtain⟨_,cv,g1,g2⟩ := (qH I.rel hρ hv').2 (.inr hk');exact⟨j,E,w,_,.one (value hw hv' (.inl g1)),I.quiet T ho hi hm (by rw [hk'];decide) hD' (fun hf=>by rw [hk']at hf;cases hf) g2⟩
 | own vs hw hk hv h1 e=>
  have hk':cC o.op= .read:=hk;obtain⟨b1,b2⟩ :=T.window I.closed I.lt I.eff I.jle ho hi hm;have hv0:sM P (R i).tm (R i).pend (tJ ops.toList i) o=some vs:=hv;obtain⟨s,d,x,b,off,len,c,ez,ex,a,t,n1,n2,n3,el,g1,g2,g3,g4,g5,g6,g7⟩ :=aPU hv0;obtain⟨m1,m2⟩ :=aCm g3;obtain⟨f,o',q1,q2,q3,q4,q5,q6,q7⟩ :=T.pend_mem i (by omega) a b _ m1;obtain⟨L,_,_,hE,_⟩ :∃L off' cap,E b=some L∧True:=by
   have:=hρ x (by rw [g1];simp [Op.operands]) _ g2;simp only [VR]at this;obtain⟨L,o1,c1,k1,_⟩ :=this;exact⟨L,o1,c1,k1,trivial⟩
  have hD:D f:=by
   refine Classical.byContradiction fun hn=>?_;have:=I.und f o' hn q2 q3;rw [←q7,hE]at this;cases this
  have hpd:Pd P ops.toList R A D j f (.cells t n1 n2 n3) := ⟨hD,⟨o',q2,q3,q4,q5⟩,by omega⟩;have hr:=I.lookIn T hpd;rw [←q7]at hr;have hv':iO P ((bD ops.toList R j).set b (.cells t n1 n2 n3)) (R i).tm o=some (.val (A i) ((bD ops.toList R j).set b (.cells t n1 n2 n3))) :=by
   unfold iO;simp only [fP,g1,sF,g2,sH,g4,g5,g6,Hp.loadN,aU,if_true,g7,h1,val]
  obtain⟨_,cv,y1,y2⟩ := (qH hr hρ hv').2 (.inr hk');exact⟨j,E,w,_,.one (value hw hv' (.inl y1)),I.quiet T ho hi hm (by rw [hk'];decide) hD' (fun hf=>by rw [hk']at hf;cases hf) y2⟩
 | fresh aob hw hk hv e=>
  have hk':cC o.op= .fresh:=hk;obtain⟨ob,n,cv,hz,g1,g2,g3⟩ :=aFT I.rel hρ (I.und i o hi ho hk') hv
  refine⟨j,_,_,_,.one ?_,I.alloc T ho hi hm hk' hD' hn0 hz g2 (fun aob' h'=>by
   have hv2:lF P (R i).tm (R i).next o=some (A i,aob) :=hv
   rw [hv2]at h';cases h';exact g3)⟩
  have hd:∀c,o.op≠ .defer c:=fun c hc'=>by rw [hc']at hk';cases hk'
  rw [wS hoa (gP T I ho hi hm hw) (.inr hd) g1,kV hoa]
 | eff h2 hw hk hv e=>
  have hk':cC o.op= .eff:=hk;obtain⟨e1,e2⟩ :=effStage hk';obtain⟨p1,p2,p3⟩ :=I.publish T (I.waits T ho hi hm hk');have e3:bD ops.toList R (j+1) =h2:=by rw [←e2,e]
  rw [effS hk',e1]at hv;rcases hv with hv| ⟨c,hv,hcv⟩
  · obtain⟨E',w',cv,g1,g2,g3,g4⟩ :=iU p1 hρ hv;refine⟨j+1,E',w',_,.one (value hw hv g1),I.effect T ho hi hm hk' hD' g2 (by rw [e3];exact g3) ?_⟩;rw [e3];exact g4
  · obtain⟨g,hg,hcall⟩ :=hc hk' c _ _ _ hcv;have hout:=iU p1 hρ hv;obtain⟨nx,G,g1,g2,g3⟩ :=oN p1 hg hout;have hd:=wV hv;have hkG:G.kind= .normal:=by
     rcases g2 with⟨f,args,_,rfl⟩ | ⟨l,f,t,aS,bd,_,rfl⟩ <;>rfl
    obtain⟨cv,w',E',s1,s2,s3,s4⟩ :=hcall E w G p1 g3 hkG (rf fn tmps (.inRegion ops (i::is) ::k) ds kd ro) cs;refine⟨j+1,E',w',_,?_,I.effect T ho hi hm hk' hD' s2 (by rw [e3];exact s3) (by rw [e3];exact s4)⟩;rw [kV hoa]at s1;rcases g2 with⟨f,args,rfl,rfl⟩ | ⟨l,f,t,aS,bd,rfl,rfl⟩
    ·exact .head (wT hoa (gP T I ho hi hm hw) (.inr hd) g1) s1
    ·exact .head (aCh hoa (gP T I ho hi hm hw) (.inr hd) g1) s1
theorem aNA (hc:dD P call)(T:Trace P call ops.toList nt R A)(hn0:h0.nb= (R 0).next){D D':Nat→Prop}[DecidablePred D][DecidablePred D']{j:Nat}{E:Emb}{w:World}{tmps:Array Value}(I:Inv P ops.toList nt R A E0 h0 w0 D j E w tmps){i:Nat}{o:Oper}(ho:ops.toList[i]?=some o)(hi:¬D i)(hm:Met D o)(hD':∀k,D' k↔ (D k∨k=i))(is:List Nat) :
  ∃j' E' w' tmps',Steps P (lone (rf fn tmps (.inRegion ops (i::is) ::k) ds kd ro) cs w) (lone (rf fn tmps' (.inRegion ops is::k) ds kd ro) cs w') ∧Inv P ops.toList nt R A E0 h0 w0 D' j' E' w' tmps':=
 aKu (fun _=>hc j) T hn0 I ho hi hm hD' is
theorem aKv (hc:dD P call)(T:Trace P call ops.toList nt R A)(hn0:h0.nb= (R 0).next){is:List Nat}{D:Nat→Bool}(hl:Legal ops.toList D is) :∀ {j:Nat} {E:Emb} {w:World} {tmps:Array Value},Inv P ops.toList nt R A E0 h0 w0 (fun k=>D k=true) j E w tmps →
  ∃ (D':Nat→Bool) (j':Nat) (E':Emb) (w':World) (tmps':Array Value),Steps P (lone (rf fn tmps (.inRegion ops is::k) ds kd ro) cs w) (lone (rf fn tmps' (.inRegion ops [] ::k) ds kd ro) cs w') ∧Inv P ops.toList nt R A E0 h0 w0 (fun k=>D' k=true) j' E' w' tmps'∧∀i,i<ops.toList.length→D' i=true:=by
 induction hl with
 | @nil D h=>intro j E w tmps I;exact⟨D,j,E,w,tmps,Steps.refl _ _,I,h⟩
 | @cons D i is o h1 h2 h3 h4 ih=>
  intro j E w tmps I;obtain⟨j',E',w',tmps',s1,I'⟩ :=aNA (D':=fun k=> (D k||k==i) =true) (fn:=fn) (ds:=ds) (kd:=kd) (ro:=ro) (k:=k) (cs:=cs) hc T hn0 I h1 (by simp [h2]) h3 (fun k=>by simp) is;obtain⟨D2,j2,E2,w2,tmps2,s2,I2,hall⟩ :=ih I';exact⟨D2,j2,E2,w2,tmps2,s1.trans s2,I2,hall⟩
end
theorem aAT {call:bB}{i:Nat}{l:List Oper}:∀ {e:List Plan} {r d:RS},lG P call i l e r=some d→d.next=r.next+mG e
 | [],r,d,b=>by simp [lG]at b;subst b;rfl
 | p ::e,r,d,b=>by
  simp only [lG]at b;split at b
  · rename_i j f;obtain⟨a,_,c⟩ :=aAS f;have g:=aAT b;have h:=c.next
    rw [g,h];simp only [mG];cases hk:p.kd<;>simp [hk] <;>omega
  ·cases b
theorem aPV {call:bB}{m:Nat}{ops:Array Oper}{tm:T AV}{h:Hp}{r:RS}(f: (hP ops).ok=true)
  (v:lG P call m (hP ops).ops (hP ops).plans {tm,h:={h with nb:=h.nb+ (hP ops).fresh},stages:=[],s:=0,pend:=[],next:=h.nb,again:=[]}=some r)
  (t:uW P (r.h::r.stages) r.s r.again) :
  ∃ (R:Nat→RS) (A:Nat→AV),Trace P call ops.toList m R A∧R 0= {tm,h:={h with nb:=h.nb+ (hP ops).fresh},stages:=[],s:=0,pend:=[],next:=h.nb,again:=[]}∧R ops.toList.length=r∧∀i p,(hP ops).plans[i]?=some p→kS P call m (hP ops).ops p (R i) =some (R (i+1)) :=by
 obtain⟨R,d,k,u⟩ :=yO v;have g: (hP ops).plans.length=ops.toList.length:=tI _ _ _ _
 have j:∀i o,ops.toList[i]?=some o→ (hP ops).plans[i]?=some (qI ops.toList i o) :=fun i o b=>by
  have:=aAR (jD ops.toList []) (dU ops.toList 0) ops.toList 0 i;rw [b,Option.map_some,jS]at this;exact this
 have c:∀i,∃a,∀o,ops.toList[i]?=some o→fQ (R i).tm m o.dst a=some (R (i+1)).tm∧RC P call ops.toList (qI ops.toList i o) (R i) (R (i+1)) a:=fun i=>by
  cases b:ops.toList[i]? with
  |none=>exact⟨.undef,fun o h=>by cases h⟩
  | some o=>
   obtain⟨a,n,l⟩ :=aAS (u i _ (j i o b));exact⟨a,fun C h=>by cases h;exact⟨n,l⟩⟩
 obtain⟨A,hA⟩ :=Classical.axiomOfChoice c;rw [g]at k;simp only [hP,dC]at f;obtain⟨⟨⟨⟨z,w⟩,y⟩,F⟩,D⟩ :=f;refine⟨R,A,⟨fun i o b=>hA i o b,z,w,fun i o b e he hb=>?_,by rw [d],by rw [d],by rw [d],by rw [d],?_,by rw [k];exact t⟩,d,k,u⟩
 · have q:=qK b;obtain⟨n,l⟩ :=tH y i o b e he hb;have hr:∀x,x<ops.size→ (List.range ops.size).getD x 0=x:=fun x B=>by simp [pV,B]
   rw [jS,hr _ n,hr _ (by simpa using q)]at l;exact l
 ·rw [k,aAT v,d];exact le_refl _
theorem aNB {a:T AV}{b:Nat→Option Nat}{A:Nat→AV}{D:Nat→Prop}[DecidablePred D](c:∀k,¬D k)(n t:Nat) :dB a b A D n t=a.at t:=by
 rw [uV (i:=0) (zero_le n) (fun k _ _ _=>c k)];rfl
theorem wE {call:bB}(hc:dD P call){D:Nat}{ops:Array Oper}{tm:T AV}{h:Hp}{d:RS}(u: (hP ops).ok=true)
  (G:lG P call D (hP ops).ops (hP ops).plans {tm,h:={h with nb:=h.nb+ (hP ops).fresh},stages:=[],s:=0,pend:=[],next:=h.nb,again:=[]}=some d)
  (M:uW P (d.h::d.stages) d.s d.again) {E:Emb} {w:World} {tmps:Array Value} (r:Rel E h w.heap) (z:TR E tm D tmps)
  (id:Nat) (fn:FuncId) (ds:List Deferred) (kd:CallKind) (ro:Option Nat) (k:List Item) (cs:List Frame) :
  ∃B w' c,Steps P (lone (rf fn tmps (.code (.region id ops true) ::k) ds kd ro) cs w) (lone (rf fn c k ds kd ro) cs w') ∧TR B d.tm D c∧Rel B (aI d.h d.s d.pend) w'.heap∧Ext E h w B (aI d.h d.s d.pend) w':=by
 obtain⟨R,A,T,n,F,_⟩ :=aPV u G M;have j:bD ops.toList R 0= {h with nb:=h.nb+ (hP ops).fresh}:=by
  have:=T.stage (i:=0) (zero_le _);rw [T.s0]at this;rw [this,n]
 have I:Inv P ops.toList D R A E h w (fun k=> (fun _:Nat=>false) k=true) 0 E {w with drawn:=w.drawn+1} tmps:=by
  refine⟨fun i o _ hd=>by simp at hd,fun i hd=>by simp at hd,fun q e _=>by simp,zero_le _,?_,by rw [j,n];exact le_refl _,?_,z.1,fun t a y=>?_,fun f o _ Z hk=>?_,fun f ob p=>?_,fun f ob p=>?_,by rw [n],fun b o hb hE=>?_,fun f g ob Y L L' p=>?_⟩
  · rw [j];exact⟨Emb.le.refl E,le_refl _,fun _ _ _=>rfl,fun b o L H C i hi _=> ⟨b,o,L,H,C,hi⟩,Nat.le_add_right _ _,rfl,rfl,rfl,fun _ _=>rfl,fun _ _=>rfl,fun _ _ e _=>.inl e,fun _ o e _=> ⟨o,e⟩⟩
  ·rw [j];exact r.sub (fun _ _ e=>e) (Nat.le_add_right _ _)
  · rw [aNB (by simp),n]at y;exact z.2 t a y
  · have:= (T.id_lt Z hk).1;rw [n]at this;exact r.fresh _ this
  ·have:=p.done;simp at this
  ·have:=p.done;simp at this
  ·rw [j]at hb;exact .inl (r.keys b o hb)
  ·have:=p.done;simp at this
 obtain⟨D',m,B,w',c,U,v,l⟩ :=aKv (fn:=fn) (ds:=ds) (kd:=kd) (ro:=ro) (k:=k) (cs:=cs) hc T (by rw [n]) (aCj u (P.follows .mixedOrders) (w.tape w.drawn (.order fn id))) I;have N:m=d.s:=by
  rw [←F,T.sEnd];have:=v.jle;rcases lt_or_ge m (dU ops.toList 0).length with g|g
  · have he: (dU ops.toList 0)[m]?=some ((dU ops.toList 0)[m]) :=lZ g;obtain⟨_,C,_⟩ := (fG ops.toList 0).1 _ _ he;have:= (v.eff _ _ he).1 (l _ (by omega));omega
  ·omega
 have J:∀x ob,(m,x,ob) ∈d.pend→∃f,Pd P ops.toList R A (fun k=>D' k=true) m f ob∧tJ ops.toList f=m∧x= (R f).next:=fun x ob O=>by
  rw [←F]at O;obtain⟨f,o,H,C,W,h4,V,h6,X⟩ :=T.pend_mem _ (le_refl _) m x ob O;exact⟨f,⟨l f H,⟨o,C,W,h4,V⟩,by omega⟩,h6.symm,X⟩
 obtain⟨S,Q,_⟩ :=v.publish T J;have K:bD ops.toList R m=d.h:=by rw [N,←F];exact T.stage (le_refl _)
 rw [K,N]at S Q;refine⟨B,w',c,.head (aT7 id) (U.trans (.one vY)),⟨v.size,fun t a y=>?_⟩,S,Q⟩;refine v.tv t a ?_;rw [←F,T.view t _ (le_refl _)]at y;rw [←y];exact qJ fun k hk _=> ⟨fun _=>trivial,fun _=>l k hk⟩
theorem aFU {call:bB}(hc:dD P call){j:Nat}{ops:Array Oper}{tm tm':T AV}{h h':Hp}(a:aBs P call j ops tm h=some (tm',h')){E:Emb}{w:World}{tmps:Array Value}(r:Rel E h w.heap)(g:TR E tm j tmps)
  (id:Nat) (fn:FuncId) (ds:List Deferred) (kd:CallKind) (ro:Option Nat) (k:List Item) (cs:List Frame) :
  ∃i w' b,Steps P (lone (rf fn tmps (.code (.region id ops true) ::k) ds kd ro) cs w) (lone (rf fn b k ds kd ro) cs w') ∧TR i tm' j b∧Rel i h' w'.heap∧Ext E h w i h' w':=by
 unfold aBs at a;simp only at a;cases c: (hP ops).ok with
 |false=>rw [c]at a;cases a
 | true=>
  rw [c]at a;simp only [cond]at a;split at a
  · rename_i e f;cases d:pC P (e.h::e.stages) e.s e.again with
    |false=>rw [d]at a;cases a
    | true=>
     rw [d]at a;simp only [Option.some.injEq,Prod.mk.injEq]at a;obtain⟨rfl,rfl⟩ :=a;exact wE hc c f (aCk d) r g id fn ds kd ro k cs
  ·cases a
end
section
variable {P :Program} {E:Emb} {h h':Hp} {w w':World}
theorem tM {l:Nat}{L:Loop}{ob':Obj}(hl:w.heap[l]?=some (.loop L)) : (setObj l ob').run P w= .ok () (bP w l ob') :=mK hl (fun _ _ _ e=>by cases e)
theorem yR (r:Rel E h w.heap){l:Nat}{L:Loc}(hE:E l=some L){st pe fn tm nt ps aS bd df}(hl:h.look l=some (.loop st pe fn tm nt ps aS bd df)) :
  ∃tmps b,w.heap[L.blk]?=some (.loop {state:=st,pending:=pe,fn,tmps,params:= ⟨ps⟩,assign:=aS,body:=bd,defers:=b.blk}) ∧E df=some b∧TR E tm nt tmps:=by
 obtain⟨d,a,c⟩ :=r.obj _ _ hl;rw [hE]at a;cases a;exact c
theorem oO (r:Rel E h w.heap){l:Nat}{L:Loc}(hE:E l=some L){st pe fn tm nt ps aS bd df tmps}{c:Loc}(hl:h.look l=some (.loop st pe fn tm nt ps aS bd df))(hd:E df=some c)(e:TR E tm nt tmps)(a:LoopState)(b:Option Code) :
  Rel E (h.set l (.loop a b fn tm nt ps aS bd df)) (bP w L.blk (.loop {state:=a,pending:=b,fn,tmps,params:= ⟨ps⟩,assign:=aS,body:=bd,defers:=c.blk})).heap ∧
  Ext E h w E (h.set l (.loop a b fn tm nt ps aS bd df)) (bP w L.blk (.loop {state:=a,pending:=b,fn,tmps,params:= ⟨ps⟩,assign:=aS,body:=bd,defers:=c.blk})) :=
 r.setObj (.loop {state:=a,pending:=b,fn,tmps,params:= ⟨ps⟩,assign:=aS,body:=bd,defers:=c.blk}) hl hE rfl rfl (fun f d=> ⟨tmps,c,d,hd,e⟩)
theorem aAk (r:Rel E h w.heap){l:Nat}{L:Loc}(hE:E l=some L){pe fn tm nt ps aS bd df}(hl:h.look l=some (.loop .ready pe fn tm nt ps aS bd df)) :
  ∃w',(Instr.beginRound L.blk).run P w= .ok () w'∧Rel E (h.set l (.loop .busy pe fn tm nt ps aS bd df)) w'.heap∧Ext E h w E (h.set l (.loop .busy pe fn tm nt ps aS bd df)) w':=by
 obtain⟨a,e,b,d,c⟩ :=yR r hE hl;have:=oO r hE hl d c .busy pe;exact⟨_,by simp [Instr.beginRound,run_getLoop b,tM b],this⟩
theorem tN (r:Rel E h w.heap){l:Nat}{L:Loc}(hE:E l=some L){a:Option Code}(b:iQ h l a=some h') :
  ∃w',(Instr.endRound L.blk a).run P w= .ok (.bool a.isNone) w'∧Rel E h' w'.heap∧Ext E h w E h' w':=by
 unfold iQ at b;split at b
 · rename_i st n fn g p i o j m hl;cases b;obtain⟨d,k,c,f,e⟩ :=yR r hE hl;have:=oO r hE hl f e (match a with|none=>.ready|some _=>.done) a;refine⟨_,?_,this⟩;cases a<;>simp [Instr.endRound,run_getLoop c,tM c]
 ·cases b
theorem aD2 (r:Rel E h w.heap){l:Nat}{L:Loc}(hE:E l=some L){st pe fn tm nt ps aS bd df}(a:st≠ .busy)(hl:h.look l=some (.loop st pe fn tm nt ps aS bd df)) :
  ∃w',(Instr.endLoop L.blk).run P w= .ok pe w'∧Rel E (h.set l (.loop .exhausted pe fn tm nt ps aS bd df)) w'.heap∧Ext E h w E (h.set l (.loop .exhausted pe fn tm nt ps aS bd df)) w':=by
 obtain⟨b,f,c,e,d⟩ :=yR r hE hl;have:=oO r hE hl e d .exhausted pe;refine⟨_,?_,this⟩;cases st<;>first|exact absurd rfl a|simp [Instr.endLoop,run_getLoop c,tM c]
theorem mL (r:Rel E h w.heap){b:Nat}{L:Loc}(hE:E b=some L)(hb:h.look b=some (.defd false)) :
  ∃w',(Instr.takeDeferred L.blk).run P w= .ok [] w'∧Rel E (h.set b (.defd true)) w'.heap∧Ext E h w E (h.set b (.defd true)) w':=by
 obtain⟨j,c,f⟩ :=r.obj _ _ hb;rw [hE]at c;cases c;have:=r.setObj (o':=.defd true) (.deferred none) hb hE rfl rfl (fun k d=>d);have a:w.heap[L.blk]?=some (.deferred (some [])) :=f;refine⟨bP w L.blk (.deferred none),?_,this⟩;have g: (getObj L.blk).run P w= .ok (.deferred (some [])) w:=by simp [getObj,Sem.run,a]
 have i: (setObj L.blk (.deferred none)).run P w= .ok () (bP w L.blk (.deferred none)) :=mK a (fun _ _ _ e=>by cases e);simp [Instr.takeDeferred,g,i]
theorem aCn (r:Rel E h w.heap){fn:FuncId}{tm:T AV}{e:Nat}{tmps:Array Value}(l:TR E tm e tmps)(ps:List Nat)(c b:Code) :
  ∃ (L j:Loc) (w':World) (a:Emb),(Instr.enterLoop fn tmps ⟨ps⟩ c b none).run P w= .ok (L.blk,[{target:=.collected j.blk,args:= #[]}]) w'∧a h.nb=some j∧a (h.nb+1) =some L ∧
   Rel a ((h.new (.defd false)).new (.loop .ready none fn tm e ps c b h.nb)) w'.heap∧Ext E h w a ((h.new (.defd false)).new (.loop .ready none fn tm e ps c b h.nb)) w':=by
 obtain⟨m,i⟩ :=r.new (.defd false) (.deferred (some [])) 0 (fun _ _ _ _ f=>f)
 obtain⟨k,g⟩ :=Rel.new (w:={w with heap:=w.heap.push (.deferred (some []))}) m (.loop .ready none fn tm e ps c b h.nb)
  (.loop {state:=.ready,pending:=none,fn,tmps,params:= ⟨ps⟩,assign:=c,body:=b,defers:=w.heap.size}) 0
  (fun a n d _ f=> ⟨tmps,⟨w.heap.size,0,0⟩,f,d.1 _ _ (Emb.put_same _ _ _),(l.mono i.le).mono d⟩)
 refine⟨⟨(w.heap.push (.deferred (some []))).size,0,0⟩,⟨w.heap.size,0,0⟩,_,_,?_,?_,Emb.put_same _ _ _,k,i.trans g⟩
 · simp [Instr.enterLoop,newObj,Sem.run];rfl
 ·exact g.le.1 _ _ (Emb.put_same _ _ _)
theorem aCo (r:Rel E h w.heap){o:Nat}{i:Loc}(hE:E o=some i){st pe fn' tm' nt' ps' as' bd' df}(hl:h.look o=some (.loop st pe fn' tm' nt' ps' as' bd' df)){fn:FuncId}{tm:T AV}{e:Nat}{tmps:Array Value}(n:TR E tm e tmps)(ps:List Nat)(b a:Code) :
  ∃ (L:Loc) (w':World) (d:Emb),(Instr.enterLoop fn tmps ⟨ps⟩ b a (some i.blk)).run P w= .ok (L.blk,[]) w'∧d h.nb=some L ∧
   Rel d (h.new (.loop .ready none fn tm e ps b a df)) w'.heap∧Ext E h w d (h.new (.loop .ready none fn tm e ps b a df)) w':=by
 obtain⟨f,g,j,p,q⟩ :=yR r hE hl
 obtain⟨k,m⟩ :=r.new (.loop .ready none fn tm e ps b a df)
  (.loop {state:=.ready,pending:=none,fn,tmps,params:= ⟨ps⟩,assign:=b,body:=a,defers:=g.blk}) 0
  (fun d s c _ l=> ⟨tmps,g,l,c.1 _ _ p,n.mono c⟩)
 exact⟨_,_,_,by simp [Instr.enterLoop,run_getLoop j,newObj,Sem.run],Emb.put_same _ _ _,k,m⟩
def aEB (tmps:Array Value) :ResultVar→Sem Value
 | .tmp t=>pure (tmps.getD t Go.undef)
 | .cell a t=>do loadVar t (←asAddr (tmps.getD a Go.undef))
theorem aKw (fd:Func)(tmps:Array Value) :results fd tmps= (do let vs ←fd.results.mapM (aEB tmps);pure (if h:vs.size=1 then vs[0]else .tuple vs) :Sem Value) :=by
 unfold results;rfl
theorem tO {fd:Func}{tm:T AV}{H:Nat}{tmps:Array Value}(r:Rel E h w.heap)(p:TR E tm H tmps){f:List AV}(d:jE P h tm fd.results.toList=some f) :
  ∃cv,(results fd tmps).run P w= .ok cv w∧VR E (aAb f) cv:=by
 have key :∀ (l:List ResultVar) (f:List AV) (c:Array Value),jE P h tm l=some f→∃cvs,(l.foldlM (fun(y:Array Value) a=>Functor.map y.push (aEB tmps a)) c).run P w= .ok (c++ (⟨cvs⟩ :Array Value)) w∧VRs E f cvs:=by
  intro l
  induction l with
  |nil=>intro f c d;simp [jE]at d;subst d;exact⟨[],by simp,VRs.nil E⟩
  | cons x l A=>
   intro f c d;simp only [jE]at d;split at d
   · rename_i v o i G;cases d;have B:∃cv,(aEB tmps x).run P w= .ok cv w∧VR E v cv:=by
      unfold aMG at i;split at i
      · rename_i t;obtain⟨cv,n,j⟩ :=p.2 _ _ i;exact⟨cv,by simp [aEB,wM,n],j⟩
      · rename_i a t;split at i
        · rename_i b s hb;obtain⟨cv,n,j⟩ :=p.2 _ _ hb;simp only [VR]at j;obtain⟨L,D,rfl⟩ :=j;obtain⟨cv,m,g⟩ :=aAN r i D;exact⟨cv,by simp [aEB,wM,n,asAddr,m],g⟩
        ·cases i
     obtain⟨cv,m,g⟩ :=B;obtain⟨cvs,C,F⟩ :=A o (c.push cv) G;refine⟨cv::cvs,?_,VRs.cons g F⟩;rw [List.foldlM_cons,Sem.run_bind,Sem.run_map,m];simp only [Result.andThen_ok];rw [C];congr 1;apply Array.ext';simp
   ·cases d
 obtain⟨cvs,m,g⟩ :=key _ _ #[] d;have hm: (fd.results.mapM (aEB tmps)).run P w= .ok (⟨cvs⟩ :Array Value) w:=by
  rw [Array.mapM_eq_foldlM,←Array.foldlM_toList,m];congr 1;apply Array.ext';simp
 rw [aKw];simp only [Sem.run_bind,hm,Result.andThen_ok,Sem.run_pure];refine⟨_,rfl,?_⟩;have k:=g.length;unfold aAb;split
 · rename_i v;obtain⟨u,I,rfl,n,j⟩ :=g.cons_inv;rw [j.nil_inv];exact n
 · rename_i z
   have:¬ (⟨cvs⟩ :Array Value).size=1:=fun e=>by
    have q:cvs.length=1:=e
    match f,k with
    | [x],_=>exact z x rfl
    | [],h=>simp [q]at h
    |_::_::_,h=>simp [q]at h
   rw [dif_neg this];simp only [VR];exact⟨cvs,rfl,g⟩
theorem CR.noGoexit :∀ {c:List (AV×Bool)} {a:List PanicEntry},CR E c a→a.dropWhile (!·.goexit) = []
 | [],_,h=>by simp only [CR]at h;subst h;rfl
 | _::_,_,h=>by
  simp only [CR]at h;obtain⟨v,a,rfl,_,b⟩ :=h;simp [b.noGoexit]
theorem aFV {a:AMode}{m:FrameMode}(d:MR E a m) :MR E (aFw a) (settle m) :=by
 cases a with
 |run=>simp only [MR]at d;subst d;exact rfl
 |ret=>simp only [MR]at d;subst d;exact rfl
 | pan c=>
  simp only [MR]at d;obtain⟨l,rfl,e⟩ :=d;cases c with
  |nil=>simp only [CR]at e;subst e;exact⟨[],rfl,by simp [CR]⟩
  | cons x k=>
   obtain⟨v,b⟩ :=x;have f:=e;simp only [CR]at e;obtain⟨i,g,rfl,j,h⟩ :=e;cases b with
   |true=>simp only [aFw,settle,h.noGoexit];exact rfl
   |false=>exact⟨_,rfl,f⟩
theorem tP {a:AFrame}{c:Frame}(f:FR E a c){g:List (AV×Bool)}{ps:List PanicEntry}(e:CR E g ps) :FR E (a.raise g) (c.raise ps) :=by
 unfold AFrame.raise Frame.raise;have hm:=f.mode;cases b:a.mode with
 |run=>rw [b]at hm;simp only [MR]at hm;rw [hm];exact⟨f.fn,f.tm,f.todo,f.defers,⟨ps,rfl,e⟩,f.kind,f.round⟩
 |ret=>rw [b]at hm;simp only [MR]at hm;rw [hm];exact⟨f.fn,f.tm,f.todo,f.defers,⟨ps,rfl,e⟩,f.kind,f.round⟩
 | pan d=>
  rw [b]at hm;simp only [MR]at hm;obtain⟨qs,i,h⟩ :=hm;rw [i];exact⟨f.fn,f.tm,f.todo,f.defers,⟨_,rfl,e.append h⟩,f.kind,f.round⟩
theorem qL (id:Nat) :∀ {k l:List AItem} {m:List Item},kH id k=some l→IRs E k m→∃a,exitTo id m=some a∧IRs E l a
 | [],_,_,h,_=>by simp [kH]at h
 | i ::k,l,m,h,r=>by
  obtain⟨n,g,rfl,c,d⟩ :=r.cons_inv;cases i<;>simp only [kH]at h<;>simp only [IR]at c
  case inBlock f=>
   subst c;rw [aZ]at h;simp only [exitTo];by_cases e:f=id
   · simp only [e,decide_true,cond,Option.some.injEq]at h;subst h;exact⟨g,by simp [e],d⟩
   · simp only [e,decide_false,cond]at h;obtain⟨a,b,j⟩ :=qL id h d;exact⟨a,by simp [e,b],j⟩
  all_goals
   obtain⟨a,b,j⟩ :=qL id h d;refine⟨a,?_,j⟩
   first
    | (subst c;simpa [exitTo]using b)
    | (obtain⟨L,_,rfl⟩ :=c;simpa [exitTo]using b)
    | (obtain⟨rfl,_⟩ :=c;simpa [exitTo]using b)
theorem nP (id:Nat) :∀ {k:List AItem} {d:List Item},kH id k=none→IRs E k d→exitTo id d=none
 | [],_,_,r=>by rw [r.nil_inv];rfl
 | i ::k,d,h,r=>by
  obtain⟨j,g,rfl,a,f⟩ :=r.cons_inv;cases i<;>simp only [kH]at h<;>simp only [IR]at a
  case inBlock c=>
   subst a;rw [aZ]at h;simp only [exitTo];by_cases e:c=id
   ·simp only [e,decide_true,cond]at h;cases h
   · simp only [e,decide_false,cond]at h;simp [e,nP id h f]
  all_goals
   have b:=nP id h f
   first
    | (subst a;simpa [exitTo]using b)
    | (obtain⟨L,_,rfl⟩ :=a;simpa [exitTo]using b)
    | (obtain⟨rfl,_⟩ :=a;simpa [exitTo]using b)
theorem qM (l:Nat) :∀ {k m:List AItem} {n:List Item},kJ l k=some m→IRs E k n→∃a,gotoIn l n=some a∧IRs E m a
 | [],_,_,h,_=>by simp [kJ]at h
 | i ::k,m,n,h,r=>by
  obtain⟨o,g,rfl,d,f⟩ :=r.cons_inv;cases i<;>simp only [kJ]at h<;>simp only [IR]at d
  case inScope e=>
   subst d;simp only [gotoIn];split at h
   · rename_i b hr;cases h;exact⟨.code b:: .inScope e::g,by simp [hr],IRs.cons rfl (IRs.cons rfl f)⟩
   · rename_i hr;obtain⟨a,c,j⟩ :=qM l h f;exact⟨a,by simp [hr,c],j⟩
  all_goals
   obtain⟨a,c,j⟩ :=qM l h f;refine⟨a,?_,j⟩
   first
    | (subst d;simpa [gotoIn]using c)
    | (obtain⟨L,_,rfl⟩ :=d;simpa [gotoIn]using c)
    | (obtain⟨rfl,_⟩ :=d;simpa [gotoIn]using c)
theorem nQ (l:Nat) :∀ {k:List AItem} {c:List Item},kJ l k=none→IRs E k c→gotoIn l c=none
 | [],_,_,r=>by rw [r.nil_inv];rfl
 | i ::k,c,h,r=>by
  obtain⟨g,f,rfl,a,d⟩ :=r.cons_inv;cases i<;>simp only [kJ]at h<;>simp only [IR]at a
  case inScope e=>
   subst a;simp only [gotoIn];split at h
   ·cases h
   · rename_i hr;simp [hr,nQ l h d]
  all_goals
   have b:=nQ l h d
   first
    | (subst a;simpa [gotoIn]using b)
    | (obtain⟨L,_,rfl⟩ :=a;simpa [gotoIn]using b)
    | (obtain⟨rfl,_⟩ :=a;simpa [gotoIn]using b)
def Goes (P:Program)(E:Emb)(h:Hp)(fr:Frame)(cs:List Frame)(w:World)(base:List Frame)(s':AS) :Prop:=
 ∃E' fr' cs' w',Steps P (lone fr (cs++base) w) (lone fr' (cs'++base) w') ∧FR E' s'.fr fr'∧FRs E' s'.cs cs'∧Rel E' s'.h w'.heap∧Ext E h w E' s'.h w'
section
variable {fn :FuncId} {tmps:Array Value} {ds:List Deferred} {kd:CallKind} {ro:Option Nat} {k:List Item} {ccs base:List Frame} {todo:List Item}
theorem drop_cons {a:Type}{l:List a}{i:Nat}{x:a}{xs:List a}(h:x::xs=l.drop i) :l[i]?=some x∧xs=l.drop (i+1) :=by
 have b: (l.drop i)[0]?=some x:=by rw [←h];rfl
 rw [List.getElem?_drop,Nat.add_zero]at b;refine⟨b,?_⟩;have:l.drop (i+1) = (l.drop i).drop 1:=by rw [List.drop_drop]
 rw [this,←h];rfl
theorem aCp {all:Array Oper}{i:Nat}{o:Oper}{rest:List Oper}{b:Item}(a:IR E (.ops all i (o::rest)) b) :
  b= .inRegion all (i::range' (i+1) rest.length) ∧all[i]?=some o∧IR E (.ops all (succ i) rest) (.inRegion all (range' (i+1) rest.length)) :=by
 simp only [IR]at a;obtain⟨rfl,e⟩ :=a;obtain⟨c,d⟩ :=drop_cons e;exact⟨by simp [List.range'_succ],by rw [←oZ];exact c,rfl,d⟩
theorem lR {c q:AFrame}{v:AV}{p:Frame}{cv:Value}(a:c.finish v=some q)(f:FR E c p)(t:VR E v cv) :FR E q (p.finish cv) :=by
 unfold AFrame.finish at a;have b:=f.todo;split at a
 · rename_i all i o n k j;split at a
   · rename_i s m;cases a;rw [j]at b;obtain⟨x,w,e,d,g⟩ :=b.cons_inv;obtain⟨rfl,h,u⟩ :=aCp d;have r:=aCi f.tm m t;unfold Frame.finish;rw [e];simp only [h,Option.bind_some];refine⟨f.fn,?_,IRs.cons u g,f.defers,f.mode,f.kind,f.round⟩;unfold yM at r;exact r
   ·cases a
 · rename_i l k j;cases a;rw [j]at b;obtain⟨x,w,e,d,g⟩ :=b.cons_inv;simp only [IR]at d;obtain⟨L,h,rfl⟩ :=d;unfold Frame.finish;rw [e];exact⟨f.fn,f.tm,IRs.cons ⟨L,h,rfl⟩ g,f.defers,f.mode,f.kind,f.round⟩
 ·cases a
theorem wF {fr:AFrame}{cfr:Frame}(hk:cfr.kind=fr.kind){cs:List AFrame}(fs:FRs E cs ccs){v:AV}{cv:Value}{f:AS}(d:xZ fr cs v h=some f)(j:VR E v cv) :
  ∃c b,ccs=c::b∧FR E f.fr (handed cfr c cv) ∧FRs E f.cs b∧f.h=h∧ (cfr.kind= .normal∨cfr.kind= .deferred) :=by
 unfold xZ at d;split at d
 ·cases d
 · rename_i c cs;obtain⟨k,b,rfl,e,i⟩ :=fs.cons_inv;refine⟨k,b,rfl,?_⟩;split at d
   · rename_i a;split at d
     · rename_i l g;cases d;refine⟨?_,i,rfl,.inl (by rw [hk,a])⟩;simp only [handed,hk,a];exact lR g e j
     ·cases d
   · rename_i a;cases d;refine⟨?_,i,rfl,.inr (by rw [hk,a])⟩;simp only [handed,hk,a];exact⟨e.fn,e.tm,e.todo,e.defers,aFV e.mode,e.kind,e.round⟩
   ·cases d
theorem Goes.one {s':AS}{fr fr':Frame}{cs':List Frame}{E':Emb}(a:step P (lone fr (ccs++base) w) = .next (lone fr' (cs'++base) w'))(f:FR E' s'.fr fr')(fs:FRs E' s'.cs cs')(r:Rel E' s'.h w'.heap)(x:Ext E h w E' s'.h w') :Goes P E h fr ccs w base s':=
 ⟨E',fr',cs',w',.one a,f,fs,r,x⟩
theorem qN {l:Nat}(hr:RR E (some l) ro) :∃L,E l=some L∧ro=some L.blk:=by simpa only [RR]using hr
theorem lS {fr:AFrame}{cs:List AFrame}{a:Option Code}{s':AS}(r:Rel E h w.heap)(f:FR E fr (rf fn tmps todo ds kd ro))(fs:FRs E cs ccs)(d:oI fr cs h a=some s')
  (n: (todo= [] ∧a=none) ∨ (∃k,todo= .code .ret::k∧a=some .ret) ∨ (∃id k,todo= .code (.exit id) ::k∧a=some (.exit id) ∧exitTo id k=none) ∨ (∃t k,todo= .code (.goto t) ::k∧a=some (.goto t) ∧gotoIn t k=none)) :
  Goes P E h (rf fn tmps todo ds kd ro) ccs w base s':=by
 unfold oI at d;have b:=f.round;split at d
 · rename_i g;rw [g]at b;simp only [RR]at b;subst b
   have i:∀j,(step P (lone (rf fn tmps j ds kd none) (ccs++base) w) = .next (lone {rf fn tmps j ds kd none with mode:=.returning} (ccs++base) w)) →j=todo→some ⟨{fr with mode:=.ret},cs,h⟩ =some s'→Goes P E h (rf fn tmps todo ds kd none) ccs w base s':=fun j u e d=>by
    cases d;subst e;exact Goes.one u ⟨f.fn,f.tm,f.todo,f.defers,rfl,f.kind,by rw [show({fr with mode:=AMode.ret}:AFrame).roundOf=fr.roundOf from rfl,g];exact rfl⟩ fs r (Ext.refl _ _ _)
   split at d
   · rcases n with⟨e,_⟩ | ⟨_,_,e⟩ | ⟨_,_,_,e,_⟩ | ⟨_,_,_,e,_⟩
     ·exact i [] aWa e.symm d
     ·cases e
     ·cases e
     ·cases e
   · rcases n with⟨_,e⟩ | ⟨k,e,_⟩ | ⟨_,_,_,e,_⟩ | ⟨_,_,_,e,_⟩
     ·cases e
     ·exact i _ aWb e.symm d
     ·cases e
     ·cases e
   ·cases d
 · rename_i l g;rw [g]at b;obtain⟨L,hE,rfl⟩ :=qN b;split at d
   · rename_i C o;obtain⟨B,s,y,q⟩ :=tN (P:=P) r hE o;have v:VR E (.bool a.isNone) (.bool a.isNone) :=by simp only [VR]
     obtain⟨c,m,rfl,A,x,p,z⟩ :=wF (cfr:=rf fn tmps todo ds kd (some L.blk)) f.kind fs d v;refine Goes.one (cs':=m) (tA z n s) A x (by rw [p];exact y) (by rw [p];exact q)
   ·cases d
theorem FR.run {fr:AFrame}{c:Frame}(f:FR E fr c)(hm:fr.mode= .run) :c=rf c.fn c.tmps c.todo c.defers c.kind c.roundOf:=by
 have:=f.mode;rw [hm]at this;simp only [MR]at this;cases c;simp only at this;subst this;rfl
theorem eR {fr:AFrame}{cs:List AFrame}{s':AS}{b:List AItem}{a:List Item}(r:Rel E h w.heap)(f:FR E fr (rf fn tmps todo ds kd ro))(hm:fr.mode= .run)(fs:FRs E cs ccs)(c:toC fr b cs h=some s')(d:IRs E b a)
  (e:step P (lone (rf fn tmps todo ds kd ro) (ccs++base) w) = .next (lone (rf fn tmps a ds kd ro) (ccs++base) w)) :Goes P E h (rf fn tmps todo ds kd ro) ccs w base s':=by
 unfold toC at c;cases c;exact Goes.one e ⟨f.fn,f.tm,d,f.defers,f.mode,f.kind,f.round⟩ fs r (Ext.refl _ _ _)
theorem aNC (r:Rel E h w.heap){fr:AFrame}{cs:List AFrame}{call:bB}{all:Array Oper}{i:Nat}{o:Oper}{rest:List Oper}{ak:List AItem}(hm:fr.mode= .run)(S:fr.todo= .ops all i (o::rest) ::ak)
  (f:FR E fr (rf fn tmps todo ds kd ro)) (fs:FRs E cs ccs) {s':AS} (m:jF P call ⟨fr,cs,h⟩ =some s') :Goes P E h (rf fn tmps todo ds kd ro) ccs w base s':=by
 unfold jF at m;simp only [hm,S]at m;have ft:=f.todo;rw [S]at ft;obtain⟨it,k,e,i1,U⟩ :=ft.cons_inv;simp only at e;subst e;obtain⟨rfl,K,Y⟩ :=aCp i1;have hd: (all[i]?).bind (·.dst) =o.dst:=by rw [K];rfl
 have a:∀ {b},bC fr.tm all.toList o=some b→Region.wanted o (yielded all tmps) =b:=fun h=>vZ f.tm h;have B:=TR.reads (E:=E) f.tm fn (.inRegion all (i::range' (i+1) rest.length) ::k) ds kd ro (· ∈o.op.operands)
 have put:∀ {R:Emb} {s:T AV} {v:AV} {C:Value},E.le R→fQ fr.tm fr.nt o.dst v=some s→VR R v C→TR R s fr.nt (match o.dst with|some d=>tmps.setIfInBounds d C|none=>tmps) :=fun hle hp hv=>by
  have:=aCi (f.tm.mono hle) hp hv;unfold yM at this;exact this
 split at m
 ·cases m
 · rename_i J;split at m
   · rename_i s n;cases m;refine Goes.one (vX K (a J)) ⟨f.fn,?_,IRs.cons Y U,f.defers,by simp only [hm];exact rfl,f.kind,f.round⟩ fs r (Ext.refl _ _ _);simp only [Frame.finish,hd];exact put (Emb.le.refl E) n (pD E)
   ·cases m
 · rename_i J;split at m
   · rename_i v h2 j;split at m
     · rename_i s n;cases m;have y:=aEA j;obtain⟨R,w',C,z,O,V,D⟩ :=iU r B j;have ff:FR R {fr with tm:=s,todo:=.ops all (succ i) rest::ak,mode:=.run} ((rf fn tmps (.inRegion all (i::range' (i+1) rest.length) ::k) ds kd ro).finish C) :=by
        simp only [Frame.finish,hd];exact⟨f.fn,put D.le n O,IRs.cons (Y.mono D.le) (U.mono D.le),f.defers.mono D.le,by simp only [hm];exact rfl,f.kind,f.round.mono D.le⟩
       rcases z with z| ⟨z,rfl⟩
       ·exact Goes.one (wS K (a J) (.inr y) z) ff (fs.mono D.le) V D
       ·exact Goes.one (aCg K (a J) (.inr y) z) ff (fs.mono D.le) V D
     ·cases m
   · rename_i c j;unfold oJ at m;split at m
     · rename_i g hg;cases m;have y:=wV j;obtain⟨nx,G,z,O,V⟩ :=oN r hg (iU r B j);have W:FRs E (fr::cs) (rf fn tmps (.inRegion all (i::range' (i+1) rest.length) ::k) ds kd ro::ccs) :=FRs.cons f fs;rcases O with⟨f',args,rfl,rfl⟩ | ⟨l,f',t,aS,bd,rfl,rfl⟩
       ·exact Goes.one (wT K (a J) (.inr y) z) V W r (Ext.refl _ _ _)
       ·exact Goes.one (aCh K (a J) (.inr y) z) V W r (Ext.refl _ _ _)
     ·cases m
   · rename_i d j;split at m
     · rename_i s H n;cases m;have u:=f.round;rw [H]at u;simp only [RR]at u;subst u;obtain⟨cd,z,O⟩ :=iU r B j;refine Goes.one (aHG K (a J) z) ?_ fs r (Ext.refl _ _ _);simp only [Frame.finish,hd];exact⟨f.fn,put (Emb.le.refl E) n (pD E),IRs.cons Y U,DRs.cons O f.defers,by simp only [hm];exact rfl,f.kind,by simp only [H];exact rfl⟩
     ·cases m
   · rename_i v j;cases m;obtain⟨C,z,O⟩ :=iU r B j;have y:∀c,o.op≠ .defer c:=by
      intro c hc;unfold iO at j;split at j
      ·rename_i r hr;cases j;obtain⟨d,e⟩ :=wU c hc hr;cases e
      ·rw [aAi c hc]at j;cases j
     exact Goes.one (aHH K (a J) (.inr y) z) (tP f (ps:=[{v:=C,recovered:=false}]) ⟨C,[],rfl,O,rfl⟩) fs r (Ext.refl _ _ _)
   · rename_i j;split at m
     · rename_i c cs' H hkd;have u:=f.round;rw [H]at u;simp only [RR]at u;subst u;have fk:=f.kind;rw [hkd]at fk;simp only at fk;subst fk;obtain⟨Z,q,rfl,M,f2⟩ :=fs.cons_inv;have z: (execOp (rf fn tmps (.inRegion all (i::range' (i+1) rest.length) ::k) ds .deferred none).eval o).run P w= .ok .recover w:=iU r B j;have L:=aDZ (P:=P) (k:=k) (ds:=ds) (cs:=q++base) (fn:=fn) (rest:=range' (i+1) rest.length) (tmps:=tmps) K (a J) (c:=Z) z;have A:=M.mode;split at m
       · rename_i v older p;split at m
         · rename_i s n;cases m;rw [p]at A;simp only [MR,CR]at A;obtain⟨ps,e1,C,Q,rfl,F,e3⟩ :=A;rw [e1]at L;simp only at L;refine Goes.one (cs':={Z with mode:=.panicking ({v:=C,recovered:=true}::Q)}::q) L ?_ (FRs.cons ⟨M.fn,M.tm,M.todo,M.defers,⟨_,rfl,C,Q,rfl,F,e3⟩,M.kind,M.round⟩ f2) r (Ext.refl _ _ _);simp only [Frame.finish,hd];exact⟨f.fn,put (Emb.le.refl E) n F,IRs.cons Y U,f.defers,by simp only [hm];exact rfl,f.kind,f.round⟩
         ·cases m
       · rename_i hno;split at m
         · rename_i s n;cases m;have X:step P (lone (rf fn tmps (.inRegion all (i::range' (i+1) rest.length) ::k) ds .deferred none) (Z:: (q++base)) w) = .next (lone ((rf fn tmps (.inRegion all (i::range' (i+1) rest.length) ::k) ds .deferred none).finish .nilIface) (Z:: (q++base)) w) :=by
            rw [L];split
            · rename_i v older p;exfalso;cases I:c.mode with
              |run=>rw [I]at A;simp only [MR]at A;rw [A]at p;cases p
              |ret=>rw [I]at A;simp only [MR]at A;rw [A]at p;cases p
              | pan N=>
               rw [I]at A;simp only [MR]at A;obtain⟨ps,e1,F⟩ :=A;rw [e1]at p;cases p;cases N with
               |nil=>simp only [CR]at F;cases F
               | cons x xs=>
                obtain⟨xv,xb⟩ :=x;simp only [CR]at F;obtain⟨C,Q,F,_,_⟩ :=F;cases F;exact hno _ _ I
            ·rfl
           refine Goes.one (cs':=Z::q) X ?_ (FRs.cons M f2) r (Ext.refl _ _ _);simp only [Frame.finish,hd];exact⟨f.fn,put (Emb.le.refl E) n (by simp only [VR]),IRs.cons Y U,f.defers,by simp only [hm];exact rfl,f.kind,f.round⟩
         ·cases m
     ·cases m
   ·cases m
end
section
variable {fn :FuncId} {tmps:Array Value} {ds:List Deferred} {kd:CallKind} {ro:Option Nat} {ccs base:List Frame} {todo:List Item}
theorem aPW (r:Rel E h w.heap){fr:AFrame}{cs:List AFrame}{call:bB}{g:Operand}{ps:Array Nat}{assign body:Code}{ak:List AItem}(hm:fr.mode= .run)(htd:fr.todo= .code (.rangeFunc g ps assign body) ::ak)
  (f:FR E fr (rf fn tmps todo ds kd ro)) (fs:FRs E cs ccs) {s':AS} (h0:jF P call ⟨fr,cs,h⟩ =some s') :Goes P E h (rf fn tmps todo ds kd ro) ccs w base s':=by
 unfold jF at h0;simp only [hm,htd]at h0;have ft:=f.todo;rw [htd]at ft;obtain⟨it,k,e,i1,i2⟩ :=ft.cons_inv;simp only at e;subst e;simp only [IR]at i1;subst i1;have hfn:fn=fr.fn:=f.fn;split at h0
 ·cases h0
 · rename_i fv hfv;have fr0:=f.round
   have res:∀ {E':Emb} {h2:Hp} {w2:World} {L:Loc} {la:Nat} {mark:List Deferred} {todo':List AItem} {defers':List ADef} {c:AIn},Ext E h w E' h2 w2→Rel E' h2 w2.heap→E' la=some L →
     (Instr.enterLoop fn tmps ps assign body ro).run P w= .ok (L.blk,mark) w2→pX P fv [.yield la] =some (.call c) →DRs E' defers' (mark++ds) →IRs E' todo' (.inRangeFunc L.blk::k) →
     oJ P {fr with todo:=todo',defers:=defers'} cs h2 c=some s'→Goes P E h (rf fn tmps (.code (.rangeFunc g ps assign body) ::k) ds kd ro) ccs w base s':=by
    intro E' h2 w2 L la mark todo' defers' c x r2 hL he hc hds htd' h0;unfold oJ at h0;split at h0
    · rename_i G hG;cases h0;have hρ:=TR.reads (E:=E') (f.tm.mono x.le) fn (.inRangeFunc L.blk::k) (mark++ds) kd ro (fun _=>True);obtain⟨d,k1,k2⟩ :=yE (P:=P) (cargs:=[.func (.yield L.blk) #[] #[]]) r2 hc (hρ g trivial _ hfv) (VRs.cons (by simp only [VR];exact⟨L,hL,rfl⟩) (VRs.nil E'));obtain⟨nx,CG,g1,g2,g3⟩ :=oN r2 hG k2;have hres: (resolve (rf fn tmps (.inRangeFunc L.blk::k) (mark++ds) kd ro).eval {callee:=.value g,args:= #[.const (.func (.yield L.blk) #[] #[])],argTypes:= #[]} 0).run P w2= .ok d w2:=by
       simp only [resolve];rw [show(#[Operand.const (.func (.yield L.blk) #[] #[])] :Array Operand).map (rf fn tmps (.inRangeFunc L.blk::k) (mark++ds) kd ro).eval= ⟨[.func (.yield L.blk) #[] #[]]⟩from by simp [Frame.eval]];exact k1
      exact Goes.one (cs':=rf fn tmps (.inRangeFunc L.blk::k) (mark++ds) kd ro::ccs) (aFO he hres g1 g2) g3
       (FRs.cons ⟨f.fn,f.tm.mono x.le,htd',hds,by simp only [hm];exact rfl,f.kind,f.round.mono x.le⟩ (fs.mono x.le)) r2 x
    ·cases h0
   have hps:ps= ⟨ps.toList⟩ :=rfl;split at h0
   · rename_i hro;rw [hro]at fr0;simp only [RR]at fr0;subst fr0;obtain⟨L,Ld,w2,E',e1,e2,e3,r2,x⟩ :=aCn (P:=P) r f.tm ps.toList assign body (fn:=fn);split at h0
     · rename_i c hc;refine res (E':=E') (w2:=w2) (L:=L) (la:=h.nb+1) (mark:=[{target:=.collected Ld.blk,args:= #[]}]) (todo':=.inRF (h.nb+1) ::ak) (defers':=.col h.nb::fr.defers) (h2:= (h.new (.defd false)).new (.loop .ready none fr.fn fr.tm fr.nt ps.toList assign body h.nb)) (c:=c) ?_ ?_ e3 e1 hc ?_ ?_ ?_
       ·rw [←hfn];exact x
       ·rw [←hfn];exact r2
       ·exact DRs.cons ⟨Ld,e2,rfl⟩ (f.defers.mono x.le)
       ·exact IRs.cons ⟨L,e3,rfl⟩ (i2.mono x.le)
       ·simp only [hm];exact h0
     ·cases h0
   · rename_i o hro;rw [hro]at fr0;obtain⟨Lo,hEo,rfl⟩ :=qN fr0;split at h0
     · rename_i st pe fn' tm' nt' ps' as' bd' df hl;obtain⟨L,w2,E',e1,e3,r2,x⟩ :=aCo (P:=P) r hEo hl f.tm ps.toList assign body (fn:=fn);split at h0
       · rename_i c hc;refine res (E':=E') (w2:=w2) (L:=L) (la:=h.nb) (mark:=[]) (todo':=.inRF h.nb::ak) (defers':=fr.defers) (h2:=h.new (.loop .ready none fr.fn fr.tm fr.nt ps.toList assign body df)) (c:=c) ?_ ?_ e3 e1 hc ?_ ?_ ?_
         ·rw [←hfn];exact x
         ·rw [←hfn];exact r2
         ·exact f.defers.mono x.le
         ·exact IRs.cons ⟨L,e3,rfl⟩ (i2.mono x.le)
         ·simpa [hm,hro]using h0
       ·cases h0
     ·cases h0
theorem tQ {call:bB}(hc:dD P call){s s':AS}(h0:jF P call s=some s'){fr:Frame}(f:FR E s.fr fr)(fs:FRs E s.cs ccs)(r:Rel E s.h w.heap)(base:List Frame) :Goes P E s.h fr ccs w base s':=by
 obtain⟨afr,cs,h⟩ :=s;simp only at f fs r ⊢;cases hm:afr.mode with
 | run =>
  have e:=f.run hm;generalize fr.fn=fn at e;generalize fr.tmps=tmps at e;generalize fr.todo=todo at e;generalize fr.defers=ds at e;generalize fr.kind=kd at e;generalize fr.roundOf=ro at e;subst e;have ft:=f.todo;simp only at ft;cases htd:afr.todo with
  | nil=>
   rw [htd]at ft;have e:=ft.nil_inv;subst e;unfold jF at h0;simp only [hm,htd]at h0;exact lS r f fs h0 (.inl ⟨rfl,rfl⟩)
  | cons it ak=>
   rw [htd]at ft;obtain⟨ci,ck,e,i1,i2⟩ :=ft.cons_inv;subst e;have h00:=h0;unfold jF at h0;simp only [hm,htd]at h0;cases it with
   | code c=>
    simp only [IR]at i1;subst i1;cases c with
    |ret=>exact lS r f fs h0 (.inr (.inl ⟨ck,rfl,rfl⟩))
    |skip=>exact eR r f hm fs h0 i2 aT5
    |label l=>exact eR r f hm fs h0 i2 (aPN l)
    |seq a b=>exact eR r f hm fs h0 (IRs.cons rfl (IRs.cons rfl i2)) (aV9 a b)
    | cond c x y=>
     simp only at h0;have hρ:=TR.reads (E:=E) f.tm fn (.code (.cond c x y) ::ck) ds kd ro (fun _=>True);split at h0
     · rename_i hcv;have:=hρ c trivial _ hcv;simp only [VR]at this;exact eR r f hm fs h0 (IRs.cons rfl i2) (aMH c x y true this)
     · rename_i hcv;have:=hρ c trivial _ hcv;simp only [VR]at this;exact eR r f hm fs h0 (IRs.cons rfl i2) (aMH c x y false this)
     ·cases h0
    |block id c=>exact eR r f hm fs h0 (IRs.cons rfl (IRs.cons rfl i2)) (aPO id c)
    |loop c=>exact eR r f hm fs h0 (IRs.cons rfl (IRs.cons rfl i2)) (aT6 c)
    |scope c=>exact eR r f hm fs h0 (IRs.cons rfl (IRs.cons rfl i2)) (aPP c)
    | exit id=>
     simp only at h0;split at h0
     · rename_i k' hk';obtain⟨ck',g1,g2⟩ :=qL id hk' i2;exact eR r f hm fs h0 g2 (aT8 id g1)
     · rename_i hk';exact lS r f fs h0 (.inr (.inr (.inl ⟨id,ck,rfl,rfl,nP id hk' i2⟩)))
    | goto l=>
     simp only at h0;split at h0
     · rename_i k' hk';obtain⟨ck',g1,g2⟩ :=qM l hk' i2;exact eR r f hm fs h0 g2 (aT9 l g1)
     · rename_i hk';exact lS r f fs h0 (.inr (.inr (.inr ⟨l,ck,rfl,rfl,nQ l hk' i2⟩)))
    | region id ops draw=>
     cases draw with
     | false=>
      refine eR r f hm fs h0 (IRs.cons ⟨?_,rfl⟩ i2) (aNy id);rw [List.range_eq_range'];simp
     | true=>
      simp only at h0;split at h0
      · rename_i tm' h' hr;cases h0;obtain⟨E',w',tmps',s1,t1,r1,x1⟩ :=aFU hc hr r f.tm id fn ds kd ro ck (ccs++base);exact⟨E',_,ccs,w',s1,⟨f.fn,t1,i2.mono x1.le,f.defers.mono x1.le,by simp only [hm];exact rfl,f.kind,f.round.mono x1.le⟩,fs.mono x1.le,r1,x1⟩
      ·cases h0
    |rangeFunc g ps assign body=>exact aPW r hm htd f fs h00
    |refuse _=>cases h0
   |inBlock id=>simp only [IR]at i1;subst i1;exact eR r f hm fs h0 i2 (aKo id)
   |inLoop c=>simp only [IR]at i1;subst i1;exact eR r f hm fs h0 (IRs.cons rfl (IRs.cons rfl i2)) (aNx c)
   |inScope c=>simp only [IR]at i1;subst i1;exact eR r f hm fs h0 i2 (aKp c)
   | ops all i rest=>
    cases rest with
    | nil=>
     simp only [IR]at i1;obtain⟨rfl,_⟩ :=i1;exact eR r f hm fs h0 i2 (by simpa using vY)
    |cons o rest=>exact aNC r hm htd f fs h00
   |inRF l=>cases h0
   |junk=>cases h0
   | endRF l=>
    simp only [IR]at i1;obtain⟨L,hE,rfl⟩ :=i1;simp only at h0;split at h0
    ·cases h0
    · rename_i st pe fn' tm' nt' ps' as' bd' df hno hl;cases h0;obtain⟨w',g1,g2,g3⟩ :=aD2 (P:=P) r hE (fun e=>hno e) hl;refine Goes.one (cs':=ccs) (aPQ g1) ⟨f.fn,f.tm,?_,f.defers,by simp only [hm];exact rfl,f.kind,f.round⟩ fs g2 g3;cases pe with
      |none=>simpa using i2
      |some c=>simpa using IRs.cons (E:=E) (a:=.code c) (i:=.code c) rfl i2
    ·cases h0
   | beginRound=>
    simp only [IR]at i1;subst i1;simp only at h0;split at h0
    ·cases h0
    · rename_i l hro;have fr0:=f.round;rw [hro]at fr0;obtain⟨L,hE,rfl⟩ :=qN fr0;split at h0
      · rename_i pe fn' tm' nt' ps' as' bd' df hl;cases h0;obtain⟨w',g1,g2,g3⟩ :=aAk (P:=P) r hE hl;exact Goes.one (cs':=ccs) (aD1 g1) ⟨f.fn,f.tm,i2,f.defers,by simp only [hm];exact rfl,f.kind,by simp only [hro];exact⟨L,hE,rfl⟩⟩ fs g2 g3
      ·cases h0
 | ret =>
  have fm:=f.mode;rw [hm]at fm;simp only [MR]at fm;have hnr:fr.mode≠ .run:=by rw [fm];intro e;cases e
  have fd:=f.defers;unfold jF at h0;simp only [hm]at h0;split at h0
  · rename_i b dl hdl;rw [hdl]at fd;obtain⟨d,ds',e,d1,d2⟩ :=fd.cons_inv;obtain⟨L,hE,rfl⟩ :=d1;split at h0
    · rename_i hb;cases h0;obtain⟨w',g1,g2,g3⟩ :=mL (P:=P) r hE hb;exact Goes.one (cs':=ccs) (yL hnr e g1) ⟨f.fn,f.tm,f.todo,d2,by simp only [hm];exact fm,f.kind,f.round⟩ fs g2 g3
    ·cases h0
  · rename_i g args dl hdl;rw [hdl]at fd;obtain⟨d,ds',e,d1,d2⟩ :=fd.cons_inv;obtain⟨cap,a,rfl,ha⟩ :=d1;cases hcl:dA P g with
    |false=>rw [hcl]at h0;cases h0
    | true=>
     rw [hcl]at h0;simp only [cond]at h0;split at h0
     · rename_i G hG;cases h0;have:=gK hG ha;refine Goes.one (cs':={fr with defers:=ds'}::ccs) (aAQ hnr e hcl) ?_ (FRs.cons ⟨f.fn,f.tm,f.todo,d2,by simp only [hm];exact fm,f.kind,f.round⟩ fs) r (Ext.refl _ _ _);rw [show(⟨a⟩ :Array Value) ++ ⟨cap⟩ = ⟨a++cap⟩by apply Array.ext';simp];exact this
     ·cases h0
  · rename_i hdl;rw [hdl]at fd;have e:=fd.nil_inv;split at h0
    ·cases h0
    · rename_i fdd hfd;split at h0
      · rename_i vs hvs;obtain⟨cv,g1,g2⟩ :=tO r f.tm hvs;obtain⟨c,cs1,rfl,k1,k2,k3,k4⟩ :=wF f.kind fs h0 g2;refine Goes.one (cs':=cs1) (aHI fm e (by rw [f.fn];exact hfd) g1 k4) k1 k2 (by rw [k3];exact r) (by rw [k3];exact Ext.refl _ _ _)
      ·cases h0
 | pan chain=>
  have fm:=f.mode;rw [hm]at fm;simp only [MR]at fm;obtain⟨ps,fm,hcr⟩ :=fm;have hnr:fr.mode≠ .run:=by rw [fm];intro e;cases e
  have fd:=f.defers;unfold jF at h0;simp only [hm]at h0;split at h0
  · rename_i b dl hdl;rw [hdl]at fd;obtain⟨d,ds',e,d1,d2⟩ :=fd.cons_inv;obtain⟨L,hE,rfl⟩ :=d1;split at h0
    · rename_i hb;cases h0;obtain⟨w',g1,g2,g3⟩ :=mL (P:=P) r hE hb;exact Goes.one (cs':=ccs) (yL hnr e g1) ⟨f.fn,f.tm,f.todo,d2,by simp only [hm];exact⟨ps,fm,hcr⟩,f.kind,f.round⟩ fs g2 g3
    ·cases h0
  · rename_i g args dl hdl;rw [hdl]at fd;obtain⟨d,ds',e,d1,d2⟩ :=fd.cons_inv;obtain⟨cap,a,rfl,ha⟩ :=d1;cases hcl:dA P g with
    |false=>rw [hcl]at h0;cases h0
    | true=>
     rw [hcl]at h0;simp only [cond]at h0;split at h0
     · rename_i G hG;cases h0;have:=gK hG ha;refine Goes.one (cs':={fr with defers:=ds'}::ccs) (aAQ hnr e hcl) ?_ (FRs.cons ⟨f.fn,f.tm,f.todo,d2,by simp only [hm];exact⟨ps,fm,hcr⟩,f.kind,f.round⟩ fs) r (Ext.refl _ _ _);rw [show(⟨a⟩ :Array Value) ++ ⟨cap⟩ = ⟨a++cap⟩by apply Array.ext';simp];exact this
     ·cases h0
  · rename_i hdl;rw [hdl]at fd;have e:=fd.nil_inv;split at h0
    · rename_i fdd c cs' hfd;cases h0;obtain⟨cc,ccs',rfl,f1,f2⟩ :=fs.cons_inv;exact Goes.one (cs':=ccs') (tB fm e (by rw [f.fn];exact hfd)) (tP f1 hcr) f2 r (Ext.refl _ _ _)
    ·cases h0
end
def GrownO (W W':World) :Prop:=W.keptBut W' (fun _=>False) ∧ (∀a:Addr,a.block<W.heap.size→W'.frozen? a=W.frozen? a) ∧W.heap.size≤W'.heap.size
theorem aAU {s:AS}{v:AV}{h':Hp}(a:vS P s=some (v,h')){fr:Frame}(f:FR E s.fr fr)(r:Rel E s.h w.heap)(y:Frame)(base:List Frame) :
  s.cs= [] ∧∃o w',step P (lone fr (y::base) w) = .next (lone (y.finish o) base w') ∧VR E v o∧Rel E h' w'.heap∧Ext E s.h w E h' w':=by
 obtain⟨q,S,h⟩ :=s;unfold vS at a;simp only at a f r ⊢;split at a
 · rename_i hk;refine⟨rfl,?_⟩;have z:=f.kind;rw [hk]at z;have F:=f.mode;have J:=f.defers;have u:=f.round;have j:=f.todo
   have i:∀ {l:Nat} {c:Option Code} {n:Hp} {b:Bool},q.mode= .run→q.roundOf=some l→iQ h l c=some n→b=c.isNone →
     ((fr.todo= [] ∧c=none) ∨ (∃k,fr.todo= .code .ret::k∧c=some .ret) ∨ (∃id k,fr.todo= .code (.exit id) ::k∧c=some (.exit id) ∧exitTo id k=none) ∨ (∃t k,fr.todo= .code (.goto t) ::k∧c=some (.goto t) ∧gotoIn t k=none)) →
     some (AV.bool b,n) =some (v,h') →∃o w',step P (lone fr (y::base) w) = .next (lone (y.finish o) base w') ∧VR E v o∧Rel E h' w'.heap∧Ext E h w E h' w':=by
    intro l c n b hm hl he hb K a;cases a;rw [hl]at u;obtain⟨L,hE,Q⟩ :=qN u;have e:=f.run hm;rw [Q,z]at e;obtain⟨N,G,H,O⟩ :=tN (P:=P) r hE he;rw [e];refine⟨.bool c.isNone,N,?_,by rw [hb];simp only [VR],H,O⟩;exact tA (.inl rfl) K G
   split at a
   · rename_i hm d;split at a
     · rename_i M A D;rw [hm]at F;simp only [MR]at F;rw [A]at J;split at a
       · rename_i R B;cases a;obtain⟨o,G,H⟩ :=tO r f.tm B;refine⟨o,w,?_,H,r,Ext.refl _ _ _⟩;rw [aHI F J.nil_inv (by rw [f.fn];exact D) G (.inl z)];simp only [handed,z]
       ·cases a
     ·cases a
   · rename_i l hm d g;rw [g]at j;split at a
     · rename_i n he;exact i hm d he rfl (.inl ⟨j.nil_inv,rfl⟩) a
     ·cases a
   · rename_i l k hm d g;rw [g]at j;obtain⟨I,p,e,m,x⟩ :=j.cons_inv;simp only [IR]at m;subst m;split at a
     · rename_i n he;exact i hm d he rfl (.inr (.inl ⟨p,e,rfl⟩)) a
     ·cases a
   · rename_i l id k hm d g;rw [g]at j;obtain⟨I,p,e,m,x⟩ :=j.cons_inv;simp only [IR]at m;subst m;split at a
     ·cases a
     · rename_i C;split at a
       · rename_i n he;exact i hm d he rfl (.inr (.inr (.inl ⟨id,p,e,rfl,nP id C x⟩))) a
       ·cases a
   · rename_i l t k hm d g;rw [g]at j;obtain⟨I,p,e,m,x⟩ :=j.cons_inv;simp only [IR]at m;subst m;split at a
     ·cases a
     · rename_i C;split at a
       · rename_i n he;exact i hm d he rfl (.inr (.inr (.inr ⟨t,p,e,rfl,nQ t C x⟩))) a
       ·cases a
   ·cases a
 ·cases a
theorem aCq {call:bB}(hc:dD P call) :∀ {n:Nat} {s:AS} {v:AV} {i:Hp},aFx P call n s=some (v,i) →∀ (E:Emb) (w:World) (fr:Frame) (d:List Frame),FR E s.fr fr→FRs E s.cs d→Rel E s.h w.heap→∀e a,
  ∃g c h,Steps P (lone fr (d++e::a) w) (lone (e.finish g) a c) ∧VR h v g∧Rel h i c.heap∧Ext E s.h w h i c
 |0,s,v,i,b=>by simp [aFx]at b
 | n + 1,s,v,i,b=>by
  intro E w fr d f fs r e a;simp only [aFx]at b;split at b
  · rename_i x u;cases b;obtain⟨D,g,c,C,p,m,j⟩ :=aAU u f r e a;rw [D]at fs;rw [fs.nil_inv];exact⟨g,c,E,.one C,p,m,j⟩
  · split at b
    · rename_i H k;obtain⟨z,l,o,A,t,G,q,y,F⟩ :=tQ hc k f fs r (e::a);obtain⟨g,c,h,B,p,m,j⟩ :=aCq hc b z A l o G q y e a;exact⟨g,c,h,t.trans B,p,m,F.trans j⟩
    ·cases b
theorem qO (n:Nat) :∀d,dD P (sN P n d)
 |0=>fun _ c h v p a=>by simp [sN]at a
 | d +1=>fun _ c h v p a=>by
  simp only [sN]at a;split at a
  · rename_i g i;refine⟨g,i,fun E w G r f hk o b=>?_⟩;obtain⟨q,m,j,e,s,k,l⟩ :=aCq (qO n d) a E w G [] f rfl r o b;exact⟨q,m,j,e,s,k,l⟩
  ·cases a
noncomputable def aAl (P:Program)(call:bB) :Nat→AS→Option AS
 |0,s=>some s
 | n+1,s=>match jF P call s with
  |some s'=>aAl P call n s'
  |none=>none
def Leads (P:Program)(s s':AS) :Prop:=∀ (E:Emb) (fr:Frame) (ccs:List Frame) (w:World) (base:List Frame),FR E s.fr fr→FRs E s.cs ccs→Rel E s.h w.heap→Goes P E s.h fr ccs w base s'
theorem Leads.trans {a b c:AS}(s:Leads P a b)(h2:Leads P b c) :Leads P a c:=fun E fr i w d f fs r=>by
 obtain⟨v,h,g,m,n,x,k,u,q⟩ :=s E fr i w d f fs r;obtain⟨A,e,l,t,o,y,j,p,z⟩ :=h2 v h g m d x k u;exact⟨A,e,l,t,n.trans o,y,j,p,q.trans z⟩
theorem Leads.refl (a:AS) :Leads P a a:=fun E fr b w c f fs r=> ⟨E,fr,b,w,Steps.refl _ _,f,fs,r,Ext.refl _ _ _⟩
theorem nR {call:bB}(hc:dD P call) :∀ {n:Nat} {s c:AS},aAl P call n s=some c→Leads P s c
 |0,s,c,a=>by simp [aAl]at a;subst a;exact Leads.refl s
 | n +1,s,c,a=>by
  simp only [aAl]at a;split at a
  · rename_i g d;exact Leads.trans (fun E fr e w b f fs r=>tQ hc d f fs r b) (nR hc a)
  ·cases a
theorem qP (call:bB) :∀ (n:Nat) (s:AS),kK P call n s=aAl P call n s
 |0,_=>rfl
 | n+1,s=>by
  show(match aPH P call s with|some a=>kK P call n a|none=>none) = (match jF P call s with|some a=>aAl P call n a|none=>none);rw [aPI P call s];cases jF P call s with
  |none=>rfl
  |some a=>exact qP call n a
end
section
variable {P :Program}
structure ExtM (m:Nat) (E:Emb) (h:Hp) (w:World) (E':Emb) (h':Hp) (w':World) :Prop where
 low:∀b,b<m→E' b=E b
 imm:∀k C,E.imm k=some C→E'.imm k=some C
 size:w.heap.size≤w'.heap.size
 keep:∀i,i<w.heap.size→ (∀b o L,h.look b=some o→E b=some L→¬Own o L i) →w'.heap[i]?=w.heap[i]?
 own:∀b' o' L',h'.look b'=some o'→E' b'=some L'→∀i,Own o' L' i→i<w.heap.size→∃b o L,h.look b=some o∧E b=some L∧Own o L i
 nb:m≤h'.nb
 os:w'.os=w.os
 tape:w'.tape=w.tape
 output:w'.output=w.output
 froz:∀a,a.block<w.heap.size→w'.frozen? a=w.frozen? a
 immo:∀k C,E'.imm k=some C→k<w.heap.size→E.imm k=some C∨∃b o L,h.look b=some o∧E b=some L∧Own o L k
 keys:∀b o,h'.look b=some o→b<m→∃o0,h.look b=some o0
theorem Ext.toM {E E':Emb}{h h':Hp}{w w':World}(x:Ext E h w E' h' w'){m:Nat}(hm:m≤h.nb) :ExtM m E h w E' h' w':=
 ⟨fun b hb=>x.low b (lt_of_lt_of_le hb hm),x.le.2,x.size,x.keep,x.own,le_trans hm x.nb,x.os,x.tape,x.output,x.froz,x.immo,fun b o e hb=>x.keys b o e (lt_of_lt_of_le hb hm)⟩
theorem ExtM.le {E E':Emb}{h h':Hp}{w w':World}(x:ExtM h.nb E h w E' h' w')(r:Rel E h w.heap) :E.le E':=
 ⟨fun b L e=>by rw [x.low b (r.nb_gt e)];exact e,x.imm⟩
theorem ExtM.toExt {E E':Emb}{h h':Hp}{w w':World}(x:ExtM h.nb E h w E' h' w')(r:Rel E h w.heap) :Ext E h w E' h' w':=
 ⟨x.le r,x.size,x.keep,x.own,x.nb,x.os,x.tape,x.output,x.low,x.froz,x.immo,x.keys⟩
theorem ExtM.trans {m:Nat}{s t q:Emb}{p h2 n:Hp}{u w2 v:World}(a:ExtM m s p u t h2 w2)(b:ExtM m t h2 w2 q n v) :ExtM m s p u q n v where
 low:=fun x c=> (b.low x c).trans (a.low x c)
 imm:=fun k C e=>b.imm k C (a.imm k C e)
 size:=le_trans a.size b.size
 keep:=fun i h r=>by
  rw [b.keep i (lt_of_lt_of_le h a.size) fun x o L c hE hb=>by
   obtain⟨w,D,z,f,l,d⟩ :=a.own x o L c hE i hb h;exact r w D z f l d]
  exact a.keep i h r
 own:=fun x o L c hE i h j=>by
  obtain⟨y,A,B,f,l,d⟩ :=b.own x o L c hE i h (lt_of_lt_of_le j a.size);exact a.own y A B f l i d j
 nb:=b.nb
 os:=b.os.trans a.os
 tape:=b.tape.trans a.tape
 output:=b.output.trans a.output
 froz:=fun x c=> (b.froz x (lt_of_lt_of_le c a.size)).trans (a.froz x c)
 immo:=fun k C e hk=>by
  rcases b.immo k C e (lt_of_lt_of_le hk a.size)with g| ⟨x,o,L,f,l,d⟩
  ·exact a.immo k C g hk
  ·exact .inr (a.own x o L f l k d hk)
 keys:=fun x o e c=>by
  obtain⟨G,F⟩ :=b.keys x o e c;exact a.keys x G F c
theorem ExtM.refl {m:Nat}{E:Emb}{h:Hp}{w:World}(hm:m≤h.nb) :ExtM m E h w E h w:= (Ext.refl E h w).toM hm
def LeadsM (P:Program)(m:Nat)(s s':AS) :Prop:=m≤s.h.nb→∀ (E:Emb) (fr:Frame) (ccs:List Frame) (w:World) (base:List Frame),FR E s.fr fr→FRs E s.cs ccs→Rel E s.h w.heap →
 ∃E' fr' cs' w',Steps P (lone fr (ccs++base) w) (lone fr' (cs'++base) w') ∧FR E' s'.fr fr'∧FRs E' s'.cs cs'∧Rel E' s'.h w'.heap∧ExtM m E s.h w E' s'.h w'
theorem LeadsM.trans {m:Nat}{a b c:AS}(t:LeadsM P m a b)(h2:LeadsM P m b c) :LeadsM P m a c:=fun hm E fr i w d f fs r=>by
 obtain⟨x,h,g,o,p,y,k,v,n⟩ :=t hm E fr i w d f fs r;obtain⟨B,e,l,u,q,z,j,s,A⟩ :=h2 n.nb x h g o d y k v;exact⟨B,e,l,u,p.trans q,z,j,s,n.trans A⟩
theorem LeadsM.refl {m:Nat}(a:AS) :LeadsM P m a a:=fun hm E fr b w _ f fs r=> ⟨E,fr,b,w,Steps.refl _ _,f,fs,r,ExtM.refl hm⟩
theorem Leads.toM {m:Nat}{a b:AS}(h:Leads P a b) :LeadsM P m a b:=fun hm E fr i w c f fs r=>by
 obtain⟨o,e,d,j,k,p,g,n,l⟩ :=h E fr i w c f fs r;exact⟨o,e,d,j,k,p,g,n,l.toM hm⟩
def mM :bB:=fun _ _ _=>none
theorem bQ :dD P mM:=fun _ _ _ _ _ e=>by cases e
theorem cO {call:bB}(hc:dD P call){m:Nat}{s s':AS}(b:jF P call s=some s') :LeadsM P m s s':=
 Leads.toM fun _ _ _ _ a f fs r=>tQ hc b f fs r a
inductive Res where
 |ret (v:AV)
 |pan (chain:List (AV×Bool))
def Got (E:Emb)(cl:Frame) :Res→Frame→Prop
 | .ret v,cl'=>∃cv,cl'=cl.finish cv∧VR E v cv
 | .pan ch,cl'=>∃ps,cl'=cl.raise ps∧CR E ch ps
def Ends (P:Program)(m:Nat)(s:AS)(res:Res)(h':Hp) :Prop:=m≤s.h.nb→∀ (E:Emb) (fr:Frame) (ccs:List Frame) (w:World),FR E s.fr fr→FRs E s.cs ccs→Rel E s.h w.heap→∀ (cl:Frame) (base:List Frame),
 ∃cl' w' E',Steps P (lone fr (ccs++cl::base) w) (lone cl' base w') ∧Got E' cl res cl'∧Rel E' h' w'.heap∧ExtM m E s.h w E' h' w'
theorem LeadsM.ends {m:Nat}{a b:AS}{d:Res}{h':Hp}(s:LeadsM P m a b)(h2:Ends P m b d h') :Ends P m a d h':=fun hm E fr h w f fs r l c=>by
 obtain⟨x,g,e,n,o,y,j,v,k⟩ :=s hm E fr h w (l::c) f fs r;obtain⟨i,t,A,p,u,q,z⟩ :=h2 k.nb x g e n y j v l c;exact⟨i,t,A,o.trans p,u,q,k.trans z⟩
theorem mO {m:Nat}{s:AS}{v:AV}{h':Hp}(l:vS P s=some (v,h')) :Ends P m s (.ret v) h':=fun hm E fr j w f fs r h a=>by
 obtain⟨e,i,g,d,k,c,b⟩ :=aAU l f r h a;rw [e]at fs;rw [fs.nil_inv];exact⟨_,g,E,.one d,⟨i,rfl,k⟩,c,b.toM hm⟩
def Spec (P:Program)(c:AIn)(h:Hp)(res:Res)(h':Hp) :Prop:=∃g,cX P h c=some g∧Ends P h.nb ⟨g,[],h⟩ res h'
def aK (P:Program)(f:Nat)(args:List AV)(v:AV) :Prop:=∀h,Spec P (.enter f args) h (.ret v) h
theorem Spec.sound {c:AIn}{h h':Hp}{v:AV}(s:Spec P c h (.ret v) h') :∃g,cX P h c=some g ∧
  ∀ (E:Emb) (w:World) (G:Frame),Rel E h w.heap→FR E g G→G.kind= .normal→∀d a,∃e w' b,Steps P (lone G (d::a) w) (lone (d.finish e) a w') ∧VR b v e∧Rel b h' w'.heap∧Ext E h w b h' w':=by
 obtain⟨g,i,he⟩ :=s;refine⟨g,i,fun E w G r f _ d a=>?_⟩;obtain⟨l,w',b,j,⟨e,rfl,m⟩,k,n⟩ :=he (le_refl _) E G [] w f rfl r d a;exact⟨e,w',b,j,m,k,n.toExt r⟩
theorem wG {m:Nat}{s:AS}{g c d:AFrame}{cs:List AFrame}{h2 l:Hp}{v:AV}(A:LeadsM P m s ⟨g,c::cs,h2⟩)(t:Ends P h2.nb ⟨g,[],h2⟩ (.ret v) l)(x:c.finish v=some d) :LeadsM P m s ⟨d,cs,l⟩ :=fun hm E fr j w a f fs r=>by
 obtain⟨z,h,H,D,p,K,k,i,o⟩ :=A hm E fr j w a f fs r;obtain⟨q,b,rfl,B,u⟩ :=k.cons_inv;obtain⟨y,I,C,F,⟨L,rfl,J⟩,G,n⟩ :=t (le_refl _) z h [] D K rfl i q (b++a);have e:=n.le i;exact⟨C,_,b,I,p.trans F,lR x (B.mono e) J,u.mono e,G,o.trans ((n.toExt i).toM o.nb)⟩
theorem aCr {m:Nat}{s:AS}{g c:AFrame}{cs:List AFrame}{h2 k:Hp}{n:List (AV×Bool)}(y:LeadsM P m s ⟨g,c::cs,h2⟩)(t:Ends P h2.nb ⟨g,[],h2⟩ (.pan n) k) :LeadsM P m s ⟨c.raise n,cs,k⟩ :=fun hm E fr i w a f fs r=>by
 obtain⟨x,e,F,B,p,I,j,h,o⟩ :=y hm E fr i w a f fs r;obtain⟨q,b,rfl,z,u⟩ :=j.cons_inv;obtain⟨v,G,A,C,⟨J,rfl,H⟩,D,l⟩ :=t (le_refl _) x e [] B I rfl h q (b++a);have d:=l.le h;exact⟨A,_,b,G,p.trans C,tP (z.mono d) H,u.mono d,D,o.trans ((l.toExt h).toM o.nb)⟩
def mP (m:Nat)(h h':Hp)(v v':AV) :Prop:=∀ (E:Emb) (w:World),Rel E h w.heap→∃E',E.le E'∧Rel E' h' w.heap∧ExtM m E h w E' h' w∧∀cv,VR E v cv→VR E' v' cv
theorem iG {m:Nat}{fr:AFrame}{cs:List AFrame}{h h':Hp}{j:Nat}{v v':AV}(u:fr.tm.at j=some v)(g:m≤h.nb→mP m h h' v v') :LeadsM P m ⟨fr,cs,h⟩ ⟨{fr with tm:=fr.tm.put j v'},cs,h'⟩ :=fun hm E o i w l f fs r=>by
 obtain⟨n,b,p,s,q⟩ :=g hm E w r;refine⟨n,o,i,w,Steps.refl _ _,⟨f.fn,⟨f.tm.1,fun t a e=>?_⟩,f.todo.mono b,f.defers.mono b,f.mode.mono b,f.kind,f.round.mono b⟩,fs.mono b,p,s⟩;rw [T.at_put]at e;split at e
 · rename_i g;cases e;subst g;obtain⟨c,d,k⟩ :=f.tm.2 _ _ u;exact⟨c,d,q c k⟩
 · obtain⟨c,d,k⟩ :=f.tm.2 t a e;exact⟨c,d,k.mono b⟩
theorem aEC {m:Nat}{h:Hp}{v v':AV}(b:∀E a,VR E v a→VR E v' a) :m≤h.nb→mP m h h v v':=fun hm E w r=> ⟨E,Emb.le.refl E,r,ExtM.refl hm,b E⟩
theorem aED {m:Nat}{h:Hp}(e:Nat) :m≤h.nb→mP m h (h.new (.lst e [])) .nils (.gl h.nb e 0 0 false) :=fun hm E w r=>by
 obtain⟨c,b⟩ :=aEy r e;refine⟨E,Emb.le.refl E,c,b.toM hm,fun d a=>?_⟩;simp only [VR]at a ⊢;exact .inl ⟨trivial,none,a⟩
theorem aCs {m:Nat}{h:Hp}(e:Nat) :m≤h.nb→mP m h h .nils (.ilst e [] true) :=aEC fun E c a=>by
 simp only [VR]at a ⊢;exact⟨[],VRs.nil _,fun _ b=>by(cases b),.inl ⟨rfl,none,0,a,fun _=>rfl,fun _=>rfl⟩⟩
mutual
def AV.frz (b:Nat)(ys:List AV) :AV→AV
 | .gl b' e off len ex=>bif beq b' b then .ilst e ys ex else .gl b' e off len ex
 | .func f fs cs=>.func f (AV.frzL b ys fs) (AV.frzL b ys cs)
 | .meth n r=>.meth n (AV.frz b ys r)
 | .via t f p r=>.via t f p (AV.frz b ys r)
 | .iface t v=>.iface t (AV.frz b ys v)
 | .agg vs=>.agg (AV.frzL b ys vs)
 | .tup vs=>.tup (AV.frzL b ys vs)
 |v=>v
def AV.frzL (b:Nat)(ys:List AV) :List AV→List AV
 | [] =>[]
 |a::aS=>AV.frz b ys a::AV.frzL b ys aS
end
mutual
def AV.frzOk (b e:Nat)(xs ys:List AV) :AV→Prop
 | .gl b' e' off len _=>b'=b→e'=e∧off+len≤xs.length∧ (xs.drop off).take len=ys
 | .func _ fs cs=>AV.frzOkL b e xs ys fs∧AV.frzOkL b e xs ys cs
 | .meth _ r=>AV.frzOk b e xs ys r
 | .via _ _ _ r=>AV.frzOk b e xs ys r
 | .iface _ v=>AV.frzOk b e xs ys v
 | .agg vs=>AV.frzOkL b e xs ys vs
 | .tup vs=>AV.frzOkL b e xs ys vs
 |_=>True
def AV.frzOkL (b e:Nat)(xs ys:List AV) :List AV→Prop
 | [] =>True
 |a::aS=>AV.frzOk b e xs ys a∧AV.frzOkL b e xs ys aS
end
mutual
theorem aAm {E E':Emb}(c:E.le E'){b e:Nat}{xs ys:List AV}(i:∀g len j d,g+len≤xs.length→ (xs.drop g).take len=ys→VR E (.gl b e g len j) d→VR E' (.ilst e ys j) d) :
  ∀ (v:AV) (d:Value),AV.frzOk b e xs ys v→VR E v d→VR E' (AV.frz b ys v) d
 | .gl q s g len j,d,k,r=>by
  simp only [AV.frz,aZ,cond_eq_ite,decide_eq_true_eq];split
  · rename_i hb;simp only [AV.frzOk]at k;obtain⟨rfl,o,p⟩ :=k hb;subst hb;exact i g len j d o p r
  ·exact r.mono c
 | .func _ fs m,d,k,r=>by
  simp only [AV.frzOk]at k;simp only [AV.frz,VR]at r ⊢;obtain⟨a,b,h,f,n⟩ :=r;exact⟨a,b,h,yS c i fs a k.1 f,yS c i m b k.2 n⟩
 | .meth _ a,d,k,r=>by
  simp only [AV.frzOk]at k;simp only [AV.frz,VR]at r ⊢;obtain⟨u,h,f⟩ :=r;exact⟨u,h,aAm c i a u k f⟩
 | .via _ _ _ a,d,k,r=>by
  simp only [AV.frzOk]at k;simp only [AV.frz,VR]at r ⊢;obtain⟨u,h,f⟩ :=r;exact⟨u,h,aAm c i a u k f⟩
 | .iface _ a,d,k,r=>by
  simp only [AV.frzOk]at k;simp only [AV.frz,VR]at r ⊢;obtain⟨u,h,f⟩ :=r;exact⟨u,h,aAm c i a u k f⟩
 | .agg l,d,k,r=>by
  simp only [AV.frzOk]at k;simp only [AV.frz,VR]at r ⊢;obtain⟨u,h,f⟩ :=r;exact⟨u,h,yS c i l u k f⟩
 | .tup l,d,k,r=>by
  simp only [AV.frzOk]at k;simp only [AV.frz,VR]at r ⊢;obtain⟨u,h,f⟩ :=r;exact⟨u,h,yS c i l u k f⟩
 | .bool _,_,_,r=>r.mono c
 | .int _ _,_,_,r=>r.mono c
 | .str _ _,_,_,r=>r.mono c
 | .ptr _ _,_,_,r=>r.mono c
 | .nilp,_,_,r=>r.mono c
 | .slice ..,_,_,r=>r.mono c
 | .nils,_,_,r=>r.mono c
 | .map _,_,_,r=>r.mono c
 | .nilm,_,_,r=>r.mono c
 | .yield _,_,_,r=>r.mono c
 | .nilf,_,_,r=>r.mono c
 | .nili,_,_,r=>r.mono c
 | .ilst ..,_,_,r=>r.mono c
 | .iptr _,_,_,r=>r.mono c
 | .ep ..,_,_,r=>r.mono c
 | .val _,_,_,r=>r.mono c
theorem yS {E E':Emb}(f:E.le E'){b e:Nat}{xs ys:List AV}(h:∀c len l j,c+len≤xs.length→ (xs.drop c).take len=ys→VR E (.gl b e c len l) j→VR E' (.ilst e ys l) j) :
  ∀ (g:List AV) (d:List Value),AV.frzOkL b e xs ys g→VRs E g d→VRs E' (AV.frzL b ys g) d
 | [],_,_,r=>by simpa [AV.frzL,VRs]using r
 | a::p,_,k,r=>by
  simp only [AV.frzOkL]at k;simp only [AV.frzL,VRs]at r ⊢;obtain⟨u,i,o,m,n⟩ :=r;exact⟨u,i,o,aAm f h a u k.1 m,yS f h p i k.2 n⟩
end
theorem pJ {m:Nat}{h:Hp}{b e:Nat}{xs ys:List AV}{v:AV}(hb:h.look b=some (.lst e xs))(hk:AV.keylessL xs=true)(V:AV.frzOk b e xs ys v) :m≤h.nb→mP m h (h.del b) v (AV.frz b ys v) :=fun hm E w r=>by
 obtain⟨rd,U⟩ :=r.drop b;rcases r.obj0 b _ hb with⟨u1,u2⟩ | ⟨L,hE,C,X,z,o1,o2,Q,T,o5⟩
 · cases xs
   case cons x xs=>cases u1
   refine⟨E,Emb.le.refl E,rd,U.toM hm,fun s H=>aAm (Emb.le.refl E) (fun c len ex s k2 J A=>?_) v s V H⟩;have:ys= [] :=by rw [←J];simp
   subst this;simp only [VR]at A ⊢;rcases A with⟨_,a,rfl⟩ | ⟨L,a,n,hE,_⟩
   ·exact⟨[],VRs.nil _,fun _ q=>by(cases q),.inl ⟨rfl,a,0,rfl,fun _=>rfl,fun _=>rfl⟩⟩
   ·rw [u2]at hE;cases hE
 · have I :=r.apart b _ L hb hE L.blk rfl
   let E':Emb:= ⟨E.loc,fun k=>if k=L.blk then some C else E.imm k⟩
   have g:E.le E':= ⟨fun _ _ e=>e,fun k D e=>by
    show(if k=L.blk then some C else E.imm k) =some D;rw [if_neg (fun N=>by rw [N,I]at e;cases e)];exact e⟩
   have f:∀ {x o},(h.del b).look x=some o→x≠b∧h.look x=some o:=fun {x o} e=>by
    rw [mI]at e;split at e
    ·cases e
    ·rename_i t;exact⟨t,e⟩
   have Y:=Q.length;have F:=dX hk Q;refine⟨E',g,⟨fun x o t=>?_,rd.kin,rd.fresh,fun k D e=>?_,fun x o K t y i S=>?_,rd.keys⟩,⟨fun _ _=>rfl,g.2,le_refl _,fun _ _ _=>rfl,U.own,le_trans hm (le_refl _),rfl,rfl,rfl,fun _ _=>rfl,fun k D e hlt=>?_,fun x o e _=> ⟨o,(f e).2⟩⟩,fun s H=>aAm g (fun c len ex s k2 J A=>?_) v s V H⟩
   · rcases rd.obj0 x o t with u| ⟨K,g1,M⟩
     ·exact .inl u
     ·exact .inr ⟨K,g1,M.mono g⟩
   · simp only [E']at e;split at e
     ·rename_i l;cases e;subst l;exact⟨X,(0,0),o1⟩
     ·exact r.imm k D e
   · obtain⟨Z,R⟩ :=f t;show(if i=L.blk then some C else E.imm i) =none;rw [if_neg (fun N=>uT r hb hE R y Z (by rw [←N];exact S))];exact r.apart x o K R y i S
   · simp only [E']at e;split at e
     ·rename_i l;subst l;exact .inr ⟨b,_,L,hb,hE,rfl⟩
     ·exact .inl e
   · simp only [VR]at A ⊢;have B:∀u∈z.drop c,vM e u:=fun u q=>T u (List.mem_of_mem_drop q);have G:∀u∈ (z.drop c).take len,vM e u:=fun u q=>B u (List.mem_of_mem_take q);have d: ((z.drop c).take len).length=len:=by rw [List.length_take,List.length_drop];omega
     refine⟨(z.drop c).take len,?_,G,?_⟩
     ·rw [←J];exact((F.drop c).take len).mono g.pp
     · rcases A with⟨rfl,a,rfl⟩ | ⟨L',a,n,p,rfl,M,g3,W⟩
       ·exact .inl ⟨by simp,a,0,rfl,fun _=>rfl,fun _=>rfl⟩
       · rw [hE]at p;cases p;by_cases hc:n=0
         · subst hc;have:len=0:=by omega
           subst this;exact .inl ⟨by simp,_,0,rfl,fun _=>rfl,fun _=>rfl⟩
         · obtain⟨rfl,g5⟩ :=W hc;refine .inr ⟨L.blk,_,n,C,by rw [d],by simp [E'],by rw [d];exact M,fun he=>by rw [d];exact g3 he,fun j O=>?_⟩;rw [d]at O;have h6:c*e+len*e≤z.length*e:=by rw [←Nat.add_mul];exact Nat.mul_le_mul_right _ (by omega)
           rw [pG _ B,mA _ T,List.getElem?_take_of_lt O,List.getElem?_drop,←o5 _ (by omega)];congr 1;omega
theorem Rel.reobj {E:Emb}{h:Hp}{H:Array Obj}(r:Rel E h H){k:Nat}{o o':AObj}(hk:h.look k=some o)(t:lM o=false)(S:∀L,E k=some L→OR E H L o')
  (A:bK o'=bK o) (h2:fS o'=fS o) (z:nOf o'=nOf o) (M:∀L i,Own o' L i→Own o L i:=by exact fun _ _ h=>h) :Rel E (h.set k o') H:=by
 have g:∀ {x a},(h.set k o').look x=some a→∃c,h.look x=some c∧bK a=bK c∧fS a=fS c∧nOf a=nOf c∧∀L i,Own a L i→Own c L i:=fun {x a} e=>by
  rw [aU]at e;split at e
  ·rename_i b;cases e;subst b;exact⟨o,hk,A,h2,z,M⟩
  ·exact⟨a,e,rfl,rfl,rfl,fun _ _ h=>h⟩
 refine⟨fun x a e=>?_,fun x y a T N q R v m D l n=>?_,fun x b=>r.fresh x b,r.imm,fun x a L e m i K=>?_,fun x a e=>?_⟩
 · rw [aU]at e;split at e
   · rename_i b;cases e;subst b;obtain⟨L,p,_⟩ :=r.obj _ _ hk t;exact .inr ⟨L,p,S L p⟩
   ·exact r.obj0 x a e
 · obtain⟨f,d,J,F,O,j⟩ :=g R;obtain⟨I,Q,C,u,G,B⟩ :=g v;obtain⟨i,w,s⟩ :=l;have:=r.kin x y f I N q d Q m D ⟨i,j _ _ w,B _ _ s⟩ n;unfold Kin at this ⊢;rw [J,F,O,C,u,G];exact this
 ·obtain⟨f,d,_,_,_,j⟩ :=g e;exact r.apart x f L d m i (j _ _ K)
 ·obtain⟨f,d,_⟩ :=g e;exact r.keys x f d
theorem qQ {m:Nat}{E E':Emb}{h a:Hp}{w w':World}(x:ExtM m E h w E' a w'){k:Nat}{o o':AObj}(hk:a.look k=some o)(r:∀L i,Own o' L i→Own o L i:=by exact fun _ _ h=>h) :ExtM m E h w E' (a.set k o') w':=by
 have j:∀ {x c},(a.set k o').look x=some c→∃l,a.look x=some l∧∀L i,Own c L i→Own l L i:=fun {x c} e=>by
  rw [aU]at e;split at e
  ·rename_i s;cases e;subst s;exact⟨o,hk,r⟩
  ·exact⟨c,e,fun _ _ h=>h⟩
 exact⟨x.low,x.imm,x.size,x.keep,fun p o' t e u i q f=>by obtain⟨g,d,n⟩ :=j e;exact x.own p g t d u i (n _ _ q) f,x.nb,x.os,x.tape,x.output,x.froz,x.immo,fun b o e hb=>by obtain⟨g,d,_⟩ :=j e;exact x.keys b g d hb⟩
theorem iH {m:Nat}{fr:AFrame}{cs:List AFrame}{h e:Hp}{k o n:Nat}{t:T AV}{l:List Nat}{b:Bool}{v v':AV}(hk:h.look k=some (.cells t n l b))(d:e.look k=some (.cells t n l b))(G:t.at o=some v)(F:m≤h.nb→mP m h e v v') :
  LeadsM P m ⟨fr,cs,h⟩ ⟨fr,cs,e.set k (.cells (t.put o v') n l b)⟩ :=fun hm E B p w z f fs r=>by
 obtain⟨A,c,K,I,u⟩ :=F hm E w r;have hr:Rel A (e.set k (.cells (t.put o v') n l b)) w.heap:=by
  refine K.reobj d rfl (fun L H=>?_) rfl rfl rfl;obtain⟨O,hE,C,D,N,J,y⟩ :=r.obj _ _ hk;have:=c.1 _ _ hE;rw [H]at this;cases this;refine⟨C,D,N,J,fun i a j=>?_⟩;rw [T.at_put]at j;split at j
  · rename_i M;cases j;subst M;obtain⟨s,g,x,q⟩ :=y _ _ G;exact⟨s,g,x,u g q⟩
  · obtain⟨s,g,x,q⟩ :=y i a j;exact⟨s,g,x,q.mono c⟩
 exact⟨A,B,p,w,Steps.refl _ _,f.mono c,fs.mono c,hr,qQ I d⟩
theorem aAn {m:Nat}{h:Hp}{b n c e k:Nat}{x g:Bool}{t:T AV}{cs:List AV}(hb:h.look b=some (.cells t k [] false))(hg:getCells t 0 (n*e) =some cs)(h1:cG cs=true)(he:g=false→e=1) :
  m≤h.nb→mP m h (h.set b (.lst e (rU g e n cs))) (.slice b 0 n c e x) (.gl b e 0 n (x&&beq c n)) :=fun hm E w r=>by
 obtain⟨L,hE,C,o,X,N,o3⟩ :=r.obj _ _ hb;obtain⟨Z,z⟩ :=kL hg
 have hc:∀j,j<n*e→∃v,C[L.sh+j]?=some v∧∀a,cs[j]?=some a→VR E a v:=fun j d=>by
  have V:=z j d;have M:cs[j]?=some (cs[j]'(by omega)) :=by simp
  rw [M,jS]at V;obtain⟨_,v,s,A⟩ :=o3 _ _ V;exact⟨v,s,fun a p=>by rw [M]at p;cases p;exact A⟩
 have F:L.sh+n*e≤C.size∨n*e=0:=by
  by_cases h0:n*e=0
  ·exact .inr h0
  · obtain⟨v,s,_⟩ :=hc (n*e-1) (by omega);have:= (zq44.1 s).1;exact .inl (by omega)
 let u:= (C.extract L.sh (L.sh+n*e)).toList
 have H:u.length=n*e:=by simp [u];omega
 have f:∀j,j<n*e→u[j]?=C[L.sh+j]?:=fun j d=>by
  simp only [u];rw [oZ,Array.getElem?_extract,if_pos (by rcases F with h|h<;>omega)]
 have q:VRs E cs u:=VRs.of_get (by omega) fun i a p=>by
  have W:i<n*e:=by have:= (zq0.1 p).1;omega
  obtain⟨v,s,A⟩ :=hc i W;exact⟨v,by rw [f i W];exact s,A a p⟩
 obtain⟨Q,K,O,U,R⟩ :=sY g he n q H (q.ones h1)
 have hob:OR E w.heap L (.lst e (rU g e n cs)) := ⟨C,o,Q,X,N,K,R,fun j d=>by
  rw [U]at d;rw [O,f j d]⟩
 obtain⟨I,S⟩ :=r.setObj (o':=.lst e (rU g e n cs)) (.cells C o (0,0)) hb hE rfl rfl (fun H' hH=> ⟨C,o,Q,hH,N,K,R,fun j d=>by
  rw [U]at d;rw [O,f j d]⟩)
 have Y: ({w with heap:=w.heap.setIfInBounds L.blk (.cells C o (0,0))}:World) =w:=nK X;have G:w.heap.setIfInBounds L.blk (.cells C o (0,0)) =w.heap:=congrArg World.heap Y;rw [G]at I;rw [Y]at S;refine⟨E,Emb.le.refl E,I,S.toM hm,fun cv J=>?_⟩;simp only [VR]at J ⊢;obtain⟨L',y,D,l,rfl,g1,g2,g3,g4,g5⟩ :=J;rw [hE]at l;cases l;refine .inr ⟨L,y,D,hE,rfl,by omega,fun he=>?_,fun B=> ⟨by rw [g4 B];omega,g5⟩⟩;simp only [dC]at he;have:=eP he.2;have:=g3 he.1;omega
mutual
def AV.ren (τ:Nat→Nat) :AV→AV
 | .ptr b o=>.ptr (τ b) o
 | .slice b o l c e x=>.slice (τ b) o l c e x
 | .map r=>.map (τ r)
 | .func f fs cs=>.func f (AV.renL τ fs) (AV.renL τ cs)
 | .yield l=>.yield (τ l)
 | .meth n r=>.meth n (AV.ren τ r)
 | .via t f p r=>.via t f p (AV.ren τ r)
 | .iface t v=>.iface t (AV.ren τ v)
 | .agg vs=>.agg (AV.renL τ vs)
 | .tup vs=>.tup (AV.renL τ vs)
 | .gl b e o l x=>.gl (τ b) e o l x
 | .ep b e i o=>.ep (τ b) e i o
 |v=>v
def AV.renL (τ:Nat→Nat) :List AV→List AV
 | [] =>[]
 |a::aS=>AV.ren τ a::AV.renL τ aS
end
def Emb.ren (τ:Nat→Nat)(E:Emb) :Emb:= ⟨fun b=>E (τ b),E.imm⟩
mutual
theorem eS (a:Nat→Nat)(E:Emb) :∀ (v:AV) (c:Value),VR E (AV.ren a v) c↔VR (E.ren a) v c
 | .bool _,_=>by simp [AV.ren,VR]
 | .int _ _,_=>by simp [AV.ren,VR]
 | .str _ _,_=>by simp [AV.ren,VR]
 | .ptr _ _,_=>by simp [AV.ren,VR,Emb.ren]
 | .nilp,_=>by simp [AV.ren,VR]
 | .slice ..,_=>by simp [AV.ren,VR,Emb.ren]
 | .nils,_=>by simp [AV.ren,VR]
 | .map _,_=>by simp [AV.ren,VR,Emb.ren]
 | .nilm,_=>by simp [AV.ren,VR]
 | .func f fs d,_=>by simp only [AV.ren,VR,kM a E fs,kM a E d]
 | .yield _,_=>by simp [AV.ren,VR,Emb.ren]
 | .meth n r,_=>by simp only [AV.ren,VR,eS a E r]
 | .via _ _ _ r,_=>by simp only [AV.ren,VR,eS a E r]
 | .nilf,_=>by simp [AV.ren,VR]
 | .iface _ v,_=>by simp only [AV.ren,VR,eS a E v]
 | .nili,_=>by simp [AV.ren,VR]
 | .agg b,_=>by simp only [AV.ren,VR,kM a E b]
 | .tup b,_=>by simp only [AV.ren,VR,kM a E b]
 | .ilst ..,_=>by simp only [AV.ren,VR];exact Iff.rfl
 | .iptr _,_=>by simp only [AV.ren,VR];exact Iff.rfl
 | .gl ..,_=>by simp [AV.ren,VR,Emb.ren]
 | .ep ..,_=>by simp [AV.ren,VR,Emb.ren]
 | .val _,_=>by simp [AV.ren,VR]
theorem kM (c:Nat→Nat)(E:Emb) :∀ (d:List AV) (b:List Value),VRs E (AV.renL c d) b↔VRs (E.ren c) d b
 | [],_=>by simp [AV.renL,VRs]
 |a::e,_=>by simp only [AV.renL,VRs,eS c E a,kM c E e]
end
theorem aAV (b:Nat→Nat) :∀ (c a:List AV),AV.renL b (c++a) =AV.renL b c++AV.renL b a
 | [],_=>rfl
 |x::c,a=>by simp [AV.renL,aAV b c a]
theorem bL {b:Type}(f:b→AV)(c:∀a,AV.keyless (f a) =true) :∀ (l:List b),AV.keylessL (l.map f) =true
 | [] =>rfl
 |a::d=>by simp [AV.keylessL,c a,bL f c d]
theorem keylessL_mem :∀ {xs:List AV},AV.keylessL xs=true↔∀x∈xs,AV.keyless x=true
 | [] =>by simp [AV.keylessL]
 |x::xs=>by simp [AV.keylessL,keylessL_mem (xs:=xs)]
end
end
end Go.Hb
