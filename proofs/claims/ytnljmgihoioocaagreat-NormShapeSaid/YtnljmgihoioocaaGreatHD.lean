/- A machine on abstract values, its soundness, ways, plain laws. -/
import Derived.Test.YtnljmgihoioocaaGreatHC
import Derived.RowKit3
set_option linter.defProp false
set_option linter.unusedVariables false
set_option linter.unusedSimpArgs false
set_option linter.unusedSectionVars false
set_option maxRecDepth 100000
namespace Go.Hb
open List (range')
open Nat (beq le_refl le_trans lt_of_lt_of_le lt_or_ge succ zero_le)
noncomputable section
section
variable {P :Program}
section
variable {call :bP} {l:List Oper} {nt:Nat} {R:Nat→RS} {A:Nat→AV}
structure Pd (P:Program) (l:List Oper) (R:Nat→RS) (A:Nat→AV) (D:Nat→Prop) (j f:Nat) (ob:AObj) :Prop where
 done:D f
 op:∃o,l[f]?=some o∧dF o.op= .fresh∧bU (R f).tm l o=some true∧oJ P (R f).tm (R f).next o=some (A f,ob)
 late:j≤wZ l f
theorem aOd {tm:T AV}{id:Nat}{o:Oper}{a:AV}{ob:AObj}(h:oJ P tm id o=some (a,ob)) :one1 ob=true:=by
 unfold oJ at h
 repeat' split at h
 all_goals first| (cases h;rfl) |cases h
theorem Pd.one {D:Nat→Prop}{j f:Nat}{ob:AObj}(p:Pd P l R A D j f ob) :one1 ob=true:=by
 obtain⟨o,_,_,_,h⟩ :=p.op;exact aOd h
structure Inv (P:Program) (l:List Oper) (nt:Nat) (R:Nat→RS) (A:Nat→AV) (E0:Emb) (h0:Hp) (w0:World) (D:Nat→Prop) [DecidablePred D] (j:Nat) (E:Emb) (w:World) (tmps:Array Value) :Prop where
 closed:Closed l D
 lt:∀i,D i→i<l.length
 eff:∀q e,(fX l 0)[q]?=some e→ (D e↔q<j)
 jle:j≤ (fX l 0).length
 ext:Ext E0 h0 w0 E (bR l R j) w
 nb: (R 0).h.nb≤ (bR l R j).nb
 rel:Rel E (bR l R j) w.heap
 size:tmps.size=nt
 tv:∀t a,eN (R 0).tm (sM l) A D l.length t=some a→∃v,tmps[t]?=some v∧VR E a v
 und:∀f o,¬D f→l[f]?=some o→dF o.op= .fresh→E (R f).next=none
 pd:∀f ob,Pd P l R A D j f ob→∃L,E (R f).next=some L∧OR E w.heap L ob∧w0.heap.size≤L.blk∧∀b o L',(bR l R j).look b=some o→E b=some L'→¬Own o L' L.blk
 pdi:∀f ob,Pd P l R A D j f ob→∀L,E (R f).next=some L→E.imm L.blk=none
 hn0:h0.nb= (R 0).next
 ul:∀b o,(bR l R j).look b=some o→E b=none→b<h0.nb∨ (R 0).h.nb≤b
 pd2:∀f g ob ob' L L',Pd P l R A D j f ob→Pd P l R A D j g ob'→f≠g→E (R f).next=some L→E (R g).next=some L'→L.blk≠L'.blk
variable {E0 :Emb} {h0:Hp} {w0:World} {D D':Nat→Prop} [DecidablePred D] [DecidablePred D'] {j:Nat} {E:Emb} {w:World} {tmps:Array Value}
theorem Inv.publish (T:Trace P call l nt R A)(I:Inv P l nt R A E0 h0 w0 D j E w tmps){ps:List (Nat×Nat×AObj)}
  (H:∀x ob,(j,x,ob) ∈ps→∃f,Pd P l R A D j f ob∧wZ l f=j∧x= (R f).next) :
  Rel E (aO (bR l R j) j ps) w.heap∧Ext E0 h0 w0 E (aO (bR l R j) j ps) w ∧
   (∀x ob,(aO (bR l R j) j ps).look x=some ob→ (∃f,Pd P l R A D j f ob∧wZ l f=j∧x= (R f).next) ∨ (bR l R j).look x=some ob) :=by
 have hl:∀x ob,(aO (bR l R j) j ps).look x=some ob→ (∃f,Pd P l R A D j f ob∧wZ l f=j∧x= (R f).next) ∨ (bR l R j).look x=some ob:=fun x ob e=>
  (oN e).imp (H x ob) (fun z=>z)
 have n:∀ {f ob},Pd P l R A D j f ob→h0.nb≤ (R f).next∧ (R f).next< (R 0).h.nb:=fun p=>by
  obtain⟨d,O,Q,_⟩ :=p.op;have:=T.id_lt O Q;have:=I.hn0;omega
 refine⟨⟨fun b o e=>?_,fun b t o d L B e N k C m v=>?_,fun b hb=>?_,I.rel.imm,fun b o L e k i s=>?_,fun b o e=>?_⟩,⟨I.ext.le,I.ext.size,I.ext.keep,fun t d B e k i s G=>?_,?_,I.ext.os,I.ext.tape,I.ext.output,I.ext.low,I.ext.froz,I.ext.immo,fun b o e hb=>?_⟩,hl⟩
 · rcases hl b o e with⟨f,a,_,rfl⟩ |e
   ·obtain⟨L,c,F,_⟩ :=I.pd f o a;exact .inr ⟨L,c,F⟩
   ·exact I.rel.obj0 b o e
 · rcases hl b o e with⟨f,a,_,rfl⟩ |h
   · obtain⟨K,c,F,M,y⟩ :=I.pd f o a;rw [k]at c;cases c;rcases hl t d N with⟨g,u,_,rfl⟩ |J
     · obtain⟨i,r,q⟩ :=m;rw [cD a.one]at r;rw [cD u.one]at q;exact absurd (r.trans q.symm) (I.pd2 f g o d L B a u (fun e=>v (by rw [e])) k C)
     · obtain⟨i,r,q⟩ :=m;rw [cD a.one]at r;subst r;exact absurd q (y _ _ _ J C)
   · rcases hl t d N with⟨g,u,_,rfl⟩ |J
     · obtain⟨K,c,F,M,y⟩ :=I.pd g d u;rw [C]at c;cases c;obtain⟨i,r,q⟩ :=m;rw [cD u.one]at q;subst q;exact absurd r (y _ _ _ h k)
     ·exact I.rel.kin b t o d L B h J k C m v
 ·rw [eJ]at hb;exact I.rel.fresh b hb
 · rcases hl b o e with⟨f,a,_,rfl⟩ |h
   · rw [cD a.one]at s;subst s;exact I.pdi f o a L k
   ·exact I.rel.apart b o L h k i s
 · rw [eJ];rcases hl b o e with⟨f,a,_,rfl⟩ |h
   ·have:=n a;have:=I.nb;omega
   ·exact I.rel.keys b o h
 · rcases hl t d e with⟨f,a,_,rfl⟩ |h
   · obtain⟨K,c,F,M,y⟩ :=I.pd f d a;rw [k]at c;cases c;rw [cD a.one]at s;omega
   ·exact I.ext.own t d B h k i s G
 ·rw [eJ];exact I.ext.nb
 · rcases hl b o e with⟨f,a,_,rfl⟩ |h
   ·have:=n a;omega
   ·exact I.ext.keys b o h hb
theorem Inv.lookIn (T:Trace P call l nt R A)(I:Inv P l nt R A E0 h0 w0 D j E w tmps){f:Nat}{ob:AObj}(c:Pd P l R A D j f ob) :
  Rel E ((bR l R j).set (R f).next ob) w.heap:=by
 have hl:∀x o,((bR l R j).set (R f).next ob).look x=some o→ (x= (R f).next∧o=ob) ∨ (bR l R j).look x=some o:=fun x o e=>by
  rw [aZ]at e;split at e
  ·rename_i G;cases e;exact .inl ⟨G,rfl⟩
  ·exact .inr e
 have z:h0.nb≤ (R f).next∧ (R f).next< (R 0).h.nb:=by
  obtain⟨q,C,H,_⟩ :=c.op;have:=T.id_lt C H;have:=I.hn0;omega
 obtain⟨L,g,F,J,y⟩ :=I.pd f ob c;refine⟨fun b o e=>?_,fun b u o q m B e v k s a h=>?_,fun b hb=>?_,I.rel.imm,fun b o m e k i t=>?_,fun b o e=>?_⟩
 · rcases hl b o e with⟨rfl,rfl⟩ |e
   ·exact .inr ⟨L,g,F⟩
   ·exact I.rel.obj0 b o e
 · rcases hl b o e with⟨rfl,rfl⟩ |d
   · rw [k]at g;cases g;rcases hl u q v with⟨rfl,rfl⟩ |r
     ·exact absurd rfl h
     · obtain⟨i,p,n⟩ :=a;rw [cD c.one]at p;subst p;exact absurd n (y _ _ _ r s)
   · rcases hl u q v with⟨rfl,rfl⟩ |r
     · rw [s]at g;cases g;obtain⟨i,p,n⟩ :=a;rw [cD c.one]at n;subst n;exact absurd p (y _ _ _ d k)
     ·exact I.rel.kin b u o q m B d r k s a h
 ·exact I.rel.fresh b (by rw [jM]at hb;exact hb)
 · rcases hl b o e with⟨rfl,rfl⟩ |d
   · rw [cD c.one]at t;subst t;exact I.pdi f _ c m k
   ·exact I.rel.apart b o m d k i t
 · rw [jM];rcases hl b o e with⟨rfl,rfl⟩ |d
   ·have:=I.nb;omega
   ·exact I.rel.keys b o d
theorem aCE (d:Option Nat)(v:Value)(a:Array Value) : (aAG d v a).size=a.size:=by cases d<;>simp [aAG]
theorem aIY (T:Trace P call l nt R A)(q:Closed l D)(h:∀i,D i→i<l.length)(m:tmps.size=nt){i:Nat}{o:Oper}(p:l[i]?=some o)(r:¬D i)(hm:Met D o)(j:∀k,D' k↔ (D k∨k=i)){cv:Value}(s:VR E (A i) cv)
  (tv:∀t a,eN (R 0).tm (sM l) A D l.length t=some a→∃v,tmps[t]?=some v∧VR E a v) :
  ∀t a,eN (R 0).tm (sM l) A D' l.length t=some a→∃v,(aAG o.dst cv tmps)[t]?=some v∧VR E a v:=by
 intro t a b;rw [T.view_done q h p r hm t j]at b;have c:= (T.step i o p).1;split at b
 · rename_i f;cases b;refine⟨cv,?_,s⟩;rw [f]at c ⊢;unfold iR at c;simp only at c;cases hb:Nat.blt t nt with
   |false=>rw [hb]at c;cases c
   | true=>
    rw [cY,decide_eq_true_eq]at hb;simp [aAG,m,hb]
 · rename_i f;obtain⟨v,n,u⟩ :=tv t a b;refine⟨v,?_,u⟩;unfold aAG;split
   · rename_i d g;rw [tJ (fun e=>f (by rw [g,e]))];exact n
   ·exact n
theorem xB {i:Nat}{o:Oper}(c:Closed l D)(d:l[i]?=some o)(hm:Met D o)(b:∀k,D' k↔ (D k∨k=i)) :Closed l D':=by
 intro k ok a hk e he hb;rw [b];rcases(b k).1 hk with g|g
 ·exact .inl (c k ok a g e he hb)
 ·subst g;rw [d]at a;cases a;exact .inl (hm e he hb)
theorem aIZ {i:Nat}{o:Oper}(b:∀i,D i→i<l.length)(c:l[i]?=some o)(a:∀k,D' k↔ (D k∨k=i)) :∀k,D' k→k<l.length:=fun k hk=>by
 rcases(a k).1 hk with g|g
 ·exact b k g
 ·subst g;exact tZ c
theorem Inv.quiet (T:Trace P call l nt R A)(I:Inv P l nt R A E0 h0 w0 D j E w tmps){i:Nat}{o:Oper}(h:l[i]?=some o)(t:¬D i)(hm:Met D o)(hk:dF o.op≠ .eff)(b:∀k,D' k↔ (D k∨k=i))
  (y:dF o.op= .fresh→bU (R i).tm l o=some false) {cv:Value} (u:VR E (A i) cv) :
  Inv P l nt R A E0 h0 w0 D' j E w (aAG o.dst cv tmps) :=by
 have a:∀f ob,Pd P l R A D' j f ob→Pd P l R A D j f ob:=fun f ob p=>by
  refine⟨?_,p.op,p.late⟩;rcases(b f).1 p.done with g|g
  ·exact g
  · subst g;obtain⟨x,c,m,r,z⟩ :=p.op;rw [h]at c;cases c;rw [y m]at r;cases r
 refine⟨xB I.closed h hm b,aIZ I.lt h b,fun q e he=>?_,I.jle,I.ext,I.nb,I.rel,by rw [aCE];exact I.size,
  aIY T I.closed I.lt I.size h t hm b u I.tv,fun f of n c m=>I.und f of (fun g=>n ((b f).2 (.inl g))) c m,fun f ob p=>I.pd f ob (a f ob p),fun f ob p=>I.pdi f ob (a f ob p),I.hn0,I.ul,fun f g ob d L s p v=>I.pd2 f g ob d L s (a f ob p) (a g d v)⟩
 rw [b,←I.eff q e he];constructor
 · rintro(g|g)
   ·exact g
   · subst g;obtain⟨_,_,x,c,m⟩ := (jA l 0).1 q e he;rw [Nat.sub_zero,h]at c;cases c;exact absurd m hk
 ·exact .inl
theorem Inv.turn (T:Trace P call l nt R A)(I:Inv P l nt R A E0 h0 w0 D j E w tmps){i:Nat}{o:Oper}(c:l[i]?=some o)(e:¬D i)(hm:Met D o)(hk:dF o.op= .eff) : (fX l 0)[j]?=some i:=by
 obtain⟨q,a⟩ := (jA l 0).2.1 i o c hk;rw [eM]at a;have f:¬q<j:=fun g=>e ((I.eff q i a).2 g);rcases lt_or_ge j q with g|g
 · exfalso;obtain⟨b,rfl⟩ :∃b,q=b+1:= ⟨q-1,by omega⟩;have d:= (zq0.1 a).1;have he: (fX l 0)[b]?=some ((fX l 0)[b]) :=kR (by omega);have:=lM I.closed I.lt (i+1) i (by omega) o c hm _ (T.before he a);have:= (I.eff _ _ he).1 this;omega
 · have:q=j:=by omega
   rw [←this];exact a
theorem Inv.waits (T:Trace P call l nt R A)(I:Inv P l nt R A E0 h0 w0 D j E w tmps){i:Nat}{o:Oper}(a:l[i]?=some o)(m:¬D i)(hm:Met D o)(hk:dF o.op= .eff) :
  ∀x ob,(j,x,ob) ∈ (R i).pend→∃f,Pd P l R A D j f ob∧wZ l f=j∧x= (R f).next:=by
 intro x ob n;have d:=tZ a;obtain⟨f,p,r,q,g,e,k,b,h⟩ :=T.pend_mem i (by omega) j x ob n;have c:=I.turn T a m hm hk;rw [b]at c;exact⟨f,⟨lM I.closed I.lt (i+1) i (by omega) o a hm f (aOc c),⟨p,q,g,e,k⟩,by omega⟩,b.symm,h⟩
theorem Inv.effect (T:Trace P call l nt R A)(I:Inv P l nt R A E0 h0 w0 D j E w tmps){i:Nat}{o:Oper}(G:l[i]?=some o)(x:¬D i)(hm:Met D o)(hk:dF o.op= .eff)(r:∀k,D' k↔ (D k∨k=i))
  {E':Emb} {w':World} {cv:Value} (hv:VR E' (A i) cv) (r':Rel E' (bR l R (j+1)) w'.heap) (m:Ext E (aO (bR l R j) j (R i).pend) w E' (bR l R (j+1)) w') :
  Inv P l nt R A E0 h0 w0 D' (j+1) E' w' (aAG o.dst cv tmps) :=by
 obtain⟨p1,p2,p3⟩ :=I.publish T (I.waits T G x hm hk);have W:=I.turn T G x hm hk;have hql:= (zq0.1 W).1
 have c:∀f ob,Pd P l R A D' (j+1) f ob→Pd P l R A D j f ob:=fun f ob p=>by
  refine⟨?_,p.op,by have:=p.late;omega⟩;rcases(r f).1 p.done with g|g
  ·exact g
  · subst g;obtain⟨o',B,F,h3,h4⟩ :=p.op;rw [G]at B;cases B;rw [hk]at F;cases F
 have z:∀f ob L,Pd P l R A D' (j+1) f ob→E (R f).next=some L→∀b o h,(aO (bR l R j) j (R i).pend).look b=some o→E b=some h→¬Own o h L.blk:=fun f ob L p hE b o h hb s d=>by
  have H:=c f ob p;rcases p3 b o hb with⟨g,hg,K,rfl⟩ |U
  · rw [cD hg.one]at d;exact I.pd2 g f o ob h L hg H (fun e=>by subst e;have:=p.late;omega) s hE d
  · obtain⟨M,n,_,_,X⟩ :=I.pd f ob H;rw [hE]at n;cases n;exact X b o h U s d
 refine⟨xB I.closed G hm r,aIZ I.lt G r,fun q e he=>?_,by omega,p2.trans m,?_,r',by rw [aCE];exact I.size,
  aIY T I.closed I.lt I.size G x hm r hv (fun t a O=>by obtain⟨v,B,F⟩ :=I.tv t a O;exact⟨v,B,F.mono m.le⟩),fun f of V B F=>?_,fun f ob p=>?_,fun f ob p h Y=>?_,I.hn0,fun b o hb hE=>?_,fun f g ob u L h p p' Q hE s=>?_⟩
 · rw [r,I.eff q e he];constructor
   · rintro(g|g)
     ·omega
     · subst g;rcases Nat.lt_trichotomy q j with k|k|k
       ·omega
       ·omega
       ·have:= (aBx l W he).1 k;omega
   · intro g;rcases lt_or_ge q j with k|k
     ·exact .inl k
     · have:q=j:=by omega
       subst this;rw [W]at he;cases he;exact .inr rfl
 ·have:=m.nb;rw [eJ]at this;have:=I.nb;omega
 · have hid:=T.id_lt B F;rw [m.low _ (by rw [eJ];have:=I.nb;omega)];exact I.und f of (fun g=>V ((r f).2 (.inl g))) B F
 · obtain⟨L,n,y,k3,X⟩ :=I.pd f ob (c f ob p);have J:=z f ob L p n;refine⟨L,m.le.1 _ _ n,(y.mono m.le).heap fun i x=>m.keep _ (y.lt i x) fun b o h hb hE d=>J b o h hb hE (by rw [cD p.one]at x;rw [x];exact d),k3,fun b o h hb hE d=>?_⟩;obtain⟨b1,o1,M,K,Z,S⟩ :=m.own b o h hb hE _ d (y.lt _ ((cD p.one).2 rfl));exact J b1 o1 M K Z S
 · obtain⟨L,n,y,k3,X⟩ :=I.pd f ob (c f ob p);have e3:=m.le.1 _ _ n;rw [Y]at e3;obtain rfl:h=L:=Option.some.inj e3;cases x:E'.imm h.blk with
   |none=>rfl
   | some C=>
    rcases m.immo _ C x (y.lt _ ((cD p.one).2 rfl))with g| ⟨b,o,L2,K,Z,S⟩
    ·rw [I.pdi f ob (c f ob p) h n]at g;cases g
    ·exact absurd S (z f ob h p n b o L2 K Z)
 · rcases lt_or_ge b (bR l R j).nb with g|g
   · obtain⟨N,e0⟩ :=m.keys b o hb (by rw [eJ];exact g);rw [m.low b (by rw [eJ];exact g)]at hE;rcases p3 b N e0 with⟨f,hf,_,rfl⟩ |e1
     · obtain⟨L,n,_⟩ :=I.pd f N hf;rw [n]at hE;cases hE
     ·exact I.ul b N e1 hE
   ·have:=I.nb;exact .inr (by omega)
 · obtain⟨M,n,_⟩ :=I.pd f ob (c f ob p);obtain⟨L2,y,_⟩ :=I.pd g u (c g u p');rw [m.le.1 _ _ n]at hE;cases hE;rw [m.le.1 _ _ y]at s;cases s;exact I.pd2 f g ob u _ _ (c f ob p) (c g u p') Q n y
theorem Inv.alloc (T:Trace P call l nt R A)(I:Inv P l nt R A E0 h0 w0 D j E w tmps){i:Nat}{o:Oper}(N:l[i]?=some o)(Y:¬D i)(hm:Met D o)(hk:dF o.op= .fresh)(z:∀k,D' k↔ (D k∨k=i))(hn0:h0.nb= (R 0).next)
  {ob:Obj} (hz:noFrz ob=true) {n:Nat} {cv:Value} (hv:VR (E.put (R i).next ⟨w.heap.size,0,n⟩) (A i) cv) (hob:∀aob,oJ P (R i).tm (R i).next o=some (A i,aob) →OR (E.put (R i).next ⟨w.heap.size,0,n⟩) (w.heap.push ob) ⟨w.heap.size,0,n⟩ aob) :
  Inv P l nt R A E0 h0 w0 D' j (E.put (R i).next ⟨w.heap.size,0,n⟩) {w with heap:=w.heap.push ob} (aAG o.dst cv tmps) :=by
 have hid:=T.id_lt N hk;have hf:E (R i).next=none:=I.und i o Y N hk
 have h:E.le (E.put (R i).next ⟨w.heap.size,0,n⟩) :=Emb.le_put hf;have B:∀ {x},x<w.heap.size→ (w.heap.push ob)[x]?=w.heap[x]?:=fun W=>by rw [Array.getElem?_push,if_neg (by omega)]
 have r:∀b u,(bR l R j).look b=some u→b≠ (R i).next:=fun b u hb e=>by
  cases hE:E b with
  |some L=>rw [e,hf]at hE;cases hE
  | none=>
   have J:=I.ul b u hb hE;have K:=I.hn0;omega
 have c:∀f aob,Pd P l R A D' j f aob→f≠i→Pd P l R A D j f aob:=fun f aob p s=> ⟨((z f).1 p.done).resolve_right s,p.op,p.late⟩
 have idne:∀f aob,Pd P l R A D' j f aob→f≠i→ (R f).next≠ (R i).next:=fun f aob p s=>by
  obtain⟨u,J,K,_⟩ :=p.op;exact T.id_ne J K N hk s
 refine⟨xB I.closed N hm z,aIZ I.lt N z,fun q e he=>?_,I.jle,?_,I.nb,?_,by rw [aCE];exact I.size,
  aIY T I.closed I.lt I.size N Y hm z hv (fun t a hta=>by obtain⟨v,J,K⟩ :=I.tv t a hta;exact⟨v,J,K.mono h⟩),fun f of X J K=>?_,fun f aob p=>?_,fun f aob p H O=>?_,I.hn0,fun b u hb hE=>I.ul b u hb (by rw [Emb.put_ne _ _ (r _ _ hb)]at hE;exact hE),fun f g aob m L H p Z s hE F=>?_⟩
 · rw [z,←I.eff q e he];constructor
   · rintro(g|g)
     ·exact g
     · subst g;obtain⟨_,_,u,J,K⟩ := (jA l 0).1 q e he;rw [Nat.sub_zero,N]at J;cases J;rw [hk]at K;cases K
   ·exact .inl
 · refine⟨I.ext.le.trans h,by have:=I.ext.size;simp;omega,fun x W hn=>?_,fun b' u H e k y V hlt=>?_,I.ext.nb,I.ext.os,I.ext.tape,I.ext.output,fun x W=>?_,fun x W=> (wH w hz x).trans (I.ext.froz x W),I.ext.immo,I.ext.keys⟩
   · have:=I.ext.size;show(w.heap.push ob)[x]?=_;rw [B (by omega)];exact I.ext.keep x W hn
   · rw [Emb.put_ne _ _ (r _ _ e)]at k;exact I.ext.own b' u H e k y V hlt
   ·rw [Emb.put_ne _ _ (by omega)];exact I.ext.low x W
 · refine⟨fun b u e=>?_,fun b b' o1 o2 L H e e' k k'=>?_,fun b hb=>?_,fun k C e=>?_,fun b u L e k y V=>?_,I.rel.keys⟩
   · rcases I.rel.obj0 b u e with⟨u1,u2⟩ | ⟨L,Q,g2⟩
     ·exact .inl ⟨u1,by rw [Emb.put_ne _ _ (r _ _ e)];exact u2⟩
     ·exact .inr ⟨L,h.1 _ _ Q,(g2.mono h).heap fun y V=>B (g2.lt y V)⟩
   · rw [Emb.put_ne _ _ (r _ _ e)]at k;rw [Emb.put_ne _ _ (r _ _ e')]at k';exact I.rel.kin b b' o1 o2 L H e e' k k'
   · have:=I.nb;rw [Emb.put_ne _ _ (by omega)];exact I.rel.fresh b hb
   · obtain⟨e1,f1,g⟩ :=I.rel.imm k C e;exact⟨e1,f1,by rw [B (zq44.1 g).1];exact g⟩
   · rw [Emb.put_ne _ _ (r _ _ e)]at k;exact I.rel.apart b u L e k y V
 · have s:f≠i:=fun e=>X ((z f).2 (.inr e));rw [Emb.put_ne _ _ (T.id_ne J K N hk s)];exact I.und f of (fun g=>X ((z f).2 (.inl g))) J K
 · by_cases d:f=i
   · subst d;obtain⟨u,Q,g2,g3,g4⟩ :=p.op;rw [N]at Q;cases Q;refine⟨_,Emb.put_same _ _ _,hob aob g4,I.ext.size,fun b u H hb hE U=>?_⟩;rw [Emb.put_ne _ _ (r _ _ hb)]at hE;have:=I.rel.lt hb hE _ U;simp only at this;omega
   · obtain⟨L,M,S,k3,k4⟩ :=I.pd f aob (c f aob p d);refine⟨L,h.1 _ _ M,(S.mono h).heap (fun y V=>B (S.lt y V)),k3,fun b u H hb hE U=>?_⟩;rw [Emb.put_ne _ _ (r _ _ hb)]at hE;exact k4 b u H hb hE U
 · show E.imm H.blk=none;by_cases d:f=i
   · subst d;rw [Emb.put_same]at O;cases O;cases Y:E.imm w.heap.size with
     |none=>rfl
     |some C=>exact absurd (I.rel.immLt Y) (Nat.lt_irrefl _)
   · obtain⟨L,M,S,_⟩ :=I.pd f aob (c f aob p d);have e3:=h.1 _ _ M;rw [O]at e3;obtain rfl:H=L:=Option.some.inj e3;exact I.pdi f aob (c f aob p d) H M
 · by_cases d:f=i
   · by_cases G:g=i
     ·exact absurd (d.trans G.symm) s
     · subst d;rw [Emb.put_same]at hE;cases hE;obtain⟨L2,M,S,_⟩ :=I.pd g m (c g m Z G);rw [h.1 _ _ M]at F;cases F;have:=S.lt _ ((cD Z.one).2 rfl);simp only;omega
   · obtain⟨L1,M,S,_⟩ :=I.pd f aob (c f aob p d);rw [h.1 _ _ M]at hE;cases hE;by_cases G:g=i
     · subst G;rw [Emb.put_same]at F;cases F;have:=S.lt _ ((cD p.one).2 rfl);simp only;omega
     · obtain⟨L2,Q,g2,_⟩ :=I.pd g m (c g m Z G);rw [h.1 _ _ Q]at F;cases F;exact I.pd2 f g aob m _ _ (c f aob p d) (c g m Z G) s M Q
end
def eP (P:Program)(call:bP) :Prop:=∀k c h v h',call k c h=some (v,h') →∃g,dW P h c=some g ∧
 ∀ (E:Emb) (w:World) (G:Frame),Rel E h w.heap→FR E g G→G.kind= .normal→∀cl base,∃cv w' E',Steps P (lone G (cl::base) w) (lone (cl.finish cv) base w') ∧VR E' v cv∧Rel E' h' w'.heap∧Ext E h w E' h' w'
def aZN (P:Program)(call:bP)(k:Nat) :Prop:=∀c h v h',call k c h=some (v,h') →∃g,dW P h c=some g ∧
 ∀ (E:Emb) (w:World) (G:Frame),Rel E h w.heap→FR E g G→G.kind= .normal→∀cl base,∃cv w' E',Steps P (lone G (cl::base) w) (lone (cl.finish cv) base w') ∧VR E' v cv∧Rel E' h' w'.heap∧Ext E h w E' h' w'
theorem aI0 {E:Emb}{h:Hp}{w:World}(r:Rel E h w.heap){tm:T AV}{ρ:Operand→Value}{o:Oper}(hρ:Reads E tm ρ (· ∈o.op.operands)){id:Nat}(hid:E id=none){a:AV}{ob0:AObj}(h0:oJ P tm id o=some (a,ob0)) :
  ∃ob n cv,noFrz ob=true∧ (execOp ρ o).run P w= .ok (.value cv) {w with heap:=w.heap.push ob}∧VR (E.put id ⟨w.heap.size,0,n⟩) a cv∧OR (E.put id ⟨w.heap.size,0,n⟩) (w.heap.push ob) ⟨w.heap.size,0,n⟩ ob0:=by
 have hle:∀n,E.le (E.put id ⟨w.heap.size,0,n⟩) :=fun n=>Emb.le_put hid;have hpush:∀ob,(w.heap.push ob)[w.heap.size]?=some ob:=fun ob=>by simp
 unfold oJ at h0;unfold execOp;split at h0
 · rename_i e hop;rw [hop]at hρ;simp only [hop];split at h0
   · rename_i z hz;cases h0;obtain⟨cz,z1,z2⟩ :=iT hz;have hc:= (z2 E).cells;refine⟨.cells cz.cells e,cz.cells.size,.pointer (some ⟨w.heap.size,0,none⟩),rfl,by simp [Instr.alloc,z1,newVar,newRow],by simp only [VR];exact⟨_,Emb.put_same _ _ _,rfl⟩,?_⟩;exact wK (C:=cz.cells) ⟨[],by simp⟩ (hc.mono (hle _)) (hpush _) _ (bF _) _ (le_refl _) _ _
   ·cases h0
 · rename_i t n ps hop;rw [hop]at hρ;simp only [hop];split at h0
   · rename_i l hl;split at h0
     · rename_i cs s hcs;cases h0;obtain⟨g1,g2⟩ :=hρ.parts (fun p hp=>by simp only [Op.operands,List.mem_toArray,zq24];exact⟨p,hp,rfl⟩) hl;obtain⟨out,e,k1,k2,k3⟩ :=qU (P:=P) r (qs:=ps.map fun(i,x) => (i,ρ x)) hcs (by rw [g1];simp) (by simpa [Function.comp_def]using g2);refine⟨.cells ⟨out⟩ e,out.length,.slice (some ⟨w.heap.size,0,none⟩) n n,rfl,by simp [k3 w],?_,?_⟩
       ·simp only [VR];exact⟨_,0,n,Emb.put_same _ _ _,rfl,le_refl _,le_refl _,fun _=>rfl,fun _=>rfl,by simpa using k2⟩
       ·exact wK (C:= ⟨out⟩) ⟨[],by simp⟩ (k1.mono (hle _)) (hpush _) _ (bF _) _ (le_refl _) _ _
     ·cases h0
   ·cases h0
 ·cases h0
section
variable {call :bP} {ops:Array Oper} {nt:Nat} {R:Nat→RS} {A:Nat→AV} {E0:Emb} {h0:Hp} {w0:World} {fn:FuncId} {ds:List Deferred} {kd:CallKind} {ro:Option Nat} {k:List Item} {cs:List Frame}
theorem aLq (T:Trace P call ops.toList nt R A){D:Nat→Prop}[DecidablePred D]{j:Nat}{E:Emb}{w:World}{tmps:Array Value}(I:Inv P ops.toList nt R A E0 h0 w0 D j E w tmps){i:Nat}{o:Oper}(ho:ops.toList[i]?=some o)(hi:¬D i)(hm:Met D o)(todo:List Item) :
  Reads E (R i).tm (rf fn tmps todo ds kd ro).eval (· ∈o.op.operands) :=by
 intro x hx a ha;cases x with
 | tmp t=>
  simp only [bO]at ha;have hn:t∈nL ops.toList o:=by
   simp only [nL,zq28,List.mem_filterMap];exact .inr (.inl ⟨.tmp t,by simpa using hx,rfl⟩)
  rw [←T.view_ready I.closed I.lt ho hi hm hn]at ha;obtain⟨v,h1,h2⟩ :=I.tv t a ha;simp only [Frame.eval,aAx,h1];exact h2
 |const v=>exact aET ha E
 |global g=>cases ha
 |func f=>simp only [bO]at ha;cases ha;simp only [Frame.eval,VR];exact⟨[],[],rfl,VRs.nil E,VRs.nil E⟩
theorem jY (T:Trace P call ops.toList nt R A){D:Nat→Prop}[DecidablePred D]{j:Nat}{E:Emb}{w:World}{tmps:Array Value}(I:Inv P ops.toList nt R A E0 h0 w0 D j E w tmps){i:Nat}{o:Oper}(ho:ops.toList[i]?=some o)(hi:¬D i)(hm:Met D o){b:Bool}
  (hw:bU (R i).tm ops.toList o=some b) :Region.wanted o (yielded ops tmps) =b:=by
 refine wV (E:=E) (tm:= (R i).tm) (fun g want hg o' ho' t ht a ha=>?_) hw;have hn:t∈nL ops.toList o:=by
  simp only [nL,zq28];refine .inr (.inr ?_);rw [hg];simp only [rO,ho',ht];simp
 rw [←T.view_ready I.closed I.lt ho hi hm hn]at ha;exact I.tv t a ha
theorem oG {tmps:Array Value}{i:Nat}{is:List Nat}{o:Oper}(ho:ops[i]?=some o)(v:Value) :
  (rf fn tmps (.inRegion ops (i::is) ::k) ds kd ro).finish v=rf fn (aAG o.dst v tmps) (.inRegion ops is::k) ds kd ro:=by
 rw [aHb,ho];rfl
theorem aFc {b hi a:Nat}{ob:AObj}:∀ {ps:List (Nat×Nat×AObj)},aES b hi ps=some (a,ob) → (a,b,ob) ∈ps∧hi≤a
 | [],h=>by cases h
 | (a',id,o) ::ps,h=>by
  simp only [aES]at h;cases hc: (beq id b&&Nat.ble hi a')with
  | true=>
   rw [hc]at h;simp only [cond]at h;cases h;rw [cP]at hc;obtain rfl:=fQ hc.1;exact⟨cQ ..,Nat.le_of_ble_eq_true hc.2⟩
  | false=>
   rw [hc]at h;simp only [cond]at h;obtain⟨h1,h2⟩ :=aFc h;exact⟨cH _ h1,h2⟩
theorem aVe {tm:T AV}{pend:List (Nat×Nat×AObj)}{hi:Nat}{o:Oper}{vs:List AV}(h:sE P tm pend hi o=some vs) :
  ∃s d x b off len c ez ex a t n1 n2 n3 el,o.op= .convert s d x∧bO tm x=some (.slice b off len c ez ex) ∧aES b hi pend=some (a,.cells t n1 n2 n3) ∧P.underlying s=some (.slice el) ∧P.underlying d=some .string∧getCells t off len=some vs∧P.underlying el=some (.int .u8) :=by
 unfold sE at h;split at h
 · rename_i s d x hop;split at h
   · rename_i b off len c ez ex hx;split at h
     · rename_i a t n1 n2 n3 hp;split at h
       · rename_i e vs' h1 h2 h3;split at h
         · rename_i h4;cases h;exact⟨s,d,x,b,off,len,c,ez,ex,a,t,n1,n2,n3,e,hop,hx,hp,h1,h2,h3,h4⟩
         ·cases h
       ·cases h
     ·cases h
   ·cases h
 ·cases h
theorem aOe {j:Nat}{i:Nat}{o:Oper}(hc:dF o.op= .eff→aZN P call j)(T:Trace P call ops.toList nt R A)(hn0:h0.nb= (R 0).next){D D':Nat→Prop}[DecidablePred D][DecidablePred D']{E:Emb}{w:World}{tmps:Array Value}(I:Inv P ops.toList nt R A E0 h0 w0 D j E w tmps)(ho:ops.toList[i]?=some o)(hi:¬D i)(hm:Met D o)(hD':∀k,D' k↔ (D k∨k=i))(is:List Nat) :
  ∃j' E' w' tmps',Steps P (lone (rf fn tmps (.inRegion ops (i::is) ::k) ds kd ro) cs w) (lone (rf fn tmps' (.inRegion ops is::k) ds kd ro) cs w') ∧Inv P ops.toList nt R A E0 h0 w0 D' j' E' w' tmps':=by
 have hoa:ops[i]?=some o:=by rw [←rO];exact ho
 have hil:=tZ ho;have hρ:=aLq (fn:=fn) (ds:=ds) (kd:=kd) (ro:=ro) T I ho hi hm (.inRegion ops (i::is) ::k);obtain⟨_,c⟩ :=T.step i o ho
 have unw:bU (R i).tm ops.toList o=some false→step P (lone (rf fn tmps (.inRegion ops (i::is) ::k) ds kd ro) cs w) = .next (lone (rf fn (aAG o.dst Go.undef tmps) (.inRegion ops is::k) ds kd ro) cs w) :=fun hw=>by
  rw [aAi hoa (jY T I ho hi hm hw),oG hoa]
 have value:∀ {hx:Hp} {h2:Hp} {a:AV} {w':World} {cv:Value},bU (R i).tm ops.toList o=some true→kL P hx (R i).tm o=some (.val a h2) →
   ((execOp (rf fn tmps (.inRegion ops (i::is) ::k) ds kd ro).eval o).run P w= .ok (.value cv) w'∨ ((execOp (rf fn tmps (.inRegion ops (i::is) ::k) ds kd ro).eval o).run P w= .ok .skip w'∧cv=Go.undef)) →
   step P (lone (rf fn tmps (.inRegion ops (i::is) ::k) ds kd ro) cs w) = .next (lone (rf fn (aAG o.dst cv tmps) (.inRegion ops is::k) ds kd ro) cs w') :=fun hw h0 hr=>by
  have hd:=aHD h0;rcases hr with hr| ⟨hr,rfl⟩
  ·rw [tW hoa (jY T I ho hi hm hw) (.inr hd) hr,oG hoa]
  ·rw [aE5 hoa (jY T I ho hi hm hw) (.inr hd) hr,oG hoa]
 have effStage:dF o.op= .eff→ (R i).h=bR ops.toList R j∧ (R (i+1)).h=bR ops.toList R (j+1) :=fun hk=>by
  have hq:=I.turn T ho hi hm hk;obtain⟨s1,s2⟩ :=T.sEff hq;have e1:=T.stage (i:=i) (by omega);have e2:=T.stage (i:=i+1) (by omega);rw [s1]at e1;rw [s2]at e2;exact⟨e1.symm,e2.symm⟩
 have effS:dF o.op= .eff→ (R i).s=j:=fun hk=> (T.sEff (I.turn T ho hi hm hk)).1;cases c with
 | unwE hw ha hk e=>
  have hk':dF o.op= .eff:=hk;obtain⟨e1,e2⟩ :=effStage hk';obtain⟨p1,p2,p3⟩ :=I.publish T (I.waits T ho hi hm hk');have e3:bR ops.toList R (j+1) =aO (bR ops.toList R j) j (R i).pend:=by
   rw [←e2,e,←e1,←effS hk']
  refine⟨j+1,E,w,_,.one (unw hw),I.effect T ho hi hm hk' hD' (by rw [ha];exact sG E) (by rw [e3];exact p1) ?_⟩;rw [e3];exact Ext.refl _ _ _
 | unwF hw ha hk e=>
  have hk':dF o.op= .fresh:=hk;exact⟨j,E,w,_,.one (unw hw),I.quiet T ho hi hm (by rw [hk'];decide) hD' (fun _=>hw) (by rw [ha];exact sG E)⟩
 | unwQ hw ha hk e=>
  have hk':dF o.op= .pure∨dF o.op= .read:=hk;exact⟨j,E,w,_,.one (unw hw),I.quiet T ho hi hm (by rcases hk' with hk'|hk'<;>rw [hk'] <;>decide) hD' (fun hf=>by rcases hk' with hk'|hk'<;>rw [hk']at hf<;>cases hf) (by rw [ha];exact sG E)⟩
 | pure hx hw hk hv e=>
  have hk':dF o.op= .pure:=hk;have hv':=aVd (o:=o) hk' hv (bR ops.toList R j);obtain⟨_,cv,g1,g2⟩ := (tV I.rel hρ hv').2 (.inl hk');exact⟨j,E,w,_,.one (value hw hv' (.inl g1)),I.quiet T ho hi hm (by rw [hk'];decide) hD' (fun hf=>by rw [hk']at hf;cases hf) g2⟩
 | read hx hw hk hv e=>
  have hk':dF o.op= .read:=hk;obtain⟨b1,b2⟩ :=T.window I.closed I.lt I.eff I.jle ho hi hm;obtain⟨c1,c2⟩ :=T.cnt i (by omega);obtain⟨a1,a2⟩ :=T.window (D:= (· <i)) (T.nat_closed i) (fun x hx=>by omega) (fun q e he=> (c2 q e he).symm) c1 ho (by omega) (T.idOk i o ho);have hv':∃hx,kL P (bR ops.toList R j) (R i).tm o=some (.val (A i) hx) :=by
   by_cases hlh:bEv ops.toList i=wZ ops.toList i
   · have: (R i).s=j:=by omega
     exact⟨hx,by rw [←this,T.stage (by omega)];exact hv⟩
   · have hmem: (⟨o,(R i).tm,bEv ops.toList i,wZ ops.toList i,A i⟩ :Again) ∈ (R (i+1)).again:=by
      rw [e];simp only;rw [bM];have:decide ((tX ops.toList i o).lo= (tX ops.toList i o).hi) =false:=by
       rw [decide_eq_false_iff_not];exact hlh
      rw [this];exact cQ ..
     have hmem':=T.again_mem (ops.toList.length- (i+1)) (i+1) (by omega) _ hmem;rw [show i+1+ (ops.toList.length- (i+1)) =ops.toList.length by omega]at hmem';have hj:=I.jle;have hse:=T.sEnd;exact T.again _ hmem' ((R ops.toList.length).s-j) _ (T.stage_get (k:=j) (by omega)) (by omega) (by simp only;omega) (by simp only;omega)
  obtain⟨hx',hv'⟩ :=hv';obtain⟨_,cv,g1,g2⟩ := (tV I.rel hρ hv').2 (.inr hk');exact⟨j,E,w,_,.one (value hw hv' (.inl g1)),I.quiet T ho hi hm (by rw [hk'];decide) hD' (fun hf=>by rw [hk']at hf;cases hf) g2⟩
 | own vs hw hk hv h1 e=>
  have hk':dF o.op= .read:=hk;obtain⟨b1,b2⟩ :=T.window I.closed I.lt I.eff I.jle ho hi hm;have hv0:sE P (R i).tm (R i).pend (wZ ops.toList i) o=some vs:=hv;obtain⟨s,d,x,b,off,len,c,ez,ex,a,t,n1,n2,n3,el,g1,g2,g3,g4,g5,g6,g7⟩ :=aVe hv0;obtain⟨m1,m2⟩ :=aFc g3;obtain⟨f,o',q1,q2,q3,q4,q5,q6,q7⟩ :=T.pend_mem i (by omega) a b _ m1;obtain⟨L,_,_,hE,_⟩ :∃L off' cap,E b=some L∧True:=by
   have:=hρ x (by rw [g1];simp [Op.operands]) _ g2;simp only [VR]at this;obtain⟨L,o1,c1,k1,_⟩ :=this;exact⟨L,o1,c1,k1,trivial⟩
  have hD:D f:=by
   refine Classical.byContradiction fun hn=>?_;have:=I.und f o' hn q2 q3;rw [←q7,hE]at this;cases this
  have hpd:Pd P ops.toList R A D j f (.cells t n1 n2 n3) := ⟨hD,⟨o',q2,q3,q4,q5⟩,by omega⟩;have hr:=I.lookIn T hpd;rw [←q7]at hr;have hv':kL P ((bR ops.toList R j).set b (.cells t n1 n2 n3)) (R i).tm o=some (.val (A i) ((bR ops.toList R j).set b (.cells t n1 n2 n3))) :=by
   unfold kL;simp only [hQ,g1,vQ,g2,vY,g4,g5,g6,Hp.loadN,aZ,if_true,g7,h1,val]
  obtain⟨_,cv,y1,y2⟩ := (tV hr hρ hv').2 (.inr hk');exact⟨j,E,w,_,.one (value hw hv' (.inl y1)),I.quiet T ho hi hm (by rw [hk'];decide) hD' (fun hf=>by rw [hk']at hf;cases hf) y2⟩
 | fresh aob hw hk hv e=>
  have hk':dF o.op= .fresh:=hk;obtain⟨ob,n,cv,hz,g1,g2,g3⟩ :=aI0 I.rel hρ (I.und i o hi ho hk') hv
  refine⟨j,_,_,_,.one ?_,I.alloc T ho hi hm hk' hD' hn0 hz g2 (fun aob' h'=>by
   have hv2:oJ P (R i).tm (R i).next o=some (A i,aob) :=hv
   rw [hv2]at h';cases h';exact g3)⟩
  have hd:∀c,o.op≠ .defer c:=fun c hc'=>by rw [hc']at hk';cases hk'
  rw [tW hoa (jY T I ho hi hm hw) (.inr hd) g1,oG hoa]
 | eff h2 hw hk hv e=>
  have hk':dF o.op= .eff:=hk;obtain⟨e1,e2⟩ :=effStage hk';obtain⟨p1,p2,p3⟩ :=I.publish T (I.waits T ho hi hm hk');have e3:bR ops.toList R (j+1) =h2:=by rw [←e2,e]
  rw [effS hk',e1]at hv;rcases hv with hv| ⟨c,hv,hcv⟩
  · obtain⟨E',w',cv,g1,g2,g3,g4⟩ :=mX p1 hρ hv;refine⟨j+1,E',w',_,.one (value hw hv g1),I.effect T ho hi hm hk' hD' g2 (by rw [e3];exact g3) ?_⟩;rw [e3];exact g4
  · obtain⟨g,hg,hcall⟩ :=hc hk' c _ _ _ hcv;have hout:=mX p1 hρ hv;obtain⟨nx,G,g1,g2,g3⟩ :=rT p1 hg hout;have hd:=aFa hv;have hkG:G.kind= .normal:=by
     rcases g2 with⟨f,args,_,rfl⟩ | ⟨l,f,t,aS,bd,_,rfl⟩ <;>rfl
    obtain⟨cv,w',E',s1,s2,s3,s4⟩ :=hcall E w G p1 g3 hkG (rf fn tmps (.inRegion ops (i::is) ::k) ds kd ro) cs;refine⟨j+1,E',w',_,?_,I.effect T ho hi hm hk' hD' s2 (by rw [e3];exact s3) (by rw [e3];exact s4)⟩;rw [oG hoa]at s1;rcases g2 with⟨f,args,rfl,rfl⟩ | ⟨l,f,t,aS,bd,rfl,rfl⟩
    ·exact .head (aE6 hoa (jY T I ho hi hm hw) (.inr hd) g1) s1
    ·exact .head (aE7 hoa (jY T I ho hi hm hw) (.inr hd) g1) s1
theorem aSw (hc:eP P call)(T:Trace P call ops.toList nt R A)(hn0:h0.nb= (R 0).next){D D':Nat→Prop}[DecidablePred D][DecidablePred D']{j:Nat}{E:Emb}{w:World}{tmps:Array Value}(I:Inv P ops.toList nt R A E0 h0 w0 D j E w tmps){i:Nat}{o:Oper}(ho:ops.toList[i]?=some o)(hi:¬D i)(hm:Met D o)(hD':∀k,D' k↔ (D k∨k=i))(is:List Nat) :
  ∃j' E' w' tmps',Steps P (lone (rf fn tmps (.inRegion ops (i::is) ::k) ds kd ro) cs w) (lone (rf fn tmps' (.inRegion ops is::k) ds kd ro) cs w') ∧Inv P ops.toList nt R A E0 h0 w0 D' j' E' w' tmps':=
 aOe (fun _=>hc j) T hn0 I ho hi hm hD' is
theorem aOf (hc:eP P call)(T:Trace P call ops.toList nt R A)(hn0:h0.nb= (R 0).next){is:List Nat}{D:Nat→Bool}(hl:Legal ops.toList D is) :∀ {j:Nat} {E:Emb} {w:World} {tmps:Array Value},Inv P ops.toList nt R A E0 h0 w0 (fun k=>D k=true) j E w tmps →
  ∃ (D':Nat→Bool) (j':Nat) (E':Emb) (w':World) (tmps':Array Value),Steps P (lone (rf fn tmps (.inRegion ops is::k) ds kd ro) cs w) (lone (rf fn tmps' (.inRegion ops [] ::k) ds kd ro) cs w') ∧Inv P ops.toList nt R A E0 h0 w0 (fun k=>D' k=true) j' E' w' tmps'∧∀i,i<ops.toList.length→D' i=true:=by
 induction hl with
 | @nil D h=>intro j E w tmps I;exact⟨D,j,E,w,tmps,Steps.refl _ _,I,h⟩
 | @cons D i is o h1 h2 h3 h4 ih=>
  intro j E w tmps I;obtain⟨j',E',w',tmps',s1,I'⟩ :=aSw (D':=fun k=> (D k||k==i) =true) (fn:=fn) (ds:=ds) (kd:=kd) (ro:=ro) (k:=k) (cs:=cs) hc T hn0 I h1 (by simp [h2]) h3 (fun k=>by simp) is;obtain⟨D2,j2,E2,w2,tmps2,s2,I2,hall⟩ :=ih I';exact⟨D2,j2,E2,w2,tmps2,s1.trans s2,I2,hall⟩
end
theorem aDp {call:bP}{g:Nat}{l:List Oper}:∀ {e:List Plan} {r d:RS},oK P call g l e r=some d→d.next=r.next+pS e
 | [],r,d,b=>by simp [oK]at b;subst b;rfl
 | p ::e,r,d,b=>by
  simp only [oK]at b;split at b
  · rename_i j f;obtain⟨a,_,c⟩ :=aDo f;have h:=aDp b;have i:=c.next
    rw [h,i];simp only [pS];cases hk:p.kd<;>simp [hk] <;>omega
  ·cases b
theorem aVf {call:bP}{k:Nat}{ops:Array Oper}{tm:T AV}{h:Hp}{r:RS}(j: (kM ops).ok=true)
  (u:oK P call k (kM ops).ops (kM ops).plans {tm,h:={h with nb:=h.nb+ (kM ops).fresh},stages:=[],s:=0,pend:=[],next:=h.nb,again:=[]}=some r)
  (n:yU P (r.h::r.stages) r.s r.again) :
  ∃ (R:Nat→RS) (A:Nat→AV),Trace P call ops.toList k R A∧R 0= {tm,h:={h with nb:=h.nb+ (kM ops).fresh},stages:=[],s:=0,pend:=[],next:=h.nb,again:=[]}∧R ops.toList.length=r∧∀i p,(kM ops).plans[i]?=some p→lW P call k (kM ops).ops p (R i) =some (R (i+1)) :=by
 obtain⟨R,d,m,v⟩ :=aBv u;have g: (kM ops).plans.length=ops.toList.length:=wY _ _ _ _
 have f:∀i o,ops.toList[i]?=some o→ (kM ops).plans[i]?=some (tX ops.toList i o) :=fun i o b=>by
  have:=aDn (lV ops.toList []) (fX ops.toList 0) ops.toList 0 i;rw [b,Option.map_some,eM]at this;exact this
 have c:∀i,∃a,∀o,ops.toList[i]?=some o→iR (R i).tm k o.dst a=some (R (i+1)).tm∧RC P call ops.toList (tX ops.toList i o) (R i) (R (i+1)) a:=fun i=>by
  cases b:ops.toList[i]? with
  |none=>exact⟨.undef,fun o h=>by cases h⟩
  | some o=>
   obtain⟨a,q,l⟩ :=aDo (v i _ (f i o b));exact⟨a,fun F h=>by cases h;exact⟨q,l⟩⟩
 obtain⟨A,hA⟩ :=Classical.axiomOfChoice c;rw [g]at m;simp only [kM,cP]at j;obtain⟨⟨⟨⟨y,B⟩,w⟩,C⟩,D⟩ :=j;refine⟨R,A,⟨fun i o b=>hA i o b,y,B,fun i o b e he hb=>?_,by rw [d],by rw [d],by rw [d],by rw [d],?_,by rw [m];exact n⟩,d,m,v⟩
 · have t:=tZ b;obtain⟨q,l⟩ :=wX w i o b e he hb;have hr:∀x,x<ops.size→ (List.range ops.size).getD x 0=x:=fun x z=>by simp [nY,z]
   rw [eM,hr _ q,hr _ (by simpa using t)]at l;exact l
 ·rw [m,aDp u,d];exact le_refl _
theorem aSx {a:T AV}{b:Nat→Option Nat}{A:Nat→AV}{D:Nat→Prop}[DecidablePred D](c:∀k,¬D k)(n t:Nat) :eN a b A D n t=a.at t:=by
 rw [yT (i:=0) (zero_le n) (fun k _ _ _=>c k)];rfl
theorem aAo {call:bP}(hc:eP P call){C:Nat}{ops:Array Oper}{tm:T AV}{h:Hp}{d:RS}(y: (kM ops).ok=true)
  (K:oK P call C (kM ops).ops (kM ops).plans {tm,h:={h with nb:=h.nb+ (kM ops).fresh},stages:=[],s:=0,pend:=[],next:=h.nb,again:=[]}=some d)
  (M:yU P (d.h::d.stages) d.s d.again) {E:Emb} {w:World} {tmps:Array Value} (r:Rel E h w.heap) (z:TR E tm C tmps)
  (id:Nat) (fn:FuncId) (ds:List Deferred) (kd:CallKind) (ro:Option Nat) (k:List Item) (cs:List Frame) :
  ∃v w' c,Steps P (lone (rf fn tmps (.code (.region id ops true) ::k) ds kd ro) cs w) (lone (rf fn c k ds kd ro) cs w') ∧TR v d.tm C c∧Rel v (aO d.h d.s d.pend) w'.heap∧Ext E h w v (aO d.h d.s d.pend) w':=by
 obtain⟨R,A,T,n,D,_⟩ :=aVf y K M;have j:bR ops.toList R 0= {h with nb:=h.nb+ (kM ops).fresh}:=by
  have:=T.stage (i:=0) (zero_le _);rw [T.s0]at this;rw [this,n]
 have I:Inv P ops.toList C R A E h w (fun k=> (fun _:Nat=>false) k=true) 0 E {w with drawn:=w.drawn+1} tmps:=by
  refine⟨fun i o _ G=>by simp at G,fun i G=>by simp at G,fun q e _=>by simp,zero_le _,?_,by rw [j,n];exact le_refl _,?_,z.1,fun t a u=>?_,fun f o _ ho hk=>?_,fun f ob p=>?_,fun f ob p=>?_,by rw [n],fun b o hb hE=>?_,fun f g ob ob' L L' p=>?_⟩
  · rw [j];exact⟨Emb.le.refl E,le_refl _,fun _ _ _=>rfl,fun b o L J F i hi _=> ⟨b,o,L,J,F,hi⟩,Nat.le_add_right _ _,rfl,rfl,rfl,fun _ _=>rfl,fun _ _=>rfl,fun _ _ e _=>.inl e,fun _ o e _=> ⟨o,e⟩⟩
  ·rw [j];exact r.sub (fun _ _ e=>e) (Nat.le_add_right _ _)
  · rw [aSx (by simp),n]at u;exact z.2 t a u
  · have:= (T.id_lt ho hk).1;rw [n]at this;exact r.fresh _ this
  ·have:=p.done;simp at this
  ·have:=p.done;simp at this
  ·rw [j]at hb;exact .inl (r.keys b o hb)
  ·have:=p.done;simp at this
 obtain⟨V,m,v,w',c,W,B,l⟩ :=aOf (fn:=fn) (ds:=ds) (kd:=kd) (ro:=ro) (k:=k) (cs:=cs) hc T (by rw [n]) (aE8 y (P.follows .mixedOrders) (w.tape w.drawn (.order fn id))) I;have U:m=d.s:=by
  rw [←D,T.sEnd];have:=B.jle;rcases lt_or_ge m (fX ops.toList 0).length with g|g
  · have he: (fX ops.toList 0)[m]?=some ((fX ops.toList 0)[m]) :=kR g;obtain⟨_,F,_⟩ := (jA ops.toList 0).1 _ _ he;have:= (B.eff _ _ he).1 (l _ (by omega));omega
  ·omega
 have N:∀x ob,(m,x,ob) ∈d.pend→∃f,Pd P ops.toList R A (fun k=>V k=true) m f ob∧wZ ops.toList f=m∧x= (R f).next:=fun x ob S=>by
  rw [←D]at S;obtain⟨f,o,J,F,Z,X,h5,h6,Y⟩ :=T.pend_mem _ (le_refl _) m x ob S;exact⟨f,⟨l f J,⟨o,F,Z,X,h5⟩,by omega⟩,h6.symm,Y⟩
 obtain⟨Q,O,_⟩ :=B.publish T N;have H:bR ops.toList R m=d.h:=by rw [U,←D];exact T.stage (le_refl _)
 rw [H,U]at Q O;refine⟨v,w',c,.head (aZI id) (W.trans (.one aAj)),⟨B.size,fun t a u=>?_⟩,Q,O⟩;refine B.tv t a ?_;rw [←D,T.view t _ (le_refl _)]at u;rw [←u];exact tY fun k hk _=> ⟨fun _=>trivial,fun _=>l k hk⟩
theorem aI1 {call:bP}(hc:eP P call){i:Nat}{ops:Array Oper}{tm tm':T AV}{h h':Hp}(a:aD7 P call i ops tm h=some (tm',h')){E:Emb}{w:World}{tmps:Array Value}(r:Rel E h w.heap)(j:TR E tm i tmps)
  (id:Nat) (fn:FuncId) (ds:List Deferred) (kd:CallKind) (ro:Option Nat) (k:List Item) (cs:List Frame) :
  ∃f w' b,Steps P (lone (rf fn tmps (.code (.region id ops true) ::k) ds kd ro) cs w) (lone (rf fn b k ds kd ro) cs w') ∧TR f tm' i b∧Rel f h' w'.heap∧Ext E h w f h' w':=by
 unfold aD7 at a;simp only at a;cases c: (kM ops).ok with
 |false=>rw [c]at a;cases a
 | true=>
  rw [c]at a;simp only [cond]at a;split at a
  · rename_i e g;cases d:sF P (e.h::e.stages) e.s e.again with
    |false=>rw [d]at a;cases a
    | true=>
     rw [d]at a;simp only [Option.some.injEq,Prod.mk.injEq]at a;obtain⟨rfl,rfl⟩ :=a;exact aAo hc c g (aE9 d) r j id fn ds kd ro k cs
  ·cases a
end
section
variable {P :Program} {E:Emb} {h h':Hp} {w w':World}
theorem xC {l:Nat}{L:Loop}{ob':Obj}(hl:w.heap[l]?=some (.loop L)) : (setObj l ob').run P w= .ok () (cE w l ob') :=pU hl (fun _ _ _ e=>by cases e)
theorem aBy (r:Rel E h w.heap){l:Nat}{L:Loc}(hE:E l=some L){st pe fn tm nt ps aS bd df}(hl:h.look l=some (.loop st pe fn tm nt ps aS bd df)) :
  ∃tmps b,w.heap[L.blk]?=some (.loop {state:=st,pending:=pe,fn,tmps,params:= ⟨ps⟩,assign:=aS,body:=bd,defers:=b.blk}) ∧E df=some b∧TR E tm nt tmps:=by
 obtain⟨d,a,c⟩ :=r.obj _ _ hl;rw [hE]at a;cases a;exact c
theorem rU (r:Rel E h w.heap){l:Nat}{L:Loc}(hE:E l=some L){st pe fn tm nt ps aS bd df tmps}{c:Loc}(hl:h.look l=some (.loop st pe fn tm nt ps aS bd df))(e:E df=some c)(f:TR E tm nt tmps)(a:LoopState)(b:Option Code) :
  Rel E (h.set l (.loop a b fn tm nt ps aS bd df)) (cE w L.blk (.loop {state:=a,pending:=b,fn,tmps,params:= ⟨ps⟩,assign:=aS,body:=bd,defers:=c.blk})).heap ∧
  Ext E h w E (h.set l (.loop a b fn tm nt ps aS bd df)) (cE w L.blk (.loop {state:=a,pending:=b,fn,tmps,params:= ⟨ps⟩,assign:=aS,body:=bd,defers:=c.blk})) :=
 r.setObj (.loop {state:=a,pending:=b,fn,tmps,params:= ⟨ps⟩,assign:=aS,body:=bd,defers:=c.blk}) hl hE rfl rfl (fun g d=> ⟨tmps,c,d,e,f⟩)
theorem aCF (r:Rel E h w.heap){l:Nat}{L:Loc}(hE:E l=some L){pe fn tm nt ps aS bd df}(hl:h.look l=some (.loop .ready pe fn tm nt ps aS bd df)) :
  ∃w',(Instr.beginRound L.blk).run P w= .ok () w'∧Rel E (h.set l (.loop .busy pe fn tm nt ps aS bd df)) w'.heap∧Ext E h w E (h.set l (.loop .busy pe fn tm nt ps aS bd df)) w':=by
 obtain⟨b,e,a,c,d⟩ :=aBy r hE hl;have:=rU r hE hl c d .busy pe;exact⟨_,by simp [Instr.beginRound,run_getLoop a,xC a],this⟩
theorem xE (r:Rel E h w.heap){l:Nat}{L:Loc}(hE:E l=some L){a:Option Code}(b:lI h l a=some h') :
  ∃w',(Instr.endRound L.blk a).run P w= .ok (.bool a.isNone) w'∧Rel E h' w'.heap∧Ext E h w E h' w':=by
 unfold lI at b;split at b
 · rename_i st k fn i g j m o p hl;cases b;obtain⟨d,n,c,e,f⟩ :=aBy r hE hl;have:=rU r hE hl e f (match a with|none=>.ready|some _=>.done) a;refine⟨_,?_,this⟩;cases a<;>simp [Instr.endRound,run_getLoop c,xC c]
 ·cases b
theorem aHd (r:Rel E h w.heap){l:Nat}{L:Loc}(hE:E l=some L){st pe fn tm nt ps aS bd df}(a:st≠ .busy)(hl:h.look l=some (.loop st pe fn tm nt ps aS bd df)) :
  ∃w',(Instr.endLoop L.blk).run P w= .ok pe w'∧Rel E (h.set l (.loop .exhausted pe fn tm nt ps aS bd df)) w'.heap∧Ext E h w E (h.set l (.loop .exhausted pe fn tm nt ps aS bd df)) w':=by
 obtain⟨c,f,b,d,e⟩ :=aBy r hE hl;have:=rU r hE hl d e .exhausted pe;refine⟨_,?_,this⟩;cases st<;>first|exact absurd rfl a|simp [Instr.endLoop,run_getLoop b,xC b]
theorem pV (r:Rel E h w.heap){b:Nat}{L:Loc}(hE:E b=some L)(hb:h.look b=some (.defd false)) :
  ∃w',(Instr.takeDeferred L.blk).run P w= .ok [] w'∧Rel E (h.set b (.defd true)) w'.heap∧Ext E h w E (h.set b (.defd true)) w':=by
 obtain⟨j,c,f⟩ :=r.obj _ _ hb;rw [hE]at c;cases c;have:=r.setObj (o':=.defd true) (.deferred none) hb hE rfl rfl (fun k d=>d);have a:w.heap[L.blk]?=some (.deferred (some [])) :=f;refine⟨cE w L.blk (.deferred none),?_,this⟩;have g: (getObj L.blk).run P w= .ok (.deferred (some [])) w:=by simp [getObj,Sem.run,a]
 have i: (setObj L.blk (.deferred none)).run P w= .ok () (cE w L.blk (.deferred none)) :=pU a (fun _ _ _ e=>by cases e);simp [Instr.takeDeferred,g,i]
theorem aFd (r:Rel E h w.heap){fn:FuncId}{tm:T AV}{e:Nat}{tmps:Array Value}(l:TR E tm e tmps)(ps:List Nat)(d c:Code) :
  ∃ (L i:Loc) (w':World) (b:Emb),(Instr.enterLoop fn tmps ⟨ps⟩ d c none).run P w= .ok (L.blk,[{target:=.collected i.blk,args:= #[]}]) w'∧b h.nb=some i∧b (h.nb+1) =some L ∧
   Rel b ((h.new (.defd false)).new (.loop .ready none fn tm e ps d c h.nb)) w'.heap∧Ext E h w b ((h.new (.defd false)).new (.loop .ready none fn tm e ps d c h.nb)) w':=by
 obtain⟨m,j⟩ :=r.new (.defd false) (.deferred (some [])) 0 (fun _ _ _ _ f=>f)
 obtain⟨k,g⟩ :=Rel.new (w:={w with heap:=w.heap.push (.deferred (some []))}) m (.loop .ready none fn tm e ps d c h.nb)
  (.loop {state:=.ready,pending:=none,fn,tmps,params:= ⟨ps⟩,assign:=d,body:=c,defers:=w.heap.size}) 0
  (fun b n a _ f=> ⟨tmps,⟨w.heap.size,0,0⟩,f,a.1 _ _ (Emb.put_same _ _ _),(l.mono j.le).mono a⟩)
 refine⟨⟨(w.heap.push (.deferred (some []))).size,0,0⟩,⟨w.heap.size,0,0⟩,_,_,?_,?_,Emb.put_same _ _ _,k,j.trans g⟩
 · simp [Instr.enterLoop,newObj,Sem.run];rfl
 ·exact g.le.1 _ _ (Emb.put_same _ _ _)
theorem aFe (r:Rel E h w.heap){o:Nat}{g:Loc}(hE:E o=some g){st pe fn' tm' nt' ps' as' bd' df}(hl:h.look o=some (.loop st pe fn' tm' nt' ps' as' bd' df)){fn:FuncId}{tm:T AV}{d:Nat}{tmps:Array Value}(p:TR E tm d tmps)(ps:List Nat)(c b:Code) :
  ∃ (L:Loc) (w':World) (e:Emb),(Instr.enterLoop fn tmps ⟨ps⟩ c b (some g.blk)).run P w= .ok (L.blk,[]) w'∧e h.nb=some L ∧
   Rel e (h.new (.loop .ready none fn tm d ps c b df)) w'.heap∧Ext E h w e (h.new (.loop .ready none fn tm d ps c b df)) w':=by
 obtain⟨f,i,j,m,s⟩ :=aBy r hE hl
 obtain⟨n,k⟩ :=r.new (.loop .ready none fn tm d ps c b df)
  (.loop {state:=.ready,pending:=none,fn,tmps,params:= ⟨ps⟩,assign:=c,body:=b,defers:=i.blk}) 0
  (fun e q a _ l=> ⟨tmps,i,l,a.1 _ _ m,p.mono a⟩)
 exact⟨_,_,_,by simp [Instr.enterLoop,run_getLoop j,newObj,Sem.run],Emb.put_same _ _ _,n,k⟩
def aHE (tmps:Array Value) :ResultVar→Sem Value
 | .tmp t=>pure (tmps.getD t Go.undef)
 | .cell a t=>do loadVar t (←asAddr (tmps.getD a Go.undef))
theorem aOg (fd:Func)(tmps:Array Value) :results fd tmps= (do let vs ←fd.results.mapM (aHE tmps);pure (if h:vs.size=1 then vs[0]else .tuple vs) :Sem Value) :=by
 unfold results;rfl
theorem qV {fd:Func}{tm:T AV}{y:Nat}{tmps:Array Value}(r:Rel E h w.heap)(p:TR E tm y tmps){f:List AV}(d:lX P h tm fd.results.toList=some f) :
  ∃cv,(results fd tmps).run P w= .ok cv w∧VR E (aAD f) cv:=by
 have key :∀ (m:List ResultVar) (f:List AV) (c:Array Value),lX P h tm m=some f→∃cvs,(m.foldlM (fun(A:Array Value) a=>Functor.map A.push (aHE tmps a)) c).run P w= .ok (c++ (⟨cvs⟩ :Array Value)) w∧VRs E f cvs:=by
  intro m
  induction m with
  |nil=>intro f c d;simp [lX]at d;subst d;exact⟨[],by simp,VRs.nil E⟩
  | cons x m z=>
   intro f c d;simp only [lX]at d;split at d
   · rename_i v o i G;cases d;have s:∃cv,(aHE tmps x).run P w= .ok cv w∧VR E v cv:=by
      unfold aQ7 at i;split at i
      · rename_i t;obtain⟨cv,k,j⟩ :=p.2 _ _ i;exact⟨cv,by simp [aHE,aAx,k],j⟩
      · rename_i a t;split at i
        · rename_i b B hb;obtain⟨cv,k,j⟩ :=p.2 _ _ hb;simp only [VR]at j;obtain⟨L,H,rfl⟩ :=j;obtain⟨cv,l,g⟩ :=aDi r i H;exact⟨cv,by simp [aHE,aAx,k,asAddr,l],g⟩
        ·cases i
     obtain⟨cv,l,g⟩ :=s;obtain⟨cvs,C,D⟩ :=z o (c.push cv) G;refine⟨cv::cvs,?_,VRs.cons g D⟩;rw [List.foldlM_cons,Sem.run_bind,Sem.run_map,l];simp only [Result.andThen_ok];rw [C];congr 1;apply Array.ext';simp
   ·cases d
 obtain⟨cvs,l,g⟩ :=key _ _ #[] d;have hm: (fd.results.mapM (aHE tmps)).run P w= .ok (⟨cvs⟩ :Array Value) w:=by
  rw [Array.mapM_eq_foldlM,←Array.foldlM_toList,l];congr 1;apply Array.ext';simp
 rw [aOg];simp only [Sem.run_bind,hm,Result.andThen_ok,Sem.run_pure];refine⟨_,rfl,?_⟩;have n:=g.length;unfold aAD;split
 · rename_i v;obtain⟨u,I,rfl,k,j⟩ :=g.cons_inv;rw [j.nil_inv];exact k
 · rename_i F
   have:¬ (⟨cvs⟩ :Array Value).size=1:=fun e=>by
    have q:cvs.length=1:=e
    match f,n with
    | [x],_=>exact F x rfl
    | [],h=>simp [q]at h
    |_::_::_,h=>simp [q]at h
   rw [dif_neg this];simp only [VR];exact⟨cvs,rfl,g⟩
theorem CR.noGoexit :∀ {c:List (AV×Bool)} {a:List PanicEntry},CR E c a→a.dropWhile (!·.goexit) = []
 | [],_,h=>by simp only [CR]at h;subst h;rfl
 | _::_,_,h=>by
  simp only [CR]at h;obtain⟨v,a,rfl,_,b⟩ :=h;simp [b.noGoexit]
theorem aI2 {a:AMode}{m:FrameMode}(d:MR E a m) :MR E (aID a) (settle m) :=by
 cases a with
 |run=>simp only [MR]at d;subst d;exact rfl
 |ret=>simp only [MR]at d;subst d;exact rfl
 | pan c=>
  simp only [MR]at d;obtain⟨i,rfl,e⟩ :=d;cases c with
  |nil=>simp only [CR]at e;subst e;exact⟨[],rfl,by simp [CR]⟩
  | cons x l=>
   obtain⟨v,b⟩ :=x;have f:=e;simp only [CR]at e;obtain⟨j,h,rfl,k,g⟩ :=e;cases b with
   |true=>simp only [aID,settle,g.noGoexit];exact rfl
   |false=>exact⟨_,rfl,f⟩
theorem xF {a:AFrame}{c:Frame}(f:FR E a c){g:List (AV×Bool)}{ps:List PanicEntry}(e:CR E g ps) :FR E (a.raise g) (c.raise ps) :=by
 unfold AFrame.raise Frame.raise;have hm:=f.mode;cases b:a.mode with
 |run=>rw [b]at hm;simp only [MR]at hm;rw [hm];exact⟨f.fn,f.tm,f.todo,f.defers,⟨ps,rfl,e⟩,f.kind,f.round⟩
 |ret=>rw [b]at hm;simp only [MR]at hm;rw [hm];exact⟨f.fn,f.tm,f.todo,f.defers,⟨ps,rfl,e⟩,f.kind,f.round⟩
 | pan d=>
  rw [b]at hm;simp only [MR]at hm;obtain⟨qs,h,i⟩ :=hm;rw [h];exact⟨f.fn,f.tm,f.todo,f.defers,⟨_,rfl,e.append i⟩,f.kind,f.round⟩
theorem uA (id:Nat) :∀ {k f:List AItem} {d:List Item},nM id k=some f→IRs E k d→∃a,exitTo id d=some a∧IRs E f a
 | [],_,_,h,_=>by simp [nM]at h
 | i ::k,f,d,h,r=>by
  obtain⟨n,j,rfl,c,m⟩ :=r.cons_inv;cases i<;>simp only [nM]at h<;>simp only [IR]at c
  case inBlock g=>
   subst c;rw [bM]at h;simp only [exitTo];by_cases e:g=id
   · simp only [e,decide_true,cond,Option.some.injEq]at h;subst h;exact⟨j,by simp [e],m⟩
   · simp only [e,decide_false,cond]at h;obtain⟨a,b,l⟩ :=uA id h m;exact⟨a,by simp [e,b],l⟩
  all_goals
   obtain⟨a,b,l⟩ :=uA id h m;refine⟨a,?_,l⟩
   first
    | (subst c;simpa [exitTo]using b)
    | (obtain⟨L,_,rfl⟩ :=c;simpa [exitTo]using b)
    | (obtain⟨rfl,_⟩ :=c;simpa [exitTo]using b)
theorem qW (id:Nat) :∀ {k:List AItem} {b:List Item},nM id k=none→IRs E k b→exitTo id b=none
 | [],_,_,r=>by rw [r.nil_inv];rfl
 | i ::k,b,h,r=>by
  obtain⟨j,g,rfl,a,f⟩ :=r.cons_inv;cases i<;>simp only [nM]at h<;>simp only [IR]at a
  case inBlock d=>
   subst a;rw [bM]at h;simp only [exitTo];by_cases e:d=id
   ·simp only [e,decide_true,cond]at h;cases h
   · simp only [e,decide_false,cond]at h;simp [e,qW id h f]
  all_goals
   have c:=qW id h f
   first
    | (subst a;simpa [exitTo]using c)
    | (obtain⟨L,_,rfl⟩ :=a;simpa [exitTo]using c)
    | (obtain⟨rfl,_⟩ :=a;simpa [exitTo]using c)
theorem uB (l:Nat) :∀ {k g:List AItem} {f:List Item},nN l k=some g→IRs E k f→∃a,gotoIn l f=some a∧IRs E g a
 | [],_,_,h,_=>by simp [nN]at h
 | i ::k,g,f,h,r=>by
  obtain⟨o,j,rfl,d,n⟩ :=r.cons_inv;cases i<;>simp only [nN]at h<;>simp only [IR]at d
  case inScope c=>
   subst d;simp only [gotoIn];split at h
   · rename_i e hr;cases h;exact⟨.code e:: .inScope c::j,by simp [hr],IRs.cons rfl (IRs.cons rfl n)⟩
   · rename_i hr;obtain⟨a,b,m⟩ :=uB l h n;exact⟨a,by simp [hr,b],m⟩
  all_goals
   obtain⟨a,b,m⟩ :=uB l h n;refine⟨a,?_,m⟩
   first
    | (subst d;simpa [gotoIn]using b)
    | (obtain⟨L,_,rfl⟩ :=d;simpa [gotoIn]using b)
    | (obtain⟨rfl,_⟩ :=d;simpa [gotoIn]using b)
theorem qX (l:Nat) :∀ {k:List AItem} {b:List Item},nN l k=none→IRs E k b→gotoIn l b=none
 | [],_,_,r=>by rw [r.nil_inv];rfl
 | i ::k,b,h,r=>by
  obtain⟨g,f,rfl,a,e⟩ :=r.cons_inv;cases i<;>simp only [nN]at h<;>simp only [IR]at a
  case inScope d=>
   subst a;simp only [gotoIn];split at h
   ·cases h
   · rename_i hr;simp [hr,qX l h e]
  all_goals
   have c:=qX l h e
   first
    | (subst a;simpa [gotoIn]using c)
    | (obtain⟨L,_,rfl⟩ :=a;simpa [gotoIn]using c)
    | (obtain⟨rfl,_⟩ :=a;simpa [gotoIn]using c)
def Goes (P:Program)(E:Emb)(h:Hp)(fr:Frame)(cs:List Frame)(w:World)(base:List Frame)(s':AS) :Prop:=
 ∃E' fr' cs' w',Steps P (lone fr (cs++base) w) (lone fr' (cs'++base) w') ∧FR E' s'.fr fr'∧FRs E' s'.cs cs'∧Rel E' s'.h w'.heap∧Ext E h w E' s'.h w'
section
variable {fn :FuncId} {tmps:Array Value} {ds:List Deferred} {kd:CallKind} {ro:Option Nat} {k:List Item} {ccs base:List Frame} {todo:List Item}
theorem drop_cons {a:Type}{l:List a}{i:Nat}{x:a}{xs:List a}(h:x::xs=l.drop i) :l[i]?=some x∧xs=l.drop (i+1) :=by
 have b: (l.drop i)[0]?=some x:=by rw [←h];rfl
 rw [List.getElem?_drop,Nat.add_zero]at b;refine⟨b,?_⟩;have:l.drop (i+1) = (l.drop i).drop 1:=by rw [List.drop_drop]
 rw [this,←h];rfl
theorem aFf {all:Array Oper}{i:Nat}{o:Oper}{rest:List Oper}{a:Item}(b:IR E (.ops all i (o::rest)) a) :
  a= .inRegion all (i::range' (i+1) rest.length) ∧all[i]?=some o∧IR E (.ops all (succ i) rest) (.inRegion all (range' (i+1) rest.length)) :=by
 simp only [IR]at b;obtain⟨rfl,c⟩ :=b;obtain⟨d,e⟩ :=drop_cons c;exact⟨by simp [List.range'_succ],by rw [←rO];exact d,rfl,e⟩
theorem aBz {c n:AFrame}{v:AV}{r:Frame}{cv:Value}(a:c.finish v=some n)(f:FR E c r)(x:VR E v cv) :FR E n (r.finish cv) :=by
 unfold AFrame.finish at a;have b:=f.todo;split at a
 · rename_i all i o q k h;split at a
   · rename_i w j;cases a;rw [h]at b;obtain⟨s,t,e,d,m⟩ :=b.cons_inv;obtain⟨rfl,g,u⟩ :=aFf d;have p:=aAH f.tm j x;unfold Frame.finish;rw [e];simp only [g,Option.bind_some];refine⟨f.fn,?_,IRs.cons u m,f.defers,f.mode,f.kind,f.round⟩;unfold aAG at p;exact p
   ·cases a
 · rename_i l k h;cases a;rw [h]at b;obtain⟨s,t,e,d,m⟩ :=b.cons_inv;simp only [IR]at d;obtain⟨L,g,rfl⟩ :=d;unfold Frame.finish;rw [e];exact⟨f.fn,f.tm,IRs.cons ⟨L,g,rfl⟩ m,f.defers,f.mode,f.kind,f.round⟩
 ·cases a
theorem aAp {fr:AFrame}{cfr:Frame}(hk:cfr.kind=fr.kind){cs:List AFrame}(fs:FRs E cs ccs){v:AV}{cv:Value}{f:AS}(b:aBh fr cs v h=some f)(j:VR E v cv) :
  ∃c d,ccs=c::d∧FR E f.fr (handed cfr c cv) ∧FRs E f.cs d∧f.h=h∧ (cfr.kind= .normal∨cfr.kind= .deferred) :=by
 unfold aBh at b;split at b
 ·cases b
 · rename_i c cs;obtain⟨k,d,rfl,e,i⟩ :=fs.cons_inv;refine⟨k,d,rfl,?_⟩;split at b
   · rename_i a;split at b
     · rename_i l g;cases b;refine⟨?_,i,rfl,.inl (by rw [hk,a])⟩;simp only [handed,hk,a];exact aBz g e j
     ·cases b
   · rename_i a;cases b;refine⟨?_,i,rfl,.inr (by rw [hk,a])⟩;simp only [handed,hk,a];exact⟨e.fn,e.tm,e.todo,e.defers,aI2 e.mode,e.kind,e.round⟩
   ·cases b
theorem Goes.one {s':AS}{fr fr':Frame}{cs':List Frame}{E':Emb}(h1:step P (lone fr (ccs++base) w) = .next (lone fr' (cs'++base) w'))(f:FR E' s'.fr fr')(fs:FRs E' s'.cs cs')(r:Rel E' s'.h w'.heap)(x:Ext E h w E' s'.h w') :Goes P E h fr ccs w base s':=
 ⟨E',fr',cs',w',.one h1,f,fs,r,x⟩
theorem uC {l:Nat}(hr:RR E (some l) ro) :∃L,E l=some L∧ro=some L.blk:=by simpa only [RR]using hr
theorem oY {fr:AFrame}{cs:List AFrame}{a:Option Code}{s':AS}(r:Rel E h w.heap)(f:FR E fr (rf fn tmps todo ds kd ro))(fs:FRs E cs ccs)(b:rP fr cs h a=some s')
  (o: (todo= [] ∧a=none) ∨ (∃k,todo= .code .ret::k∧a=some .ret) ∨ (∃id k,todo= .code (.exit id) ::k∧a=some (.exit id) ∧exitTo id k=none) ∨ (∃t k,todo= .code (.goto t) ::k∧a=some (.goto t) ∧gotoIn t k=none)) :
  Goes P E h (rf fn tmps todo ds kd ro) ccs w base s':=by
 unfold rP at b;have d:=f.round;split at b
 · rename_i g;rw [g]at d;simp only [RR]at d;subst d
   have i:∀j,(step P (lone (rf fn tmps j ds kd none) (ccs++base) w) = .next (lone {rf fn tmps j ds kd none with mode:=.returning} (ccs++base) w)) →j=todo→some ⟨{fr with mode:=.ret},cs,h⟩ =some s'→Goes P E h (rf fn tmps todo ds kd none) ccs w base s':=fun j u e b=>by
    cases b;subst e;exact Goes.one u ⟨f.fn,f.tm,f.todo,f.defers,rfl,f.kind,by rw [show({fr with mode:=AMode.ret}:AFrame).roundOf=fr.roundOf from rfl,g];exact rfl⟩ fs r (Ext.refl _ _ _)
   split at b
   · rcases o with⟨e,_⟩ | ⟨_,_,e⟩ | ⟨_,_,_,e,_⟩ | ⟨_,_,_,e,_⟩
     ·exact i [] bEt e.symm b
     ·cases e
     ·cases e
     ·cases e
   · rcases o with⟨_,e⟩ | ⟨k,e,_⟩ | ⟨_,_,_,e,_⟩ | ⟨_,_,_,e,_⟩
     ·cases e
     ·exact i _ bEu e.symm b
     ·cases e
     ·cases e
   ·cases b
 · rename_i l g;rw [g]at d;obtain⟨L,hE,rfl⟩ :=uC d;split at b
   · rename_i B n;obtain⟨C,q,y,v⟩ :=xE (P:=P) r hE n;have A:VR E (.bool a.isNone) (.bool a.isNone) :=by simp only [VR]
     obtain⟨c,m,rfl,z,s,p,x⟩ :=aAp (cfr:=rf fn tmps todo ds kd (some L.blk)) f.kind fs b A;refine Goes.one (cs':=m) (wS x o q) z s (by rw [p];exact y) (by rw [p];exact v)
   ·cases b
theorem FR.run {fr:AFrame}{c:Frame}(f:FR E fr c)(hm:fr.mode= .run) :c=rf c.fn c.tmps c.todo c.defers c.kind c.roundOf:=by
 have:=f.mode;rw [hm]at this;simp only [MR]at this;cases c;simp only at this;subst this;rfl
theorem iJ {fr:AFrame}{cs:List AFrame}{s':AS}{b:List AItem}{a:List Item}(r:Rel E h w.heap)(f:FR E fr (rf fn tmps todo ds kd ro))(hm:fr.mode= .run)(fs:FRs E cs ccs)(c:toC fr b cs h=some s')(d:IRs E b a)
  (h1:step P (lone (rf fn tmps todo ds kd ro) (ccs++base) w) = .next (lone (rf fn tmps a ds kd ro) (ccs++base) w)) :Goes P E h (rf fn tmps todo ds kd ro) ccs w base s':=by
 unfold toC at c;cases c;exact Goes.one h1 ⟨f.fn,f.tm,d,f.defers,f.mode,f.kind,f.round⟩ fs r (Ext.refl _ _ _)
theorem aSy (r:Rel E h w.heap){fr:AFrame}{cs:List AFrame}{call:bP}{all:Array Oper}{i:Nat}{o:Oper}{rest:List Oper}{ak:List AItem}(hm:fr.mode= .run)(W:fr.todo= .ops all i (o::rest) ::ak)
  (f:FR E fr (rf fn tmps todo ds kd ro)) (fs:FRs E cs ccs) {s':AS} (m:lY P call ⟨fr,cs,h⟩ =some s') :Goes P E h (rf fn tmps todo ds kd ro) ccs w base s':=by
 unfold lY at m;simp only [hm,W]at m;have ft:=f.todo;rw [W]at ft;obtain⟨it,k,e,i1,R⟩ :=ft.cons_inv;simp only at e;subst e;obtain⟨rfl,L,S⟩ :=aFf i1;have Z: (all[i]?).bind (·.dst) =o.dst:=by rw [L];rfl
 have a:∀ {b},bU fr.tm all.toList o=some b→Region.wanted o (yielded all tmps) =b:=fun h=>aAk f.tm h;have C:=TR.reads (E:=E) f.tm fn (.inRegion all (i::range' (i+1) rest.length) ::k) ds kd ro (· ∈o.op.operands)
 have put:∀ {U:Emb} {q:T AV} {v:AV} {B:Value},E.le U→iR fr.tm fr.nt o.dst v=some q→VR U v B→TR U q fr.nt (match o.dst with|some d=>tmps.setIfInBounds d B|none=>tmps) :=fun hle hp hv=>by
  have:=aAH (f.tm.mono hle) hp hv;unfold aAG at this;exact this
 split at m
 ·cases m
 · rename_i F;split at m
   · rename_i q n;cases m;refine Goes.one (aAi L (a F)) ⟨f.fn,?_,IRs.cons S R,f.defers,by simp only [hm];exact rfl,f.kind,f.round⟩ fs r (Ext.refl _ _ _);simp only [Frame.finish,Z];exact put (Emb.le.refl E) n (sG E)
   ·cases m
 · rename_i F;split at m
   · rename_i v h2 j;split at m
     · rename_i q n;cases m;have y:=aHD j;obtain⟨U,w',B,z,Q,g3,K⟩ :=mX r C j;have ff:FR U {fr with tm:=q,todo:=.ops all (succ i) rest::ak,mode:=.run} ((rf fn tmps (.inRegion all (i::range' (i+1) rest.length) ::k) ds kd ro).finish B) :=by
        simp only [Frame.finish,Z];exact⟨f.fn,put K.le n Q,IRs.cons (S.mono K.le) (R.mono K.le),f.defers.mono K.le,by simp only [hm];exact rfl,f.kind,f.round.mono K.le⟩
       rcases z with z| ⟨z,rfl⟩
       ·exact Goes.one (tW L (a F) (.inr y) z) ff (fs.mono K.le) g3 K
       ·exact Goes.one (aE5 L (a F) (.inr y) z) ff (fs.mono K.le) g3 K
     ·cases m
   · rename_i c j;unfold rQ at m;split at m
     · rename_i g hg;cases m;have y:=aFa j;obtain⟨nx,G,z,Q,g3⟩ :=rT r hg (mX r C j);have V:FRs E (fr::cs) (rf fn tmps (.inRegion all (i::range' (i+1) rest.length) ::k) ds kd ro::ccs) :=FRs.cons f fs;rcases Q with⟨f',args,rfl,rfl⟩ | ⟨l,f',t,aS,bd,rfl,rfl⟩
       ·exact Goes.one (aE6 L (a F) (.inr y) z) g3 V r (Ext.refl _ _ _)
       ·exact Goes.one (aE7 L (a F) (.inr y) z) g3 V r (Ext.refl _ _ _)
     ·cases m
   · rename_i d j;split at m
     · rename_i q D n;cases m;have u:=f.round;rw [D]at u;simp only [RR]at u;subst u;obtain⟨cd,z,Q⟩ :=mX r C j;refine Goes.one (aLl L (a F) z) ?_ fs r (Ext.refl _ _ _);simp only [Frame.finish,Z];exact⟨f.fn,put (Emb.le.refl E) n (sG E),IRs.cons S R,DRs.cons Q f.defers,by simp only [hm];exact rfl,f.kind,by simp only [D];exact rfl⟩
     ·cases m
   · rename_i v j;cases m;obtain⟨B,z,Q⟩ :=mX r C j;have y:∀c,o.op≠ .defer c:=by
      intro c hc;unfold kL at j;split at j
      ·rename_i r hr;cases j;obtain⟨d,e⟩ :=aAI c hc hr;cases e
      ·rw [aCD c hc]at j;cases j
     exact Goes.one (aLm L (a F) (.inr y) z) (xF f (ps:=[{v:=B,recovered:=false}]) ⟨B,[],rfl,Q,rfl⟩) fs r (Ext.refl _ _ _)
   · rename_i j;split at m
     · rename_i c cs' D hkd;have u:=f.round;rw [D]at u;simp only [RR]at u;subst u;have fk:=f.kind;rw [hkd]at fk;simp only at fk;subst fk;obtain⟨X,p,rfl,M,f2⟩ :=fs.cons_inv;have z: (execOp (rf fn tmps (.inRegion all (i::range' (i+1) rest.length) ::k) ds .deferred none).eval o).run P w= .ok .recover w:=mX r C j;have J:=aHa (P:=P) (k:=k) (ds:=ds) (cs:=p++base) (fn:=fn) (rest:=range' (i+1) rest.length) (tmps:=tmps) L (a F) (c:=X) z;have A:=M.mode;split at m
       · rename_i v older s;split at m
         · rename_i q n;cases m;rw [s]at A;simp only [MR,CR]at A;obtain⟨ps,e1,B,N,rfl,I,e3⟩ :=A;rw [e1]at J;simp only at J;refine Goes.one (cs':={X with mode:=.panicking ({v:=B,recovered:=true}::N)}::p) J ?_ (FRs.cons ⟨M.fn,M.tm,M.todo,M.defers,⟨_,rfl,B,N,rfl,I,e3⟩,M.kind,M.round⟩ f2) r (Ext.refl _ _ _);simp only [Frame.finish,Z];exact⟨f.fn,put (Emb.le.refl E) n I,IRs.cons S R,f.defers,by simp only [hm];exact rfl,f.kind,f.round⟩
         ·cases m
       · rename_i hno;split at m
         · rename_i q n;cases m;have Y:step P (lone (rf fn tmps (.inRegion all (i::range' (i+1) rest.length) ::k) ds .deferred none) (X:: (p++base)) w) = .next (lone ((rf fn tmps (.inRegion all (i::range' (i+1) rest.length) ::k) ds .deferred none).finish .nilIface) (X:: (p++base)) w) :=by
            rw [J];split
            · rename_i v older s;exfalso;cases H:c.mode with
              |run=>rw [H]at A;simp only [MR]at A;rw [A]at s;cases s
              |ret=>rw [H]at A;simp only [MR]at A;rw [A]at s;cases s
              | pan O=>
               rw [H]at A;simp only [MR]at A;obtain⟨ps,e1,I⟩ :=A;rw [e1]at s;cases s;cases O with
               |nil=>simp only [CR]at I;cases I
               | cons x xs=>
                obtain⟨xv,xb⟩ :=x;simp only [CR]at I;obtain⟨B,N,I,_,_⟩ :=I;cases I;exact hno _ _ H
            ·rfl
           refine Goes.one (cs':=X::p) Y ?_ (FRs.cons M f2) r (Ext.refl _ _ _);simp only [Frame.finish,Z];exact⟨f.fn,put (Emb.le.refl E) n (by simp only [VR]),IRs.cons S R,f.defers,by simp only [hm];exact rfl,f.kind,f.round⟩
         ·cases m
     ·cases m
   ·cases m
end
section
variable {fn :FuncId} {tmps:Array Value} {ds:List Deferred} {kd:CallKind} {ro:Option Nat} {ccs base:List Frame} {todo:List Item}
theorem aVg (r:Rel E h w.heap){fr:AFrame}{cs:List AFrame}{call:bP}{g:Operand}{ps:Array Nat}{assign body:Code}{ak:List AItem}(hm:fr.mode= .run)(htd:fr.todo= .code (.rangeFunc g ps assign body) ::ak)
  (f:FR E fr (rf fn tmps todo ds kd ro)) (fs:FRs E cs ccs) {s':AS} (h0:lY P call ⟨fr,cs,h⟩ =some s') :Goes P E h (rf fn tmps todo ds kd ro) ccs w base s':=by
 unfold lY at h0;simp only [hm,htd]at h0;have ft:=f.todo;rw [htd]at ft;obtain⟨it,k,e,i1,i2⟩ :=ft.cons_inv;simp only at e;subst e;simp only [IR]at i1;subst i1;have hfn:fn=fr.fn:=f.fn;split at h0
 ·cases h0
 · rename_i fv hfv;have fr0:=f.round
   have res:∀ {E':Emb} {h2:Hp} {w2:World} {L:Loc} {la:Nat} {mark:List Deferred} {todo':List AItem} {defers':List ADef} {c:AIn},Ext E h w E' h2 w2→Rel E' h2 w2.heap→E' la=some L →
     (Instr.enterLoop fn tmps ps assign body ro).run P w= .ok (L.blk,mark) w2→wA P fv [.yield la] =some (.call c) →DRs E' defers' (mark++ds) →IRs E' todo' (.inRangeFunc L.blk::k) →
     rQ P {fr with todo:=todo',defers:=defers'} cs h2 c=some s'→Goes P E h (rf fn tmps (.code (.rangeFunc g ps assign body) ::k) ds kd ro) ccs w base s':=by
    intro E' h2 w2 L la mark todo' defers' c x r2 hL he hc hds htd' h0;unfold rQ at h0;split at h0
    · rename_i G hG;cases h0;have hρ:=TR.reads (E:=E') (f.tm.mono x.le) fn (.inRangeFunc L.blk::k) (mark++ds) kd ro (fun _=>True);obtain⟨d,k1,k2⟩ :=aBm (P:=P) (cargs:=[.func (.yield L.blk) #[] #[]]) r2 hc (hρ g trivial _ hfv) (VRs.cons (by simp only [VR];exact⟨L,hL,rfl⟩) (VRs.nil E'));obtain⟨nx,CG,g1,g2,g3⟩ :=rT r2 hG k2;have hres: (resolve (rf fn tmps (.inRangeFunc L.blk::k) (mark++ds) kd ro).eval {callee:=.value g,args:= #[.const (.func (.yield L.blk) #[] #[])],argTypes:= #[]} 0).run P w2= .ok d w2:=by
       simp only [resolve];rw [show(#[Operand.const (.func (.yield L.blk) #[] #[])] :Array Operand).map (rf fn tmps (.inRangeFunc L.blk::k) (mark++ds) kd ro).eval= ⟨[.func (.yield L.blk) #[] #[]]⟩from by simp [Frame.eval]];exact k1
      exact Goes.one (cs':=rf fn tmps (.inRangeFunc L.blk::k) (mark++ds) kd ro::ccs) (aIV he hres g1 g2) g3
       (FRs.cons ⟨f.fn,f.tm.mono x.le,htd',hds,by simp only [hm];exact rfl,f.kind,f.round.mono x.le⟩ (fs.mono x.le)) r2 x
    ·cases h0
   have hps:ps= ⟨ps.toList⟩ :=rfl;split at h0
   · rename_i hro;rw [hro]at fr0;simp only [RR]at fr0;subst fr0;obtain⟨L,Ld,w2,E',e1,e2,e3,r2,x⟩ :=aFd (P:=P) r f.tm ps.toList assign body (fn:=fn);split at h0
     · rename_i c hc;refine res (E':=E') (w2:=w2) (L:=L) (la:=h.nb+1) (mark:=[{target:=.collected Ld.blk,args:= #[]}]) (todo':=.inRF (h.nb+1) ::ak) (defers':=.col h.nb::fr.defers) (h2:= (h.new (.defd false)).new (.loop .ready none fr.fn fr.tm fr.nt ps.toList assign body h.nb)) (c:=c) ?_ ?_ e3 e1 hc ?_ ?_ ?_
       ·rw [←hfn];exact x
       ·rw [←hfn];exact r2
       ·exact DRs.cons ⟨Ld,e2,rfl⟩ (f.defers.mono x.le)
       ·exact IRs.cons ⟨L,e3,rfl⟩ (i2.mono x.le)
       ·simp only [hm];exact h0
     ·cases h0
   · rename_i o hro;rw [hro]at fr0;obtain⟨Lo,hEo,rfl⟩ :=uC fr0;split at h0
     · rename_i st pe fn' tm' nt' ps' as' bd' df hl;obtain⟨L,w2,E',e1,e3,r2,x⟩ :=aFe (P:=P) r hEo hl f.tm ps.toList assign body (fn:=fn);split at h0
       · rename_i c hc;refine res (E':=E') (w2:=w2) (L:=L) (la:=h.nb) (mark:=[]) (todo':=.inRF h.nb::ak) (defers':=fr.defers) (h2:=h.new (.loop .ready none fr.fn fr.tm fr.nt ps.toList assign body df)) (c:=c) ?_ ?_ e3 e1 hc ?_ ?_ ?_
         ·rw [←hfn];exact x
         ·rw [←hfn];exact r2
         ·exact f.defers.mono x.le
         ·exact IRs.cons ⟨L,e3,rfl⟩ (i2.mono x.le)
         ·simpa [hm,hro]using h0
       ·cases h0
     ·cases h0
theorem xG {call:bP}(hc:eP P call){s s':AS}(h0:lY P call s=some s'){fr:Frame}(f:FR E s.fr fr)(fs:FRs E s.cs ccs)(r:Rel E s.h w.heap)(base:List Frame) :Goes P E s.h fr ccs w base s':=by
 obtain⟨afr,cs,h⟩ :=s;simp only at f fs r ⊢;cases hm:afr.mode with
 | run =>
  have e:=f.run hm;generalize fr.fn=fn at e;generalize fr.tmps=tmps at e;generalize fr.todo=todo at e;generalize fr.defers=ds at e;generalize fr.kind=kd at e;generalize fr.roundOf=ro at e;subst e;have ft:=f.todo;simp only at ft;cases htd:afr.todo with
  | nil=>
   rw [htd]at ft;have e:=ft.nil_inv;subst e;unfold lY at h0;simp only [hm,htd]at h0;exact oY r f fs h0 (.inl ⟨rfl,rfl⟩)
  | cons it ak=>
   rw [htd]at ft;obtain⟨ci,ck,e,i1,i2⟩ :=ft.cons_inv;subst e;have h00:=h0;unfold lY at h0;simp only [hm,htd]at h0;cases it with
   | code c=>
    simp only [IR]at i1;subst i1;cases c with
    |ret=>exact oY r f fs h0 (.inr (.inl ⟨ck,rfl,rfl⟩))
    |skip=>exact iJ r f hm fs h0 i2 aZG
    |label l=>exact iJ r f hm fs h0 i2 (aU7 l)
    |seq a b=>exact iJ r f hm fs h0 (IRs.cons rfl (IRs.cons rfl i2)) (bEs a b)
    | cond c x y=>
     simp only at h0;have hρ:=TR.reads (E:=E) f.tm fn (.code (.cond c x y) ::ck) ds kd ro (fun _=>True);split at h0
     · rename_i hcv;have:=hρ c trivial _ hcv;simp only [VR]at this;exact iJ r f hm fs h0 (IRs.cons rfl i2) (aQ8 c x y true this)
     · rename_i hcv;have:=hρ c trivial _ hcv;simp only [VR]at this;exact iJ r f hm fs h0 (IRs.cons rfl i2) (aQ8 c x y false this)
     ·cases h0
    |block id c=>exact iJ r f hm fs h0 (IRs.cons rfl (IRs.cons rfl i2)) (aU8 id c)
    |loop c=>exact iJ r f hm fs h0 (IRs.cons rfl (IRs.cons rfl i2)) (aZH c)
    |scope c=>exact iJ r f hm fs h0 (IRs.cons rfl (IRs.cons rfl i2)) (aU9 c)
    | exit id=>
     simp only at h0;split at h0
     · rename_i k' hk';obtain⟨ck',g1,g2⟩ :=uA id hk' i2;exact iJ r f hm fs h0 g2 (aZJ id g1)
     · rename_i hk';exact oY r f fs h0 (.inr (.inr (.inl ⟨id,ck,rfl,rfl,qW id hk' i2⟩)))
    | goto l=>
     simp only at h0;split at h0
     · rename_i k' hk';obtain⟨ck',g1,g2⟩ :=uB l hk' i2;exact iJ r f hm fs h0 g2 (aZK l g1)
     · rename_i hk';exact oY r f fs h0 (.inr (.inr (.inr ⟨l,ck,rfl,rfl,qX l hk' i2⟩)))
    | region id ops draw=>
     cases draw with
     | false=>
      refine iJ r f hm fs h0 (IRs.cons ⟨?_,rfl⟩ i2) (aSu id);rw [List.range_eq_range'];simp
     | true=>
      simp only at h0;split at h0
      · rename_i tm' h' hr;cases h0;obtain⟨E',w',tmps',s1,t1,r1,x1⟩ :=aI1 hc hr r f.tm id fn ds kd ro ck (ccs++base);exact⟨E',_,ccs,w',s1,⟨f.fn,t1,i2.mono x1.le,f.defers.mono x1.le,by simp only [hm];exact rfl,f.kind,f.round.mono x1.le⟩,fs.mono x1.le,r1,x1⟩
      ·cases h0
    |rangeFunc g ps assign body=>exact aVg r hm htd f fs h00
    |refuse _=>cases h0
   |inBlock id=>simp only [IR]at i1;subst i1;exact iJ r f hm fs h0 i2 (aN8 id)
   |inLoop c=>simp only [IR]at i1;subst i1;exact iJ r f hm fs h0 (IRs.cons rfl (IRs.cons rfl i2)) (aSt c)
   |inScope c=>simp only [IR]at i1;subst i1;exact iJ r f hm fs h0 i2 (aN9 c)
   | ops all i rest=>
    cases rest with
    | nil=>
     simp only [IR]at i1;obtain⟨rfl,_⟩ :=i1;exact iJ r f hm fs h0 i2 (by simpa using aAj)
    |cons o rest=>exact aSy r hm htd f fs h00
   |inRF l=>cases h0
   |junk=>cases h0
   | endRF l=>
    simp only [IR]at i1;obtain⟨L,hE,rfl⟩ :=i1;simp only at h0;split at h0
    ·cases h0
    · rename_i st pe fn' tm' nt' ps' as' bd' df hno hl;cases h0;obtain⟨w',g1,g2,g3⟩ :=aHd (P:=P) r hE (fun e=>hno e) hl;refine Goes.one (cs':=ccs) (aVa g1) ⟨f.fn,f.tm,?_,f.defers,by simp only [hm];exact rfl,f.kind,f.round⟩ fs g2 g3;cases pe with
      |none=>simpa using i2
      |some c=>simpa using IRs.cons (E:=E) (a:=.code c) (i:=.code c) rfl i2
    ·cases h0
   | beginRound=>
    simp only [IR]at i1;subst i1;simp only at h0;split at h0
    ·cases h0
    · rename_i l hro;have fr0:=f.round;rw [hro]at fr0;obtain⟨L,hE,rfl⟩ :=uC fr0;split at h0
      · rename_i pe fn' tm' nt' ps' as' bd' df hl;cases h0;obtain⟨w',g1,g2,g3⟩ :=aCF (P:=P) r hE hl;exact Goes.one (cs':=ccs) (aHc g1) ⟨f.fn,f.tm,i2,f.defers,by simp only [hm];exact rfl,f.kind,by simp only [hro];exact⟨L,hE,rfl⟩⟩ fs g2 g3
      ·cases h0
 | ret =>
  have fm:=f.mode;rw [hm]at fm;simp only [MR]at fm;have hnr:fr.mode≠ .run:=by rw [fm];intro e;cases e
  have fd:=f.defers;unfold lY at h0;simp only [hm]at h0;split at h0
  · rename_i b dl hdl;rw [hdl]at fd;obtain⟨d,ds',e,d1,d2⟩ :=fd.cons_inv;obtain⟨L,hE,rfl⟩ :=d1;split at h0
    · rename_i hb;cases h0;obtain⟨w',g1,g2,g3⟩ :=pV (P:=P) r hE hb;exact Goes.one (cs':=ccs) (aBt hnr e g1) ⟨f.fn,f.tm,f.todo,d2,by simp only [hm];exact fm,f.kind,f.round⟩ fs g2 g3
    ·cases h0
  · rename_i g args dl hdl;rw [hdl]at fd;obtain⟨d,ds',e,d1,d2⟩ :=fd.cons_inv;obtain⟨cap,a,rfl,ha⟩ :=d1;cases hcl:fC P g with
    |false=>rw [hcl]at h0;cases h0
    | true=>
     rw [hcl]at h0;simp only [cond]at h0;split at h0
     · rename_i G hG;cases h0;have:=hU hG ha;refine Goes.one (cs':={fr with defers:=ds'}::ccs) (aDm hnr e hcl) ?_ (FRs.cons ⟨f.fn,f.tm,f.todo,d2,by simp only [hm];exact fm,f.kind,f.round⟩ fs) r (Ext.refl _ _ _);rw [show(⟨a⟩ :Array Value) ++ ⟨cap⟩ = ⟨a++cap⟩by apply Array.ext';simp];exact this
     ·cases h0
  · rename_i hdl;rw [hdl]at fd;have e:=fd.nil_inv;split at h0
    ·cases h0
    · rename_i fdd hfd;split at h0
      · rename_i vs hvs;obtain⟨cv,g1,g2⟩ :=qV r f.tm hvs;obtain⟨c,cs1,rfl,k1,k2,k3,k4⟩ :=aAp f.kind fs h0 g2;refine Goes.one (cs':=cs1) (aLn fm e (by rw [f.fn];exact hfd) g1 k4) k1 k2 (by rw [k3];exact r) (by rw [k3];exact Ext.refl _ _ _)
      ·cases h0
 | pan chain=>
  have fm:=f.mode;rw [hm]at fm;simp only [MR]at fm;obtain⟨ps,fm,hcr⟩ :=fm;have hnr:fr.mode≠ .run:=by rw [fm];intro e;cases e
  have fd:=f.defers;unfold lY at h0;simp only [hm]at h0;split at h0
  · rename_i b dl hdl;rw [hdl]at fd;obtain⟨d,ds',e,d1,d2⟩ :=fd.cons_inv;obtain⟨L,hE,rfl⟩ :=d1;split at h0
    · rename_i hb;cases h0;obtain⟨w',g1,g2,g3⟩ :=pV (P:=P) r hE hb;exact Goes.one (cs':=ccs) (aBt hnr e g1) ⟨f.fn,f.tm,f.todo,d2,by simp only [hm];exact⟨ps,fm,hcr⟩,f.kind,f.round⟩ fs g2 g3
    ·cases h0
  · rename_i g args dl hdl;rw [hdl]at fd;obtain⟨d,ds',e,d1,d2⟩ :=fd.cons_inv;obtain⟨cap,a,rfl,ha⟩ :=d1;cases hcl:fC P g with
    |false=>rw [hcl]at h0;cases h0
    | true=>
     rw [hcl]at h0;simp only [cond]at h0;split at h0
     · rename_i G hG;cases h0;have:=hU hG ha;refine Goes.one (cs':={fr with defers:=ds'}::ccs) (aDm hnr e hcl) ?_ (FRs.cons ⟨f.fn,f.tm,f.todo,d2,by simp only [hm];exact⟨ps,fm,hcr⟩,f.kind,f.round⟩ fs) r (Ext.refl _ _ _);rw [show(⟨a⟩ :Array Value) ++ ⟨cap⟩ = ⟨a++cap⟩by apply Array.ext';simp];exact this
     ·cases h0
  · rename_i hdl;rw [hdl]at fd;have e:=fd.nil_inv;split at h0
    · rename_i fdd c cs' hfd;cases h0;obtain⟨cc,ccs',rfl,f1,f2⟩ :=fs.cons_inv;exact Goes.one (cs':=ccs') (wT fm e (by rw [f.fn];exact hfd)) (xF f1 hcr) f2 r (Ext.refl _ _ _)
    ·cases h0
end
def GrownO (W W':World) :Prop:=W.keptBut W' (fun _=>False) ∧ (∀a:Addr,a.block<W.heap.size→W'.frozen? a=W.frozen? a) ∧W.heap.size≤W'.heap.size
theorem aDq {s:AS}{v:AV}{h':Hp}(a:wE P s=some (v,h')){fr:Frame}(f:FR E s.fr fr)(r:Rel E s.h w.heap)(x:Frame)(base:List Frame) :
  s.cs= [] ∧∃o w',step P (lone fr (x::base) w) = .next (lone (x.finish o) base w') ∧VR E v o∧Rel E h' w'.heap∧Ext E s.h w E h' w':=by
 obtain⟨u,S,h⟩ :=s;unfold wE at a;simp only at a f r ⊢;split at a
 · rename_i hk;refine⟨rfl,?_⟩;have y:=f.kind;rw [hk]at y;have B:=f.mode;have J:=f.defers;have q:=f.round;have j:=f.todo
   have i:∀ {l:Nat} {c:Option Code} {n:Hp} {b:Bool},u.mode= .run→u.roundOf=some l→lI h l c=some n→b=c.isNone →
     ((fr.todo= [] ∧c=none) ∨ (∃k,fr.todo= .code .ret::k∧c=some .ret) ∨ (∃id k,fr.todo= .code (.exit id) ::k∧c=some (.exit id) ∧exitTo id k=none) ∨ (∃t k,fr.todo= .code (.goto t) ::k∧c=some (.goto t) ∧gotoIn t k=none)) →
     some (AV.bool b,n) =some (v,h') →∃o w',step P (lone fr (x::base) w) = .next (lone (x.finish o) base w') ∧VR E v o∧Rel E h' w'.heap∧Ext E h w E h' w':=by
    intro l c n b hm hl he hb N a;cases a;rw [hl]at q;obtain⟨L,hE,K⟩ :=uC q;have e:=f.run hm;rw [K,y]at e;obtain⟨O,A,H,M⟩ :=xE (P:=P) r hE he;rw [e];refine⟨.bool c.isNone,O,?_,by rw [hb];simp only [VR],H,M⟩;exact wS (.inl rfl) N A
   split at a
   · rename_i hm d;split at a
     · rename_i Q G F;rw [hm]at B;simp only [MR]at B;rw [G]at J;split at a
       · rename_i R D;cases a;obtain⟨o,A,H⟩ :=qV r f.tm D;refine⟨o,w,?_,H,r,Ext.refl _ _ _⟩;rw [aLn B J.nil_inv (by rw [f.fn];exact F) A (.inl y)];simp only [handed,y]
       ·cases a
     ·cases a
   · rename_i l hm d g;rw [g]at j;split at a
     · rename_i n he;exact i hm d he rfl (.inl ⟨j.nil_inv,rfl⟩) a
     ·cases a
   · rename_i l k hm d g;rw [g]at j;obtain⟨I,p,e,m,z⟩ :=j.cons_inv;simp only [IR]at m;subst m;split at a
     · rename_i n he;exact i hm d he rfl (.inr (.inl ⟨p,e,rfl⟩)) a
     ·cases a
   · rename_i l id k hm d g;rw [g]at j;obtain⟨I,p,e,m,z⟩ :=j.cons_inv;simp only [IR]at m;subst m;split at a
     ·cases a
     · rename_i C;split at a
       · rename_i n he;exact i hm d he rfl (.inr (.inr (.inl ⟨id,p,e,rfl,qW id C z⟩))) a
       ·cases a
   · rename_i l t k hm d g;rw [g]at j;obtain⟨I,p,e,m,z⟩ :=j.cons_inv;simp only [IR]at m;subst m;split at a
     ·cases a
     · rename_i C;split at a
       · rename_i n he;exact i hm d he rfl (.inr (.inr (.inr ⟨t,p,e,rfl,qX t C z⟩))) a
       ·cases a
   ·cases a
 ·cases a
theorem aFg {call:bP}(hc:eP P call) :∀ {n:Nat} {s:AS} {v:AV} {i:Hp},aIE P call n s=some (v,i) →∀ (E:Emb) (w:World) (fr:Frame) (d:List Frame),FR E s.fr fr→FRs E s.cs d→Rel E s.h w.heap→∀e a,
  ∃g c h,Steps P (lone fr (d++e::a) w) (lone (e.finish g) a c) ∧VR h v g∧Rel h i c.heap∧Ext E s.h w h i c
 |0,s,v,i,b=>by simp [aIE]at b
 | n + 1,s,v,i,b=>by
  intro E w fr d f fs r e a;simp only [aIE]at b;split at b
  · rename_i x u;cases b;obtain⟨F,g,c,t,p,o,m⟩ :=aDq u f r e a;rw [F]at fs;rw [fs.nil_inv];exact⟨g,c,E,.one t,p,o,m⟩
  · split at b
    · rename_i H j;obtain⟨D,q,l,z,B,C,k,G,y⟩ :=xG hc j f fs r (e::a);obtain⟨g,c,h,A,p,o,m⟩ :=aFg hc b D z q l C k G e a;exact⟨g,c,h,B.trans A,p,o,y.trans m⟩
    ·cases b
theorem uD (n:Nat) :∀d,eP P (wF P n d)
 |0=>fun _ c h v q a=>by simp [wF]at a
 | d +1=>fun _ c h v q a=>by
  simp only [wF]at a;split at a
  · rename_i g l;refine⟨g,l,fun E w G r f hk i b=>?_⟩;obtain⟨p,j,k,e,o,s,m⟩ :=aFg (uD n d) a E w G [] f rfl r i b;exact⟨p,j,k,e,o,s,m⟩
  ·cases a
noncomputable def aCG (P:Program)(call:bP) :Nat→AS→Option AS
 |0,s=>some s
 | n+1,s=>match lY P call s with
  |some s'=>aCG P call n s'
  |none=>none
def Leads (P:Program)(s s':AS) :Prop:=∀ (E:Emb) (fr:Frame) (ccs:List Frame) (w:World) (base:List Frame),FR E s.fr fr→FRs E s.cs ccs→Rel E s.h w.heap→Goes P E s.h fr ccs w base s'
theorem Leads.trans {a b c:AS}(h1:Leads P a b)(h2:Leads P b c) :Leads P a c:=fun E fr h w d f fs r=>by
 obtain⟨v,l,g,y,m,q,e,z,x⟩ :=h1 E fr h w d f fs r;obtain⟨t,i,k,s,p,o,j,u,n⟩ :=h2 v l g y d q e z;exact⟨t,i,k,s,m.trans p,o,j,u,x.trans n⟩
theorem Leads.refl (a:AS) :Leads P a a:=fun E fr b w c f fs r=> ⟨E,fr,b,w,Steps.refl _ _,f,fs,r,Ext.refl _ _ _⟩
theorem qY {call:bP}(hc:eP P call) :∀ {n:Nat} {s c:AS},aCG P call n s=some c→Leads P s c
 |0,s,c,a=>by simp [aCG]at a;subst a;exact Leads.refl s
 | n +1,s,c,a=>by
  simp only [aCG]at a;split at a
  · rename_i g d;exact Leads.trans (fun E fr e w b f fs r=>xG hc d f fs r b) (qY hc a)
  ·cases a
theorem uE (call:bP) :∀ (n:Nat) (s:AS),nO P call n s=aCG P call n s
 |0,_=>rfl
 | n+1,s=>by
  show(match aU1 P call s with|some a=>nO P call n a|none=>none) = (match lY P call s with|some a=>aCG P call n a|none=>none);rw [aU2 P call s];cases lY P call s with
  |none=>rfl
  |some a=>exact uE call n a
end
section
variable {P :Program}
structure ExtM (m:Nat) (E:Emb) (h:Hp) (w:World) (E':Emb) (h':Hp) (w':World) :Prop where
 low:∀b,b<m→E' b=E b
 imm:∀k C,E.imm k=some C→E'.imm k=some C
 size:w.heap.size≤w'.heap.size
 keep:∀i,i<w.heap.size→ (∀b o L,h.look b=some o→E b=some L→¬Own o L i) →w'.heap[i]?=w.heap[i]?
 own:∀b' o' L',h'.look b'=some o'→E' b'=some L'→∀i,Own o' L' i→i<w.heap.size→∃b o L,h.look b=some o∧E b=some L∧Own o L i
 nb:m≤h'.nb
 os:w'.os=w.os
 tape:w'.tape=w.tape
 output:w'.output=w.output
 froz:∀a,a.block<w.heap.size→w'.frozen? a=w.frozen? a
 immo:∀k C,E'.imm k=some C→k<w.heap.size→E.imm k=some C∨∃b o L,h.look b=some o∧E b=some L∧Own o L k
 keys:∀b o,h'.look b=some o→b<m→∃o0,h.look b=some o0
theorem Ext.toM {E E':Emb}{h h':Hp}{w w':World}(x:Ext E h w E' h' w'){m:Nat}(hm:m≤h.nb) :ExtM m E h w E' h' w':=
 ⟨fun b hb=>x.low b (lt_of_lt_of_le hb hm),x.le.2,x.size,x.keep,x.own,le_trans hm x.nb,x.os,x.tape,x.output,x.froz,x.immo,fun b o e hb=>x.keys b o e (lt_of_lt_of_le hb hm)⟩
theorem ExtM.le {E E':Emb}{h h':Hp}{w w':World}(x:ExtM h.nb E h w E' h' w')(r:Rel E h w.heap) :E.le E':=
 ⟨fun b L e=>by rw [x.low b (r.nb_gt e)];exact e,x.imm⟩
theorem ExtM.toExt {E E':Emb}{h h':Hp}{w w':World}(x:ExtM h.nb E h w E' h' w')(r:Rel E h w.heap) :Ext E h w E' h' w':=
 ⟨x.le r,x.size,x.keep,x.own,x.nb,x.os,x.tape,x.output,x.low,x.froz,x.immo,x.keys⟩
theorem ExtM.trans {m:Nat}{u q r:Emb}{h1 h2 t:Hp}{s w2 n:World}(a:ExtM m u h1 s q h2 w2)(b:ExtM m q h2 w2 r t n) :ExtM m u h1 s r t n where
 low:=fun x c=> (b.low x c).trans (a.low x c)
 imm:=fun k C e=>b.imm k C (a.imm k C e)
 size:=le_trans a.size b.size
 keep:=fun i j p=>by
  rw [b.keep i (lt_of_lt_of_le j a.size) fun x o L c hE hb=>by
   obtain⟨B,D,v,d,l,h⟩ :=a.own x o L c hE i hb j;exact p B D v d l h]
  exact a.keep i j p
 own:=fun x o L c hE i j f=>by
  obtain⟨y,A,w,d,l,h⟩ :=b.own x o L c hE i j (lt_of_lt_of_le f a.size);exact a.own y A w d l i h f
 nb:=b.nb
 os:=b.os.trans a.os
 tape:=b.tape.trans a.tape
 output:=b.output.trans a.output
 froz:=fun x c=> (b.froz x (lt_of_lt_of_le c a.size)).trans (a.froz x c)
 immo:=fun k C e hk=>by
  rcases b.immo k C e (lt_of_lt_of_le hk a.size)with g| ⟨x,o,L,d,l,h⟩
  ·exact a.immo k C g hk
  ·exact .inr (a.own x o L d l k h hk)
 keys:=fun x o e c=>by
  obtain⟨z,F⟩ :=b.keys x o e c;exact a.keys x z F c
theorem ExtM.refl {m:Nat}{E:Emb}{h:Hp}{w:World}(hm:m≤h.nb) :ExtM m E h w E h w:= (Ext.refl E h w).toM hm
def LeadsM (P:Program)(m:Nat)(s s':AS) :Prop:=m≤s.h.nb→∀ (E:Emb) (fr:Frame) (ccs:List Frame) (w:World) (base:List Frame),FR E s.fr fr→FRs E s.cs ccs→Rel E s.h w.heap →
 ∃E' fr' cs' w',Steps P (lone fr (ccs++base) w) (lone fr' (cs'++base) w') ∧FR E' s'.fr fr'∧FRs E' s'.cs cs'∧Rel E' s'.h w'.heap∧ExtM m E s.h w E' s'.h w'
theorem LeadsM.trans {m:Nat}{a b c:AS}(h1:LeadsM P m a b)(h2:LeadsM P m b c) :LeadsM P m a c:=fun hm E fr h w d f fs r=>by
 obtain⟨y,l,g,z,o,t,e,A,n⟩ :=h1 hm E fr h w d f fs r;obtain⟨v,i,k,u,s,q,j,x,p⟩ :=h2 n.nb y l g z d t e A;exact⟨v,i,k,u,o.trans s,q,j,x,n.trans p⟩
theorem LeadsM.refl {m:Nat}(a:AS) :LeadsM P m a a:=fun hm E fr b w _ f fs r=> ⟨E,fr,b,w,Steps.refl _ _,f,fs,r,ExtM.refl hm⟩
theorem Leads.toM {m:Nat}{a b:AS}(h:Leads P a b) :LeadsM P m a b:=fun hm E fr g w c f fs r=>by
 obtain⟨l,i,e,o,j,k,d,p,n⟩ :=h E fr g w c f fs r;exact⟨l,i,e,o,j,k,d,p,n.toM hm⟩
def pW :bP:=fun _ _ _=>none
theorem bW :eP P pW:=fun _ _ _ _ _ e=>by cases e
theorem dM {call:bP}(hc:eP P call){m:Nat}{s s':AS}(b:lY P call s=some s') :LeadsM P m s s':=
 Leads.toM fun _ _ _ _ a f fs r=>xG hc b f fs r a
inductive Res where
 |ret (v:AV)
 |pan (chain:List (AV×Bool))
def Got (E:Emb)(cl:Frame) :Res→Frame→Prop
 | .ret v,cl'=>∃cv,cl'=cl.finish cv∧VR E v cv
 | .pan ch,cl'=>∃ps,cl'=cl.raise ps∧CR E ch ps
def Ends (P:Program)(m:Nat)(s:AS)(res:Res)(h':Hp) :Prop:=m≤s.h.nb→∀ (E:Emb) (fr:Frame) (ccs:List Frame) (w:World),FR E s.fr fr→FRs E s.cs ccs→Rel E s.h w.heap→∀ (cl:Frame) (base:List Frame),
 ∃cl' w' E',Steps P (lone fr (ccs++cl::base) w) (lone cl' base w') ∧Got E' cl res cl'∧Rel E' h' w'.heap∧ExtM m E s.h w E' h' w'
theorem LeadsM.ends {m:Nat}{a b:AS}{d:Res}{h':Hp}(h1:LeadsM P m a b)(h2:Ends P m b d h') :Ends P m a d h':=fun hm E fr i w f fs r k c=>by
 obtain⟨x,j,h,y,n,q,g,z,l⟩ :=h1 hm E fr i w (k::c) f fs r;obtain⟨e,s,t,p,u,v,o⟩ :=h2 l.nb x j h y q g z k c;exact⟨e,s,t,n.trans p,u,v,l.trans o⟩
theorem mY {m:Nat}{s:AS}{v:AV}{h':Hp}(e:wE P s=some (v,h')) :Ends P m s (.ret v) h':=fun hm E fr h w f fs r c a=>by
 obtain⟨b,k,g,d,j,l,i⟩ :=aDq e f r c a;rw [b]at fs;rw [fs.nil_inv];exact⟨_,g,E,.one d,⟨k,rfl,j⟩,l,i.toM hm⟩
def Spec (P:Program)(c:AIn)(h:Hp)(res:Res)(h':Hp) :Prop:=∃g,dW P h c=some g∧Ends P h.nb ⟨g,[],h⟩ res h'
def aM (P:Program)(f:Nat)(args:List AV)(v:AV) :Prop:=∀h,Spec P (.enter f args) h (.ret v) h
def bEw (P:Program)(f:Nat)(args:List AV)(ch:List (AV×Bool)) :Prop:=∀h,Spec P (.enter f args) h (.pan ch) h
theorem Spec.sound {c:AIn}{h h':Hp}{v:AV}(s:Spec P c h (.ret v) h') :∃g,dW P h c=some g ∧
  ∀ (E:Emb) (w:World) (G:Frame),Rel E h w.heap→FR E g G→G.kind= .normal→∀d a,∃e w' b,Steps P (lone G (d::a) w) (lone (d.finish e) a w') ∧VR b v e∧Rel b h' w'.heap∧Ext E h w b h' w':=by
 obtain⟨g,l,he⟩ :=s;refine⟨g,l,fun E w G r f _ d a=>?_⟩;obtain⟨j,w',b,i,⟨e,rfl,m⟩,n,k⟩ :=he (le_refl _) E G [] w f rfl r d a;exact⟨e,w',b,i,m,n,k.toExt r⟩
theorem aAq {m:Nat}{s:AS}{g e c:AFrame}{cs:List AFrame}{h2 o:Hp}{v:AV}(q:LeadsM P m s ⟨g,e::cs,h2⟩)(h1:Ends P h2.nb ⟨g,[],h2⟩ (.ret v) o)(I:e.finish v=some c) :LeadsM P m s ⟨c,cs,o⟩ :=fun hm E fr i w a f fs r=>by
 obtain⟨G,j,t,y,A,C,h,k,l⟩ :=q hm E fr i w a f fs r;obtain⟨J,b,rfl,H,B⟩ :=h.cons_inv;obtain⟨p,D,u,z,⟨K,rfl,F⟩,x,n⟩ :=h1 (le_refl _) G j [] y C rfl k J (b++a);have d:=n.le k;exact⟨u,_,b,D,A.trans z,aBz I (H.mono d) F,B.mono d,x,l.trans ((n.toExt k).toM l.nb)⟩
theorem xH {m:Nat}{s:AS}{g d:AFrame}{cs:List AFrame}{h2 o:Hp}{k:List (AV×Bool)}(q:LeadsM P m s ⟨g,d::cs,h2⟩)(h1:Ends P h2.nb ⟨g,[],h2⟩ (.pan k) o) :LeadsM P m s ⟨d.raise k,cs,o⟩ :=fun hm E fr h w a f fs r=>by
 obtain⟨F,i,t,x,z,B,e,j,l⟩ :=q hm E fr h w a f fs r;obtain⟨H,b,rfl,G,A⟩ :=e.cons_inv;obtain⟨p,C,u,y,⟨I,rfl,D⟩,v,n⟩ :=h1 (le_refl _) F i [] x B rfl j H (b++a);have c:=n.le j;exact⟨u,_,b,C,z.trans y,xF (G.mono c) D,A.mono c,v,l.trans ((n.toExt j).toM l.nb)⟩
def oS (m:Nat)(h h':Hp)(v v':AV) :Prop:=∀ (E:Emb) (w:World),Rel E h w.heap→∃E',E.le E'∧Rel E' h' w.heap∧ExtM m E h w E' h' w∧∀cv,VR E v cv→VR E' v' cv
theorem jP {m:Nat}{fr:AFrame}{cs:List AFrame}{h h':Hp}{j:Nat}{v v':AV}(p:fr.tm.at j=some v)(k:m≤h.nb→oS m h h' v v') :LeadsM P m ⟨fr,cs,h⟩ ⟨{fr with tm:=fr.tm.put j v'},cs,h'⟩ :=fun hm E n g w l f fs r=>by
 obtain⟨o,b,q,u,s⟩ :=k hm E w r;refine⟨o,n,g,w,Steps.refl _ _,⟨f.fn,⟨f.tm.1,fun t a e=>?_⟩,f.todo.mono b,f.defers.mono b,f.mode.mono b,f.kind,f.round.mono b⟩,fs.mono b,q,u⟩;rw [T.at_put]at e;split at e
 · rename_i k;cases e;subst k;obtain⟨c,d,i⟩ :=f.tm.2 _ _ p;exact⟨c,d,s c i⟩
 · obtain⟨c,d,i⟩ :=f.tm.2 t a e;exact⟨c,d,i.mono b⟩
theorem aHF {m:Nat}{h:Hp}{v v':AV}(b:∀E a,VR E v a→VR E v' a) :m≤h.nb→oS m h h v v':=fun hm E w r=> ⟨E,Emb.le.refl E,r,ExtM.refl hm,b E⟩
theorem aCH {m:Nat}{h:Hp}(e:Nat) :m≤h.nb→oS m h (h.new (.lst e [])) .nils (.gl h.nb e 0 0 false) :=fun hm E w r=>by
 obtain⟨c,b⟩ :=aHB r e;refine⟨E,Emb.le.refl E,c,b.toM hm,fun d a=>?_⟩;simp only [VR]at a ⊢;exact .inl ⟨trivial,none,a⟩
theorem aFh {m:Nat}{h:Hp}(e:Nat) :m≤h.nb→oS m h h .nils (.ilst e [] true) :=aHF fun E c a=>by
 simp only [VR]at a ⊢;exact⟨[],VRs.nil _,fun _ b=>by(cases b),.inl ⟨rfl,none,0,a,fun _=>rfl,fun _=>rfl⟩⟩
mutual
def AV.frz (b:Nat)(ys:List AV) :AV→AV
 | .gl b' e off len ex=>bif beq b' b then .ilst e ys ex else .gl b' e off len ex
 | .func f fs cs=>.func f (AV.frzL b ys fs) (AV.frzL b ys cs)
 | .meth n r=>.meth n (AV.frz b ys r)
 | .via t f p r=>.via t f p (AV.frz b ys r)
 | .iface t v=>.iface t (AV.frz b ys v)
 | .agg vs=>.agg (AV.frzL b ys vs)
 | .tup vs=>.tup (AV.frzL b ys vs)
 |v=>v
def AV.frzL (b:Nat)(ys:List AV) :List AV→List AV
 | [] =>[]
 |a::aS=>AV.frz b ys a::AV.frzL b ys aS
end
mutual
def AV.frzOk (b e:Nat)(xs ys:List AV) :AV→Prop
 | .gl b' e' off len _=>b'=b→e'=e∧off+len≤xs.length∧ (xs.drop off).take len=ys
 | .func _ fs cs=>AV.frzOkL b e xs ys fs∧AV.frzOkL b e xs ys cs
 | .meth _ r=>AV.frzOk b e xs ys r
 | .via _ _ _ r=>AV.frzOk b e xs ys r
 | .iface _ v=>AV.frzOk b e xs ys v
 | .agg vs=>AV.frzOkL b e xs ys vs
 | .tup vs=>AV.frzOkL b e xs ys vs
 |_=>True
def AV.frzOkL (b e:Nat)(xs ys:List AV) :List AV→Prop
 | [] =>True
 |a::aS=>AV.frzOk b e xs ys a∧AV.frzOkL b e xs ys aS
end
mutual
theorem aCI {E E':Emb}(c:E.le E'){b e:Nat}{xs ys:List AV}(i:∀f len j d,f+len≤xs.length→ (xs.drop f).take len=ys→VR E (.gl b e f len j) d→VR E' (.ilst e ys j) d) :
  ∀ (v:AV) (d:Value),AV.frzOk b e xs ys v→VR E v d→VR E' (AV.frz b ys v) d
 | .gl s q f len j,d,k,r=>by
  simp only [AV.frz,bM,cond_eq_ite,decide_eq_true_eq];split
  · rename_i hb;simp only [AV.frzOk]at k;obtain⟨rfl,m,p⟩ :=k hb;subst hb;exact i f len j d m p r
  ·exact r.mono c
 | .func _ fs o,d,k,r=>by
  simp only [AV.frzOk]at k;simp only [AV.frz,VR]at r ⊢;obtain⟨a,b,g,h,n⟩ :=r;exact⟨a,b,g,aBA c i fs a k.1 h,aBA c i o b k.2 n⟩
 | .meth _ a,d,k,r=>by
  simp only [AV.frzOk]at k;simp only [AV.frz,VR]at r ⊢;obtain⟨u,g,h⟩ :=r;exact⟨u,g,aCI c i a u k h⟩
 | .via _ _ _ a,d,k,r=>by
  simp only [AV.frzOk]at k;simp only [AV.frz,VR]at r ⊢;obtain⟨u,g,h⟩ :=r;exact⟨u,g,aCI c i a u k h⟩
 | .iface _ a,d,k,r=>by
  simp only [AV.frzOk]at k;simp only [AV.frz,VR]at r ⊢;obtain⟨u,g,h⟩ :=r;exact⟨u,g,aCI c i a u k h⟩
 | .agg l,d,k,r=>by
  simp only [AV.frzOk]at k;simp only [AV.frz,VR]at r ⊢;obtain⟨u,g,h⟩ :=r;exact⟨u,g,aBA c i l u k h⟩
 | .tup l,d,k,r=>by
  simp only [AV.frzOk]at k;simp only [AV.frz,VR]at r ⊢;obtain⟨u,g,h⟩ :=r;exact⟨u,g,aBA c i l u k h⟩
 | .bool _,_,_,r=>r.mono c
 | .int _ _,_,_,r=>r.mono c
 | .str _ _,_,_,r=>r.mono c
 | .ptr _ _,_,_,r=>r.mono c
 | .nilp,_,_,r=>r.mono c
 | .slice ..,_,_,r=>r.mono c
 | .nils,_,_,r=>r.mono c
 | .map _,_,_,r=>r.mono c
 | .nilm,_,_,r=>r.mono c
 | .yield _,_,_,r=>r.mono c
 | .nilf,_,_,r=>r.mono c
 | .nili,_,_,r=>r.mono c
 | .ilst ..,_,_,r=>r.mono c
 | .iptr _,_,_,r=>r.mono c
 | .ep ..,_,_,r=>r.mono c
 | .val _,_,_,r=>r.mono c
theorem aBA {E E':Emb}(d:E.le E'){b e:Nat}{xs ys:List AV}(i:∀c len h l,c+len≤xs.length→ (xs.drop c).take len=ys→VR E (.gl b e c len h) l→VR E' (.ilst e ys h) l) :
  ∀ (g:List AV) (f:List Value),AV.frzOkL b e xs ys g→VRs E g f→VRs E' (AV.frzL b ys g) f
 | [],_,_,r=>by simpa [AV.frzL,VRs]using r
 | a::p,_,k,r=>by
  simp only [AV.frzOkL]at k;simp only [AV.frzL,VRs]at r ⊢;obtain⟨u,j,n,o,m⟩ :=r;exact⟨u,j,n,aCI d i a u k.1 o,aBA d i p j k.2 m⟩
end
theorem sN {m:Nat}{h:Hp}{b e:Nat}{xs ys:List AV}{v:AV}(hb:h.look b=some (.lst e xs))(hk:AV.keylessL xs=true)(T:AV.frzOk b e xs ys v) :m≤h.nb→oS m h (h.del b) v (AV.frz b ys v) :=fun hm E w r=>by
 obtain⟨rd,O⟩ :=r.drop b;rcases r.obj0 b _ hb with⟨u1,u2⟩ | ⟨L,hE,C,el,t,o1,o2,Q,V,Y⟩
 · cases xs
   case cons x xs=>cases u1
   refine⟨E,Emb.le.refl E,rd,O.toM hm,fun B M=>aCI (Emb.le.refl E) (fun c len W B k2 I s=>?_) v B T M⟩;have:ys= [] :=by rw [←I];simp
   subst this;simp only [VR]at s ⊢;rcases s with⟨_,a,rfl⟩ | ⟨L,a,l,hE,_⟩
   ·exact⟨[],VRs.nil _,fun _ y=>by(cases y),.inl ⟨rfl,a,0,rfl,fun _=>rfl,fun _=>rfl⟩⟩
   ·rw [u2]at hE;cases hE
 · have K :=r.apart b _ L hb hE L.blk rfl
   let E':Emb:= ⟨E.loc,fun k=>if k=L.blk then some C else E.imm k⟩
   have f:E.le E':= ⟨fun _ _ e=>e,fun k D e=>by
    show(if k=L.blk then some C else E.imm k) =some D;rw [if_neg (fun H=>by rw [H,K]at e;cases e)];exact e⟩
   have g:∀ {x o},(h.del b).look x=some o→x≠b∧h.look x=some o:=fun {x o} e=>by
    rw [lZ]at e;split at e
    ·cases e
    ·rename_i z;exact⟨z,e⟩
   have hvl:=Q.length;have F:=gC hk Q;refine⟨E',f,⟨fun x o z=>?_,rd.kin,rd.fresh,fun k D e=>?_,fun x o G z A i S=>?_,rd.keys⟩,⟨fun _ _=>rfl,f.2,le_refl _,fun _ _ _=>rfl,O.own,le_trans hm (le_refl _),rfl,rfl,rfl,fun _ _=>rfl,fun k D e hlt=>?_,fun x o e _=> ⟨o,(g e).2⟩⟩,fun B M=>aCI f (fun c len W B k2 I s=>?_) v B T M⟩
   · rcases rd.obj0 x o z with u| ⟨G,X,J⟩
     ·exact .inl u
     ·exact .inr ⟨G,X,J.mono f⟩
   · simp only [E']at e;split at e
     ·rename_i n;cases e;subst n;exact⟨el,(0,0),o1⟩
     ·exact r.imm k D e
   · obtain⟨Z,U⟩ :=g z;show(if i=L.blk then some C else E.imm i) =none;rw [if_neg (fun H=>yR r hb hE U A Z (by rw [←H];exact S))];exact r.apart x o G U A i S
   · simp only [E']at e;split at e
     ·rename_i n;subst n;exact .inr ⟨b,_,L,hb,hE,rfl⟩
     ·exact .inl e
   · simp only [VR]at s ⊢;have p:∀u∈t.drop c,okE e u:=fun u y=>V u (List.mem_of_mem_drop y);have N:∀u∈ (t.drop c).take len,okE e u:=fun u y=>p u (List.mem_of_mem_take y);have d: ((t.drop c).take len).length=len:=by rw [List.length_take,List.length_drop];omega
     refine⟨(t.drop c).take len,?_,N,?_⟩
     ·rw [←I];exact((F.drop c).take len).mono f.pp
     · rcases s with⟨rfl,a,rfl⟩ | ⟨L',a,l,q,rfl,J,g3,g4⟩
       ·exact .inl ⟨by simp,a,0,rfl,fun _=>rfl,fun _=>rfl⟩
       · rw [hE]at q;cases q;by_cases hc:l=0
         · subst hc;have:len=0:=by omega
           subst this;exact .inl ⟨by simp,_,0,rfl,fun _=>rfl,fun _=>rfl⟩
         · obtain⟨rfl,g5⟩ :=g4 hc;refine .inr ⟨L.blk,_,l,C,by rw [d],by simp [E'],by rw [d];exact J,fun he=>by rw [d];exact g3 he,fun j R=>?_⟩;rw [d]at R;have h6:c*e+len*e≤t.length*e:=by rw [←Nat.add_mul];exact Nat.mul_le_mul_right _ (by omega)
           rw [sK _ p,pH _ V,List.getElem?_take_of_lt R,List.getElem?_drop,←Y _ (by omega)];congr 1;omega
theorem Rel.reobj {E:Emb}{h:Hp}{H:Array Obj}(r:Rel E h H){k:Nat}{o o':AObj}(hk:h.look k=some o)(v:kN o=false)(Q:∀L,E k=some L→OR E H L o')
  (h1:bQ o'=bQ o) (h2:jL o'=jL o) (F:nOf o'=nOf o) (s:∀L i,Own o' L i→Own o L i:=by exact fun _ _ h=>h) :Rel E (h.set k o') H:=by
 have g:∀ {x a},(h.set k o').look x=some a→∃f,h.look x=some f∧bQ a=bQ f∧jL a=jL f∧nOf a=nOf f∧∀L i,Own a L i→Own f L i:=fun {x a} e=>by
  rw [aZ]at e;split at e
  ·rename_i b;cases e;subst b;exact⟨o,hk,h1,h2,F,s⟩
  ·exact⟨a,e,rfl,rfl,rfl,fun _ _ h=>h⟩
 refine⟨fun x a e=>?_,fun x y a S u I q R j B l n=>?_,fun x b=>r.fresh x b,r.imm,fun x a L e j i O=>?_,fun x a e=>?_⟩
 · rw [aZ]at e;split at e
   · rename_i b;cases e;subst b;obtain⟨L,p,_⟩ :=r.obj _ _ hk v;exact .inr ⟨L,p,Q L p⟩
   ·exact r.obj0 x a e
 · obtain⟨d,c,K,z,A,m⟩ :=g q;obtain⟨N,t,C,w,G,M⟩ :=g R;obtain⟨i,J,D⟩ :=l;have:=r.kin x y d N u I c t j B ⟨i,m _ _ J,M _ _ D⟩ n;unfold Kin at this ⊢;rw [K,z,A,C,w,G];exact this
 ·obtain⟨d,c,_,_,_,m⟩ :=g e;exact r.apart x d L c j i (m _ _ O)
 ·obtain⟨d,c,_⟩ :=g e;exact r.keys x d c
theorem jZ {m:Nat}{E E':Emb}{h h1:Hp}{w w':World}(x:ExtM m E h w E' h1 w'){k:Nat}{o o':AObj}(hk:h1.look k=some o)(n:∀L i,Own o' L i→Own o L i:=by exact fun _ _ h=>h) :ExtM m E h w E' (h1.set k o') w':=by
 have j:∀ {x a},(h1.set k o').look x=some a→∃g,h1.look x=some g∧∀L i,Own a L i→Own g L i:=fun {x a} e=>by
  rw [aZ]at e;split at e
  ·rename_i t;cases e;subst t;exact⟨o,hk,n⟩
  ·exact⟨a,e,fun _ _ h=>h⟩
 exact⟨x.low,x.imm,x.size,x.keep,fun s o' l e q i r d=>by obtain⟨c,f,p⟩ :=j e;exact x.own s c l f q i (p _ _ r) d,x.nb,x.os,x.tape,x.output,x.froz,x.immo,fun b o e hb=>by obtain⟨c,f,_⟩ :=j e;exact x.keys b c f hb⟩
theorem jQ {m:Nat}{fr:AFrame}{cs:List AFrame}{h h1:Hp}{k o n:Nat}{t:T AV}{ol:List Nat}{sup:Bool}{v v':AV}(hk:h.look k=some (.cells t n ol sup))(c:h1.look k=some (.cells t n ol sup))(I:t.at o=some v)(A:m≤h.nb→oS m h h1 v v') :
  LeadsM P m ⟨fr,cs,h⟩ ⟨fr,cs,h1.set k (.cells (t.put o v') n ol sup)⟩ :=fun hm E y l w s f fs r=>by
 obtain⟨u,b,D,z,p⟩ :=A hm E w r;have hr:Rel u (h1.set k (.cells (t.put o v') n ol sup)) w.heap:=by
  refine D.reobj c rfl (fun L J=>?_) rfl rfl rfl;obtain⟨K,hE,C,G,B,F,x⟩ :=r.obj _ _ hk;have:=b.1 _ _ hE;rw [J]at this;cases this;refine⟨C,G,B,F,fun i a d=>?_⟩;rw [T.at_put]at d;split at d
  · rename_i H;cases d;subst H;obtain⟨g,e,q,j⟩ :=x _ _ I;exact⟨g,e,q,p e j⟩
  · obtain⟨g,e,q,j⟩ :=x i a d;exact⟨g,e,q,j.mono b⟩
 exact⟨u,y,l,w,Steps.refl _ _,f.mono b,fs.mono b,hr,jZ z c⟩
theorem aCJ {m:Nat}{h:Hp}{b n c e k:Nat}{x g:Bool}{t:T AV}{cs:List AV}(hb:h.look b=some (.cells t k [] false))(hg:getCells t 0 (n*e) =some cs)(h1:dE cs=true)(he:g=false→e=1) :
  m≤h.nb→oS m h (h.set b (.lst e (vR g e n cs))) (.slice b 0 n c e x) (.gl b e 0 n (x&&beq c n)) :=fun hm E w r=>by
 obtain⟨L,hE,C,s,N,U,o3⟩ :=r.obj _ _ hb;obtain⟨hcl,F⟩ :=nP hg
 have hc:∀j,j<n*e→∃v,C[L.sh+j]?=some v∧∀a,cs[j]?=some a→VR E a v:=fun j d=>by
  have X:=F j d;have Y:cs[j]?=some (cs[j]'(by omega)) :=by simp
  rw [Y,eM]at X;obtain⟨_,v,u,D⟩ :=o3 _ _ X;exact⟨v,u,fun a l=>by rw [Y]at l;cases l;exact D⟩
 have H:L.sh+n*e≤C.size∨n*e=0:=by
  by_cases Z:n*e=0
  ·exact .inr Z
  · obtain⟨v,u,_⟩ :=hc (n*e-1) (by omega);have:= (zq44.1 u).1;exact .inl (by omega)
 let p:= (C.extract L.sh (L.sh+n*e)).toList
 have A:p.length=n*e:=by simp [p];omega
 have f:∀j,j<n*e→p[j]?=C[L.sh+j]?:=fun j d=>by
  simp only [p];rw [rO,Array.getElem?_extract,if_pos (by rcases H with h|h<;>omega)]
 have q:VRs E cs p:=VRs.of_get (by omega) fun i a l=>by
  have V:i<n*e:=by have:= (zq0.1 l).1;omega
  obtain⟨v,u,D⟩ :=hc i V;exact⟨v,by rw [f i V];exact u,D a l⟩
 obtain⟨I,S,R,Q,O⟩ :=wQ g he n q A (q.ones h1)
 have hob:OR E w.heap L (.lst e (vR g e n cs)) := ⟨C,s,I,N,U,S,O,fun j d=>by
  rw [Q]at d;rw [R,f j d]⟩
 obtain⟨M,K⟩ :=r.setObj (o':=.lst e (vR g e n cs)) (.cells C s (0,0)) hb hE rfl rfl (fun H' hH=> ⟨C,s,I,hH,U,S,O,fun j d=>by
  rw [Q]at d;rw [R,f j d]⟩)
 have J: ({w with heap:=w.heap.setIfInBounds L.blk (.cells C s (0,0))}:World) =w:=qQ N;have y:w.heap.setIfInBounds L.blk (.cells C s (0,0)) =w.heap:=congrArg World.heap J;rw [y]at M;rw [J]at K;refine⟨E,Emb.le.refl E,M,K.toM hm,fun cv W=>?_⟩;simp only [VR]at W ⊢;obtain⟨L',G,z,o,rfl,g1,g2,g3,g4,g5⟩ :=W;rw [hE]at o;cases o;refine .inr ⟨L,G,z,hE,rfl,by omega,fun he=>?_,fun B=> ⟨by rw [g4 B];omega,g5⟩⟩;simp only [cP]at he;have:=fQ he.2;have:=g3 he.1;omega
mutual
def AV.ren (τ:Nat→Nat) :AV→AV
 | .ptr b o=>.ptr (τ b) o
 | .slice b o l c e x=>.slice (τ b) o l c e x
 | .map r=>.map (τ r)
 | .func f fs cs=>.func f (AV.renL τ fs) (AV.renL τ cs)
 | .yield l=>.yield (τ l)
 | .meth n r=>.meth n (AV.ren τ r)
 | .via t f p r=>.via t f p (AV.ren τ r)
 | .iface t v=>.iface t (AV.ren τ v)
 | .agg vs=>.agg (AV.renL τ vs)
 | .tup vs=>.tup (AV.renL τ vs)
 | .gl b e o l x=>.gl (τ b) e o l x
 | .ep b e i o=>.ep (τ b) e i o
 |v=>v
def AV.renL (τ:Nat→Nat) :List AV→List AV
 | [] =>[]
 |a::aS=>AV.ren τ a::AV.renL τ aS
end
def Emb.ren (τ:Nat→Nat)(E:Emb) :Emb:= ⟨fun b=>E (τ b),E.imm⟩
mutual
theorem eT (a:Nat→Nat)(E:Emb) :∀ (v:AV) (c:Value),VR E (AV.ren a v) c↔VR (E.ren a) v c
 | .bool _,_=>by simp [AV.ren,VR]
 | .int _ _,_=>by simp [AV.ren,VR]
 | .str _ _,_=>by simp [AV.ren,VR]
 | .ptr _ _,_=>by simp [AV.ren,VR,Emb.ren]
 | .nilp,_=>by simp [AV.ren,VR]
 | .slice ..,_=>by simp [AV.ren,VR,Emb.ren]
 | .nils,_=>by simp [AV.ren,VR]
 | .map _,_=>by simp [AV.ren,VR,Emb.ren]
 | .nilm,_=>by simp [AV.ren,VR]
 | .func f fs d,_=>by simp only [AV.ren,VR,nQ a E fs,nQ a E d]
 | .yield _,_=>by simp [AV.ren,VR,Emb.ren]
 | .meth n r,_=>by simp only [AV.ren,VR,eT a E r]
 | .via _ _ _ r,_=>by simp only [AV.ren,VR,eT a E r]
 | .nilf,_=>by simp [AV.ren,VR]
 | .iface _ v,_=>by simp only [AV.ren,VR,eT a E v]
 | .nili,_=>by simp [AV.ren,VR]
 | .agg b,_=>by simp only [AV.ren,VR,nQ a E b]
 | .tup b,_=>by simp only [AV.ren,VR,nQ a E b]
 | .ilst ..,_=>by simp only [AV.ren,VR];exact Iff.rfl
 | .iptr _,_=>by simp only [AV.ren,VR];exact Iff.rfl
 | .gl ..,_=>by simp [AV.ren,VR,Emb.ren]
 | .ep ..,_=>by simp [AV.ren,VR,Emb.ren]
 | .val _,_=>by simp [AV.ren,VR]
theorem nQ (c:Nat→Nat)(E:Emb) :∀ (d:List AV) (b:List Value),VRs E (AV.renL c d) b↔VRs (E.ren c) d b
 | [],_=>by simp [AV.renL,VRs]
 |a::e,_=>by simp only [AV.renL,VRs,eT c E a,nQ c E e]
end
theorem aDr (c:Nat→Nat) :∀ (a b:List AV),AV.renL c (a++b) =AV.renL c a++AV.renL c b
 | [],_=>rfl
 |x::a,b=>by simp [AV.renL,aDr c a b]
theorem aH {b:Type}(f:b→AV)(c:∀a,AV.keyless (f a) =true) :∀ (l:List b),AV.keylessL (l.map f) =true
 | [] =>rfl
 |a::d=>by simp [AV.keylessL,c a,aH f c d]
theorem keylessL_mem :∀ {xs:List AV},AV.keylessL xs=true↔∀x∈xs,AV.keyless x=true
 | [] =>by simp [AV.keylessL]
 |x::xs=>by simp [AV.keylessL,keylessL_mem (xs:=xs)]
end
end
end Go.Hb
