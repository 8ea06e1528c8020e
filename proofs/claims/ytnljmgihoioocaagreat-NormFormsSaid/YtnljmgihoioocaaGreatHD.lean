/- A machine on abstract values, its soundness, ways, plain laws. -/
import Derived.Test.YtnljmgihoioocaaGreatHC
import Derived.RowKit3
set_option linter.defProp false
set_option linter.unusedVariables false
set_option linter.unusedSimpArgs false
set_option linter.unusedSectionVars false
set_option maxRecDepth 100000
namespace Go.Hb
open List (range')
open Nat (beq le_refl le_trans lt_of_lt_of_le lt_or_ge succ zero_le)
noncomputable section
section
variable {P :Program}
section
variable {call :bP} {l:List Oper} {nt:Nat} {R:Nat→RS} {A:Nat→AV}
structure Pd (P:Program) (l:List Oper) (R:Nat→RS) (A:Nat→AV) (D:Nat→Prop) (j f:Nat) (ob:AObj) :Prop where
 done:D f
 op:∃o,l[f]?=some o∧cZ o.op= .fresh∧bX (R f).tm l o=some true∧oJ P (R f).tm (R f).next o=some (A f,ob)
 late:j≤wZ l f
theorem aOB {tm:T AV}{id:Nat}{o:Oper}{a:AV}{ob:AObj}(h:oJ P tm id o=some (a,ob)) :one1 ob=true:=by
 unfold oJ at h
 repeat' split at h
 all_goals first| (cases h;rfl) |cases h
theorem Pd.one {D:Nat→Prop}{j f:Nat}{ob:AObj}(p:Pd P l R A D j f ob) :one1 ob=true:=by
 obtain⟨o,_,_,_,h⟩ :=p.op;exact aOB h
structure Inv (P:Program) (l:List Oper) (nt:Nat) (R:Nat→RS) (A:Nat→AV) (E0:Emb) (h0:Hp) (w0:World) (D:Nat→Prop) [DecidablePred D] (j:Nat) (E:Emb) (w:World) (tmps:Array Value) :Prop where
 closed:Closed l D
 lt:∀i,D i→i<l.length
 eff:∀q e,(fP l 0)[q]?=some e→ (D e↔q<j)
 jle:j≤ (fP l 0).length
 ext:Ext E0 h0 w0 E (bS l R j) w
 nb: (R 0).h.nb≤ (bS l R j).nb
 rel:Rel E (bS l R j) w.heap
 size:tmps.size=nt
 tv:∀t a,eA (R 0).tm (sO l) A D l.length t=some a→∃v,tmps[t]?=some v∧VR E a v
 und:∀f o,¬D f→l[f]?=some o→cZ o.op= .fresh→E (R f).next=none
 pd:∀f ob,Pd P l R A D j f ob→∃L,E (R f).next=some L∧OR E w.heap L ob∧w0.heap.size≤L.blk∧∀b o L',(bS l R j).look b=some o→E b=some L'→¬Own o L' L.blk
 pdi:∀f ob,Pd P l R A D j f ob→∀L,E (R f).next=some L→E.imm L.blk=none
 hn0:h0.nb= (R 0).next
 ul:∀b o,(bS l R j).look b=some o→E b=none→b<h0.nb∨ (R 0).h.nb≤b
 pd2:∀f g ob ob' L L',Pd P l R A D j f ob→Pd P l R A D j g ob'→f≠g→E (R f).next=some L→E (R g).next=some L'→L.blk≠L'.blk
variable {E0 :Emb} {h0:Hp} {w0:World} {D D':Nat→Prop} [DecidablePred D] [DecidablePred D'] {j:Nat} {E:Emb} {w:World} {tmps:Array Value}
theorem Inv.publish (T:Trace P call l nt R A)(I:Inv P l nt R A E0 h0 w0 D j E w tmps){ps:List (Nat×Nat×AObj)}
  (G:∀x ob,(j,x,ob) ∈ps→∃f,Pd P l R A D j f ob∧wZ l f=j∧x= (R f).next) :
  Rel E (aP (bS l R j) j ps) w.heap∧Ext E0 h0 w0 E (aP (bS l R j) j ps) w ∧
   (∀x ob,(aP (bS l R j) j ps).look x=some ob→ (∃f,Pd P l R A D j f ob∧wZ l f=j∧x= (R f).next) ∨ (bS l R j).look x=some ob) :=by
 have hl:∀x ob,(aP (bS l R j) j ps).look x=some ob→ (∃f,Pd P l R A D j f ob∧wZ l f=j∧x= (R f).next) ∨ (bS l R j).look x=some ob:=fun x ob e=>
  (oN e).imp (G x ob) (fun z=>z)
 have n:∀ {f ob},Pd P l R A D j f ob→h0.nb≤ (R f).next∧ (R f).next< (R 0).h.nb:=fun p=>by
  obtain⟨d,O,Q,_⟩ :=p.op;have:=T.id_lt O Q;have:=I.hn0;omega
 refine⟨⟨fun b o e=>?_,fun b s o d L F e N k B m v=>?_,fun b hb=>?_,I.rel.imm,fun b o L e k i t=>?_,fun b o e=>?_⟩,⟨I.ext.le,I.ext.size,I.ext.keep,fun s d F e k i t H=>?_,?_,I.ext.os,I.ext.tape,I.ext.output,I.ext.low,I.ext.froz,I.ext.immo,fun b o e hb=>?_⟩,hl⟩
 · rcases hl b o e with⟨f,a,_,rfl⟩ |e
   ·obtain⟨L,h,y,_⟩ :=I.pd f o a;exact .inr ⟨L,h,y⟩
   ·exact I.rel.obj0 b o e
 · rcases hl b o e with⟨f,a,_,rfl⟩ |c
   · obtain⟨K,h,y,M,C⟩ :=I.pd f o a;rw [k]at h;cases h;rcases hl s d N with⟨g,u,_,rfl⟩ |J
     · obtain⟨i,r,q⟩ :=m;rw [cD a.one]at r;rw [cD u.one]at q;exact absurd (r.trans q.symm) (I.pd2 f g o d L F a u (fun e=>v (by rw [e])) k B)
     · obtain⟨i,r,q⟩ :=m;rw [cD a.one]at r;subst r;exact absurd q (C _ _ _ J B)
   · rcases hl s d N with⟨g,u,_,rfl⟩ |J
     · obtain⟨K,h,y,M,C⟩ :=I.pd g d u;rw [B]at h;cases h;obtain⟨i,r,q⟩ :=m;rw [cD u.one]at q;subst q;exact absurd r (C _ _ _ c k)
     ·exact I.rel.kin b s o d L F c J k B m v
 ·rw [dX]at hb;exact I.rel.fresh b hb
 · rcases hl b o e with⟨f,a,_,rfl⟩ |c
   · rw [cD a.one]at t;subst t;exact I.pdi f o a L k
   ·exact I.rel.apart b o L c k i t
 · rw [dX];rcases hl b o e with⟨f,a,_,rfl⟩ |c
   ·have:=n a;have:=I.nb;omega
   ·exact I.rel.keys b o c
 · rcases hl s d e with⟨f,a,_,rfl⟩ |c
   · obtain⟨K,h,y,M,C⟩ :=I.pd f d a;rw [k]at h;cases h;rw [cD a.one]at t;omega
   ·exact I.ext.own s d F c k i t H
 ·rw [dX];exact I.ext.nb
 · rcases hl b o e with⟨f,a,_,rfl⟩ |c
   ·have:=n a;omega
   ·exact I.ext.keys b o c hb
theorem Inv.lookIn (T:Trace P call l nt R A)(I:Inv P l nt R A E0 h0 w0 D j E w tmps){f:Nat}{ob:AObj}(d:Pd P l R A D j f ob) :
  Rel E ((bS l R j).set (R f).next ob) w.heap:=by
 have hl:∀x o,((bS l R j).set (R f).next ob).look x=some o→ (x= (R f).next∧o=ob) ∨ (bS l R j).look x=some o:=fun x o e=>by
  rw [bA]at e;split at e
  ·rename_i G;cases e;exact .inl ⟨G,rfl⟩
  ·exact .inr e
 have v:h0.nb≤ (R f).next∧ (R f).next< (R 0).h.nb:=by
  obtain⟨p,C,H,_⟩ :=d.op;have:=T.id_lt C H;have:=I.hn0;omega
 obtain⟨L,g,B,J,z⟩ :=I.pd f ob d;refine⟨fun b o e=>?_,fun b r o p q F e y k s a h=>?_,fun b hb=>?_,I.rel.imm,fun b o q e k i u=>?_,fun b o e=>?_⟩
 · rcases hl b o e with⟨rfl,rfl⟩ |e
   ·exact .inr ⟨L,g,B⟩
   ·exact I.rel.obj0 b o e
 · rcases hl b o e with⟨rfl,rfl⟩ |c
   · rw [k]at g;cases g;rcases hl r p y with⟨rfl,rfl⟩ |t
     ·exact absurd rfl h
     · obtain⟨i,m,n⟩ :=a;rw [cD d.one]at m;subst m;exact absurd n (z _ _ _ t s)
   · rcases hl r p y with⟨rfl,rfl⟩ |t
     · rw [s]at g;cases g;obtain⟨i,m,n⟩ :=a;rw [cD d.one]at n;subst n;exact absurd m (z _ _ _ c k)
     ·exact I.rel.kin b r o p q F c t k s a h
 ·exact I.rel.fresh b (by rw [jG]at hb;exact hb)
 · rcases hl b o e with⟨rfl,rfl⟩ |c
   · rw [cD d.one]at u;subst u;exact I.pdi f _ d q k
   ·exact I.rel.apart b o q c k i u
 · rw [jG];rcases hl b o e with⟨rfl,rfl⟩ |c
   ·have:=I.nb;omega
   ·exact I.rel.keys b o c
theorem aCG (d:Option Nat)(v:Value)(a:Array Value) : (aAP d v a).size=a.size:=by cases d<;>simp [aAP]
theorem aIX (T:Trace P call l nt R A)(u:Closed l D)(j:∀i,D i→i<l.length)(f:tmps.size=nt){i:Nat}{o:Oper}(n:l[i]?=some o)(r:¬D i)(hm:Met D o)(g:∀k,D' k↔ (D k∨k=i)){cv:Value}(q:VR E (A i) cv)
  (tv:∀t a,eA (R 0).tm (sO l) A D l.length t=some a→∃v,tmps[t]?=some v∧VR E a v) :
  ∀t a,eA (R 0).tm (sO l) A D' l.length t=some a→∃v,(aAP o.dst cv tmps)[t]?=some v∧VR E a v:=by
 intro t a b;rw [T.view_done u j n r hm t g]at b;have c:= (T.step i o n).1;split at b
 · rename_i h;cases b;refine⟨cv,?_,q⟩;rw [h]at c ⊢;unfold iG at c;simp only at c;cases hb:Nat.blt t nt with
   |false=>rw [hb]at c;cases c
   | true=>
    rw [dD,decide_eq_true_eq]at hb;simp [aAP,f,hb]
 · rename_i h;obtain⟨v,p,s⟩ :=tv t a b;refine⟨v,?_,s⟩;unfold aAP;split
   · rename_i d m;rw [tK (fun e=>h (by rw [m,e]))];exact p
   ·exact p
theorem xB {i:Nat}{o:Oper}(d:Closed l D)(c:l[i]?=some o)(hm:Met D o)(b:∀k,D' k↔ (D k∨k=i)) :Closed l D':=by
 intro k ok a hk e he hb;rw [b];rcases(b k).1 hk with g|g
 ·exact .inl (d k ok a g e he hb)
 ·subst g;rw [c]at a;cases a;exact .inl (hm e he hb)
theorem aIY {i:Nat}{o:Oper}(b:∀i,D i→i<l.length)(c:l[i]?=some o)(a:∀k,D' k↔ (D k∨k=i)) :∀k,D' k→k<l.length:=fun k hk=>by
 rcases(a k).1 hk with g|g
 ·exact b k g
 ·subst g;exact uA c
theorem Inv.quiet (T:Trace P call l nt R A)(I:Inv P l nt R A E0 h0 w0 D j E w tmps){i:Nat}{o:Oper}(d:l[i]?=some o)(u:¬D i)(hm:Met D o)(hk:cZ o.op≠ .eff)(b:∀k,D' k↔ (D k∨k=i))
  (y:cZ o.op= .fresh→bX (R i).tm l o=some false) {cv:Value} (s:VR E (A i) cv) :
  Inv P l nt R A E0 h0 w0 D' j E w (aAP o.dst cv tmps) :=by
 have a:∀f ob,Pd P l R A D' j f ob→Pd P l R A D j f ob:=fun f ob p=>by
  refine⟨?_,p.op,p.late⟩;rcases(b f).1 p.done with g|g
  ·exact g
  · subst g;obtain⟨x,c,m,r,z⟩ :=p.op;rw [d]at c;cases c;rw [y m]at r;cases r
 refine⟨xB I.closed d hm b,aIY I.lt d b,fun q e he=>?_,I.jle,I.ext,I.nb,I.rel,by rw [aCG];exact I.size,
  aIX T I.closed I.lt I.size d u hm b s I.tv,fun f of n c m=>I.und f of (fun g=>n ((b f).2 (.inl g))) c m,fun f ob p=>I.pd f ob (a f ob p),fun f ob p=>I.pdi f ob (a f ob p),I.hn0,I.ul,fun f g ob h L t p v=>I.pd2 f g ob h L t (a f ob p) (a g h v)⟩
 rw [b,←I.eff q e he];constructor
 · rintro(g|g)
   ·exact g
   · subst g;obtain⟨_,_,x,c,m⟩ := (iT l 0).1 q e he;rw [Nat.sub_zero,d]at c;cases c;exact absurd m hk
 ·exact .inl
theorem Inv.turn (T:Trace P call l nt R A)(I:Inv P l nt R A E0 h0 w0 D j E w tmps){i:Nat}{o:Oper}(c:l[i]?=some o)(d:¬D i)(hm:Met D o)(hk:cZ o.op= .eff) : (fP l 0)[j]?=some i:=by
 obtain⟨q,a⟩ := (iT l 0).2.1 i o c hk;rw [fE]at a;have e:¬q<j:=fun g=>d ((I.eff q i a).2 g);rcases lt_or_ge j q with g|g
 · exfalso;obtain⟨b,rfl⟩ :∃b,q=b+1:= ⟨q-1,by omega⟩;have f:= (zq0.1 a).1;have he: (fP l 0)[b]?=some ((fP l 0)[b]) :=kX (by omega);have:=lJ I.closed I.lt (i+1) i (by omega) o c hm _ (T.before he a);have:= (I.eff _ _ he).1 this;omega
 · have:q=j:=by omega
   rw [←this];exact a
theorem Inv.waits (T:Trace P call l nt R A)(I:Inv P l nt R A E0 h0 w0 D j E w tmps){i:Nat}{o:Oper}(a:l[i]?=some o)(e:¬D i)(hm:Met D o)(hk:cZ o.op= .eff) :
  ∀x ob,(j,x,ob) ∈ (R i).pend→∃f,Pd P l R A D j f ob∧wZ l f=j∧x= (R f).next:=by
 intro x ob h;have d:=uA a;obtain⟨f,k,r,m,g,n,q,c,p⟩ :=T.pend_mem i (by omega) j x ob h;have b:=I.turn T a e hm hk;rw [c]at b;exact⟨f,⟨lJ I.closed I.lt (i+1) i (by omega) o a hm f (aOA b),⟨k,m,g,n,q⟩,by omega⟩,c.symm,p⟩
theorem Inv.effect (T:Trace P call l nt R A)(I:Inv P l nt R A E0 h0 w0 D j E w tmps){i:Nat}{o:Oper}(G:l[i]?=some o)(u:¬D i)(hm:Met D o)(hk:cZ o.op= .eff)(r:∀k,D' k↔ (D k∨k=i))
  {E':Emb} {w':World} {cv:Value} (hv:VR E' (A i) cv) (r':Rel E' (bS l R (j+1)) w'.heap) (m:Ext E (aP (bS l R j) j (R i).pend) w E' (bS l R (j+1)) w') :
  Inv P l nt R A E0 h0 w0 D' (j+1) E' w' (aAP o.dst cv tmps) :=by
 obtain⟨p1,p2,p3⟩ :=I.publish T (I.waits T G u hm hk);have S:=I.turn T G u hm hk;have hql:= (zq0.1 S).1
 have c:∀f ob,Pd P l R A D' (j+1) f ob→Pd P l R A D j f ob:=fun f ob p=>by
  refine⟨?_,p.op,by have:=p.late;omega⟩;rcases(r f).1 p.done with g|g
  ·exact g
  · subst g;obtain⟨o',B,F,h3,h4⟩ :=p.op;rw [G]at B;cases B;rw [hk]at F;cases F
 have z:∀f ob L,Pd P l R A D' (j+1) f ob→E (R f).next=some L→∀b o h,(aP (bS l R j) j (R i).pend).look b=some o→E b=some h→¬Own o h L.blk:=fun f ob L p hE b o h hb s d=>by
  have H:=c f ob p;rcases p3 b o hb with⟨g,hg,K,rfl⟩ |O
  · rw [cD hg.one]at d;exact I.pd2 g f o ob h L hg H (fun e=>by subst e;have:=p.late;omega) s hE d
  · obtain⟨V,n,_,_,Q⟩ :=I.pd f ob H;rw [hE]at n;cases n;exact Q b o h O s d
 refine⟨xB I.closed G hm r,aIY I.lt G r,fun q e he=>?_,by omega,p2.trans m,?_,r',by rw [aCG];exact I.size,
  aIX T I.closed I.lt I.size G u hm r hv (fun t a X=>by obtain⟨v,B,F⟩ :=I.tv t a X;exact⟨v,B,F.mono m.le⟩),fun f of Y B F=>?_,fun f ob p=>?_,fun f ob p h U=>?_,I.hn0,fun b o hb hE=>?_,fun f g ob x L h p p' W hE s=>?_⟩
 · rw [r,I.eff q e he];constructor
   · rintro(g|g)
     ·omega
     · subst g;rcases Nat.lt_trichotomy q j with k|k|k
       ·omega
       ·omega
       ·have:= (aBC l S he).1 k;omega
   · intro g;rcases lt_or_ge q j with k|k
     ·exact .inl k
     · have:q=j:=by omega
       subst this;rw [S]at he;cases he;exact .inr rfl
 ·have:=m.nb;rw [dX]at this;have:=I.nb;omega
 · have hid:=T.id_lt B F;rw [m.low _ (by rw [dX];have:=I.nb;omega)];exact I.und f of (fun g=>Y ((r f).2 (.inl g))) B F
 · obtain⟨L,n,y,k3,Q⟩ :=I.pd f ob (c f ob p);have J:=z f ob L p n;refine⟨L,m.le.1 _ _ n,(y.mono m.le).heap fun i u=>m.keep _ (y.lt i u) fun b o h hb hE d=>J b o h hb hE (by rw [cD p.one]at u;rw [u];exact d),k3,fun b o h hb hE d=>?_⟩;obtain⟨b1,o1,V,K,M,Z⟩ :=m.own b o h hb hE _ d (y.lt _ ((cD p.one).2 rfl));exact J b1 o1 V K M Z
 · obtain⟨L,n,y,k3,Q⟩ :=I.pd f ob (c f ob p);have e3:=m.le.1 _ _ n;rw [U]at e3;obtain rfl:h=L:=Option.some.inj e3;cases u:E'.imm h.blk with
   |none=>rfl
   | some C=>
    rcases m.immo _ C u (y.lt _ ((cD p.one).2 rfl))with g| ⟨b,o,L2,K,M,Z⟩
    ·rw [I.pdi f ob (c f ob p) h n]at g;cases g
    ·exact absurd Z (z f ob h p n b o L2 K M)
 · rcases lt_or_ge b (bS l R j).nb with g|g
   · obtain⟨N,e0⟩ :=m.keys b o hb (by rw [dX];exact g);rw [m.low b (by rw [dX];exact g)]at hE;rcases p3 b N e0 with⟨f,hf,_,rfl⟩ |e1
     · obtain⟨L,n,_⟩ :=I.pd f N hf;rw [n]at hE;cases hE
     ·exact I.ul b N e1 hE
   ·have:=I.nb;exact .inr (by omega)
 · obtain⟨V,n,_⟩ :=I.pd f ob (c f ob p);obtain⟨L2,y,_⟩ :=I.pd g x (c g x p');rw [m.le.1 _ _ n]at hE;cases hE;rw [m.le.1 _ _ y]at s;cases s;exact I.pd2 f g ob x _ _ (c f ob p) (c g x p') W n y
theorem Inv.alloc (T:Trace P call l nt R A)(I:Inv P l nt R A E0 h0 w0 D j E w tmps){i:Nat}{o:Oper}(N:l[i]?=some o)(Y:¬D i)(hm:Met D o)(hk:cZ o.op= .fresh)(z:∀k,D' k↔ (D k∨k=i))(hn0:h0.nb= (R 0).next)
  {ob:Obj} (hz:noFrz ob=true) {n:Nat} {cv:Value} (hv:VR (E.put (R i).next ⟨w.heap.size,0,n⟩) (A i) cv) (hob:∀aob,oJ P (R i).tm (R i).next o=some (A i,aob) →OR (E.put (R i).next ⟨w.heap.size,0,n⟩) (w.heap.push ob) ⟨w.heap.size,0,n⟩ aob) :
  Inv P l nt R A E0 h0 w0 D' j (E.put (R i).next ⟨w.heap.size,0,n⟩) {w with heap:=w.heap.push ob} (aAP o.dst cv tmps) :=by
 have hid:=T.id_lt N hk;have hf:E (R i).next=none:=I.und i o Y N hk
 have h:E.le (E.put (R i).next ⟨w.heap.size,0,n⟩) :=Emb.le_put hf;have B:∀ {x},x<w.heap.size→ (w.heap.push ob)[x]?=w.heap[x]?:=fun W=>by rw [Array.getElem?_push,if_neg (by omega)]
 have u:∀b s,(bS l R j).look b=some s→b≠ (R i).next:=fun b s hb e=>by
  cases hE:E b with
  |some L=>rw [e,hf]at hE;cases hE
  | none=>
   have J:=I.ul b s hb hE;have K:=I.hn0;omega
 have c:∀f aob,Pd P l R A D' j f aob→f≠i→Pd P l R A D j f aob:=fun f aob p r=> ⟨((z f).1 p.done).resolve_right r,p.op,p.late⟩
 have idne:∀f aob,Pd P l R A D' j f aob→f≠i→ (R f).next≠ (R i).next:=fun f aob p r=>by
  obtain⟨s,J,K,_⟩ :=p.op;exact T.id_ne J K N hk r
 refine⟨xB I.closed N hm z,aIY I.lt N z,fun q e he=>?_,I.jle,?_,I.nb,?_,by rw [aCG];exact I.size,
  aIX T I.closed I.lt I.size N Y hm z hv (fun t a hta=>by obtain⟨v,J,K⟩ :=I.tv t a hta;exact⟨v,J,K.mono h⟩),fun f of X J K=>?_,fun f aob p=>?_,fun f aob p H O=>?_,I.hn0,fun b s hb hE=>I.ul b s hb (by rw [Emb.put_ne _ _ (u _ _ hb)]at hE;exact hE),fun f g aob m L H p Z r hE G=>?_⟩
 · rw [z,←I.eff q e he];constructor
   · rintro(g|g)
     ·exact g
     · subst g;obtain⟨_,_,s,J,K⟩ := (iT l 0).1 q e he;rw [Nat.sub_zero,N]at J;cases J;rw [hk]at K;cases K
   ·exact .inl
 · refine⟨I.ext.le.trans h,by have:=I.ext.size;simp;omega,fun x W hn=>?_,fun b' s H e k y Q hlt=>?_,I.ext.nb,I.ext.os,I.ext.tape,I.ext.output,fun x W=>?_,fun x W=> (wH w hz x).trans (I.ext.froz x W),I.ext.immo,I.ext.keys⟩
   · have:=I.ext.size;show(w.heap.push ob)[x]?=_;rw [B (by omega)];exact I.ext.keep x W hn
   · rw [Emb.put_ne _ _ (u _ _ e)]at k;exact I.ext.own b' s H e k y Q hlt
   ·rw [Emb.put_ne _ _ (by omega)];exact I.ext.low x W
 · refine⟨fun b s e=>?_,fun b b' o1 o2 L H e e' k k'=>?_,fun b hb=>?_,fun k C e=>?_,fun b s L e k y Q=>?_,I.rel.keys⟩
   · rcases I.rel.obj0 b s e with⟨u1,u2⟩ | ⟨L,U,g2⟩
     ·exact .inl ⟨u1,by rw [Emb.put_ne _ _ (u _ _ e)];exact u2⟩
     ·exact .inr ⟨L,h.1 _ _ U,(g2.mono h).heap fun y Q=>B (g2.lt y Q)⟩
   · rw [Emb.put_ne _ _ (u _ _ e)]at k;rw [Emb.put_ne _ _ (u _ _ e')]at k';exact I.rel.kin b b' o1 o2 L H e e' k k'
   · have:=I.nb;rw [Emb.put_ne _ _ (by omega)];exact I.rel.fresh b hb
   · obtain⟨e1,f1,g⟩ :=I.rel.imm k C e;exact⟨e1,f1,by rw [B (zq44.1 g).1];exact g⟩
   · rw [Emb.put_ne _ _ (u _ _ e)]at k;exact I.rel.apart b s L e k y Q
 · have r:f≠i:=fun e=>X ((z f).2 (.inr e));rw [Emb.put_ne _ _ (T.id_ne J K N hk r)];exact I.und f of (fun g=>X ((z f).2 (.inl g))) J K
 · by_cases d:f=i
   · subst d;obtain⟨s,U,g2,g3,g4⟩ :=p.op;rw [N]at U;cases U;refine⟨_,Emb.put_same _ _ _,hob aob g4,I.ext.size,fun b s H hb hE S=>?_⟩;rw [Emb.put_ne _ _ (u _ _ hb)]at hE;have:=I.rel.lt hb hE _ S;simp only at this;omega
   · obtain⟨L,M,V,k3,k4⟩ :=I.pd f aob (c f aob p d);refine⟨L,h.1 _ _ M,(V.mono h).heap (fun y Q=>B (V.lt y Q)),k3,fun b s H hb hE S=>?_⟩;rw [Emb.put_ne _ _ (u _ _ hb)]at hE;exact k4 b s H hb hE S
 · show E.imm H.blk=none;by_cases d:f=i
   · subst d;rw [Emb.put_same]at O;cases O;cases Y:E.imm w.heap.size with
     |none=>rfl
     |some C=>exact absurd (I.rel.immLt Y) (Nat.lt_irrefl _)
   · obtain⟨L,M,V,_⟩ :=I.pd f aob (c f aob p d);have e3:=h.1 _ _ M;rw [O]at e3;obtain rfl:H=L:=Option.some.inj e3;exact I.pdi f aob (c f aob p d) H M
 · by_cases d:f=i
   · by_cases F:g=i
     ·exact absurd (d.trans F.symm) r
     · subst d;rw [Emb.put_same]at hE;cases hE;obtain⟨L2,M,V,_⟩ :=I.pd g m (c g m Z F);rw [h.1 _ _ M]at G;cases G;have:=V.lt _ ((cD Z.one).2 rfl);simp only;omega
   · obtain⟨L1,M,V,_⟩ :=I.pd f aob (c f aob p d);rw [h.1 _ _ M]at hE;cases hE;by_cases F:g=i
     · subst F;rw [Emb.put_same]at G;cases G;have:=V.lt _ ((cD p.one).2 rfl);simp only;omega
     · obtain⟨L2,U,g2,_⟩ :=I.pd g m (c g m Z F);rw [h.1 _ _ U]at G;cases G;exact I.pd2 f g aob m _ _ (c f aob p d) (c g m Z F) r M U
end
def eF (P:Program)(call:bP) :Prop:=∀k c h v h',call k c h=some (v,h') →∃g,dG P h c=some g ∧
 ∀ (E:Emb) (w:World) (G:Frame),Rel E h w.heap→FR E g G→G.kind= .normal→∀cl base,∃cv w' E',Steps P (lone G (cl::base) w) (lone (cl.finish cv) base w') ∧VR E' v cv∧Rel E' h' w'.heap∧Ext E h w E' h' w'
def bBf (P:Program)(call:bP)(k:Nat) :Prop:=∀c h v h',call k c h=some (v,h') →∃g,dG P h c=some g ∧
 ∀ (E:Emb) (w:World) (G:Frame),Rel E h w.heap→FR E g G→G.kind= .normal→∀cl base,∃cv w' E',Steps P (lone G (cl::base) w) (lone (cl.finish cv) base w') ∧VR E' v cv∧Rel E' h' w'.heap∧Ext E h w E' h' w'
theorem aIZ {E:Emb}{h:Hp}{w:World}(r:Rel E h w.heap){tm:T AV}{ρ:Operand→Value}{o:Oper}(hρ:Reads E tm ρ (· ∈o.op.operands)){id:Nat}(hid:E id=none){a:AV}{ob0:AObj}(h0:oJ P tm id o=some (a,ob0)) :
  ∃ob n cv,noFrz ob=true∧ (execOp ρ o).run P w= .ok (.value cv) {w with heap:=w.heap.push ob}∧VR (E.put id ⟨w.heap.size,0,n⟩) a cv∧OR (E.put id ⟨w.heap.size,0,n⟩) (w.heap.push ob) ⟨w.heap.size,0,n⟩ ob0:=by
 have hle:∀n,E.le (E.put id ⟨w.heap.size,0,n⟩) :=fun n=>Emb.le_put hid;have hpush:∀ob,(w.heap.push ob)[w.heap.size]?=some ob:=fun ob=>by simp
 unfold oJ at h0;unfold execOp;split at h0
 · rename_i e hop;rw [hop]at hρ;simp only [hop];split at h0
   · rename_i z hz;cases h0;obtain⟨cz,z1,z2⟩ :=iH hz;have hc:= (z2 E).cells;refine⟨.cells cz.cells e,cz.cells.size,.pointer (some ⟨w.heap.size,0,none⟩),rfl,by simp [Instr.alloc,z1,newVar,newRow],by simp only [VR];exact⟨_,Emb.put_same _ _ _,rfl⟩,?_⟩;exact wK (C:=cz.cells) ⟨[],by simp⟩ (hc.mono (hle _)) (hpush _) _ (bB _) _ (le_refl _) _ _
   ·cases h0
 · rename_i t n ps hop;rw [hop]at hρ;simp only [hop];split at h0
   · rename_i l hl;split at h0
     · rename_i cs s hcs;cases h0;obtain⟨g1,g2⟩ :=hρ.parts (fun p hp=>by simp only [Op.operands,List.mem_toArray,zq24];exact⟨p,hp,rfl⟩) hl;obtain⟨out,e,k1,k2,k3⟩ :=qZ (P:=P) r (qs:=ps.map fun(i,x) => (i,ρ x)) hcs (by rw [g1];simp) (by simpa [Function.comp_def]using g2);refine⟨.cells ⟨out⟩ e,out.length,.slice (some ⟨w.heap.size,0,none⟩) n n,rfl,by simp [k3 w],?_,?_⟩
       ·simp only [VR];exact⟨_,0,n,Emb.put_same _ _ _,rfl,le_refl _,le_refl _,fun _=>rfl,fun _=>rfl,by simpa using k2⟩
       ·exact wK (C:= ⟨out⟩) ⟨[],by simp⟩ (k1.mono (hle _)) (hpush _) _ (bB _) _ (le_refl _) _ _
     ·cases h0
   ·cases h0
 ·cases h0
section
variable {call :bP} {ops:Array Oper} {nt:Nat} {R:Nat→RS} {A:Nat→AV} {E0:Emb} {h0:Hp} {w0:World} {fn:FuncId} {ds:List Deferred} {kd:CallKind} {ro:Option Nat} {k:List Item} {cs:List Frame}
theorem aLy (T:Trace P call ops.toList nt R A){D:Nat→Prop}[DecidablePred D]{j:Nat}{E:Emb}{w:World}{tmps:Array Value}(I:Inv P ops.toList nt R A E0 h0 w0 D j E w tmps){i:Nat}{o:Oper}(ho:ops.toList[i]?=some o)(hi:¬D i)(hm:Met D o)(todo:List Item) :
  Reads E (R i).tm (rf fn tmps todo ds kd ro).eval (· ∈o.op.operands) :=by
 intro x hx a ha;cases x with
 | tmp t=>
  simp only [bN]at ha;have hn:t∈nM ops.toList o:=by
   simp only [nM,zq28,List.mem_filterMap];exact .inr (.inl ⟨.tmp t,by simpa using hx,rfl⟩)
  rw [←T.view_ready I.closed I.lt ho hi hm hn]at ha;obtain⟨v,h1,h2⟩ :=I.tv t a ha;simp only [Frame.eval,aAH,h1];exact h2
 |const v=>exact aEV ha E
 |global g=>cases ha
 |func f=>simp only [bN]at ha;cases ha;simp only [Frame.eval,VR];exact⟨[],[],rfl,VRs.nil E,VRs.nil E⟩
theorem jV (T:Trace P call ops.toList nt R A){D:Nat→Prop}[DecidablePred D]{j:Nat}{E:Emb}{w:World}{tmps:Array Value}(I:Inv P ops.toList nt R A E0 h0 w0 D j E w tmps){i:Nat}{o:Oper}(ho:ops.toList[i]?=some o)(hi:¬D i)(hm:Met D o){b:Bool}
  (hw:bX (R i).tm ops.toList o=some b) :Region.wanted o (yielded ops tmps) =b:=by
 refine wV (E:=E) (tm:= (R i).tm) (fun g want hg o' ho' t ht a ha=>?_) hw;have hn:t∈nM ops.toList o:=by
  simp only [nM,zq28];refine .inr (.inr ?_);rw [hg];simp only [rS,ho',ht];simp
 rw [←T.view_ready I.closed I.lt ho hi hm hn]at ha;exact I.tv t a ha
theorem oG {tmps:Array Value}{i:Nat}{is:List Nat}{o:Oper}(ho:ops[i]?=some o)(v:Value) :
  (rf fn tmps (.inRegion ops (i::is) ::k) ds kd ro).finish v=rf fn (aAP o.dst v tmps) (.inRegion ops is::k) ds kd ro:=by
 rw [aG5,ho];rfl
theorem aFe {b hi a:Nat}{ob:AObj}:∀ {ps:List (Nat×Nat×AObj)},aEU b hi ps=some (a,ob) → (a,b,ob) ∈ps∧hi≤a
 | [],h=>by cases h
 | (a',id,o) ::ps,h=>by
  simp only [aEU]at h;cases hc: (beq id b&&Nat.ble hi a')with
  | true=>
   rw [hc]at h;simp only [cond]at h;cases h;rw [dS]at hc;obtain rfl:=fM hc.1;exact⟨cQ ..,Nat.le_of_ble_eq_true hc.2⟩
  | false=>
   rw [hc]at h;simp only [cond]at h;obtain⟨h1,h2⟩ :=aFe h;exact⟨cL _ h1,h2⟩
theorem aVH {tm:T AV}{pend:List (Nat×Nat×AObj)}{hi:Nat}{o:Oper}{vs:List AV}(h:sG P tm pend hi o=some vs) :
  ∃s d x b off len c ez ex a t n1 n2 n3 el,o.op= .convert s d x∧bN tm x=some (.slice b off len c ez ex) ∧aEU b hi pend=some (a,.cells t n1 n2 n3) ∧P.underlying s=some (.slice el) ∧P.underlying d=some .string∧getCells t off len=some vs∧P.underlying el=some (.int .u8) :=by
 unfold sG at h;split at h
 · rename_i s d x hop;split at h
   · rename_i b off len c ez ex hx;split at h
     · rename_i a t n1 n2 n3 hp;split at h
       · rename_i e vs' h1 h2 h3;split at h
         · rename_i h4;cases h;exact⟨s,d,x,b,off,len,c,ez,ex,a,t,n1,n2,n3,e,hop,hx,hp,h1,h2,h3,h4⟩
         ·cases h
       ·cases h
     ·cases h
   ·cases h
 ·cases h
theorem aOC {j:Nat}{i:Nat}{o:Oper}(hc:cZ o.op= .eff→bBf P call j)(T:Trace P call ops.toList nt R A)(hn0:h0.nb= (R 0).next){D D':Nat→Prop}[DecidablePred D][DecidablePred D']{E:Emb}{w:World}{tmps:Array Value}(I:Inv P ops.toList nt R A E0 h0 w0 D j E w tmps)(ho:ops.toList[i]?=some o)(hi:¬D i)(hm:Met D o)(hD':∀k,D' k↔ (D k∨k=i))(is:List Nat) :
  ∃j' E' w' tmps',Steps P (lone (rf fn tmps (.inRegion ops (i::is) ::k) ds kd ro) cs w) (lone (rf fn tmps' (.inRegion ops is::k) ds kd ro) cs w') ∧Inv P ops.toList nt R A E0 h0 w0 D' j' E' w' tmps':=by
 have hoa:ops[i]?=some o:=by rw [←rS];exact ho
 have hil:=uA ho;have hρ:=aLy (fn:=fn) (ds:=ds) (kd:=kd) (ro:=ro) T I ho hi hm (.inRegion ops (i::is) ::k);obtain⟨_,c⟩ :=T.step i o ho
 have unw:bX (R i).tm ops.toList o=some false→step P (lone (rf fn tmps (.inRegion ops (i::is) ::k) ds kd ro) cs w) = .next (lone (rf fn (aAP o.dst Go.undef tmps) (.inRegion ops is::k) ds kd ro) cs w) :=fun hw=>by
  rw [aAr hoa (jV T I ho hi hm hw),oG hoa]
 have value:∀ {hx:Hp} {h2:Hp} {a:AV} {w':World} {cv:Value},bX (R i).tm ops.toList o=some true→kH P hx (R i).tm o=some (.val a h2) →
   ((execOp (rf fn tmps (.inRegion ops (i::is) ::k) ds kd ro).eval o).run P w= .ok (.value cv) w'∨ ((execOp (rf fn tmps (.inRegion ops (i::is) ::k) ds kd ro).eval o).run P w= .ok .skip w'∧cv=Go.undef)) →
   step P (lone (rf fn tmps (.inRegion ops (i::is) ::k) ds kd ro) cs w) = .next (lone (rf fn (aAP o.dst cv tmps) (.inRegion ops is::k) ds kd ro) cs w') :=fun hw h0 hr=>by
  have hd:=aHy h0;rcases hr with hr| ⟨hr,rfl⟩
  ·rw [tX hoa (jV T I ho hi hm hw) (.inr hd) hr,oG hoa]
  ·rw [aE7 hoa (jV T I ho hi hm hw) (.inr hd) hr,oG hoa]
 have effStage:cZ o.op= .eff→ (R i).h=bS ops.toList R j∧ (R (i+1)).h=bS ops.toList R (j+1) :=fun hk=>by
  have hq:=I.turn T ho hi hm hk;obtain⟨s1,s2⟩ :=T.sEff hq;have e1:=T.stage (i:=i) (by omega);have e2:=T.stage (i:=i+1) (by omega);rw [s1]at e1;rw [s2]at e2;exact⟨e1.symm,e2.symm⟩
 have effS:cZ o.op= .eff→ (R i).s=j:=fun hk=> (T.sEff (I.turn T ho hi hm hk)).1;cases c with
 | unwE hw ha hk e=>
  have hk':cZ o.op= .eff:=hk;obtain⟨e1,e2⟩ :=effStage hk';obtain⟨p1,p2,p3⟩ :=I.publish T (I.waits T ho hi hm hk');have e3:bS ops.toList R (j+1) =aP (bS ops.toList R j) j (R i).pend:=by
   rw [←e2,e,←e1,←effS hk']
  refine⟨j+1,E,w,_,.one (unw hw),I.effect T ho hi hm hk' hD' (by rw [ha];exact sJ E) (by rw [e3];exact p1) ?_⟩;rw [e3];exact Ext.refl _ _ _
 | unwF hw ha hk e=>
  have hk':cZ o.op= .fresh:=hk;exact⟨j,E,w,_,.one (unw hw),I.quiet T ho hi hm (by rw [hk'];decide) hD' (fun _=>hw) (by rw [ha];exact sJ E)⟩
 | unwQ hw ha hk e=>
  have hk':cZ o.op= .pure∨cZ o.op= .read:=hk;exact⟨j,E,w,_,.one (unw hw),I.quiet T ho hi hm (by rcases hk' with hk'|hk'<;>rw [hk'] <;>decide) hD' (fun hf=>by rcases hk' with hk'|hk'<;>rw [hk']at hf<;>cases hf) (by rw [ha];exact sJ E)⟩
 | pure hx hw hk hv e=>
  have hk':cZ o.op= .pure:=hk;have hv':=aVG (o:=o) hk' hv (bS ops.toList R j);obtain⟨_,cv,g1,g2⟩ := (tW I.rel hρ hv').2 (.inl hk');exact⟨j,E,w,_,.one (value hw hv' (.inl g1)),I.quiet T ho hi hm (by rw [hk'];decide) hD' (fun hf=>by rw [hk']at hf;cases hf) g2⟩
 | read hx hw hk hv e=>
  have hk':cZ o.op= .read:=hk;obtain⟨b1,b2⟩ :=T.window I.closed I.lt I.eff I.jle ho hi hm;obtain⟨c1,c2⟩ :=T.cnt i (by omega);obtain⟨a1,a2⟩ :=T.window (D:= (· <i)) (T.nat_closed i) (fun x hx=>by omega) (fun q e he=> (c2 q e he).symm) c1 ho (by omega) (T.idOk i o ho);have hv':∃hx,kH P (bS ops.toList R j) (R i).tm o=some (.val (A i) hx) :=by
   by_cases hlh:bFK ops.toList i=wZ ops.toList i
   · have: (R i).s=j:=by omega
     exact⟨hx,by rw [←this,T.stage (by omega)];exact hv⟩
   · have hmem: (⟨o,(R i).tm,bFK ops.toList i,wZ ops.toList i,A i⟩ :Again) ∈ (R (i+1)).again:=by
      rw [e];simp only;rw [bM];have:decide ((tY ops.toList i o).lo= (tY ops.toList i o).hi) =false:=by
       rw [decide_eq_false_iff_not];exact hlh
      rw [this];exact cQ ..
     have hmem':=T.again_mem (ops.toList.length- (i+1)) (i+1) (by omega) _ hmem;rw [show i+1+ (ops.toList.length- (i+1)) =ops.toList.length by omega]at hmem';have hj:=I.jle;have hse:=T.sEnd;exact T.again _ hmem' ((R ops.toList.length).s-j) _ (T.stage_get (k:=j) (by omega)) (by omega) (by simp only;omega) (by simp only;omega)
  obtain⟨hx',hv'⟩ :=hv';obtain⟨_,cv,g1,g2⟩ := (tW I.rel hρ hv').2 (.inr hk');exact⟨j,E,w,_,.one (value hw hv' (.inl g1)),I.quiet T ho hi hm (by rw [hk'];decide) hD' (fun hf=>by rw [hk']at hf;cases hf) g2⟩
 | own vs hw hk hv h1 e=>
  have hk':cZ o.op= .read:=hk;obtain⟨b1,b2⟩ :=T.window I.closed I.lt I.eff I.jle ho hi hm;have hv0:sG P (R i).tm (R i).pend (wZ ops.toList i) o=some vs:=hv;obtain⟨s,d,x,b,off,len,c,ez,ex,a,t,n1,n2,n3,el,g1,g2,g3,g4,g5,g6,g7⟩ :=aVH hv0;obtain⟨m1,m2⟩ :=aFe g3;obtain⟨f,o',q1,q2,q3,q4,q5,q6,q7⟩ :=T.pend_mem i (by omega) a b _ m1;obtain⟨L,_,_,hE,_⟩ :∃L off' cap,E b=some L∧True:=by
   have:=hρ x (by rw [g1];simp [Op.operands]) _ g2;simp only [VR]at this;obtain⟨L,o1,c1,k1,_⟩ :=this;exact⟨L,o1,c1,k1,trivial⟩
  have hD:D f:=by
   refine Classical.byContradiction fun hn=>?_;have:=I.und f o' hn q2 q3;rw [←q7,hE]at this;cases this
  have hpd:Pd P ops.toList R A D j f (.cells t n1 n2 n3) := ⟨hD,⟨o',q2,q3,q4,q5⟩,by omega⟩;have hr:=I.lookIn T hpd;rw [←q7]at hr;have hv':kH P ((bS ops.toList R j).set b (.cells t n1 n2 n3)) (R i).tm o=some (.val (A i) ((bS ops.toList R j).set b (.cells t n1 n2 n3))) :=by
   unfold kH;simp only [gQ,g1,vT,g2,vZ,g4,g5,g6,Hp.loadN,bA,if_true,g7,h1,val]
  obtain⟨_,cv,y1,y2⟩ := (tW hr hρ hv').2 (.inr hk');exact⟨j,E,w,_,.one (value hw hv' (.inl y1)),I.quiet T ho hi hm (by rw [hk'];decide) hD' (fun hf=>by rw [hk']at hf;cases hf) y2⟩
 | fresh aob hw hk hv e=>
  have hk':cZ o.op= .fresh:=hk;obtain⟨ob,n,cv,hz,g1,g2,g3⟩ :=aIZ I.rel hρ (I.und i o hi ho hk') hv
  refine⟨j,_,_,_,.one ?_,I.alloc T ho hi hm hk' hD' hn0 hz g2 (fun aob' h'=>by
   have hv2:oJ P (R i).tm (R i).next o=some (A i,aob) :=hv
   rw [hv2]at h';cases h';exact g3)⟩
  have hd:∀c,o.op≠ .defer c:=fun c hc'=>by rw [hc']at hk';cases hk'
  rw [tX hoa (jV T I ho hi hm hw) (.inr hd) g1,oG hoa]
 | eff h2 hw hk hv e=>
  have hk':cZ o.op= .eff:=hk;obtain⟨e1,e2⟩ :=effStage hk';obtain⟨p1,p2,p3⟩ :=I.publish T (I.waits T ho hi hm hk');have e3:bS ops.toList R (j+1) =h2:=by rw [←e2,e]
  rw [effS hk',e1]at hv;rcases hv with hv| ⟨c,hv,hcv⟩
  · obtain⟨E',w',cv,g1,g2,g3,g4⟩ :=mY p1 hρ hv;refine⟨j+1,E',w',_,.one (value hw hv g1),I.effect T ho hi hm hk' hD' g2 (by rw [e3];exact g3) ?_⟩;rw [e3];exact g4
  · obtain⟨g,hg,hcall⟩ :=hc hk' c _ _ _ hcv;have hout:=mY p1 hρ hv;obtain⟨nx,G,g1,g2,g3⟩ :=rX p1 hg hout;have hd:=aFc hv;have hkG:G.kind= .normal:=by
     rcases g2 with⟨f,args,_,rfl⟩ | ⟨l,f,t,aS,bd,_,rfl⟩ <;>rfl
    obtain⟨cv,w',E',s1,s2,s3,s4⟩ :=hcall E w G p1 g3 hkG (rf fn tmps (.inRegion ops (i::is) ::k) ds kd ro) cs;refine⟨j+1,E',w',_,?_,I.effect T ho hi hm hk' hD' s2 (by rw [e3];exact s3) (by rw [e3];exact s4)⟩;rw [oG hoa]at s1;rcases g2 with⟨f,args,rfl,rfl⟩ | ⟨l,f,t,aS,bd,rfl,rfl⟩
    ·exact .head (aE8 hoa (jV T I ho hi hm hw) (.inr hd) g1) s1
    ·exact .head (aE9 hoa (jV T I ho hi hm hw) (.inr hd) g1) s1
theorem aS2 (hc:eF P call)(T:Trace P call ops.toList nt R A)(hn0:h0.nb= (R 0).next){D D':Nat→Prop}[DecidablePred D][DecidablePred D']{j:Nat}{E:Emb}{w:World}{tmps:Array Value}(I:Inv P ops.toList nt R A E0 h0 w0 D j E w tmps){i:Nat}{o:Oper}(ho:ops.toList[i]?=some o)(hi:¬D i)(hm:Met D o)(hD':∀k,D' k↔ (D k∨k=i))(is:List Nat) :
  ∃j' E' w' tmps',Steps P (lone (rf fn tmps (.inRegion ops (i::is) ::k) ds kd ro) cs w) (lone (rf fn tmps' (.inRegion ops is::k) ds kd ro) cs w') ∧Inv P ops.toList nt R A E0 h0 w0 D' j' E' w' tmps':=
 aOC (fun _=>hc j) T hn0 I ho hi hm hD' is
theorem aOD (hc:eF P call)(T:Trace P call ops.toList nt R A)(hn0:h0.nb= (R 0).next){is:List Nat}{D:Nat→Bool}(hl:Legal ops.toList D is) :∀ {j:Nat} {E:Emb} {w:World} {tmps:Array Value},Inv P ops.toList nt R A E0 h0 w0 (fun k=>D k=true) j E w tmps →
  ∃ (D':Nat→Bool) (j':Nat) (E':Emb) (w':World) (tmps':Array Value),Steps P (lone (rf fn tmps (.inRegion ops is::k) ds kd ro) cs w) (lone (rf fn tmps' (.inRegion ops [] ::k) ds kd ro) cs w') ∧Inv P ops.toList nt R A E0 h0 w0 (fun k=>D' k=true) j' E' w' tmps'∧∀i,i<ops.toList.length→D' i=true:=by
 induction hl with
 | @nil D h=>intro j E w tmps I;exact⟨D,j,E,w,tmps,Steps.refl _ _,I,h⟩
 | @cons D i is o h1 h2 h3 h4 ih=>
  intro j E w tmps I;obtain⟨j',E',w',tmps',s1,I'⟩ :=aS2 (D':=fun k=> (D k||k==i) =true) (fn:=fn) (ds:=ds) (kd:=kd) (ro:=ro) (k:=k) (cs:=cs) hc T hn0 I h1 (by simp [h2]) h3 (fun k=>by simp) is;obtain⟨D2,j2,E2,w2,tmps2,s2,I2,hall⟩ :=ih I';exact⟨D2,j2,E2,w2,tmps2,s1.trans s2,I2,hall⟩
end
theorem aDu {call:bP}{h:Nat}{l:List Oper}:∀ {e:List Plan} {r d:RS},oK P call h l e r=some d→d.next=r.next+pU e
 | [],r,d,b=>by simp [oK]at b;subst b;rfl
 | p ::e,r,d,b=>by
  simp only [oK]at b;split at b
  · rename_i j f;obtain⟨a,_,c⟩ :=aDt f;have g:=aDu b;have i:=c.next
    rw [g,i];simp only [pU];cases hk:p.kd<;>simp [hk] <;>omega
  ·cases b
theorem aVI {call:bP}{l:Nat}{ops:Array Oper}{tm:T AV}{h:Hp}{r:RS}(g: (kK ops).ok=true)
  (u:oK P call l (kK ops).ops (kK ops).plans {tm,h:={h with nb:=h.nb+ (kK ops).fresh},stages:=[],s:=0,pend:=[],next:=h.nb,again:=[]}=some r)
  (n:yV P (r.h::r.stages) r.s r.again) :
  ∃ (R:Nat→RS) (A:Nat→AV),Trace P call ops.toList l R A∧R 0= {tm,h:={h with nb:=h.nb+ (kK ops).fresh},stages:=[],s:=0,pend:=[],next:=h.nb,again:=[]}∧R ops.toList.length=r∧∀i p,(kK ops).plans[i]?=some p→lQ P call l (kK ops).ops p (R i) =some (R (i+1)) :=by
 obtain⟨R,d,m,v⟩ :=aBA u;have f: (kK ops).plans.length=ops.toList.length:=wY _ _ _ _
 have j:∀i o,ops.toList[i]?=some o→ (kK ops).plans[i]?=some (tY ops.toList i o) :=fun i o b=>by
  have:=aDs (lP ops.toList []) (fP ops.toList 0) ops.toList 0 i;rw [b,Option.map_some,fE]at this;exact this
 have c:∀i,∃a,∀o,ops.toList[i]?=some o→iG (R i).tm l o.dst a=some (R (i+1)).tm∧RC P call ops.toList (tY ops.toList i o) (R i) (R (i+1)) a:=fun i=>by
  cases b:ops.toList[i]? with
  |none=>exact⟨.undef,fun o h=>by cases h⟩
  | some o=>
   obtain⟨a,q,k⟩ :=aDt (v i _ (j i o b));exact⟨a,fun C h=>by cases h;exact⟨q,k⟩⟩
 obtain⟨A,hA⟩ :=Classical.axiomOfChoice c;rw [f]at m;simp only [kK,dS]at g;obtain⟨⟨⟨⟨w,B⟩,y⟩,D⟩,F⟩ :=g;refine⟨R,A,⟨fun i o b=>hA i o b,w,B,fun i o b e he hb=>?_,by rw [d],by rw [d],by rw [d],by rw [d],?_,by rw [m];exact n⟩,d,m,v⟩
 · have t:=uA b;obtain⟨q,k⟩ :=wX y i o b e he hb;have hr:∀x,x<ops.size→ (List.range ops.size).getD x 0=x:=fun x z=>by simp [nY,z]
   rw [fE,hr _ q,hr _ (by simpa using t)]at k;exact k
 ·rw [m,aDu u,d];exact le_refl _
theorem aS3 {a:T AV}{b:Nat→Option Nat}{A:Nat→AV}{D:Nat→Prop}[DecidablePred D](c:∀k,¬D k)(n t:Nat) :eA a b A D n t=a.at t:=by
 rw [yU (i:=0) (zero_le n) (fun k _ _ _=>c k)];rfl
theorem aAx {call:bP}(hc:eF P call){D:Nat}{ops:Array Oper}{tm:T AV}{h:Hp}{d:RS}(B: (kK ops).ok=true)
  (N:oK P call D (kK ops).ops (kK ops).plans {tm,h:={h with nb:=h.nb+ (kK ops).fresh},stages:=[],s:=0,pend:=[],next:=h.nb,again:=[]}=some d)
  (J:yV P (d.h::d.stages) d.s d.again) {E:Emb} {w:World} {tmps:Array Value} (r:Rel E h w.heap) (y:TR E tm D tmps)
  (id:Nat) (fn:FuncId) (ds:List Deferred) (kd:CallKind) (ro:Option Nat) (k:List Item) (cs:List Frame) :
  ∃z w' c,Steps P (lone (rf fn tmps (.code (.region id ops true) ::k) ds kd ro) cs w) (lone (rf fn c k ds kd ro) cs w') ∧TR z d.tm D c∧Rel z (aP d.h d.s d.pend) w'.heap∧Ext E h w z (aP d.h d.s d.pend) w':=by
 obtain⟨R,A,T,n,C,_⟩ :=aVI B N J;have j:bS ops.toList R 0= {h with nb:=h.nb+ (kK ops).fresh}:=by
  have:=T.stage (i:=0) (zero_le _);rw [T.s0]at this;rw [this,n]
 have I:Inv P ops.toList D R A E h w (fun k=> (fun _:Nat=>false) k=true) 0 E {w with drawn:=w.drawn+1} tmps:=by
  refine⟨fun i o _ K=>by simp at K,fun i K=>by simp at K,fun q e _=>by simp,zero_le _,?_,by rw [j,n];exact le_refl _,?_,y.1,fun t a v=>?_,fun f o _ V hk=>?_,fun f ob p=>?_,fun f ob p=>?_,by rw [n],fun b o hb hE=>?_,fun f g ob ob' L L' p=>?_⟩
  · rw [j];exact⟨Emb.le.refl E,le_refl _,fun _ _ _=>rfl,fun b o L M F i X _=> ⟨b,o,L,M,F,X⟩,Nat.le_add_right _ _,rfl,rfl,rfl,fun _ _=>rfl,fun _ _=>rfl,fun _ _ e _=>.inl e,fun _ o e _=> ⟨o,e⟩⟩
  ·rw [j];exact r.sub (fun _ _ e=>e) (Nat.le_add_right _ _)
  · rw [aS3 (by simp),n]at v;exact y.2 t a v
  · have:= (T.id_lt V hk).1;rw [n]at this;exact r.fresh _ this
  ·have:=p.done;simp at this
  ·have:=p.done;simp at this
  ·rw [j]at hb;exact .inl (r.keys b o hb)
  ·have:=p.done;simp at this
 obtain⟨D',m,z,w',c,W,u,l⟩ :=aOD (fn:=fn) (ds:=ds) (kd:=kd) (ro:=ro) (k:=k) (cs:=cs) hc T (by rw [n]) (aFa B (P.follows .mixedOrders) (w.tape w.drawn (.order fn id))) I;have O:m=d.s:=by
  rw [←C,T.sEnd];have:=u.jle;rcases lt_or_ge m (fP ops.toList 0).length with g|g
  · have he: (fP ops.toList 0)[m]?=some ((fP ops.toList 0)[m]) :=kX g;obtain⟨_,F,_⟩ := (iT ops.toList 0).1 _ _ he;have:= (u.eff _ _ he).1 (l _ (by omega));omega
  ·omega
 have G:∀x ob,(m,x,ob) ∈d.pend→∃f,Pd P ops.toList R A (fun k=>D' k=true) m f ob∧wZ ops.toList f=m∧x= (R f).next:=fun x ob S=>by
  rw [←C]at S;obtain⟨f,o,M,F,Y,h4,h5,h6,Z⟩ :=T.pend_mem _ (le_refl _) m x ob S;exact⟨f,⟨l f M,⟨o,F,Y,h4,h5⟩,by omega⟩,h6.symm,Z⟩
 obtain⟨U,Q,_⟩ :=u.publish T G;have H:bS ops.toList R m=d.h:=by rw [O,←C];exact T.stage (le_refl _)
 rw [H,O]at U Q;refine⟨z,w',c,.head (bBa id) (W.trans (.one aAs)),⟨u.size,fun t a v=>?_⟩,U,Q⟩;refine u.tv t a ?_;rw [←C,T.view t _ (le_refl _)]at v;rw [←v];exact tZ fun k hk _=> ⟨fun _=>trivial,fun _=>l k hk⟩
theorem aI0 {call:bP}(hc:eF P call){i:Nat}{ops:Array Oper}{tm tm':T AV}{h h':Hp}(a:aD9 P call i ops tm h=some (tm',h')){E:Emb}{w:World}{tmps:Array Value}(r:Rel E h w.heap)(f:TR E tm i tmps)
  (id:Nat) (fn:FuncId) (ds:List Deferred) (kd:CallKind) (ro:Option Nat) (k:List Item) (cs:List Frame) :
  ∃g w' b,Steps P (lone (rf fn tmps (.code (.region id ops true) ::k) ds kd ro) cs w) (lone (rf fn b k ds kd ro) cs w') ∧TR g tm' i b∧Rel g h' w'.heap∧Ext E h w g h' w':=by
 unfold aD9 at a;simp only at a;cases d: (kK ops).ok with
 |false=>rw [d]at a;cases a
 | true=>
  rw [d]at a;simp only [cond]at a;split at a
  · rename_i e j;cases c:sH P (e.h::e.stages) e.s e.again with
    |false=>rw [c]at a;cases a
    | true=>
     rw [c]at a;simp only [Option.some.injEq,Prod.mk.injEq]at a;obtain⟨rfl,rfl⟩ :=a;exact aAx hc d j (aFb c) r f id fn ds kd ro k cs
  ·cases a
end
section
variable {P :Program} {E:Emb} {h h':Hp} {w w':World}
theorem xC {l:Nat}{L:Loop}{ob':Obj}(hl:w.heap[l]?=some (.loop L)) : (setObj l ob').run P w= .ok () (cE w l ob') :=pW hl (fun _ _ _ e=>by cases e)
theorem aBD (r:Rel E h w.heap){l:Nat}{L:Loc}(hE:E l=some L){st pe fn tm nt ps aS bd df}(hl:h.look l=some (.loop st pe fn tm nt ps aS bd df)) :
  ∃tmps b,w.heap[L.blk]?=some (.loop {state:=st,pending:=pe,fn,tmps,params:= ⟨ps⟩,assign:=aS,body:=bd,defers:=b.blk}) ∧E df=some b∧TR E tm nt tmps:=by
 obtain⟨d,a,c⟩ :=r.obj _ _ hl;rw [hE]at a;cases a;exact c
theorem rY (r:Rel E h w.heap){l:Nat}{L:Loc}(hE:E l=some L){st pe fn tm nt ps aS bd df tmps}{c:Loc}(hl:h.look l=some (.loop st pe fn tm nt ps aS bd df))(f:E df=some c)(d:TR E tm nt tmps)(a:LoopState)(b:Option Code) :
  Rel E (h.set l (.loop a b fn tm nt ps aS bd df)) (cE w L.blk (.loop {state:=a,pending:=b,fn,tmps,params:= ⟨ps⟩,assign:=aS,body:=bd,defers:=c.blk})).heap ∧
  Ext E h w E (h.set l (.loop a b fn tm nt ps aS bd df)) (cE w L.blk (.loop {state:=a,pending:=b,fn,tmps,params:= ⟨ps⟩,assign:=aS,body:=bd,defers:=c.blk})) :=
 r.setObj (.loop {state:=a,pending:=b,fn,tmps,params:= ⟨ps⟩,assign:=aS,body:=bd,defers:=c.blk}) hl hE rfl rfl (fun g e=> ⟨tmps,c,e,f,d⟩)
theorem aCH (r:Rel E h w.heap){l:Nat}{L:Loc}(hE:E l=some L){pe fn tm nt ps aS bd df}(hl:h.look l=some (.loop .ready pe fn tm nt ps aS bd df)) :
  ∃w',(Instr.beginRound L.blk).run P w= .ok () w'∧Rel E (h.set l (.loop .busy pe fn tm nt ps aS bd df)) w'.heap∧Ext E h w E (h.set l (.loop .busy pe fn tm nt ps aS bd df)) w':=by
 obtain⟨b,e,a,c,d⟩ :=aBD r hE hl;have:=rY r hE hl c d .busy pe;exact⟨_,by simp [Instr.beginRound,run_getLoop a,xC a],this⟩
theorem xE (r:Rel E h w.heap){l:Nat}{L:Loc}(hE:E l=some L){a:Option Code}(b:lF h l a=some h') :
  ∃w',(Instr.endRound L.blk a).run P w= .ok (.bool a.isNone) w'∧Rel E h' w'.heap∧Ext E h w E h' w':=by
 unfold lF at b;split at b
 · rename_i st o fn k j g n m p hl;cases b;obtain⟨d,i,c,e,f⟩ :=aBD r hE hl;have:=rY r hE hl e f (match a with|none=>.ready|some _=>.done) a;refine⟨_,?_,this⟩;cases a<;>simp [Instr.endRound,run_getLoop c,xC c]
 ·cases b
theorem aG7 (r:Rel E h w.heap){l:Nat}{L:Loc}(hE:E l=some L){st pe fn tm nt ps aS bd df}(a:st≠ .busy)(hl:h.look l=some (.loop st pe fn tm nt ps aS bd df)) :
  ∃w',(Instr.endLoop L.blk).run P w= .ok pe w'∧Rel E (h.set l (.loop .exhausted pe fn tm nt ps aS bd df)) w'.heap∧Ext E h w E (h.set l (.loop .exhausted pe fn tm nt ps aS bd df)) w':=by
 obtain⟨c,f,b,d,e⟩ :=aBD r hE hl;have:=rY r hE hl d e .exhausted pe;refine⟨_,?_,this⟩;cases st<;>first|exact absurd rfl a|simp [Instr.endLoop,run_getLoop b,xC b]
theorem pX (r:Rel E h w.heap){b:Nat}{L:Loc}(hE:E b=some L)(hb:h.look b=some (.defd false)) :
  ∃w',(Instr.takeDeferred L.blk).run P w= .ok [] w'∧Rel E (h.set b (.defd true)) w'.heap∧Ext E h w E (h.set b (.defd true)) w':=by
 obtain⟨k,c,d⟩ :=r.obj _ _ hb;rw [hE]at c;cases c;have:=r.setObj (o':=.defd true) (.deferred none) hb hE rfl rfl (fun j g=>g);have a:w.heap[L.blk]?=some (.deferred (some [])) :=d;refine⟨cE w L.blk (.deferred none),?_,this⟩;have f: (getObj L.blk).run P w= .ok (.deferred (some [])) w:=by simp [getObj,Sem.run,a]
 have i: (setObj L.blk (.deferred none)).run P w= .ok () (cE w L.blk (.deferred none)) :=pW a (fun _ _ _ e=>by cases e);simp [Instr.takeDeferred,f,i]
theorem aFf (r:Rel E h w.heap){fn:FuncId}{tm:T AV}{e:Nat}{tmps:Array Value}(k:TR E tm e tmps)(ps:List Nat)(d c:Code) :
  ∃ (L i:Loc) (w':World) (b:Emb),(Instr.enterLoop fn tmps ⟨ps⟩ d c none).run P w= .ok (L.blk,[{target:=.collected i.blk,args:= #[]}]) w'∧b h.nb=some i∧b (h.nb+1) =some L ∧
   Rel b ((h.new (.defd false)).new (.loop .ready none fn tm e ps d c h.nb)) w'.heap∧Ext E h w b ((h.new (.defd false)).new (.loop .ready none fn tm e ps d c h.nb)) w':=by
 obtain⟨l,g⟩ :=r.new (.defd false) (.deferred (some [])) 0 (fun _ _ _ _ f=>f)
 obtain⟨m,j⟩ :=Rel.new (w:={w with heap:=w.heap.push (.deferred (some []))}) l (.loop .ready none fn tm e ps d c h.nb)
  (.loop {state:=.ready,pending:=none,fn,tmps,params:= ⟨ps⟩,assign:=d,body:=c,defers:=w.heap.size}) 0
  (fun b n a _ f=> ⟨tmps,⟨w.heap.size,0,0⟩,f,a.1 _ _ (Emb.put_same _ _ _),(k.mono g.le).mono a⟩)
 refine⟨⟨(w.heap.push (.deferred (some []))).size,0,0⟩,⟨w.heap.size,0,0⟩,_,_,?_,?_,Emb.put_same _ _ _,m,g.trans j⟩
 · simp [Instr.enterLoop,newObj,Sem.run];rfl
 ·exact j.le.1 _ _ (Emb.put_same _ _ _)
theorem aFg (r:Rel E h w.heap){o:Nat}{i:Loc}(hE:E o=some i){st pe fn' tm' nt' ps' as' bd' df}(hl:h.look o=some (.loop st pe fn' tm' nt' ps' as' bd' df)){fn:FuncId}{tm:T AV}{e:Nat}{tmps:Array Value}(j:TR E tm e tmps)(ps:List Nat)(c b:Code) :
  ∃ (L:Loc) (w':World) (d:Emb),(Instr.enterLoop fn tmps ⟨ps⟩ c b (some i.blk)).run P w= .ok (L.blk,[]) w'∧d h.nb=some L ∧
   Rel d (h.new (.loop .ready none fn tm e ps c b df)) w'.heap∧Ext E h w d (h.new (.loop .ready none fn tm e ps c b df)) w':=by
 obtain⟨f,g,m,k,q⟩ :=aBD r hE hl
 obtain⟨p,n⟩ :=r.new (.loop .ready none fn tm e ps c b df)
  (.loop {state:=.ready,pending:=none,fn,tmps,params:= ⟨ps⟩,assign:=c,body:=b,defers:=g.blk}) 0
  (fun d s a _ l=> ⟨tmps,g,l,a.1 _ _ k,j.mono a⟩)
 exact⟨_,_,_,by simp [Instr.enterLoop,run_getLoop m,newObj,Sem.run],Emb.put_same _ _ _,p,n⟩
def aHz (tmps:Array Value) :ResultVar→Sem Value
 | .tmp t=>pure (tmps.getD t Go.undef)
 | .cell a t=>do loadVar t (←asAddr (tmps.getD a Go.undef))
theorem aOE (fd:Func)(tmps:Array Value) :results fd tmps= (do let vs ←fd.results.mapM (aHz tmps);pure (if h:vs.size=1 then vs[0]else .tuple vs) :Sem Value) :=by
 unfold results;rfl
theorem xF {fd:Func}{tm:T AV}{C:Nat}{tmps:Array Value}(r:Rel E h w.heap)(p:TR E tm C tmps){f:List AV}(d:lR P h tm fd.results.toList=some f) :
  ∃cv,(results fd tmps).run P w= .ok cv w∧VR E (aCy f) cv:=by
 have key :∀ (l:List ResultVar) (f:List AV) (c:Array Value),lR P h tm l=some f→∃cvs,(l.foldlM (fun(z:Array Value) a=>Functor.map z.push (aHz tmps a)) c).run P w= .ok (c++ (⟨cvs⟩ :Array Value)) w∧VRs E f cvs:=by
  intro l
  induction l with
  |nil=>intro f c d;simp [lR]at d;subst d;exact⟨[],by simp,VRs.nil E⟩
  | cons x l y=>
   intro f c d;simp only [lR]at d;split at d
   · rename_i v o j G;cases d;have F:∃cv,(aHz tmps x).run P w= .ok cv w∧VR E v cv:=by
      unfold aRA at j;split at j
      · rename_i t;obtain⟨cv,n,i⟩ :=p.2 _ _ j;exact⟨cv,by simp [aHz,aAH,n],i⟩
      · rename_i a t;split at j
        · rename_i b D hb;obtain⟨cv,n,i⟩ :=p.2 _ _ hb;simp only [VR]at i;obtain⟨L,A,rfl⟩ :=i;obtain⟨cv,m,g⟩ :=aDn r j A;exact⟨cv,by simp [aHz,aAH,n,asAddr,m],g⟩
        ·cases j
     obtain⟨cv,m,g⟩ :=F;obtain⟨cvs,H,s⟩ :=y o (c.push cv) G;refine⟨cv::cvs,?_,VRs.cons g s⟩;rw [List.foldlM_cons,Sem.run_bind,Sem.run_map,m];simp only [Result.andThen_ok];rw [H];congr 1;apply Array.ext';simp
   ·cases d
 obtain⟨cvs,m,g⟩ :=key _ _ #[] d;have hm: (fd.results.mapM (aHz tmps)).run P w= .ok (⟨cvs⟩ :Array Value) w:=by
  rw [Array.mapM_eq_foldlM,←Array.foldlM_toList,m];congr 1;apply Array.ext';simp
 rw [aOE];simp only [Sem.run_bind,hm,Result.andThen_ok,Sem.run_pure];refine⟨_,rfl,?_⟩;have k:=g.length;unfold aCy;split
 · rename_i v;obtain⟨u,I,rfl,n,i⟩ :=g.cons_inv;rw [i.nil_inv];exact n
 · rename_i B
   have:¬ (⟨cvs⟩ :Array Value).size=1:=fun e=>by
    have q:cvs.length=1:=e
    match f,k with
    | [x],_=>exact B x rfl
    | [],h=>simp [q]at h
    |_::_::_,h=>simp [q]at h
   rw [dif_neg this];simp only [VR];exact⟨cvs,rfl,g⟩
theorem CR.noGoexit :∀ {c:List (AV×Bool)} {a:List PanicEntry},CR E c a→a.dropWhile (!·.goexit) = []
 | [],_,h=>by simp only [CR]at h;subst h;rfl
 | _::_,_,h=>by
  simp only [CR]at h;obtain⟨v,a,rfl,_,b⟩ :=h;simp [b.noGoexit]
theorem aI1 {a:AMode}{m:FrameMode}(d:MR E a m) :MR E (aIC a) (settle m) :=by
 cases a with
 |run=>simp only [MR]at d;subst d;exact rfl
 |ret=>simp only [MR]at d;subst d;exact rfl
 | pan c=>
  simp only [MR]at d;obtain⟨i,rfl,e⟩ :=d;cases c with
  |nil=>simp only [CR]at e;subst e;exact⟨[],rfl,by simp [CR]⟩
  | cons x j=>
   obtain⟨v,b⟩ :=x;have f:=e;simp only [CR]at e;obtain⟨l,h,rfl,k,g⟩ :=e;cases b with
   |true=>simp only [aIC,settle,g.noGoexit];exact rfl
   |false=>exact⟨_,rfl,f⟩
theorem xG {a:AFrame}{c:Frame}(f:FR E a c){g:List (AV×Bool)}{ps:List PanicEntry}(e:CR E g ps) :FR E (a.raise g) (c.raise ps) :=by
 unfold AFrame.raise Frame.raise;have hm:=f.mode;cases b:a.mode with
 |run=>rw [b]at hm;simp only [MR]at hm;rw [hm];exact⟨f.fn,f.tm,f.todo,f.defers,⟨ps,rfl,e⟩,f.kind,f.round⟩
 |ret=>rw [b]at hm;simp only [MR]at hm;rw [hm];exact⟨f.fn,f.tm,f.todo,f.defers,⟨ps,rfl,e⟩,f.kind,f.round⟩
 | pan d=>
  rw [b]at hm;simp only [MR]at hm;obtain⟨qs,i,h⟩ :=hm;rw [i];exact⟨f.fn,f.tm,f.todo,f.defers,⟨_,rfl,e.append h⟩,f.kind,f.round⟩
theorem uB (id:Nat) :∀ {k g:List AItem} {l:List Item},nN id k=some g→IRs E k l→∃a,exitTo id l=some a∧IRs E g a
 | [],_,_,h,_=>by simp [nN]at h
 | i ::k,g,l,h,r=>by
  obtain⟨n,d,rfl,c,m⟩ :=r.cons_inv;cases i<;>simp only [nN]at h<;>simp only [IR]at c
  case inBlock j=>
   subst c;rw [bM]at h;simp only [exitTo];by_cases e:j=id
   · simp only [e,decide_true,cond,Option.some.injEq]at h;subst h;exact⟨d,by simp [e],m⟩
   · simp only [e,decide_false,cond]at h;obtain⟨a,b,f⟩ :=uB id h m;exact⟨a,by simp [e,b],f⟩
  all_goals
   obtain⟨a,b,f⟩ :=uB id h m;refine⟨a,?_,f⟩
   first
    | (subst c;simpa [exitTo]using b)
    | (obtain⟨L,_,rfl⟩ :=c;simpa [exitTo]using b)
    | (obtain⟨rfl,_⟩ :=c;simpa [exitTo]using b)
theorem rA (id:Nat) :∀ {k:List AItem} {c:List Item},nN id k=none→IRs E k c→exitTo id c=none
 | [],_,_,r=>by rw [r.nil_inv];rfl
 | i ::k,c,h,r=>by
  obtain⟨j,g,rfl,a,f⟩ :=r.cons_inv;cases i<;>simp only [nN]at h<;>simp only [IR]at a
  case inBlock d=>
   subst a;rw [bM]at h;simp only [exitTo];by_cases e:d=id
   ·simp only [e,decide_true,cond]at h;cases h
   · simp only [e,decide_false,cond]at h;simp [e,rA id h f]
  all_goals
   have b:=rA id h f
   first
    | (subst a;simpa [exitTo]using b)
    | (obtain⟨L,_,rfl⟩ :=a;simpa [exitTo]using b)
    | (obtain⟨rfl,_⟩ :=a;simpa [exitTo]using b)
theorem uC (l:Nat) :∀ {k j:List AItem} {m:List Item},nO l k=some j→IRs E k m→∃a,gotoIn l m=some a∧IRs E j a
 | [],_,_,h,_=>by simp [nO]at h
 | i ::k,j,m,h,r=>by
  obtain⟨o,f,rfl,c,n⟩ :=r.cons_inv;cases i<;>simp only [nO]at h<;>simp only [IR]at c
  case inScope e=>
   subst c;simp only [gotoIn];split at h
   · rename_i d hr;cases h;exact⟨.code d:: .inScope e::f,by simp [hr],IRs.cons rfl (IRs.cons rfl n)⟩
   · rename_i hr;obtain⟨a,b,g⟩ :=uC l h n;exact⟨a,by simp [hr,b],g⟩
  all_goals
   obtain⟨a,b,g⟩ :=uC l h n;refine⟨a,?_,g⟩
   first
    | (subst c;simpa [gotoIn]using b)
    | (obtain⟨L,_,rfl⟩ :=c;simpa [gotoIn]using b)
    | (obtain⟨rfl,_⟩ :=c;simpa [gotoIn]using b)
theorem rB (l:Nat) :∀ {k:List AItem} {c:List Item},nO l k=none→IRs E k c→gotoIn l c=none
 | [],_,_,r=>by rw [r.nil_inv];rfl
 | i ::k,c,h,r=>by
  obtain⟨g,f,rfl,a,e⟩ :=r.cons_inv;cases i<;>simp only [nO]at h<;>simp only [IR]at a
  case inScope d=>
   subst a;simp only [gotoIn];split at h
   ·cases h
   · rename_i hr;simp [hr,rB l h e]
  all_goals
   have b:=rB l h e
   first
    | (subst a;simpa [gotoIn]using b)
    | (obtain⟨L,_,rfl⟩ :=a;simpa [gotoIn]using b)
    | (obtain⟨rfl,_⟩ :=a;simpa [gotoIn]using b)
def Goes (P:Program)(E:Emb)(h:Hp)(fr:Frame)(cs:List Frame)(w:World)(base:List Frame)(s':AS) :Prop:=
 ∃E' fr' cs' w',Steps P (lone fr (cs++base) w) (lone fr' (cs'++base) w') ∧FR E' s'.fr fr'∧FRs E' s'.cs cs'∧Rel E' s'.h w'.heap∧Ext E h w E' s'.h w'
section
variable {fn :FuncId} {tmps:Array Value} {ds:List Deferred} {kd:CallKind} {ro:Option Nat} {k:List Item} {ccs base:List Frame} {todo:List Item}
theorem drop_cons {a:Type}{l:List a}{i:Nat}{x:a}{xs:List a}(h:x::xs=l.drop i) :l[i]?=some x∧xs=l.drop (i+1) :=by
 have b: (l.drop i)[0]?=some x:=by rw [←h];rfl
 rw [List.getElem?_drop,Nat.add_zero]at b;refine⟨b,?_⟩;have:l.drop (i+1) = (l.drop i).drop 1:=by rw [List.drop_drop]
 rw [this,←h];rfl
theorem aFh {all:Array Oper}{i:Nat}{o:Oper}{rest:List Oper}{b:Item}(a:IR E (.ops all i (o::rest)) b) :
  b= .inRegion all (i::range' (i+1) rest.length) ∧all[i]?=some o∧IR E (.ops all (succ i) rest) (.inRegion all (range' (i+1) rest.length)) :=by
 simp only [IR]at a;obtain⟨rfl,e⟩ :=a;obtain⟨d,c⟩ :=drop_cons e;exact⟨by simp [List.range'_succ],by rw [←rS];exact d,rfl,c⟩
theorem aBE {c q:AFrame}{v:AV}{r:Frame}{cv:Value}(a:c.finish v=some q)(f:FR E c r)(s:VR E v cv) :FR E q (r.finish cv) :=by
 unfold AFrame.finish at a;have d:=f.todo;split at a
 · rename_i all i o p k g;split at a
   · rename_i w h;cases a;rw [g]at d;obtain⟨x,u,e,b,m⟩ :=d.cons_inv;obtain⟨rfl,j,t⟩ :=aFh b;have n:=aAQ f.tm h s;unfold Frame.finish;rw [e];simp only [j,Option.bind_some];refine⟨f.fn,?_,IRs.cons t m,f.defers,f.mode,f.kind,f.round⟩;unfold aAP at n;exact n
   ·cases a
 · rename_i l k g;cases a;rw [g]at d;obtain⟨x,u,e,b,m⟩ :=d.cons_inv;simp only [IR]at b;obtain⟨L,j,rfl⟩ :=b;unfold Frame.finish;rw [e];exact⟨f.fn,f.tm,IRs.cons ⟨L,j,rfl⟩ m,f.defers,f.mode,f.kind,f.round⟩
 ·cases a
theorem aAy {fr:AFrame}{cfr:Frame}(hk:cfr.kind=fr.kind){cs:List AFrame}(fs:FRs E cs ccs){v:AV}{cv:Value}{f:AS}(d:aBm fr cs v h=some f)(j:VR E v cv) :
  ∃c b,ccs=c::b∧FR E f.fr (handed cfr c cv) ∧FRs E f.cs b∧f.h=h∧ (cfr.kind= .normal∨cfr.kind= .deferred) :=by
 unfold aBm at d;split at d
 ·cases d
 · rename_i c cs;obtain⟨k,b,rfl,e,i⟩ :=fs.cons_inv;refine⟨k,b,rfl,?_⟩;split at d
   · rename_i a;split at d
     · rename_i l g;cases d;refine⟨?_,i,rfl,.inl (by rw [hk,a])⟩;simp only [handed,hk,a];exact aBE g e j
     ·cases d
   · rename_i a;cases d;refine⟨?_,i,rfl,.inr (by rw [hk,a])⟩;simp only [handed,hk,a];exact⟨e.fn,e.tm,e.todo,e.defers,aI1 e.mode,e.kind,e.round⟩
   ·cases d
theorem Goes.one {s':AS}{fr fr':Frame}{cs':List Frame}{E':Emb}(h1:step P (lone fr (ccs++base) w) = .next (lone fr' (cs'++base) w'))(f:FR E' s'.fr fr')(fs:FRs E' s'.cs cs')(r:Rel E' s'.h w'.heap)(x:Ext E h w E' s'.h w') :Goes P E h fr ccs w base s':=
 ⟨E',fr',cs',w',.one h1,f,fs,r,x⟩
theorem uD {l:Nat}(hr:RR E (some l) ro) :∃L,E l=some L∧ro=some L.blk:=by simpa only [RR]using hr
theorem oZ {fr:AFrame}{cs:List AFrame}{a:Option Code}{s':AS}(r:Rel E h w.heap)(f:FR E fr (rf fn tmps todo ds kd ro))(fs:FRs E cs ccs)(d:rT fr cs h a=some s')
  (m: (todo= [] ∧a=none) ∨ (∃k,todo= .code .ret::k∧a=some .ret) ∨ (∃id k,todo= .code (.exit id) ::k∧a=some (.exit id) ∧exitTo id k=none) ∨ (∃t k,todo= .code (.goto t) ::k∧a=some (.goto t) ∧gotoIn t k=none)) :
  Goes P E h (rf fn tmps todo ds kd ro) ccs w base s':=by
 unfold rT at d;have b:=f.round;split at d
 · rename_i g;rw [g]at b;simp only [RR]at b;subst b
   have i:∀j,(step P (lone (rf fn tmps j ds kd none) (ccs++base) w) = .next (lone {rf fn tmps j ds kd none with mode:=.returning} (ccs++base) w)) →j=todo→some ⟨{fr with mode:=.ret},cs,h⟩ =some s'→Goes P E h (rf fn tmps todo ds kd none) ccs w base s':=fun j y e d=>by
    cases d;subst e;exact Goes.one y ⟨f.fn,f.tm,f.todo,f.defers,rfl,f.kind,by rw [show({fr with mode:=AMode.ret}:AFrame).roundOf=fr.roundOf from rfl,g];exact rfl⟩ fs r (Ext.refl _ _ _)
   split at d
   · rcases m with⟨e,_⟩ | ⟨_,_,e⟩ | ⟨_,_,_,e,_⟩ | ⟨_,_,_,e,_⟩
     ·exact i [] bFI e.symm d
     ·cases e
     ·cases e
     ·cases e
   · rcases m with⟨_,e⟩ | ⟨k,e,_⟩ | ⟨_,_,_,e,_⟩ | ⟨_,_,_,e,_⟩
     ·cases e
     ·exact i _ bFJ e.symm d
     ·cases e
     ·cases e
   ·cases d
 · rename_i l g;rw [g]at b;obtain⟨L,hE,rfl⟩ :=uD b;split at d
   · rename_i B o;obtain⟨C,x,q,z⟩ :=xE (P:=P) r hE o;have s:VR E (.bool a.isNone) (.bool a.isNone) :=by simp only [VR]
     obtain⟨c,n,rfl,v,u,p,A⟩ :=aAy (cfr:=rf fn tmps todo ds kd (some L.blk)) f.kind fs d s;refine Goes.one (cs':=n) (wS A m x) v u (by rw [p];exact q) (by rw [p];exact z)
   ·cases d
theorem FR.run {fr:AFrame}{c:Frame}(f:FR E fr c)(hm:fr.mode= .run) :c=rf c.fn c.tmps c.todo c.defers c.kind c.roundOf:=by
 have:=f.mode;rw [hm]at this;simp only [MR]at this;cases c;simp only at this;subst this;rfl
theorem hR {fr:AFrame}{cs:List AFrame}{s':AS}{c:List AItem}{a:List Item}(r:Rel E h w.heap)(f:FR E fr (rf fn tmps todo ds kd ro))(hm:fr.mode= .run)(fs:FRs E cs ccs)(b:toC fr c cs h=some s')(d:IRs E c a)
  (h1:step P (lone (rf fn tmps todo ds kd ro) (ccs++base) w) = .next (lone (rf fn tmps a ds kd ro) (ccs++base) w)) :Goes P E h (rf fn tmps todo ds kd ro) ccs w base s':=by
 unfold toC at b;cases b;exact Goes.one h1 ⟨f.fn,f.tm,d,f.defers,f.mode,f.kind,f.round⟩ fs r (Ext.refl _ _ _)
theorem aS4 (r:Rel E h w.heap){fr:AFrame}{cs:List AFrame}{call:bP}{all:Array Oper}{i:Nat}{o:Oper}{rest:List Oper}{ak:List AItem}(hm:fr.mode= .run)(Y:fr.todo= .ops all i (o::rest) ::ak)
  (f:FR E fr (rf fn tmps todo ds kd ro)) (fs:FRs E cs ccs) {s':AS} (m:lS P call ⟨fr,cs,h⟩ =some s') :Goes P E h (rf fn tmps todo ds kd ro) ccs w base s':=by
 unfold lS at m;simp only [hm,Y]at m;have ft:=f.todo;rw [Y]at ft;obtain⟨it,k,e,i1,Z⟩ :=ft.cons_inv;simp only at e;subst e;obtain⟨rfl,K,R⟩ :=aFh i1;have V: (all[i]?).bind (·.dst) =o.dst:=by rw [K];rfl
 have a:∀ {b},bX fr.tm all.toList o=some b→Region.wanted o (yielded all tmps) =b:=fun h=>aAt f.tm h;have B:=TR.reads (E:=E) f.tm fn (.inRegion all (i::range' (i+1) rest.length) ::k) ds kd ro (· ∈o.op.operands)
 have put:∀ {U:Emb} {p:T AV} {v:AV} {C:Value},E.le U→iG fr.tm fr.nt o.dst v=some p→VR U v C→TR U p fr.nt (match o.dst with|some d=>tmps.setIfInBounds d C|none=>tmps) :=fun hle hp hv=>by
  have:=aAQ (f.tm.mono hle) hp hv;unfold aAP at this;exact this
 split at m
 ·cases m
 · rename_i L;split at m
   · rename_i p n;cases m;refine Goes.one (aAr K (a L)) ⟨f.fn,?_,IRs.cons R Z,f.defers,by simp only [hm];exact rfl,f.kind,f.round⟩ fs r (Ext.refl _ _ _);simp only [Frame.finish,V];exact put (Emb.le.refl E) n (sJ E)
   ·cases m
 · rename_i L;split at m
   · rename_i v h2 j;split at m
     · rename_i p n;cases m;have u:=aHy j;obtain⟨U,w',C,z,Q,g3,I⟩ :=mY r B j;have ff:FR U {fr with tm:=p,todo:=.ops all (succ i) rest::ak,mode:=.run} ((rf fn tmps (.inRegion all (i::range' (i+1) rest.length) ::k) ds kd ro).finish C) :=by
        simp only [Frame.finish,V];exact⟨f.fn,put I.le n Q,IRs.cons (R.mono I.le) (Z.mono I.le),f.defers.mono I.le,by simp only [hm];exact rfl,f.kind,f.round.mono I.le⟩
       rcases z with z| ⟨z,rfl⟩
       ·exact Goes.one (tX K (a L) (.inr u) z) ff (fs.mono I.le) g3 I
       ·exact Goes.one (aE7 K (a L) (.inr u) z) ff (fs.mono I.le) g3 I
     ·cases m
   · rename_i c j;unfold rU at m;split at m
     · rename_i g hg;cases m;have u:=aFc j;obtain⟨nx,G,z,Q,g3⟩ :=rX r hg (mY r B j);have S:FRs E (fr::cs) (rf fn tmps (.inRegion all (i::range' (i+1) rest.length) ::k) ds kd ro::ccs) :=FRs.cons f fs;rcases Q with⟨f',args,rfl,rfl⟩ | ⟨l,f',t,aS,bd,rfl,rfl⟩
       ·exact Goes.one (aE8 K (a L) (.inr u) z) g3 S r (Ext.refl _ _ _)
       ·exact Goes.one (aE9 K (a L) (.inr u) z) g3 S r (Ext.refl _ _ _)
     ·cases m
   · rename_i d j;split at m
     · rename_i p D n;cases m;have y:=f.round;rw [D]at y;simp only [RR]at y;subst y;obtain⟨cd,z,Q⟩ :=mY r B j;refine Goes.one (aLt K (a L) z) ?_ fs r (Ext.refl _ _ _);simp only [Frame.finish,V];exact⟨f.fn,put (Emb.le.refl E) n (sJ E),IRs.cons R Z,DRs.cons Q f.defers,by simp only [hm];exact rfl,f.kind,by simp only [D];exact rfl⟩
     ·cases m
   · rename_i v j;cases m;obtain⟨C,z,Q⟩ :=mY r B j;have u:∀c,o.op≠ .defer c:=by
      intro c hc;unfold kH at j;split at j
      ·rename_i r hr;cases j;obtain⟨d,e⟩ :=aAR c hc hr;cases e
      ·rw [aCF c hc]at j;cases j
     exact Goes.one (aLu K (a L) (.inr u) z) (xG f (ps:=[{v:=C,recovered:=false}]) ⟨C,[],rfl,Q,rfl⟩) fs r (Ext.refl _ _ _)
   · rename_i j;split at m
     · rename_i c cs' D hkd;have y:=f.round;rw [D]at y;simp only [RR]at y;subst y;have fk:=f.kind;rw [hkd]at fk;simp only at fk;subst fk;obtain⟨W,s,rfl,M,f2⟩ :=fs.cons_inv;have z: (execOp (rf fn tmps (.inRegion all (i::range' (i+1) rest.length) ::k) ds .deferred none).eval o).run P w= .ok .recover w:=mY r B j;have H:=aG4 (P:=P) (k:=k) (ds:=ds) (cs:=s++base) (fn:=fn) (rest:=range' (i+1) rest.length) (tmps:=tmps) K (a L) (c:=W) z;have A:=M.mode;split at m
       · rename_i v older q;split at m
         · rename_i p n;cases m;rw [q]at A;simp only [MR,CR]at A;obtain⟨ps,e1,C,O,rfl,J,e3⟩ :=A;rw [e1]at H;simp only at H;refine Goes.one (cs':={W with mode:=.panicking ({v:=C,recovered:=true}::O)}::s) H ?_ (FRs.cons ⟨M.fn,M.tm,M.todo,M.defers,⟨_,rfl,C,O,rfl,J,e3⟩,M.kind,M.round⟩ f2) r (Ext.refl _ _ _);simp only [Frame.finish,V];exact⟨f.fn,put (Emb.le.refl E) n J,IRs.cons R Z,f.defers,by simp only [hm];exact rfl,f.kind,f.round⟩
         ·cases m
       · rename_i hno;split at m
         · rename_i p n;cases m;have X:step P (lone (rf fn tmps (.inRegion all (i::range' (i+1) rest.length) ::k) ds .deferred none) (W:: (s++base)) w) = .next (lone ((rf fn tmps (.inRegion all (i::range' (i+1) rest.length) ::k) ds .deferred none).finish .nilIface) (W:: (s++base)) w) :=by
            rw [H];split
            · rename_i v older q;exfalso;cases F:c.mode with
              |run=>rw [F]at A;simp only [MR]at A;rw [A]at q;cases q
              |ret=>rw [F]at A;simp only [MR]at A;rw [A]at q;cases q
              | pan N=>
               rw [F]at A;simp only [MR]at A;obtain⟨ps,e1,J⟩ :=A;rw [e1]at q;cases q;cases N with
               |nil=>simp only [CR]at J;cases J
               | cons x xs=>
                obtain⟨xv,xb⟩ :=x;simp only [CR]at J;obtain⟨C,O,J,_,_⟩ :=J;cases J;exact hno _ _ F
            ·rfl
           refine Goes.one (cs':=W::s) X ?_ (FRs.cons M f2) r (Ext.refl _ _ _);simp only [Frame.finish,V];exact⟨f.fn,put (Emb.le.refl E) n (by simp only [VR]),IRs.cons R Z,f.defers,by simp only [hm];exact rfl,f.kind,f.round⟩
         ·cases m
     ·cases m
   ·cases m
end
section
variable {fn :FuncId} {tmps:Array Value} {ds:List Deferred} {kd:CallKind} {ro:Option Nat} {ccs base:List Frame} {todo:List Item}
theorem aVJ (r:Rel E h w.heap){fr:AFrame}{cs:List AFrame}{call:bP}{g:Operand}{ps:Array Nat}{assign body:Code}{ak:List AItem}(hm:fr.mode= .run)(htd:fr.todo= .code (.rangeFunc g ps assign body) ::ak)
  (f:FR E fr (rf fn tmps todo ds kd ro)) (fs:FRs E cs ccs) {s':AS} (h0:lS P call ⟨fr,cs,h⟩ =some s') :Goes P E h (rf fn tmps todo ds kd ro) ccs w base s':=by
 unfold lS at h0;simp only [hm,htd]at h0;have ft:=f.todo;rw [htd]at ft;obtain⟨it,k,e,i1,i2⟩ :=ft.cons_inv;simp only at e;subst e;simp only [IR]at i1;subst i1;have hfn:fn=fr.fn:=f.fn;split at h0
 ·cases h0
 · rename_i fv hfv;have fr0:=f.round
   have res:∀ {E':Emb} {h2:Hp} {w2:World} {L:Loc} {la:Nat} {mark:List Deferred} {todo':List AItem} {defers':List ADef} {c:AIn},Ext E h w E' h2 w2→Rel E' h2 w2.heap→E' la=some L →
     (Instr.enterLoop fn tmps ps assign body ro).run P w= .ok (L.blk,mark) w2→wB P fv [.yield la] =some (.call c) →DRs E' defers' (mark++ds) →IRs E' todo' (.inRangeFunc L.blk::k) →
     rU P {fr with todo:=todo',defers:=defers'} cs h2 c=some s'→Goes P E h (rf fn tmps (.code (.rangeFunc g ps assign body) ::k) ds kd ro) ccs w base s':=by
    intro E' h2 w2 L la mark todo' defers' c x r2 hL he hc hds htd' h0;unfold rU at h0;split at h0
    · rename_i G hG;cases h0;have hρ:=TR.reads (E:=E') (f.tm.mono x.le) fn (.inRangeFunc L.blk::k) (mark++ds) kd ro (fun _=>True);obtain⟨d,k1,k2⟩ :=aBr (P:=P) (cargs:=[.func (.yield L.blk) #[] #[]]) r2 hc (hρ g trivial _ hfv) (VRs.cons (by simp only [VR];exact⟨L,hL,rfl⟩) (VRs.nil E'));obtain⟨nx,CG,g1,g2,g3⟩ :=rX r2 hG k2;have hres: (resolve (rf fn tmps (.inRangeFunc L.blk::k) (mark++ds) kd ro).eval {callee:=.value g,args:= #[.const (.func (.yield L.blk) #[] #[])],argTypes:= #[]} 0).run P w2= .ok d w2:=by
       simp only [resolve];rw [show(#[Operand.const (.func (.yield L.blk) #[] #[])] :Array Operand).map (rf fn tmps (.inRangeFunc L.blk::k) (mark++ds) kd ro).eval= ⟨[.func (.yield L.blk) #[] #[]]⟩from by simp [Frame.eval]];exact k1
      exact Goes.one (cs':=rf fn tmps (.inRangeFunc L.blk::k) (mark++ds) kd ro::ccs) (aIU he hres g1 g2) g3
       (FRs.cons ⟨f.fn,f.tm.mono x.le,htd',hds,by simp only [hm];exact rfl,f.kind,f.round.mono x.le⟩ (fs.mono x.le)) r2 x
    ·cases h0
   have hps:ps= ⟨ps.toList⟩ :=rfl;split at h0
   · rename_i hro;rw [hro]at fr0;simp only [RR]at fr0;subst fr0;obtain⟨L,Ld,w2,E',e1,e2,e3,r2,x⟩ :=aFf (P:=P) r f.tm ps.toList assign body (fn:=fn);split at h0
     · rename_i c hc;refine res (E':=E') (w2:=w2) (L:=L) (la:=h.nb+1) (mark:=[{target:=.collected Ld.blk,args:= #[]}]) (todo':=.inRF (h.nb+1) ::ak) (defers':=.col h.nb::fr.defers) (h2:= (h.new (.defd false)).new (.loop .ready none fr.fn fr.tm fr.nt ps.toList assign body h.nb)) (c:=c) ?_ ?_ e3 e1 hc ?_ ?_ ?_
       ·rw [←hfn];exact x
       ·rw [←hfn];exact r2
       ·exact DRs.cons ⟨Ld,e2,rfl⟩ (f.defers.mono x.le)
       ·exact IRs.cons ⟨L,e3,rfl⟩ (i2.mono x.le)
       ·simp only [hm];exact h0
     ·cases h0
   · rename_i o hro;rw [hro]at fr0;obtain⟨Lo,hEo,rfl⟩ :=uD fr0;split at h0
     · rename_i st pe fn' tm' nt' ps' as' bd' df hl;obtain⟨L,w2,E',e1,e3,r2,x⟩ :=aFg (P:=P) r hEo hl f.tm ps.toList assign body (fn:=fn);split at h0
       · rename_i c hc;refine res (E':=E') (w2:=w2) (L:=L) (la:=h.nb) (mark:=[]) (todo':=.inRF h.nb::ak) (defers':=fr.defers) (h2:=h.new (.loop .ready none fr.fn fr.tm fr.nt ps.toList assign body df)) (c:=c) ?_ ?_ e3 e1 hc ?_ ?_ ?_
         ·rw [←hfn];exact x
         ·rw [←hfn];exact r2
         ·exact f.defers.mono x.le
         ·exact IRs.cons ⟨L,e3,rfl⟩ (i2.mono x.le)
         ·simpa [hm,hro]using h0
       ·cases h0
     ·cases h0
theorem xH {call:bP}(hc:eF P call){s s':AS}(h0:lS P call s=some s'){fr:Frame}(f:FR E s.fr fr)(fs:FRs E s.cs ccs)(r:Rel E s.h w.heap)(base:List Frame) :Goes P E s.h fr ccs w base s':=by
 obtain⟨afr,cs,h⟩ :=s;simp only at f fs r ⊢;cases hm:afr.mode with
 | run =>
  have e:=f.run hm;generalize fr.fn=fn at e;generalize fr.tmps=tmps at e;generalize fr.todo=todo at e;generalize fr.defers=ds at e;generalize fr.kind=kd at e;generalize fr.roundOf=ro at e;subst e;have ft:=f.todo;simp only at ft;cases htd:afr.todo with
  | nil=>
   rw [htd]at ft;have e:=ft.nil_inv;subst e;unfold lS at h0;simp only [hm,htd]at h0;exact oZ r f fs h0 (.inl ⟨rfl,rfl⟩)
  | cons it ak=>
   rw [htd]at ft;obtain⟨ci,ck,e,i1,i2⟩ :=ft.cons_inv;subst e;have h00:=h0;unfold lS at h0;simp only [hm,htd]at h0;cases it with
   | code c=>
    simp only [IR]at i1;subst i1;cases c with
    |ret=>exact oZ r f fs h0 (.inr (.inl ⟨ck,rfl,rfl⟩))
    |skip=>exact hR r f hm fs h0 i2 bA8
    |label l=>exact hR r f hm fs h0 i2 (aVA l)
    |seq a b=>exact hR r f hm fs h0 (IRs.cons rfl (IRs.cons rfl i2)) (bFH a b)
    | cond c x y=>
     simp only at h0;have hρ:=TR.reads (E:=E) f.tm fn (.code (.cond c x y) ::ck) ds kd ro (fun _=>True);split at h0
     · rename_i hcv;have:=hρ c trivial _ hcv;simp only [VR]at this;exact hR r f hm fs h0 (IRs.cons rfl i2) (aRB c x y true this)
     · rename_i hcv;have:=hρ c trivial _ hcv;simp only [VR]at this;exact hR r f hm fs h0 (IRs.cons rfl i2) (aRB c x y false this)
     ·cases h0
    |block id c=>exact hR r f hm fs h0 (IRs.cons rfl (IRs.cons rfl i2)) (aVB id c)
    |loop c=>exact hR r f hm fs h0 (IRs.cons rfl (IRs.cons rfl i2)) (bA9 c)
    |scope c=>exact hR r f hm fs h0 (IRs.cons rfl (IRs.cons rfl i2)) (aVC c)
    | exit id=>
     simp only at h0;split at h0
     · rename_i k' hk';obtain⟨ck',g1,g2⟩ :=uB id hk' i2;exact hR r f hm fs h0 g2 (bBb id g1)
     · rename_i hk';exact oZ r f fs h0 (.inr (.inr (.inl ⟨id,ck,rfl,rfl,rA id hk' i2⟩)))
    | goto l=>
     simp only at h0;split at h0
     · rename_i k' hk';obtain⟨ck',g1,g2⟩ :=uC l hk' i2;exact hR r f hm fs h0 g2 (bBc l g1)
     · rename_i hk';exact oZ r f fs h0 (.inr (.inr (.inr ⟨l,ck,rfl,rfl,rB l hk' i2⟩)))
    | region id ops draw=>
     cases draw with
     | false=>
      refine hR r f hm fs h0 (IRs.cons ⟨?_,rfl⟩ i2) (aS0 id);rw [List.range_eq_range'];simp
     | true=>
      simp only at h0;split at h0
      · rename_i tm' h' hr;cases h0;obtain⟨E',w',tmps',s1,t1,r1,x1⟩ :=aI0 hc hr r f.tm id fn ds kd ro ck (ccs++base);exact⟨E',_,ccs,w',s1,⟨f.fn,t1,i2.mono x1.le,f.defers.mono x1.le,by simp only [hm];exact rfl,f.kind,f.round.mono x1.le⟩,fs.mono x1.le,r1,x1⟩
      ·cases h0
    |rangeFunc g ps assign body=>exact aVJ r hm htd f fs h00
    |refuse _=>cases h0
   |inBlock id=>simp only [IR]at i1;subst i1;exact hR r f hm fs h0 i2 (aOw id)
   |inLoop c=>simp only [IR]at i1;subst i1;exact hR r f hm fs h0 (IRs.cons rfl (IRs.cons rfl i2)) (aSZ c)
   |inScope c=>simp only [IR]at i1;subst i1;exact hR r f hm fs h0 i2 (aOx c)
   | ops all i rest=>
    cases rest with
    | nil=>
     simp only [IR]at i1;obtain⟨rfl,_⟩ :=i1;exact hR r f hm fs h0 i2 (by simpa using aAs)
    |cons o rest=>exact aS4 r hm htd f fs h00
   |inRF l=>cases h0
   |junk=>cases h0
   | endRF l=>
    simp only [IR]at i1;obtain⟨L,hE,rfl⟩ :=i1;simp only at h0;split at h0
    ·cases h0
    · rename_i st pe fn' tm' nt' ps' as' bd' df hno hl;cases h0;obtain⟨w',g1,g2,g3⟩ :=aG7 (P:=P) r hE (fun e=>hno e) hl;refine Goes.one (cs':=ccs) (aVD g1) ⟨f.fn,f.tm,?_,f.defers,by simp only [hm];exact rfl,f.kind,f.round⟩ fs g2 g3;cases pe with
      |none=>simpa using i2
      |some c=>simpa using IRs.cons (E:=E) (a:=.code c) (i:=.code c) rfl i2
    ·cases h0
   | beginRound=>
    simp only [IR]at i1;subst i1;simp only at h0;split at h0
    ·cases h0
    · rename_i l hro;have fr0:=f.round;rw [hro]at fr0;obtain⟨L,hE,rfl⟩ :=uD fr0;split at h0
      · rename_i pe fn' tm' nt' ps' as' bd' df hl;cases h0;obtain⟨w',g1,g2,g3⟩ :=aCH (P:=P) r hE hl;exact Goes.one (cs':=ccs) (aG6 g1) ⟨f.fn,f.tm,i2,f.defers,by simp only [hm];exact rfl,f.kind,by simp only [hro];exact⟨L,hE,rfl⟩⟩ fs g2 g3
      ·cases h0
 | ret =>
  have fm:=f.mode;rw [hm]at fm;simp only [MR]at fm;have hnr:fr.mode≠ .run:=by rw [fm];intro e;cases e
  have fd:=f.defers;unfold lS at h0;simp only [hm]at h0;split at h0
  · rename_i b dl hdl;rw [hdl]at fd;obtain⟨d,ds',e,d1,d2⟩ :=fd.cons_inv;obtain⟨L,hE,rfl⟩ :=d1;split at h0
    · rename_i hb;cases h0;obtain⟨w',g1,g2,g3⟩ :=pX (P:=P) r hE hb;exact Goes.one (cs':=ccs) (aBy hnr e g1) ⟨f.fn,f.tm,f.todo,d2,by simp only [hm];exact fm,f.kind,f.round⟩ fs g2 g3
    ·cases h0
  · rename_i g args dl hdl;rw [hdl]at fd;obtain⟨d,ds',e,d1,d2⟩ :=fd.cons_inv;obtain⟨cap,a,rfl,ha⟩ :=d1;cases hcl:eV P g with
    |false=>rw [hcl]at h0;cases h0
    | true=>
     rw [hcl]at h0;simp only [cond]at h0;split at h0
     · rename_i G hG;cases h0;have:=jU hG ha;refine Goes.one (cs':={fr with defers:=ds'}::ccs) (aDr hnr e hcl) ?_ (FRs.cons ⟨f.fn,f.tm,f.todo,d2,by simp only [hm];exact fm,f.kind,f.round⟩ fs) r (Ext.refl _ _ _);rw [show(⟨a⟩ :Array Value) ++ ⟨cap⟩ = ⟨a++cap⟩by apply Array.ext';simp];exact this
     ·cases h0
  · rename_i hdl;rw [hdl]at fd;have e:=fd.nil_inv;split at h0
    ·cases h0
    · rename_i fdd hfd;split at h0
      · rename_i vs hvs;obtain⟨cv,g1,g2⟩ :=xF r f.tm hvs;obtain⟨c,cs1,rfl,k1,k2,k3,k4⟩ :=aAy f.kind fs h0 g2;refine Goes.one (cs':=cs1) (aLv fm e (by rw [f.fn];exact hfd) g1 k4) k1 k2 (by rw [k3];exact r) (by rw [k3];exact Ext.refl _ _ _)
      ·cases h0
 | pan chain=>
  have fm:=f.mode;rw [hm]at fm;simp only [MR]at fm;obtain⟨ps,fm,hcr⟩ :=fm;have hnr:fr.mode≠ .run:=by rw [fm];intro e;cases e
  have fd:=f.defers;unfold lS at h0;simp only [hm]at h0;split at h0
  · rename_i b dl hdl;rw [hdl]at fd;obtain⟨d,ds',e,d1,d2⟩ :=fd.cons_inv;obtain⟨L,hE,rfl⟩ :=d1;split at h0
    · rename_i hb;cases h0;obtain⟨w',g1,g2,g3⟩ :=pX (P:=P) r hE hb;exact Goes.one (cs':=ccs) (aBy hnr e g1) ⟨f.fn,f.tm,f.todo,d2,by simp only [hm];exact⟨ps,fm,hcr⟩,f.kind,f.round⟩ fs g2 g3
    ·cases h0
  · rename_i g args dl hdl;rw [hdl]at fd;obtain⟨d,ds',e,d1,d2⟩ :=fd.cons_inv;obtain⟨cap,a,rfl,ha⟩ :=d1;cases hcl:eV P g with
    |false=>rw [hcl]at h0;cases h0
    | true=>
     rw [hcl]at h0;simp only [cond]at h0;split at h0
     · rename_i G hG;cases h0;have:=jU hG ha;refine Goes.one (cs':={fr with defers:=ds'}::ccs) (aDr hnr e hcl) ?_ (FRs.cons ⟨f.fn,f.tm,f.todo,d2,by simp only [hm];exact⟨ps,fm,hcr⟩,f.kind,f.round⟩ fs) r (Ext.refl _ _ _);rw [show(⟨a⟩ :Array Value) ++ ⟨cap⟩ = ⟨a++cap⟩by apply Array.ext';simp];exact this
     ·cases h0
  · rename_i hdl;rw [hdl]at fd;have e:=fd.nil_inv;split at h0
    · rename_i fdd c cs' hfd;cases h0;obtain⟨cc,ccs',rfl,f1,f2⟩ :=fs.cons_inv;exact Goes.one (cs':=ccs') (wT fm e (by rw [f.fn];exact hfd)) (xG f1 hcr) f2 r (Ext.refl _ _ _)
    ·cases h0
end
def GrownO (W W':World) :Prop:=W.keptBut W' (fun _=>False) ∧ (∀a:Addr,a.block<W.heap.size→W'.frozen? a=W.frozen? a) ∧W.heap.size≤W'.heap.size
theorem aDv {s:AS}{v:AV}{h':Hp}(a:wE P s=some (v,h')){fr:Frame}(f:FR E s.fr fr)(r:Rel E s.h w.heap)(x:Frame)(base:List Frame) :
  s.cs= [] ∧∃n w',step P (lone fr (x::base) w) = .next (lone (x.finish n) base w') ∧VR E v n∧Rel E h' w'.heap∧Ext E s.h w E h' w':=by
 obtain⟨u,S,h⟩ :=s;unfold wE at a;simp only at a f r ⊢;split at a
 · rename_i hk;refine⟨rfl,?_⟩;have y:=f.kind;rw [hk]at y;have C:=f.mode;have J:=f.defers;have p:=f.round;have j:=f.todo
   have i:∀ {l:Nat} {c:Option Code} {o:Hp} {b:Bool},u.mode= .run→u.roundOf=some l→lF h l c=some o→b=c.isNone →
     ((fr.todo= [] ∧c=none) ∨ (∃k,fr.todo= .code .ret::k∧c=some .ret) ∨ (∃id k,fr.todo= .code (.exit id) ::k∧c=some (.exit id) ∧exitTo id k=none) ∨ (∃t k,fr.todo= .code (.goto t) ::k∧c=some (.goto t) ∧gotoIn t k=none)) →
     some (AV.bool b,o) =some (v,h') →∃n w',step P (lone fr (x::base) w) = .next (lone (x.finish n) base w') ∧VR E v n∧Rel E h' w'.heap∧Ext E h w E h' w':=by
    intro l c o b hm hl he hb K a;cases a;rw [hl]at p;obtain⟨L,hE,Q⟩ :=uD p;have e:=f.run hm;rw [Q,y]at e;obtain⟨O,G,A,M⟩ :=xE (P:=P) r hE he;rw [e];refine⟨.bool c.isNone,O,?_,by rw [hb];simp only [VR],A,M⟩;exact wS (.inl rfl) K G
   split at a
   · rename_i hm d;split at a
     · rename_i N F D;rw [hm]at C;simp only [MR]at C;rw [F]at J;split at a
       · rename_i R B;cases a;obtain⟨n,G,A⟩ :=xF r f.tm B;refine⟨n,w,?_,A,r,Ext.refl _ _ _⟩;rw [aLv C J.nil_inv (by rw [f.fn];exact D) G (.inl y)];simp only [handed,y]
       ·cases a
     ·cases a
   · rename_i l hm d g;rw [g]at j;split at a
     · rename_i o he;exact i hm d he rfl (.inl ⟨j.nil_inv,rfl⟩) a
     ·cases a
   · rename_i l k hm d g;rw [g]at j;obtain⟨I,q,e,m,z⟩ :=j.cons_inv;simp only [IR]at m;subst m;split at a
     · rename_i o he;exact i hm d he rfl (.inr (.inl ⟨q,e,rfl⟩)) a
     ·cases a
   · rename_i l id k hm d g;rw [g]at j;obtain⟨I,q,e,m,z⟩ :=j.cons_inv;simp only [IR]at m;subst m;split at a
     ·cases a
     · rename_i H;split at a
       · rename_i o he;exact i hm d he rfl (.inr (.inr (.inl ⟨id,q,e,rfl,rA id H z⟩))) a
       ·cases a
   · rename_i l t k hm d g;rw [g]at j;obtain⟨I,q,e,m,z⟩ :=j.cons_inv;simp only [IR]at m;subst m;split at a
     ·cases a
     · rename_i H;split at a
       · rename_i o he;exact i hm d he rfl (.inr (.inr (.inr ⟨t,q,e,rfl,rB t H z⟩))) a
       ·cases a
   ·cases a
 ·cases a
theorem aFi {call:bP}(hc:eF P call) :∀ {n:Nat} {s:AS} {v:AV} {i:Hp},aID P call n s=some (v,i) →∀ (E:Emb) (w:World) (fr:Frame) (c:List Frame),FR E s.fr fr→FRs E s.cs c→Rel E s.h w.heap→∀e a,
  ∃g d h,Steps P (lone fr (c++e::a) w) (lone (e.finish g) a d) ∧VR h v g∧Rel h i d.heap∧Ext E s.h w h i d
 |0,s,v,i,b=>by simp [aID]at b
 | n + 1,s,v,i,b=>by
  intro E w fr c f fs r e a;simp only [aID]at b;split at b
  · rename_i x G;cases b;obtain⟨u,g,d,B,j,p,o⟩ :=aDv G f r e a;rw [u]at fs;rw [fs.nil_inv];exact⟨g,d,E,.one B,j,p,o⟩
  · split at b
    · rename_i H k;obtain⟨y,q,l,F,t,C,m,z,A⟩ :=xH hc k f fs r (e::a);obtain⟨g,d,h,D,j,p,o⟩ :=aFi hc b y F q l C m z e a;exact⟨g,d,h,t.trans D,j,p,A.trans o⟩
    ·cases b
theorem uE (n:Nat) :∀d,eF P (wF P n d)
 |0=>fun _ c h v m a=>by simp [wF]at a
 | d +1=>fun _ c h v m a=>by
  simp only [wF]at a;split at a
  · rename_i g q;refine⟨g,q,fun E w G r f hk o b=>?_⟩;obtain⟨s,i,j,l,e,k,p⟩ :=aFi (uE n d) a E w G [] f rfl r o b;exact⟨s,i,j,l,e,k,p⟩
  ·cases a
noncomputable def aCI (P:Program)(call:bP) :Nat→AS→Option AS
 |0,s=>some s
 | n+1,s=>match lS P call s with
  |some s'=>aCI P call n s'
  |none=>none
def Leads (P:Program)(s s':AS) :Prop:=∀ (E:Emb) (fr:Frame) (ccs:List Frame) (w:World) (base:List Frame),FR E s.fr fr→FRs E s.cs ccs→Rel E s.h w.heap→Goes P E s.h fr ccs w base s'
theorem Leads.trans {a b c:AS}(h1:Leads P a b)(h2:Leads P b c) :Leads P a c:=fun E fr i w d f fs r=>by
 obtain⟨u,h,g,x,o,p,k,m,n⟩ :=h1 E fr i w d f fs r;obtain⟨s,j,e,z,v,y,l,t,q⟩ :=h2 u h g x d p k m;exact⟨s,j,e,z,o.trans v,y,l,t,n.trans q⟩
theorem Leads.refl (a:AS) :Leads P a a:=fun E fr b w c f fs r=> ⟨E,fr,b,w,Steps.refl _ _,f,fs,r,Ext.refl _ _ _⟩
theorem rC {call:bP}(hc:eF P call) :∀ {n:Nat} {s c:AS},aCI P call n s=some c→Leads P s c
 |0,s,c,a=>by simp [aCI]at a;subst a;exact Leads.refl s
 | n +1,s,c,a=>by
  simp only [aCI]at a;split at a
  · rename_i g d;exact Leads.trans (fun E fr e w b f fs r=>xH hc d f fs r b) (rC hc a)
  ·cases a
theorem uF (call:bP) :∀ (n:Nat) (s:AS),nP P call n s=aCI P call n s
 |0,_=>rfl
 | n+1,s=>by
  show(match aVu P call s with|some a=>nP P call n a|none=>none) = (match lS P call s with|some a=>aCI P call n a|none=>none);rw [aVv P call s];cases lS P call s with
  |none=>rfl
  |some a=>exact uF call n a
end
section
variable {P :Program}
structure ExtM (m:Nat) (E:Emb) (h:Hp) (w:World) (E':Emb) (h':Hp) (w':World) :Prop where
 low:∀b,b<m→E' b=E b
 imm:∀k C,E.imm k=some C→E'.imm k=some C
 size:w.heap.size≤w'.heap.size
 keep:∀i,i<w.heap.size→ (∀b o L,h.look b=some o→E b=some L→¬Own o L i) →w'.heap[i]?=w.heap[i]?
 own:∀b' o' L',h'.look b'=some o'→E' b'=some L'→∀i,Own o' L' i→i<w.heap.size→∃b o L,h.look b=some o∧E b=some L∧Own o L i
 nb:m≤h'.nb
 os:w'.os=w.os
 tape:w'.tape=w.tape
 output:w'.output=w.output
 froz:∀a,a.block<w.heap.size→w'.frozen? a=w.frozen? a
 immo:∀k C,E'.imm k=some C→k<w.heap.size→E.imm k=some C∨∃b o L,h.look b=some o∧E b=some L∧Own o L k
 keys:∀b o,h'.look b=some o→b<m→∃o0,h.look b=some o0
theorem Ext.toM {E E':Emb}{h h':Hp}{w w':World}(x:Ext E h w E' h' w'){m:Nat}(hm:m≤h.nb) :ExtM m E h w E' h' w':=
 ⟨fun b hb=>x.low b (lt_of_lt_of_le hb hm),x.le.2,x.size,x.keep,x.own,le_trans hm x.nb,x.os,x.tape,x.output,x.froz,x.immo,fun b o e hb=>x.keys b o e (lt_of_lt_of_le hb hm)⟩
theorem ExtM.le {E E':Emb}{h h':Hp}{w w':World}(x:ExtM h.nb E h w E' h' w')(r:Rel E h w.heap) :E.le E':=
 ⟨fun b L e=>by rw [x.low b (r.nb_gt e)];exact e,x.imm⟩
theorem ExtM.toExt {E E':Emb}{h h':Hp}{w w':World}(x:ExtM h.nb E h w E' h' w')(r:Rel E h w.heap) :Ext E h w E' h' w':=
 ⟨x.le r,x.size,x.keep,x.own,x.nb,x.os,x.tape,x.output,x.low,x.froz,x.immo,x.keys⟩
theorem ExtM.trans {m:Nat}{r t n:Emb}{h1 h2 q:Hp}{u w2 s:World}(a:ExtM m r h1 u t h2 w2)(b:ExtM m t h2 w2 n q s) :ExtM m r h1 u n q s where
 low:=fun x c=> (b.low x c).trans (a.low x c)
 imm:=fun k C e=>b.imm k C (a.imm k C e)
 size:=le_trans a.size b.size
 keep:=fun i f p=>by
  rw [b.keep i (lt_of_lt_of_le f a.size) fun x o L c hE hb=>by
   obtain⟨D,v,B,j,d,l⟩ :=a.own x o L c hE i hb f;exact p D v B j d l]
  exact a.keep i f p
 own:=fun x o L c hE i f h=>by
  obtain⟨w,F,A,j,d,l⟩ :=b.own x o L c hE i f (lt_of_lt_of_le h a.size);exact a.own w F A j d i l h
 nb:=b.nb
 os:=b.os.trans a.os
 tape:=b.tape.trans a.tape
 output:=b.output.trans a.output
 froz:=fun x c=> (b.froz x (lt_of_lt_of_le c a.size)).trans (a.froz x c)
 immo:=fun k C e hk=>by
  rcases b.immo k C e (lt_of_lt_of_le hk a.size)with g| ⟨x,o,L,j,d,l⟩
  ·exact a.immo k C g hk
  ·exact .inr (a.own x o L j d k l hk)
 keys:=fun x o e c=>by
  obtain⟨y,z⟩ :=b.keys x o e c;exact a.keys x y z c
theorem ExtM.refl {m:Nat}{E:Emb}{h:Hp}{w:World}(hm:m≤h.nb) :ExtM m E h w E h w:= (Ext.refl E h w).toM hm
def LeadsM (P:Program)(m:Nat)(s s':AS) :Prop:=m≤s.h.nb→∀ (E:Emb) (fr:Frame) (ccs:List Frame) (w:World) (base:List Frame),FR E s.fr fr→FRs E s.cs ccs→Rel E s.h w.heap →
 ∃E' fr' cs' w',Steps P (lone fr (ccs++base) w) (lone fr' (cs'++base) w') ∧FR E' s'.fr fr'∧FRs E' s'.cs cs'∧Rel E' s'.h w'.heap∧ExtM m E s.h w E' s'.h w'
theorem LeadsM.trans {m:Nat}{a b c:AS}(h1:LeadsM P m a b)(h2:LeadsM P m b c) :LeadsM P m a c:=fun hm E fr i w d f fs r=>by
 obtain⟨v,h,g,y,p,q,k,o,n⟩ :=h1 hm E fr i w d f fs r;obtain⟨t,j,e,A,x,z,l,u,s⟩ :=h2 n.nb v h g y d q k o;exact⟨t,j,e,A,p.trans x,z,l,u,n.trans s⟩
theorem LeadsM.refl {m:Nat}(a:AS) :LeadsM P m a a:=fun hm E fr b w _ f fs r=> ⟨E,fr,b,w,Steps.refl _ _,f,fs,r,ExtM.refl hm⟩
theorem Leads.toM {m:Nat}{a b:AS}(h:Leads P a b) :LeadsM P m a b:=fun hm E fr g w c f fs r=>by
 obtain⟨o,e,d,p,l,n,i,j,k⟩ :=h E fr g w c f fs r;exact⟨o,e,d,p,l,n,i,j,k.toM hm⟩
def pY :bP:=fun _ _ _=>none
theorem bZ :eF P pY:=fun _ _ _ _ _ e=>by cases e
theorem dI {call:bP}(hc:eF P call){m:Nat}{s s':AS}(b:lS P call s=some s') :LeadsM P m s s':=
 Leads.toM fun _ _ _ _ a f fs r=>xH hc b f fs r a
inductive Res where
 |ret (v:AV)
 |pan (chain:List (AV×Bool))
def Got (E:Emb)(cl:Frame) :Res→Frame→Prop
 | .ret v,cl'=>∃cv,cl'=cl.finish cv∧VR E v cv
 | .pan ch,cl'=>∃ps,cl'=cl.raise ps∧CR E ch ps
def Ends (P:Program)(m:Nat)(s:AS)(res:Res)(h':Hp) :Prop:=m≤s.h.nb→∀ (E:Emb) (fr:Frame) (ccs:List Frame) (w:World),FR E s.fr fr→FRs E s.cs ccs→Rel E s.h w.heap→∀ (cl:Frame) (base:List Frame),
 ∃cl' w' E',Steps P (lone fr (ccs++cl::base) w) (lone cl' base w') ∧Got E' cl res cl'∧Rel E' h' w'.heap∧ExtM m E s.h w E' h' w'
theorem LeadsM.ends {m:Nat}{a b:AS}{d:Res}{h':Hp}(h1:LeadsM P m a b)(h2:Ends P m b d h') :Ends P m a d h':=fun hm E fr i w f fs r l c=>by
 obtain⟨v,h,g,y,p,q,j,n,k⟩ :=h1 hm E fr i w (l::c) f fs r;obtain⟨e,z,t,x,o,u,s⟩ :=h2 k.nb v h g y q j n l c;exact⟨e,z,t,p.trans x,o,u,k.trans s⟩
theorem mZ {m:Nat}{s:AS}{v:AV}{h':Hp}(j:wE P s=some (v,h')) :Ends P m s (.ret v) h':=fun hm E fr g w f fs r i a=>by
 obtain⟨h,l,b,d,c,e,k⟩ :=aDv j f r i a;rw [h]at fs;rw [fs.nil_inv];exact⟨_,b,E,.one d,⟨l,rfl,c⟩,e,k.toM hm⟩
def Spec (P:Program)(c:AIn)(h:Hp)(res:Res)(h':Hp) :Prop:=∃g,dG P h c=some g∧Ends P h.nb ⟨g,[],h⟩ res h'
def aK (P:Program)(f:Nat)(args:List AV)(v:AV) :Prop:=∀h,Spec P (.enter f args) h (.ret v) h
def bFL (P:Program)(f:Nat)(args:List AV)(ch:List (AV×Bool)) :Prop:=∀h,Spec P (.enter f args) h (.pan ch) h
theorem Spec.sound {c:AIn}{h h':Hp}{v:AV}(s:Spec P c h (.ret v) h') :∃g,dG P h c=some g ∧
  ∀ (E:Emb) (w:World) (G:Frame),Rel E h w.heap→FR E g G→G.kind= .normal→∀d a,∃e w' b,Steps P (lone G (d::a) w) (lone (d.finish e) a w') ∧VR b v e∧Rel b h' w'.heap∧Ext E h w b h' w':=by
 obtain⟨g,n,he⟩ :=s;refine⟨g,n,fun E w G r f _ d a=>?_⟩;obtain⟨j,w',b,k,⟨e,rfl,i⟩,m,l⟩ :=he (le_refl _) E G [] w f rfl r d a;exact⟨e,w',b,k,i,m,l.toExt r⟩
theorem aAz {m:Nat}{s:AS}{g c d:AFrame}{cs:List AFrame}{h2 l:Hp}{v:AV}(H:LeadsM P m s ⟨g,c::cs,h2⟩)(h1:Ends P h2.nb ⟨g,[],h2⟩ (.ret v) l)(z:c.finish v=some d) :LeadsM P m s ⟨d,cs,l⟩ :=fun hm E fr h w b f fs r=>by
 obtain⟨y,k,x,I,u,B,i,j,n⟩ :=H hm E fr h w b f fs r;obtain⟨J,a,rfl,A,q⟩ :=i.cons_inv;obtain⟨t,D,C,G,⟨K,rfl,p⟩,F,o⟩ :=h1 (le_refl _) y k [] I B rfl j J (a++b);have e:=o.le j;exact⟨C,_,a,D,u.trans G,aBE z (A.mono e) p,q.mono e,F,n.trans ((o.toExt j).toM n.nb)⟩
theorem xI {m:Nat}{s:AS}{g c:AFrame}{cs:List AFrame}{h2 l:Hp}{k:List (AV×Bool)}(F:LeadsM P m s ⟨g,c::cs,h2⟩)(h1:Ends P h2.nb ⟨g,[],h2⟩ (.pan k) l) :LeadsM P m s ⟨c.raise k,cs,l⟩ :=fun hm E fr e w b f fs r=>by
 obtain⟨x,j,v,G,u,z,h,i,n⟩ :=F hm E fr e w b f fs r;obtain⟨H,a,rfl,y,q⟩ :=h.cons_inv;obtain⟨t,B,A,D,⟨I,rfl,p⟩,C,o⟩ :=h1 (le_refl _) x j [] G z rfl i H (a++b);have d:=o.le i;exact⟨A,_,a,B,u.trans D,xG (y.mono d) p,q.mono d,C,n.trans ((o.toExt i).toM n.nb)⟩
def lW (m:Nat)(h h':Hp)(v v':AV) :Prop:=∀ (E:Emb) (w:World),Rel E h w.heap→∃E',E.le E'∧Rel E' h' w.heap∧ExtM m E h w E' h' w∧∀cv,VR E v cv→VR E' v' cv
theorem jJ {m:Nat}{fr:AFrame}{cs:List AFrame}{h h':Hp}{j:Nat}{v v':AV}(u:fr.tm.at j=some v)(d:m≤h.nb→lW m h h' v v') :LeadsM P m ⟨fr,cs,h⟩ ⟨{fr with tm:=fr.tm.put j v'},cs,h'⟩ :=fun hm E s k w l f fs r=>by
 obtain⟨p,b,o,q,n⟩ :=d hm E w r;refine⟨p,s,k,w,Steps.refl _ _,⟨f.fn,⟨f.tm.1,fun t a e=>?_⟩,f.todo.mono b,f.defers.mono b,f.mode.mono b,f.kind,f.round.mono b⟩,fs.mono b,o,q⟩;rw [T.at_put]at e;split at e
 · rename_i d;cases e;subst d;obtain⟨c,i,g⟩ :=f.tm.2 _ _ u;exact⟨c,i,n c g⟩
 · obtain⟨c,i,g⟩ :=f.tm.2 t a e;exact⟨c,i,g.mono b⟩
theorem aHA {m:Nat}{h:Hp}{v v':AV}(b:∀E a,VR E v a→VR E v' a) :m≤h.nb→lW m h h v v':=fun hm E w r=> ⟨E,Emb.le.refl E,r,ExtM.refl hm,b E⟩
theorem aCJ {m:Nat}{h:Hp}(e:Nat) :m≤h.nb→lW m h (h.new (.lst e [])) .nils (.gl h.nb e 0 0 false) :=fun hm E w r=>by
 obtain⟨c,b⟩ :=aHw r e;refine⟨E,Emb.le.refl E,c,b.toM hm,fun d a=>?_⟩;simp only [VR]at a ⊢;exact .inl ⟨trivial,none,a⟩
theorem aFj {m:Nat}{h:Hp}(e:Nat) :m≤h.nb→lW m h h .nils (.ilst e [] true) :=aHA fun E c a=>by
 simp only [VR]at a ⊢;exact⟨[],VRs.nil _,fun _ b=>by(cases b),.inl ⟨rfl,none,0,a,fun _=>rfl,fun _=>rfl⟩⟩
mutual
def AV.frz (b:Nat)(ys:List AV) :AV→AV
 | .gl b' e off len ex=>bif beq b' b then .ilst e ys ex else .gl b' e off len ex
 | .func f fs cs=>.func f (AV.frzL b ys fs) (AV.frzL b ys cs)
 | .meth n r=>.meth n (AV.frz b ys r)
 | .via t f p r=>.via t f p (AV.frz b ys r)
 | .iface t v=>.iface t (AV.frz b ys v)
 | .agg vs=>.agg (AV.frzL b ys vs)
 | .tup vs=>.tup (AV.frzL b ys vs)
 |v=>v
def AV.frzL (b:Nat)(ys:List AV) :List AV→List AV
 | [] =>[]
 |a::aS=>AV.frz b ys a::AV.frzL b ys aS
end
mutual
def AV.frzOk (b e:Nat)(xs ys:List AV) :AV→Prop
 | .gl b' e' off len _=>b'=b→e'=e∧off+len≤xs.length∧ (xs.drop off).take len=ys
 | .func _ fs cs=>AV.frzOkL b e xs ys fs∧AV.frzOkL b e xs ys cs
 | .meth _ r=>AV.frzOk b e xs ys r
 | .via _ _ _ r=>AV.frzOk b e xs ys r
 | .iface _ v=>AV.frzOk b e xs ys v
 | .agg vs=>AV.frzOkL b e xs ys vs
 | .tup vs=>AV.frzOkL b e xs ys vs
 |_=>True
def AV.frzOkL (b e:Nat)(xs ys:List AV) :List AV→Prop
 | [] =>True
 |a::aS=>AV.frzOk b e xs ys a∧AV.frzOkL b e xs ys aS
end
mutual
theorem aCK {E E':Emb}(c:E.le E'){b e:Nat}{xs ys:List AV}(i:∀g len j d,g+len≤xs.length→ (xs.drop g).take len=ys→VR E (.gl b e g len j) d→VR E' (.ilst e ys j) d) :
  ∀ (v:AV) (d:Value),AV.frzOk b e xs ys v→VR E v d→VR E' (AV.frz b ys v) d
 | .gl q s g len j,d,k,r=>by
  simp only [AV.frz,bM,cond_eq_ite,decide_eq_true_eq];split
  · rename_i hb;simp only [AV.frzOk]at k;obtain⟨rfl,n,o⟩ :=k hb;subst hb;exact i g len j d n o r
  ·exact r.mono c
 | .func _ fs m,d,k,r=>by
  simp only [AV.frzOk]at k;simp only [AV.frz,VR]at r ⊢;obtain⟨a,b,f,h,p⟩ :=r;exact⟨a,b,f,aBF c i fs a k.1 h,aBF c i m b k.2 p⟩
 | .meth _ a,d,k,r=>by
  simp only [AV.frzOk]at k;simp only [AV.frz,VR]at r ⊢;obtain⟨u,f,h⟩ :=r;exact⟨u,f,aCK c i a u k h⟩
 | .via _ _ _ a,d,k,r=>by
  simp only [AV.frzOk]at k;simp only [AV.frz,VR]at r ⊢;obtain⟨u,f,h⟩ :=r;exact⟨u,f,aCK c i a u k h⟩
 | .iface _ a,d,k,r=>by
  simp only [AV.frzOk]at k;simp only [AV.frz,VR]at r ⊢;obtain⟨u,f,h⟩ :=r;exact⟨u,f,aCK c i a u k h⟩
 | .agg l,d,k,r=>by
  simp only [AV.frzOk]at k;simp only [AV.frz,VR]at r ⊢;obtain⟨u,f,h⟩ :=r;exact⟨u,f,aBF c i l u k h⟩
 | .tup l,d,k,r=>by
  simp only [AV.frzOk]at k;simp only [AV.frz,VR]at r ⊢;obtain⟨u,f,h⟩ :=r;exact⟨u,f,aBF c i l u k h⟩
 | .bool _,_,_,r=>r.mono c
 | .int _ _,_,_,r=>r.mono c
 | .str _ _,_,_,r=>r.mono c
 | .ptr _ _,_,_,r=>r.mono c
 | .nilp,_,_,r=>r.mono c
 | .slice ..,_,_,r=>r.mono c
 | .nils,_,_,r=>r.mono c
 | .map _,_,_,r=>r.mono c
 | .nilm,_,_,r=>r.mono c
 | .yield _,_,_,r=>r.mono c
 | .nilf,_,_,r=>r.mono c
 | .nili,_,_,r=>r.mono c
 | .ilst ..,_,_,r=>r.mono c
 | .iptr _,_,_,r=>r.mono c
 | .ep ..,_,_,r=>r.mono c
 | .val _,_,_,r=>r.mono c
theorem aBF {E E':Emb}(d:E.le E'){b e:Nat}{xs ys:List AV}(j:∀c len h l,c+len≤xs.length→ (xs.drop c).take len=ys→VR E (.gl b e c len h) l→VR E' (.ilst e ys h) l) :
  ∀ (g:List AV) (f:List Value),AV.frzOkL b e xs ys g→VRs E g f→VRs E' (AV.frzL b ys g) f
 | [],_,_,r=>by simpa [AV.frzL,VRs]using r
 | a::o,_,k,r=>by
  simp only [AV.frzOkL]at k;simp only [AV.frzL,VRs]at r ⊢;obtain⟨u,i,m,p,n⟩ :=r;exact⟨u,i,m,aCK d j a u k.1 p,aBF d j o i k.2 n⟩
end
theorem lK {m:Nat}{h:Hp}{b e:Nat}{xs ys:List AV}{v:AV}(hb:h.look b=some (.lst e xs))(hk:AV.keylessL xs=true)(O:AV.frzOk b e xs ys v) :m≤h.nb→lW m h (h.del b) v (AV.frz b ys v) :=fun hm E w r=>by
 obtain⟨rd,S⟩ :=r.drop b;rcases r.obj0 b _ hb with⟨u1,u2⟩ | ⟨L,hE,C,el,p,X,o2,Q,U,Y⟩
 · cases xs
   case cons x xs=>cases u1
   refine⟨E,Emb.le.refl E,rd,S.toM hm,fun q M=>aCK (Emb.le.refl E) (fun c len ex q W N B=>?_) v q O M⟩;have:ys= [] :=by rw [←N];simp
   subst this;simp only [VR]at B ⊢;rcases B with⟨_,a,rfl⟩ | ⟨L,a,n,hE,_⟩
   ·exact⟨[],VRs.nil _,fun _ s=>by(cases s),.inl ⟨rfl,a,0,rfl,fun _=>rfl,fun _=>rfl⟩⟩
   ·rw [u2]at hE;cases hE
 · have G :=r.apart b _ L hb hE L.blk rfl
   let E':Emb:= ⟨E.loc,fun k=>if k=L.blk then some C else E.imm k⟩
   have g:E.le E':= ⟨fun _ _ e=>e,fun k D e=>by
    show(if k=L.blk then some C else E.imm k) =some D;rw [if_neg (fun I=>by rw [I,G]at e;cases e)];exact e⟩
   have f:∀ {x o},(h.del b).look x=some o→x≠b∧h.look x=some o:=fun {x o} e=>by
    rw [lT]at e;split at e
    ·cases e
    ·rename_i y;exact⟨y,e⟩
   have hvl:=Q.length;have J:=fU hk Q;refine⟨E',g,⟨fun x o y=>?_,rd.kin,rd.fresh,fun k D e=>?_,fun x o H y A i R=>?_,rd.keys⟩,⟨fun _ _=>rfl,g.2,le_refl _,fun _ _ _=>rfl,S.own,le_trans hm (le_refl _),rfl,rfl,rfl,fun _ _=>rfl,fun k D e hlt=>?_,fun x o e _=> ⟨o,(f e).2⟩⟩,fun q M=>aCK g (fun c len ex q W N B=>?_) v q O M⟩
   · rcases rd.obj0 x o y with u| ⟨H,g1,F⟩
     ·exact .inl u
     ·exact .inr ⟨H,g1,F.mono g⟩
   · simp only [E']at e;split at e
     ·rename_i l;cases e;subst l;exact⟨el,(0,0),X⟩
     ·exact r.imm k D e
   · obtain⟨h1,V⟩ :=f y;show(if i=L.blk then some C else E.imm i) =none;rw [if_neg (fun I=>yS r hb hE V A h1 (by rw [←I];exact R))];exact r.apart x o H V A i R
   · simp only [E']at e;split at e
     ·rename_i l;subst l;exact .inr ⟨b,_,L,hb,hE,rfl⟩
     ·exact .inl e
   · simp only [VR]at B ⊢;have z:∀u∈p.drop c,okE e u:=fun u s=>U u (List.mem_of_mem_drop s);have K:∀u∈ (p.drop c).take len,okE e u:=fun u s=>z u (List.mem_of_mem_take s);have d: ((p.drop c).take len).length=len:=by rw [List.length_take,List.length_drop];omega
     refine⟨(p.drop c).take len,?_,K,?_⟩
     ·rw [←N];exact((J.drop c).take len).mono g.pp
     · rcases B with⟨rfl,a,rfl⟩ | ⟨L',a,n,t,rfl,F,g3,Z⟩
       ·exact .inl ⟨by simp,a,0,rfl,fun _=>rfl,fun _=>rfl⟩
       · rw [hE]at t;cases t;by_cases hc:n=0
         · subst hc;have:len=0:=by omega
           subst this;exact .inl ⟨by simp,_,0,rfl,fun _=>rfl,fun _=>rfl⟩
         · obtain⟨rfl,g5⟩ :=Z hc;refine .inr ⟨L.blk,_,n,C,by rw [d],by simp [E'],by rw [d];exact F,fun he=>by rw [d];exact g3 he,fun j T=>?_⟩;rw [d]at T;have h6:c*e+len*e≤p.length*e:=by rw [←Nat.add_mul];exact Nat.mul_le_mul_right _ (by omega)
           rw [sM _ z,pJ _ U,List.getElem?_take_of_lt T,List.getElem?_drop,←Y _ (by omega)];congr 1;omega
theorem Rel.reobj {E:Emb}{h:Hp}{H:Array Obj}(r:Rel E h H){k:Nat}{o o':AObj}(hk:h.look k=some o)(K:kL o=false)(t:∀L,E k=some L→OR E H L o')
  (h1:bY o'=bY o) (h2:jF o'=jF o) (w:nOf o'=nOf o) (O:∀L i,Own o' L i→Own o L i:=by exact fun _ _ h=>h) :Rel E (h.set k o') H:=by
 have g:∀ {x a},(h.set k o').look x=some a→∃b,h.look x=some b∧bY a=bY b∧jF a=jF b∧nOf a=nOf b∧∀L i,Own a L i→Own b L i:=fun {x a} e=>by
  rw [bA]at e;split at e
  ·rename_i f;cases e;subst f;exact⟨o,hk,h1,h2,w,O⟩
  ·exact⟨a,e,rfl,rfl,rfl,fun _ _ h=>h⟩
 refine⟨fun x a e=>?_,fun x y a S u R C B j F m n=>?_,fun x f=>r.fresh x f,r.imm,fun x a L e j i v=>?_,fun x a e=>?_⟩
 · rw [bA]at e;split at e
   · rename_i f;cases e;subst f;obtain⟨L,p,_⟩ :=r.obj _ _ hk K;exact .inr ⟨L,p,t L p⟩
   ·exact r.obj0 x a e
 · obtain⟨d,c,G,A,z,l⟩ :=g C;obtain⟨J,I,q,D,s,M⟩ :=g B;obtain⟨i,Q,N⟩ :=m;have:=r.kin x y d J u R c I j F ⟨i,l _ _ Q,M _ _ N⟩ n;unfold Kin at this ⊢;rw [G,A,z,q,D,s];exact this
 ·obtain⟨d,c,_,_,_,l⟩ :=g e;exact r.apart x d L c j i (l _ _ v)
 ·obtain⟨d,c,_⟩ :=g e;exact r.keys x d c
theorem jW {m:Nat}{E E':Emb}{h h1:Hp}{w w':World}(x:ExtM m E h w E' h1 w'){k:Nat}{o o':AObj}(hk:h1.look k=some o)(t:∀L i,Own o' L i→Own o L i:=by exact fun _ _ h=>h) :ExtM m E h w E' (h1.set k o') w':=by
 have j:∀ {x a},(h1.set k o').look x=some a→∃g,h1.look x=some g∧∀L i,Own a L i→Own g L i:=fun {x a} e=>by
  rw [bA]at e;split at e
  ·rename_i s;cases e;subst s;exact⟨o,hk,t⟩
  ·exact⟨a,e,fun _ _ h=>h⟩
 exact⟨x.low,x.imm,x.size,x.keep,fun n o' p e q i r d=>by obtain⟨c,f,l⟩ :=j e;exact x.own n c p f q i (l _ _ r) d,x.nb,x.os,x.tape,x.output,x.froz,x.immo,fun b o e hb=>by obtain⟨c,f,_⟩ :=j e;exact x.keys b c f hb⟩
theorem jK {m:Nat}{fr:AFrame}{cs:List AFrame}{h h1:Hp}{k o n:Nat}{t:T AV}{ol:List Nat}{sup:Bool}{v v':AV}(hk:h.look k=some (.cells t n ol sup))(c:h1.look k=some (.cells t n ol sup))(H:t.at o=some v)(y:m≤h.nb→lW m h h1 v v') :
  LeadsM P m ⟨fr,cs,h⟩ ⟨fr,cs,h1.set k (.cells (t.put o v') n ol sup)⟩ :=fun hm E F l w u f fs r=>by
 obtain⟨x,b,z,B,j⟩ :=y hm E w r;have hr:Rel x (h1.set k (.cells (t.put o v') n ol sup)) w.heap:=by
  refine z.reobj c rfl (fun L G=>?_) rfl rfl rfl;obtain⟨K,hE,C,J,A,I,s⟩ :=r.obj _ _ hk;have:=b.1 _ _ hE;rw [G]at this;cases this;refine⟨C,J,A,I,fun i a d=>?_⟩;rw [T.at_put]at d;split at d
  · rename_i D;cases d;subst D;obtain⟨p,e,g,q⟩ :=s _ _ H;exact⟨p,e,g,j e q⟩
  · obtain⟨p,e,g,q⟩ :=s i a d;exact⟨p,e,g,q.mono b⟩
 exact⟨x,F,l,w,Steps.refl _ _,f.mono b,fs.mono b,hr,jW B c⟩
theorem yW {m:Nat}{h:Hp}{b n c e k:Nat}{x g:Bool}{t:T AV}{cs:List AV}(hb:h.look b=some (.cells t k [] false))(hg:getCells t 0 (n*e) =some cs)(h1:cY cs=true)(he:g=false→e=1) :
  m≤h.nb→lW m h (h.set b (.lst e (vU g e n cs))) (.slice b 0 n c e x) (.gl b e 0 n (x&&beq c n)) :=fun hm E w r=>by
 obtain⟨L,hE,C,u,K,U,o3⟩ :=r.obj _ _ hb;obtain⟨hcl,D⟩ :=nQ hg
 have hc:∀j,j<n*e→∃v,C[L.sh+j]?=some v∧∀a,cs[j]?=some a→VR E a v:=fun j d=>by
  have M:=D j d;have Y:cs[j]?=some (cs[j]'(by omega)) :=by simp
  rw [Y,fE]at M;obtain⟨_,v,q,z⟩ :=o3 _ _ M;exact⟨v,q,fun a p=>by rw [Y]at p;cases p;exact z⟩
 have F:L.sh+n*e≤C.size∨n*e=0:=by
  by_cases h0:n*e=0
  ·exact .inr h0
  · obtain⟨v,q,_⟩ :=hc (n*e-1) (by omega);have:= (zq44.1 q).1;exact .inl (by omega)
 let o:= (C.extract L.sh (L.sh+n*e)).toList
 have G:o.length=n*e:=by simp [o];omega
 have f:∀j,j<n*e→o[j]?=C[L.sh+j]?:=fun j d=>by
  simp only [o];rw [rS,Array.getElem?_extract,if_pos (by rcases F with h|h<;>omega)]
 have l:VRs E cs o:=VRs.of_get (by omega) fun i a p=>by
  have N:i<n*e:=by have:= (zq0.1 p).1;omega
  obtain⟨v,q,z⟩ :=hc i N;exact⟨v,by rw [f i N];exact q,z a p⟩
 obtain⟨O,X,I,V,Q⟩ :=wQ g he n l G (l.ones h1)
 have hob:OR E w.heap L (.lst e (vU g e n cs)) := ⟨C,u,O,K,U,X,Q,fun j d=>by
  rw [V]at d;rw [I,f j d]⟩
 obtain⟨J,W⟩ :=r.setObj (o':=.lst e (vU g e n cs)) (.cells C u (0,0)) hb hE rfl rfl (fun H' hH=> ⟨C,u,O,hH,U,X,Q,fun j d=>by
  rw [V]at d;rw [I,f j d]⟩)
 have S: ({w with heap:=w.heap.setIfInBounds L.blk (.cells C u (0,0))}:World) =w:=qV K;have y:w.heap.setIfInBounds L.blk (.cells C u (0,0)) =w.heap:=congrArg World.heap S;rw [y]at J;rw [S]at W;refine⟨E,Emb.le.refl E,J,W.toM hm,fun cv R=>?_⟩;simp only [VR]at R ⊢;obtain⟨L',H,A,s,rfl,g1,g2,g3,g4,Z⟩ :=R;rw [hE]at s;cases s;refine .inr ⟨L,H,A,hE,rfl,by omega,fun he=>?_,fun B=> ⟨by rw [g4 B];omega,Z⟩⟩;simp only [dS]at he;have:=fM he.2;have:=g3 he.1;omega
mutual
def AV.ren (τ:Nat→Nat) :AV→AV
 | .ptr b o=>.ptr (τ b) o
 | .slice b o l c e x=>.slice (τ b) o l c e x
 | .map r=>.map (τ r)
 | .func f fs cs=>.func f (AV.renL τ fs) (AV.renL τ cs)
 | .yield l=>.yield (τ l)
 | .meth n r=>.meth n (AV.ren τ r)
 | .via t f p r=>.via t f p (AV.ren τ r)
 | .iface t v=>.iface t (AV.ren τ v)
 | .agg vs=>.agg (AV.renL τ vs)
 | .tup vs=>.tup (AV.renL τ vs)
 | .gl b e o l x=>.gl (τ b) e o l x
 | .ep b e i o=>.ep (τ b) e i o
 |v=>v
def AV.renL (τ:Nat→Nat) :List AV→List AV
 | [] =>[]
 |a::aS=>AV.ren τ a::AV.renL τ aS
end
def Emb.ren (τ:Nat→Nat)(E:Emb) :Emb:= ⟨fun b=>E (τ b),E.imm⟩
mutual
theorem eO (a:Nat→Nat)(E:Emb) :∀ (v:AV) (c:Value),VR E (AV.ren a v) c↔VR (E.ren a) v c
 | .bool _,_=>by simp [AV.ren,VR]
 | .int _ _,_=>by simp [AV.ren,VR]
 | .str _ _,_=>by simp [AV.ren,VR]
 | .ptr _ _,_=>by simp [AV.ren,VR,Emb.ren]
 | .nilp,_=>by simp [AV.ren,VR]
 | .slice ..,_=>by simp [AV.ren,VR,Emb.ren]
 | .nils,_=>by simp [AV.ren,VR]
 | .map _,_=>by simp [AV.ren,VR,Emb.ren]
 | .nilm,_=>by simp [AV.ren,VR]
 | .func f fs d,_=>by simp only [AV.ren,VR,nR a E fs,nR a E d]
 | .yield _,_=>by simp [AV.ren,VR,Emb.ren]
 | .meth n r,_=>by simp only [AV.ren,VR,eO a E r]
 | .via _ _ _ r,_=>by simp only [AV.ren,VR,eO a E r]
 | .nilf,_=>by simp [AV.ren,VR]
 | .iface _ v,_=>by simp only [AV.ren,VR,eO a E v]
 | .nili,_=>by simp [AV.ren,VR]
 | .agg b,_=>by simp only [AV.ren,VR,nR a E b]
 | .tup b,_=>by simp only [AV.ren,VR,nR a E b]
 | .ilst ..,_=>by simp only [AV.ren,VR];exact Iff.rfl
 | .iptr _,_=>by simp only [AV.ren,VR];exact Iff.rfl
 | .gl ..,_=>by simp [AV.ren,VR,Emb.ren]
 | .ep ..,_=>by simp [AV.ren,VR,Emb.ren]
 | .val _,_=>by simp [AV.ren,VR]
theorem nR (c:Nat→Nat)(E:Emb) :∀ (d:List AV) (b:List Value),VRs E (AV.renL c d) b↔VRs (E.ren c) d b
 | [],_=>by simp [AV.renL,VRs]
 |a::e,_=>by simp only [AV.renL,VRs,eO c E a,nR c E e]
end
theorem aDw (c:Nat→Nat) :∀ (b a:List AV),AV.renL c (b++a) =AV.renL c b++AV.renL c a
 | [],_=>rfl
 |x::b,a=>by simp [AV.renL,aDw c b a]
theorem aN {b:Type}(f:b→AV)(c:∀a,AV.keyless (f a) =true) :∀ (l:List b),AV.keylessL (l.map f) =true
 | [] =>rfl
 |a::d=>by simp [AV.keylessL,c a,aN f c d]
theorem keylessL_mem :∀ {xs:List AV},AV.keylessL xs=true↔∀x∈xs,AV.keyless x=true
 | [] =>by simp [AV.keylessL]
 |x::xs=>by simp [AV.keylessL,keylessL_mem (xs:=xs)]
end
end
end Go.Hb
