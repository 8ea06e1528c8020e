/- A machine on abstract values, its soundness, ways, plain laws. -/
import Derived.Test.YtnljmgihoioocaaGreatHC
import Derived.RowKit3
set_option linter.defProp false
set_option linter.unusedVariables false
set_option linter.unusedSimpArgs false
set_option linter.unusedSectionVars false
set_option maxRecDepth 100000
namespace Go.Hb
open List (getElem?_eq_getElem range')
open Nat (beq blt le_refl le_trans lt_of_lt_of_le lt_or_ge sub_zero testBit zero_add zero_le)
noncomputable section
section
variable {P :Program} {E:Emb} {h h':Hp} {w w':World}
def rE (l:List Oper)(i:Nat) :Option Nat:= (l[i]?).bind (·.dst)
def vK (l:List Oper)(i:Nat) :Nat:=yM (bsOf l) i (eT l 0) 0
def bC4 (l:List Oper)(i:Nat) :Nat:=aHf ((bsOf l).getD i 0) (eT l 0) 0
structure Trace (P:Program) (call:bK) (l:List Oper) (nt:Nat) (R:Nat→RS) (A:Nat→AV) :Prop where
 step:∀i o,l[i]?=some o→gG (R i).tm nt o.dst (A i) =some (R (i+1)).tm∧RC P call l (sH l i o) (R i) (R (i+1)) (A i)
 chain:chained (bsOf l) (eT l 0) =true
 wok:wOk (bsOf l) l l 0=true
 idOk:∀i o,l[i]?=some o→∀e∈o.after.toList,Region.binds .any e=true→e.on<i
 s0: (R 0).s=0
 st0: (R 0).stages= []
 p0: (R 0).pend= []
 a0: (R 0).again= []
 nx: (R l.length).next≤ (R 0).h.nb
 again:wX P ((R l.length).h:: (R l.length).stages) (R l.length).s (R l.length).again
def bM (l:List Oper)(R:Nat→RS)(k:Nat) :Hp:= (((R l.length).h:: (R l.length).stages)[(R l.length).s-k]?).getD (R 0).h
theorem RC.s {call:bK}{l:List Oper}{p:Plan}{r r':RS}{a:AV}(c:RC P call l p r r' a) :r'.s=if p.kd= .eff then r.s+1 else r.s:=by
 cases c with
 |unwE hw ha hk e=>rw [e,hk];rfl
 |unwF hw ha hk e=>rw [e,hk];rfl
 |unwQ hw ha hk e=>rw [e];rcases hk with hk|hk<;>rw [hk] <;>rfl
 |pure hx hw hk h0 e=>rw [e,hk];rfl
 |read hx hw hk h0 e=>rw [e,hk];rfl
 |own vs hw hk h0 h1 e=>rw [e,hk];rfl
 |fresh ob hw hk h0 e=>rw [e,hk];rfl
 |eff h2 hw hk h0 e=>rw [e,hk];rfl
theorem RC.list {call:bK}{l:List Oper}{p:Plan}{r r':RS}{a:AV}(c:RC P call l p r r' a) :
  (p.kd= .eff∧r'.stages=r.h::r.stages) ∨ (p.kd≠ .eff∧r'.h=r.h∧r'.stages=r.stages) :=by
 cases c with
 |unwE hw ha hk e=>left;rw [e,hk];exact⟨rfl,rfl⟩
 |unwF hw ha hk e=>right;rw [e,hk];exact⟨by decide,rfl,rfl⟩
 |unwQ hw ha hk e=>right;rw [e];rcases hk with hk|hk<;>rw [hk] <;>exact⟨by decide,rfl,rfl⟩
 |pure hx hw hk h0 e=>right;rw [e,hk];exact⟨by decide,rfl,rfl⟩
 |read hx hw hk h0 e=>right;rw [e,hk];exact⟨by decide,rfl,rfl⟩
 |own vs hw hk h0 h1 e=>right;rw [e,hk];exact⟨by decide,rfl,rfl⟩
 |fresh ob hw hk h0 e=>right;rw [e,hk];exact⟨by decide,rfl,rfl⟩
 |eff h2 hw hk h0 e=>left;rw [e,hk];exact⟨rfl,rfl⟩
theorem RC.next {call:bK}{l:List Oper}{p:Plan}{r r':RS}{a:AV}(c:RC P call l p r r' a) :r'.next=if p.kd= .fresh then r.next+1 else r.next:=by
 cases c with
 |unwE hw ha hk e=>rw [e,hk];rfl
 |unwF hw ha hk e=>rw [e,hk];rfl
 |unwQ hw ha hk e=>rw [e];rcases hk with hk|hk<;>rw [hk] <;>rfl
 |pure hx hw hk h0 e=>rw [e,hk];rfl
 |read hx hw hk h0 e=>rw [e,hk];rfl
 |own vs hw hk h0 h1 e=>rw [e,hk];rfl
 |fresh ob hw hk h0 e=>rw [e,hk];rfl
 |eff h2 hw hk h0 e=>rw [e,hk];rfl
theorem RC.pend {call:bK}{l:List Oper}{p:Plan}{r r':RS}{a:AV}(c:RC P call l p r r' a) :
  r'.pend=r.pend∨∃ob,p.kd= .fresh∧bP r.tm l p.o=some true∧nA P r.tm r.next p.o=some (a,ob) ∧r'.pend= (p.hi,r.next,ob) ::r.pend:=by
 cases c with
 |unwE hw ha hk e=>left;rw [e]
 |unwF hw ha hk e=>left;rw [e]
 |unwQ hw ha hk e=>left;rw [e]
 |pure hx hw hk h0 e=>left;rw [e]
 |read hx hw hk h0 e=>left;rw [e]
 |own vs hw hk h0 h1 e=>left;rw [e]
 |fresh ob hw hk h0 e=>right;rw [e];exact⟨ob,hk,hw,h0,rfl⟩
 |eff h2 hw hk h0 e=>left;rw [e]
theorem RC.again {call:bK}{l:List Oper}{p:Plan}{r r':RS}{a:AV}(c:RC P call l p r r' a) :∀x∈r.again,x∈r'.again:=by
 cases c with
 | read hx hw hk h0 e=>
  rw [e];intro x hx;simp only;cases beq p.lo p.hi with
  |true=>exact hx
  |false=>exact List.mem_cons_of_mem _ hx
 |unwE hw ha hk e=>rw [e];exact fun _ h=>h
 |unwF hw ha hk e=>rw [e];exact fun _ h=>h
 |unwQ hw ha hk e=>rw [e];exact fun _ h=>h
 |pure hx hw hk h0 e=>rw [e];exact fun _ h=>h
 |own vs hw hk h0 h1 e=>rw [e];exact fun _ h=>h
 |fresh ob hw hk h0 e=>rw [e];exact fun _ h=>h
 |eff h2 hw hk h0 e=>rw [e];exact fun _ h=>h
section
variable {call :bK} {l:List Oper} {nt:Nat} {R:Nat→RS} {A:Nat→AV}
theorem sK {i:Nat}{o:Oper}(h:l[i]?=some o) :i<l.length:= (List.getElem?_eq_some_iff.1 h).1
theorem vL {i:Nat}(h:i<l.length) :∃o,l[i]?=some o:= ⟨_,getElem?_eq_getElem h⟩
theorem aAO (l:List Oper){p q e f:Nat}(hp: (eT l 0)[p]?=some e)(hq: (eT l 0)[q]?=some f) : (p<q↔e<f) :=by
 obtain⟨_,_,h⟩ :=gW l 0;rw [List.pairwise_iff_getElem]at h;obtain⟨hp1,hp2⟩ :=List.getElem?_eq_some_iff.1 hp;obtain⟨hq1,hq2⟩ :=List.getElem?_eq_some_iff.1 hq;constructor
 ·intro g;have:=h p q hp1 hq1 g;rw [hp2,hq2]at this;exact this
 · intro g;rcases Nat.lt_trichotomy p q with k|k|k
   ·exact k
   ·subst k;rw [hp]at hq;cases hq;omega
   ·have:=h q p hq1 hp1 k;rw [hp2,hq2]at this;omega
theorem Trace.cnt (T:Trace P call l nt R A) :∀i,i≤l.length→ (R i).s≤ (eT l 0).length∧∀q e,(eT l 0)[q]?=some e→ (q< (R i).s↔e<i)
 |0,_=>by rw [T.s0];exact⟨zero_le _,fun q e _=>by omega⟩
 | i + 1,hi=>by
  obtain⟨h1,h2⟩ :=T.cnt i (by omega);obtain⟨o,ho⟩ :=vL (l:=l) (i:=i) (by omega);have hs:= (T.step i o ho).2.s;by_cases hk:cK o.op= .eff
  · rw [if_pos (show(sH l i o).kd= .eff from hk)]at hs;obtain⟨q,hq⟩ := (gW l 0).2.1 i o ho hk;rw [zero_add]at hq;have hql:= (List.getElem?_eq_some_iff.1 hq).1;have hqs: (R i).s=q:=by
     rcases Nat.lt_trichotomy (R i).s q with k|k|k
     · obtain⟨e,he⟩ :∃e,(eT l 0)[(R i).s]?=some e:= ⟨_,getElem?_eq_getElem (by omega)⟩;have:= (aAO l he hq).1 k;have:= (h2 _ _ he).2 this;omega
     ·exact k
     ·have:= (h2 _ _ hq).1 k;omega
    rw [hs,hqs];refine⟨by omega,fun q' e' he'=>?_⟩;have a1:=aAO l he' hq;have a2:=aAO l hq he';constructor
    · intro g;rcases lt_or_ge q' q with k|k
      ·have:=a1.1 k;omega
      · have:q'=q:=by omega
        subst this;rw [hq]at he';cases he';omega
    · intro g;rcases lt_or_ge q q' with k|k
      ·have:=a2.1 k;omega
      ·omega
  · rw [if_neg (show ¬ (sH l i o).kd= .eff from hk)]at hs;rw [hs];refine⟨h1,fun q' e' he'=>?_⟩;rw [h2 _ _ he'];obtain⟨_,_,o',ho',hk'⟩ := (gW l 0).1 q' e' he';have:e'≠i:=fun e=>by subst e;rw [sub_zero]at ho';rw [ho]at ho';cases ho';exact hk hk'
    omega
theorem Trace.sEff (T:Trace P call l nt R A){q e:Nat}(hq: (eT l 0)[q]?=some e) : (R e).s=q∧ (R (e+1)).s=q+1:=by
 obtain⟨_,h2,o,ho,hk⟩ := (gW l 0).1 q e hq;rw [sub_zero]at ho;have hs:= (T.step e o ho).2.s;rw [if_pos (show(sH l e o).kd= .eff from hk)]at hs;obtain⟨a1,a2⟩ :=T.cnt e (by omega);obtain⟨b1,b2⟩ :=T.cnt (e+1) (by omega);have:=a2 q e hq;have:=b2 q e hq;omega
theorem Trace.sEnd (T:Trace P call l nt R A) : (R l.length).s= (eT l 0).length:=by
 obtain⟨a1,a2⟩ :=T.cnt l.length (le_refl _);rcases lt_or_ge (R l.length).s (eT l 0).length with k|k
 · obtain⟨e,he⟩ :∃e,(eT l 0)[(R l.length).s]?=some e:= ⟨_,getElem?_eq_getElem k⟩;obtain⟨_,h2,_⟩ := (gW l 0).1 _ e he;have:= (a2 _ _ he).2 (by omega);omega
 ·omega
theorem Trace.suffix (T:Trace P call l nt R A) :∀d i,i+d=l.length→ (R i).s≤ (R l.length).s∧∃pre,pre.length= (R l.length).s- (R i).s∧ (R l.length).h:: (R l.length).stages=pre++ ((R i).h:: (R i).stages)
 | 0,i,hi=>by
  rw [Nat.add_zero]at hi;subst hi;exact⟨le_refl _,[],by simp,rfl⟩
 | d +1,i,hi=>by
  obtain⟨h1,pre,h2,h3⟩ :=T.suffix d (i+1) (by omega);obtain⟨o,ho⟩ :=vL (l:=l) (i:=i) (by omega);have hs:= (T.step i o ho).2.s;rcases(T.step i o ho).2.list with⟨hk,e⟩ | ⟨hk,e1,e2⟩
  · rw [if_pos hk]at hs;refine⟨by omega,pre++ [(R (i+1)).h],by simp;omega,?_⟩;rw [h3,e];simp
  · rw [if_neg hk]at hs;refine⟨by omega,pre,by omega,?_⟩;rw [h3,e1,e2]
theorem Trace.stage (T:Trace P call l nt R A){i:Nat}(hi:i≤l.length) :bM l R (R i).s= (R i).h:=by
 obtain⟨h1,pre,h2,h3⟩ :=T.suffix (l.length-i) i (by omega);unfold bM;rw [h3,←h2,List.getElem?_append_right (le_refl _)];simp
theorem Trace.stages_len (T:Trace P call l nt R A) :∀i,i≤l.length→ (R i).stages.length= (R i).s
 |0,_=>by rw [T.st0,T.s0];rfl
 | i+1,hi=>by
  have ih:=T.stages_len i (by omega);obtain⟨o,ho⟩ :=vL (l:=l) (i:=i) (by omega);have hs:= (T.step i o ho).2.s;rcases(T.step i o ho).2.list with⟨hk,e⟩ | ⟨hk,e1,e2⟩
  ·rw [if_pos hk]at hs;rw [e,hs];simp [ih]
  ·rw [if_neg hk]at hs;rw [e2,hs,ih]
theorem Trace.stage_get (T:Trace P call l nt R A){k:Nat}(hk:k≤ (R l.length).s) : ((R l.length).h:: (R l.length).stages)[(R l.length).s-k]?=some (bM l R k) :=by
 have:=T.stages_len _ (le_refl _);unfold bM;rw [getElem?_eq_getElem (by simp;omega)];rfl
theorem Trace.next_mono (T:Trace P call l nt R A) :∀d i,i+d≤l.length→ (R i).next≤ (R (i+d)).next
 |0,i,_=>le_refl _
 | d+1,i,hi=>by
  have ih:=T.next_mono d i (by omega);obtain⟨o,ho⟩ :=vL (l:=l) (i:=i+d) (by omega);have hs:= (T.step _ o ho).2.next
  rw [show i+ (d+1) =i+d+1 by omega,hs];split<;>omega
theorem Trace.next_fresh (T:Trace P call l nt R A){f:Nat}{o:Oper}(ho:l[f]?=some o)(hk:cK o.op= .fresh) : (R (f+1)).next= (R f).next+1:=by
 have:= (T.step _ o ho).2.next
 rw [if_pos (show(sH l f o).kd= .fresh from hk)]at this;exact this
theorem Trace.id_ne (T:Trace P call l nt R A){f g:Nat}{o o':Oper}(ho:l[f]?=some o)(hk:cK o.op= .fresh)(ho':l[g]?=some o')(hk':cK o'.op= .fresh)(hne:f≠g) : (R f).next≠ (R g).next:=by
 have h1:=T.next_fresh ho hk;have h2:=T.next_fresh ho' hk';have hf:=sK ho;have hg:=sK ho';rcases lt_or_ge f g with k|k
 · have:=T.next_mono (g- (f+1)) (f+1) (by omega);rw [show f+1+ (g- (f+1)) =g by omega]at this;omega
 · have:=T.next_mono (f- (g+1)) (g+1) (by omega);rw [show g+1+ (f- (g+1)) =f by omega]at this;omega
theorem Trace.id_lt (T:Trace P call l nt R A){f:Nat}{o:Oper}(ho:l[f]?=some o)(hk:cK o.op= .fresh) : (R 0).next≤ (R f).next∧ (R f).next< (R 0).h.nb:=by
 have h1:=T.next_fresh ho hk;have hf:=sK ho;have h2:=T.next_mono f 0 (by omega);rw [zero_add]at h2;have h3:=T.next_mono (l.length- (f+1)) (f+1) (by omega);rw [show f+1+ (l.length- (f+1)) =l.length by omega]at h3;have:=T.nx;omega
theorem Trace.pend_mem (T:Trace P call l nt R A) :∀i,i≤l.length→∀k x ob,(k,x,ob) ∈ (R i).pend →
  ∃f o,f<i∧l[f]?=some o∧cK o.op= .fresh∧bP (R f).tm l o=some true∧nA P (R f).tm (R f).next o=some (A f,ob) ∧k=vK l f∧x= (R f).next
 |0,_,k,x,ob,h=>by rw [T.p0]at h;cases h
 | i +1,hi,k,x,ob,h=>by
  have ih:=T.pend_mem i (by omega);obtain⟨o,ho⟩ :=vL (l:=l) (i:=i) (by omega)
  have old: (k,x,ob) ∈ (R i).pend→ (∃f o,f<i+1∧l[f]?=some o∧cK o.op= .fresh∧bP (R f).tm l o=some true∧nA P (R f).tm (R f).next o=some (A f,ob) ∧k=vK l f∧x= (R f).next) :=fun g=>by
   obtain⟨f,o,h1,h2⟩ :=ih k x ob g;exact⟨f,o,by omega,h2⟩
  rcases(T.step i o ho).2.pend with e| ⟨ob',hk,hw,hf,e⟩
  ·rw [e]at h;exact old h
  · rw [e]at h;cases h with
    |head=>exact⟨i,o,by omega,ho,hk,hw,hf,rfl,rfl⟩
    |tail _ h=>exact old h
theorem Trace.again_mem (T:Trace P call l nt R A) :∀d i,i+d≤l.length→∀x∈ (R i).again,x∈ (R (i+d)).again
 |0,i,_,x,hx=>hx
 | d+1,i,hi,x,hx=>by
  have ih:=T.again_mem d i (by omega) x hx;obtain⟨o,ho⟩ :=vL (l:=l) (i:=i+d) (by omega);exact(T.step _ o ho).2.again x ih
theorem Trace.view (T:Trace P call l nt R A)(t:Nat) :∀i,i≤l.length→ (R i).tm.at t=dQ (R 0).tm (rE l) A (fun _=>True) i t
 |0,_=>rfl
 | i +1,hi=>by
  have ih:=T.view t i (by omega);obtain⟨o,ho⟩ :=vL (l:=l) (i:=i) (by omega);have hp:= (T.step _ o ho).1;have hd:rE l i=o.dst:=by simp [rE,ho]
  simp only [dQ,hd,true_and];unfold gG at hp;split at hp
  ·rename_i h0;rw [←Option.some.inj hp,h0,if_neg (by simp)];exact ih
  · rename_i d h0;rw [h0];cases hb:blt d nt with
    |false=>rw [hb]at hp;cases hp
    | true=>
     rw [hb]at hp;simp only [cond,Option.some.injEq]at hp;rw [←hp,Go.Hb.T.at_put];by_cases ht:t=d
     ·subst ht;simp
     ·rw [if_neg ht,if_neg (by simpa using fun e=>ht e.symm)];exact ih
theorem Trace.nat_closed (T:Trace P call l nt R A)(i:Nat) :Closed l (· <i) :=fun k o ho hk e he hb=>Nat.lt_trans (T.idOk k o ho e he hb) hk
theorem Trace.window (T:Trace P call l nt R A){D:Nat→Prop}{j i:Nat}{o:Oper}(hD:Closed l D)(hlt:∀i,D i→i<l.length)(hE:∀q e,(eT l 0)[q]?=some e→ (D e↔q<j))(hj:j≤ (eT l 0).length)
  (ho:l[i]?=some o) (hi:¬D i) (hm:Met D o) :bC4 l i≤j∧j≤vK l i:=by
 refine⟨aPH _ _ _ _ fun q e he hb=>?_,?_⟩
 · have:=kK hD hlt (i+1) i (by omega) o ho hm e hb;have:= (hE q e he).1 this;omega
 · obtain⟨h1,h2,h3,h4⟩ :=aBN (bsOf l) i (eT l 0) 0;rcases lt_or_ge (vK l i) j with k|k
   · exfalso;have hl:vK l i< (eT l 0).length:=by omega
     have hx: (eT l 0)[vK l i]?=some ((eT l 0)[vK l i]) :=getElem?_eq_getElem hl;have hb:=h4 _ hx;have hd:= (hE _ _ hx).2 k;obtain⟨oe,hoe⟩ :=vL (hlt _ hd);exact hi (kK hD hlt _ _ (Nat.lt_succ_self _) oe hoe (hD _ _ hoe hd) i hb)
   ·exact k
theorem aMU {f e:Nat}(he: (eT l 0)[vK l f]?=some e) :testBit ((bsOf l).getD e 0) f=true:=
 (aBN (bsOf l) f (eT l 0) 0).2.2.2 _ he
theorem Trace.before (T:Trace P call l nt R A){q e f:Nat}(he: (eT l 0)[q]?=some e)(hf: (eT l 0)[q+1]?=some f) :testBit ((bsOf l).getD f 0) e=true:=aAN T.chain q e f he hf
theorem memN_spec {t:Nat}:∀ {l:List Nat},yN t l=true↔t∈l
 | [] =>by simp [yN]
 |x::xs=>by simp only [yN,Bool.or_eq_true,bH,decide_eq_true_eq,memN_spec (l:=xs),List.mem_cons];exact⟨fun h=>h.imp Eq.symm id,fun h=>h.imp Eq.symm id⟩
theorem aEb {bs:List Nat}{i:Nat}{names:List Nat}:∀ {l:List Oper} {k:Nat},aJN bs i names l k=true→∀x o d,l[x]?=some o→o.dst=some d→d∈names →
  k+x=i∨ (k+x<i∧testBit (bs.getD i 0) (k+x) =true) ∨ (i<k+x∧testBit (bs.getD (k+x) 0) i=true)
 | [],k,_,x,o,d,ho,_,_=>by simp at ho
 | y::ys,k,h,x,o,d,ho,hd,hn=>by
  simp only [aJN,Bool.and_eq_true]at h;cases x with
  | zero=>
   simp at ho;subst ho;have:=h.1;rw [hd]at this;simp only [Bool.or_eq_true,Bool.not_eq_true',bH,cO,decide_eq_true_eq,Bool.and_eq_true]at this;rcases this with((g|g) |g) |g
   ·rw [memN_spec.2 hn]at g;cases g
   ·exact .inl g
   ·exact .inr (.inl g)
   ·exact .inr (.inr g)
  | succ x=>
   have:=aEb h.2 x o d (by simpa using ho) hd hn;rwa [show Nat.succ k+x=k+ (x+1)by omega]at this
theorem aJ1 {bs:List Nat}{ops:List Oper}:∀ {l:List Oper} {k:Nat},wOk bs ops l k=true→∀i o,l[i]?=some o→aJN bs (k+i) (mH ops o) ops 0=true
 | [],k,_,i,o,ho=>by simp at ho
 | y::ys,k,h,i,o,ho=>by
  simp only [wOk,Bool.and_eq_true]at h;cases i with
  |zero=>simp at ho;subst ho;exact h.1
  | succ i=>
   have:=aJ1 h.2 i o (by simpa using ho);rwa [show Nat.succ k+i=k+ (i+1)by omega]at this
theorem Trace.writers (T:Trace P call l nt R A){D:Nat→Prop}{i:Nat}{o:Oper}(hD:Closed l D)(hlt:∀i,D i→i<l.length)(ho:l[i]?=some o)(hi:¬D i)(hm:Met D o){t k:Nat}(ht:t∈mH l o)(hk:rE l k=some t) :
  k=i∨ (k<i∧D k) ∨ (i<k∧¬D k) :=by
 unfold rE at hk;cases hok:l[k]? with
 |none=>rw [hok]at hk;cases hk
 | some ok=>
  rw [hok]at hk;have:=aJ1 T.wok i o ho;rw [zero_add]at this;have:=aEb this k ok t hok hk ht;rw [zero_add]at this;rcases this with h1| ⟨h1,h2⟩ | ⟨h1,h2⟩
  ·exact .inl h1
  ·exact .inr (.inl ⟨h1,kK hD hlt (i+1) i (by omega) o ho hm k h2⟩)
  ·refine .inr (.inr ⟨h1,fun hd=>hi (kK hD hlt (k+1) k (by omega) ok hok (hD _ _ hok hd) i h2)⟩)
section
variable {D :Nat→Prop} [DecidablePred D] {i:Nat} {o:Oper}
theorem Trace.view_ready (T:Trace P call l nt R A)(hD:Closed l D)(hlt:∀i,D i→i<l.length)(ho:l[i]?=some o)(hi:¬D i)(hm:Met D o){t:Nat}(ht:t∈mH l o) :
  dQ (R 0).tm (rE l) A D l.length t= (R i).tm.at t:=by
 have hil:=sK ho;rw [T.view t i (by omega),wW (i:=i) (n:=l.length) (by omega) (fun k h1 h2 hk=>?_)]
 · refine sJ fun k hk hd=> ⟨fun _=>trivial,fun _=>?_⟩;rcases T.writers hD hlt ho hi hm ht hd with g|g|g
   ·omega
   ·exact g.2
   ·omega
 · rcases T.writers hD hlt ho hi hm ht hk with g|g|g
   ·subst g;exact hi
   ·omega
   ·exact g.2
theorem Trace.view_done (T:Trace P call l nt R A)(hD:Closed l D)(hlt:∀i,D i→i<l.length)(ho:l[i]?=some o)(hi:¬D i)(hm:Met D o)(t:Nat){D':Nat→Prop}[DecidablePred D'](hD':∀k,D' k↔ (D k∨k=i)) :
  dQ (R 0).tm (rE l) A D' l.length t=if o.dst=some t then some (A i)else dQ (R 0).tm (rE l) A D l.length t:=by
 have hil:=sK ho;have hd0:rE l i=o.dst:=by simp [rE,ho]
 split
 · rename_i hd;have hn:t∈mH l o:=by simp [mH,hd]
   rw [wW (i:=i+1) (n:=l.length) (by omega) (fun k h1 h2 hk=>?_)]
   · simp only [dQ];rw [if_pos ⟨(hD' i).2 (.inr rfl),by rw [hd0];exact hd⟩]
   · rw [hD']
     rintro(g|g)
     · rcases T.writers hD hlt ho hi hm hn hk with g'|g'|g'
       ·omega
       ·omega
       ·exact g'.2 g
     ·omega
 · rename_i hd;refine sJ fun k hk hdk=>?_;rw [hD'];constructor
   · rintro(g|g)
     ·exact g
     ·subst g;rw [hd0]at hdk;exact absurd hdk hd
   ·exact .inl
end
end
end
section
variable {P :Program}
section
variable {call :bK} {l:List Oper} {nt:Nat} {R:Nat→RS} {A:Nat→AV}
structure Pd (P:Program) (l:List Oper) (R:Nat→RS) (A:Nat→AV) (D:Nat→Prop) (j f:Nat) (ob:AObj) :Prop where
 done:D f
 op:∃o,l[f]?=some o∧cK o.op= .fresh∧bP (R f).tm l o=some true∧nA P (R f).tm (R f).next o=some (A f,ob)
 late:j≤vK l f
theorem aMV {tm:T AV}{id:Nat}{o:Oper}{a:AV}{ob:AObj}(h:nA P tm id o=some (a,ob)) :one1 ob=true:=by
 unfold nA at h
 repeat' split at h
 all_goals first| (cases h;rfl) |cases h
theorem Pd.one {D:Nat→Prop}{j f:Nat}{ob:AObj}(p:Pd P l R A D j f ob) :one1 ob=true:=by
 obtain⟨o,_,_,_,h⟩ :=p.op;exact aMV h
structure Inv (P:Program) (l:List Oper) (nt:Nat) (R:Nat→RS) (A:Nat→AV) (E0:Emb) (h0:Hp) (w0:World) (D:Nat→Prop) [DecidablePred D] (j:Nat) (E:Emb) (w:World) (tmps:Array Value) :Prop where
 closed:Closed l D
 lt:∀i,D i→i<l.length
 eff:∀q e,(eT l 0)[q]?=some e→ (D e↔q<j)
 jle:j≤ (eT l 0).length
 ext:Ext E0 h0 w0 E (bM l R j) w
 nb: (R 0).h.nb≤ (bM l R j).nb
 rel:Rel E (bM l R j) w.heap
 size:tmps.size=nt
 tv:∀t a,dQ (R 0).tm (rE l) A D l.length t=some a→∃v,tmps[t]?=some v∧VR E a v
 und:∀f o,¬D f→l[f]?=some o→cK o.op= .fresh→E (R f).next=none
 pd:∀f ob,Pd P l R A D j f ob→∃L,E (R f).next=some L∧OR E w.heap L ob∧w0.heap.size≤L.blk∧∀b o L',(bM l R j).look b=some o→E b=some L'→¬Own o L' L.blk
 pdi:∀f ob,Pd P l R A D j f ob→∀L,E (R f).next=some L→E.imm L.blk=none
 hn0:h0.nb= (R 0).next
 ul:∀b o,(bM l R j).look b=some o→E b=none→b<h0.nb∨ (R 0).h.nb≤b
 pd2:∀f g ob ob' L L',Pd P l R A D j f ob→Pd P l R A D j g ob'→f≠g→E (R f).next=some L→E (R g).next=some L'→L.blk≠L'.blk
variable {E0 :Emb} {h0:Hp} {w0:World} {D D':Nat→Prop} [DecidablePred D] [DecidablePred D'] {j:Nat} {E:Emb} {w:World} {tmps:Array Value}
theorem Inv.publish (T:Trace P call l nt R A)(I:Inv P l nt R A E0 h0 w0 D j E w tmps){ps:List (Nat×Nat×AObj)}
  (hps:∀x ob,(j,x,ob) ∈ps→∃f,Pd P l R A D j f ob∧vK l f=j∧x= (R f).next) :
  Rel E (aM (bM l R j) j ps) w.heap∧Ext E0 h0 w0 E (aM (bM l R j) j ps) w ∧
   (∀x ob,(aM (bM l R j) j ps).look x=some ob→ (∃f,Pd P l R A D j f ob∧vK l f=j∧x= (R f).next) ∨ (bM l R j).look x=some ob) :=by
 have hl:∀x ob,(aM (bM l R j) j ps).look x=some ob→ (∃f,Pd P l R A D j f ob∧vK l f=j∧x= (R f).next) ∨ (bM l R j).look x=some ob:=fun x ob e=>
  (nD e).imp (hps x ob) (fun z=>z)
 have pdlt:∀ {f ob},Pd P l R A D j f ob→h0.nb≤ (R f).next∧ (R f).next< (R 0).h.nb:=fun p=>by
  obtain⟨o',h1,h2,_⟩ :=p.op;have:=T.id_lt h1 h2;have:=I.hn0;omega
 refine⟨⟨fun b o e=>?_,fun b b' o o' L L' e e' k k' hbl hne=>?_,fun b hb=>?_,I.rel.imm,fun b o L e k i hi=>?_,fun b o e=>?_⟩,⟨I.ext.le,I.ext.size,I.ext.keep,fun b' o' L' e k i hi hlt=>?_,?_,I.ext.os,I.ext.tape,I.ext.output,I.ext.low,I.ext.froz,I.ext.immo,fun b o e hb=>?_⟩,hl⟩
 · rcases hl b o e with⟨f,hf,_,rfl⟩ |e
   ·obtain⟨L,g1,g2,_⟩ :=I.pd f o hf;exact .inr ⟨L,g1,g2⟩
   ·exact I.rel.obj0 b o e
 · rcases hl b o e with⟨f,hf,_,rfl⟩ |e1
   · obtain⟨L1,g1,g2,g3,g4⟩ :=I.pd f o hf;rw [k]at g1;cases g1;rcases hl b' o' e' with⟨g,hg,_,rfl⟩ |e2
     · obtain⟨i,i1,i2⟩ :=hbl;rw [bY hf.one]at i1;rw [bY hg.one]at i2;exact absurd (i1.trans i2.symm) (I.pd2 f g o o' L L' hf hg (fun e=>hne (by rw [e])) k k')
     · obtain⟨i,i1,i2⟩ :=hbl;rw [bY hf.one]at i1;subst i1;exact absurd i2 (g4 _ _ _ e2 k')
   · rcases hl b' o' e' with⟨g,hg,_,rfl⟩ |e2
     · obtain⟨L1,g1,g2,g3,g4⟩ :=I.pd g o' hg;rw [k']at g1;cases g1;obtain⟨i,i1,i2⟩ :=hbl;rw [bY hg.one]at i2;subst i2;exact absurd i1 (g4 _ _ _ e1 k)
     ·exact I.rel.kin b b' o o' L L' e1 e2 k k' hbl hne
 ·rw [dP]at hb;exact I.rel.fresh b hb
 · rcases hl b o e with⟨f,hf,_,rfl⟩ |e1
   · rw [bY hf.one]at hi;subst hi;exact I.pdi f o hf L k
   ·exact I.rel.apart b o L e1 k i hi
 · rw [dP];rcases hl b o e with⟨f,hf,_,rfl⟩ |e1
   ·have:=pdlt hf;have:=I.nb;omega
   ·exact I.rel.keys b o e1
 · rcases hl b' o' e with⟨f,hf,_,rfl⟩ |e1
   · obtain⟨L1,g1,g2,g3,g4⟩ :=I.pd f o' hf;rw [k]at g1;cases g1;rw [bY hf.one]at hi;omega
   ·exact I.ext.own b' o' L' e1 k i hi hlt
 ·rw [dP];exact I.ext.nb
 · rcases hl b o e with⟨f,hf,_,rfl⟩ |e1
   ·have:=pdlt hf;omega
   ·exact I.ext.keys b o e1 hb
theorem Inv.lookIn (T:Trace P call l nt R A)(I:Inv P l nt R A E0 h0 w0 D j E w tmps){f:Nat}{ob:AObj}(hf:Pd P l R A D j f ob) :
  Rel E ((bM l R j).set (R f).next ob) w.heap:=by
 have hl:∀x o,((bM l R j).set (R f).next ob).look x=some o→ (x= (R f).next∧o=ob) ∨ (bM l R j).look x=some o:=fun x o e=>by
  rw [aX]at e;split at e
  ·rename_i hx;cases e;exact .inl ⟨hx,rfl⟩
  ·exact .inr e
 have pdlt:h0.nb≤ (R f).next∧ (R f).next< (R 0).h.nb:=by
  obtain⟨o',h1,h2,_⟩ :=hf.op;have:=T.id_lt h1 h2;have:=I.hn0;omega
 obtain⟨L,g1,g2,g3,g4⟩ :=I.pd f ob hf;refine⟨fun b o e=>?_,fun b b' o o' L1 L' e e' k k' hbl hne=>?_,fun b hb=>?_,I.rel.imm,fun b o L1 e k i hi=>?_,fun b o e=>?_⟩
 · rcases hl b o e with⟨rfl,rfl⟩ |e
   ·exact .inr ⟨L,g1,g2⟩
   ·exact I.rel.obj0 b o e
 · rcases hl b o e with⟨rfl,rfl⟩ |e1
   · rw [k]at g1;cases g1;rcases hl b' o' e' with⟨rfl,rfl⟩ |e2
     ·exact absurd rfl hne
     · obtain⟨i,i1,i2⟩ :=hbl;rw [bY hf.one]at i1;subst i1;exact absurd i2 (g4 _ _ _ e2 k')
   · rcases hl b' o' e' with⟨rfl,rfl⟩ |e2
     · rw [k']at g1;cases g1;obtain⟨i,i1,i2⟩ :=hbl;rw [bY hf.one]at i2;subst i2;exact absurd i1 (g4 _ _ _ e1 k)
     ·exact I.rel.kin b b' o o' L1 L' e1 e2 k k' hbl hne
 ·exact I.rel.fresh b (by rw [hX]at hb;exact hb)
 · rcases hl b o e with⟨rfl,rfl⟩ |e1
   · rw [bY hf.one]at hi;subst hi;exact I.pdi f _ hf L1 k
   ·exact I.rel.apart b o L1 e1 k i hi
 · rw [hX];rcases hl b o e with⟨rfl,rfl⟩ |e1
   ·have:=I.nb;omega
   ·exact I.rel.keys b o e1
theorem aBP (d:Option Nat)(v:Value)(a:Array Value) : (zU d v a).size=a.size:=by cases d<;>simp [zU]
theorem aHC (T:Trace P call l nt R A)(hD:Closed l D)(hlt:∀i,D i→i<l.length)(hsz:tmps.size=nt){i:Nat}{o:Oper}(ho:l[i]?=some o)(hi:¬D i)(hm:Met D o)(hD':∀k,D' k↔ (D k∨k=i)){cv:Value}(hv:VR E (A i) cv)
  (tv:∀t a,dQ (R 0).tm (rE l) A D l.length t=some a→∃v,tmps[t]?=some v∧VR E a v) :
  ∀t a,dQ (R 0).tm (rE l) A D' l.length t=some a→∃v,(zU o.dst cv tmps)[t]?=some v∧VR E a v:=by
 intro t a hta;rw [T.view_done hD hlt ho hi hm t hD']at hta;have hp:= (T.step i o ho).1;split at hta
 · rename_i hd;cases hta;refine⟨cv,?_,hv⟩;rw [hd]at hp ⊢;unfold gG at hp;simp only at hp;cases hb:blt t nt with
   |false=>rw [hb]at hp;cases hp
   | true=>
    rw [cO,decide_eq_true_eq]at hb;simp [zU,hsz,hb]
 · rename_i hd;obtain⟨v,h1,h2⟩ :=tv t a hta;refine⟨v,?_,h2⟩;unfold zU;split
   · rename_i d hd';rw [Array.getElem?_setIfInBounds_ne (fun e=>hd (by rw [hd',e]))];exact h1
   ·exact h1
theorem vM {i:Nat}{o:Oper}(hD:Closed l D)(ho:l[i]?=some o)(hm:Met D o)(hD':∀k,D' k↔ (D k∨k=i)) :Closed l D':=by
 intro k ok hok hk e he hb;rw [hD'];rcases(hD' k).1 hk with g|g
 ·exact .inl (hD k ok hok g e he hb)
 ·subst g;rw [ho]at hok;cases hok;exact .inl (hm e he hb)
theorem aHD {i:Nat}{o:Oper}(hlt:∀i,D i→i<l.length)(ho:l[i]?=some o)(hD':∀k,D' k↔ (D k∨k=i)) :∀k,D' k→k<l.length:=fun k hk=>by
 rcases(hD' k).1 hk with g|g
 ·exact hlt k g
 ·subst g;exact sK ho
theorem Inv.quiet (T:Trace P call l nt R A)(I:Inv P l nt R A E0 h0 w0 D j E w tmps){i:Nat}{o:Oper}(ho:l[i]?=some o)(hi:¬D i)(hm:Met D o)(hk:cK o.op≠ .eff)(hD':∀k,D' k↔ (D k∨k=i))
  (hf:cK o.op= .fresh→bP (R i).tm l o=some false) {cv:Value} (hv:VR E (A i) cv) :
  Inv P l nt R A E0 h0 w0 D' j E w (zU o.dst cv tmps) :=by
 have back:∀f ob,Pd P l R A D' j f ob→Pd P l R A D j f ob:=fun f ob p=>by
  refine⟨?_,p.op,p.late⟩;rcases(hD' f).1 p.done with g|g
  ·exact g
  · subst g;obtain⟨o',h1,h2,h3,h4⟩ :=p.op;rw [ho]at h1;cases h1;rw [hf h2]at h3;cases h3
 refine⟨vM I.closed ho hm hD',aHD I.lt ho hD',fun q e he=>?_,I.jle,I.ext,I.nb,I.rel,by rw [aBP];exact I.size,
  aHC T I.closed I.lt I.size ho hi hm hD' hv I.tv,fun f of hnd h1 h2=>I.und f of (fun g=>hnd ((hD' f).2 (.inl g))) h1 h2,fun f ob p=>I.pd f ob (back f ob p),fun f ob p=>I.pdi f ob (back f ob p),I.hn0,I.ul,fun f g ob ob' L L' p p'=>I.pd2 f g ob ob' L L' (back f ob p) (back g ob' p')⟩
 rw [hD',←I.eff q e he];constructor
 · rintro(g|g)
   ·exact g
   · subst g;obtain⟨_,_,o',h1,h2⟩ := (gW l 0).1 q e he;rw [sub_zero,ho]at h1;cases h1;exact absurd h2 hk
 ·exact .inl
theorem Inv.turn (T:Trace P call l nt R A)(I:Inv P l nt R A E0 h0 w0 D j E w tmps){i:Nat}{o:Oper}(ho:l[i]?=some o)(hi:¬D i)(hm:Met D o)(hk:cK o.op= .eff) : (eT l 0)[j]?=some i:=by
 obtain⟨q,hq⟩ := (gW l 0).2.1 i o ho hk;rw [zero_add]at hq;have hqj:¬q<j:=fun g=>hi ((I.eff q i hq).2 g);rcases lt_or_ge j q with g|g
 · exfalso;obtain⟨q',rfl⟩ :∃q',q=q'+1:= ⟨q-1,by omega⟩;have hql:= (List.getElem?_eq_some_iff.1 hq).1;have he: (eT l 0)[q']?=some ((eT l 0)[q']) :=getElem?_eq_getElem (by omega);have:=kK I.closed I.lt (i+1) i (by omega) o ho hm _ (T.before he hq);have:= (I.eff _ _ he).1 this;omega
 · have:q=j:=by omega
   rw [←this];exact hq
theorem Inv.waits (T:Trace P call l nt R A)(I:Inv P l nt R A E0 h0 w0 D j E w tmps){i:Nat}{o:Oper}(ho:l[i]?=some o)(hi:¬D i)(hm:Met D o)(hk:cK o.op= .eff) :
  ∀x ob,(j,x,ob) ∈ (R i).pend→∃f,Pd P l R A D j f ob∧vK l f=j∧x= (R f).next:=by
 intro x ob hx;have hil:=sK ho;obtain⟨f,o',h1,h2,h3,h4,h5,h6,h7⟩ :=T.pend_mem i (by omega) j x ob hx;have hq:=I.turn T ho hi hm hk;rw [h6]at hq;exact⟨f,⟨kK I.closed I.lt (i+1) i (by omega) o ho hm f (aMU hq),⟨o',h2,h3,h4,h5⟩,by omega⟩,h6.symm,h7⟩
theorem Inv.effect (T:Trace P call l nt R A)(I:Inv P l nt R A E0 h0 w0 D j E w tmps){i:Nat}{o:Oper}(ho:l[i]?=some o)(hi:¬D i)(hm:Met D o)(hk:cK o.op= .eff)(hD':∀k,D' k↔ (D k∨k=i))
  {E':Emb} {w':World} {cv:Value} (hv:VR E' (A i) cv) (r':Rel E' (bM l R (j+1)) w'.heap) (x':Ext E (aM (bM l R j) j (R i).pend) w E' (bM l R (j+1)) w') :
  Inv P l nt R A E0 h0 w0 D' (j+1) E' w' (zU o.dst cv tmps) :=by
 obtain⟨p1,p2,p3⟩ :=I.publish T (I.waits T ho hi hm hk);have hq:=I.turn T ho hi hm hk;have hql:= (List.getElem?_eq_some_iff.1 hq).1
 have back:∀f ob,Pd P l R A D' (j+1) f ob→Pd P l R A D j f ob:=fun f ob p=>by
  refine⟨?_,p.op,by have:=p.late;omega⟩;rcases(hD' f).1 p.done with g|g
  ·exact g
  · subst g;obtain⟨o',h1,h2,h3,h4⟩ :=p.op;rw [ho]at h1;cases h1;rw [hk]at h2;cases h2
 have nown:∀f ob L,Pd P l R A D' (j+1) f ob→E (R f).next=some L→∀b o L',(aM (bM l R j) j (R i).pend).look b=some o→E b=some L'→¬Own o L' L.blk:=fun f ob L p hE b o L' hb hE' hbl=>by
  have hb':=back f ob p;rcases p3 b o hb with⟨g,hg,g1,rfl⟩ |hb1
  · rw [bY hg.one]at hbl;exact I.pd2 g f o ob L' L hg hb' (fun e=>by subst e;have:=p.late;omega) hE' hE hbl
  · obtain⟨L1,k1,_,_,k4⟩ :=I.pd f ob hb';rw [hE]at k1;cases k1;exact k4 b o L' hb1 hE' hbl
 refine⟨vM I.closed ho hm hD',aHD I.lt ho hD',fun q e he=>?_,by omega,p2.trans x',?_,r',by rw [aBP];exact I.size,
  aHC T I.closed I.lt I.size ho hi hm hD' hv (fun t a hta=>by obtain⟨v,h1,h2⟩ :=I.tv t a hta;exact⟨v,h1,h2.mono x'.le⟩),fun f of hnd h1 h2=>?_,fun f ob p=>?_,fun f ob p L' hL'=>?_,I.hn0,fun b o hb hE=>?_,fun f g ob ob' L L' p p' hne hE hE'=>?_⟩
 · rw [hD',I.eff q e he];constructor
   · rintro(g|g)
     ·omega
     · subst g;rcases Nat.lt_trichotomy q j with k|k|k
       ·omega
       ·omega
       ·have:= (aAO l hq he).1 k;omega
   · intro g;rcases lt_or_ge q j with k|k
     ·exact .inl k
     · have:q=j:=by omega
       subst this;rw [hq]at he;cases he;exact .inr rfl
 ·have:=x'.nb;rw [dP]at this;have:=I.nb;omega
 · have hid:=T.id_lt h1 h2;rw [x'.low _ (by rw [dP];have:=I.nb;omega)];exact I.und f of (fun g=>hnd ((hD' f).2 (.inl g))) h1 h2
 · obtain⟨L,k1,k2,k3,k4⟩ :=I.pd f ob (back f ob p);have hno:=nown f ob L p k1;refine⟨L,x'.le.1 _ _ k1,(k2.mono x'.le).heap fun i hi=>x'.keep _ (k2.lt i hi) fun b o L' hb hE hbl=>hno b o L' hb hE (by rw [bY p.one]at hi;rw [hi];exact hbl),k3,fun b o L' hb hE hbl=>?_⟩;obtain⟨b1,o1,L1,g1,g2,g3⟩ :=x'.own b o L' hb hE _ hbl (k2.lt _ ((bY p.one).2 rfl));exact hno b1 o1 L1 g1 g2 g3
 · obtain⟨L,k1,k2,k3,k4⟩ :=I.pd f ob (back f ob p);have e3:=x'.le.1 _ _ k1;rw [hL']at e3;obtain rfl:L'=L:=Option.some.inj e3;cases hi:E'.imm L'.blk with
   |none=>rfl
   | some C=>
    rcases x'.immo _ C hi (k2.lt _ ((bY p.one).2 rfl))with g| ⟨b,o,L2,g1,g2,g3⟩
    ·rw [I.pdi f ob (back f ob p) L' k1]at g;cases g
    ·exact absurd g3 (nown f ob L' p k1 b o L2 g1 g2)
 · rcases lt_or_ge b (bM l R j).nb with g|g
   · obtain⟨o0,e0⟩ :=x'.keys b o hb (by rw [dP];exact g);rw [x'.low b (by rw [dP];exact g)]at hE;rcases p3 b o0 e0 with⟨f,hf,_,rfl⟩ |e1
     · obtain⟨L,k1,_⟩ :=I.pd f o0 hf;rw [k1]at hE;cases hE
     ·exact I.ul b o0 e1 hE
   ·have:=I.nb;exact .inr (by omega)
 · obtain⟨L1,k1,_⟩ :=I.pd f ob (back f ob p);obtain⟨L2,k2,_⟩ :=I.pd g ob' (back g ob' p');rw [x'.le.1 _ _ k1]at hE;cases hE;rw [x'.le.1 _ _ k2]at hE';cases hE';exact I.pd2 f g ob ob' _ _ (back f ob p) (back g ob' p') hne k1 k2
theorem Inv.alloc (T:Trace P call l nt R A)(I:Inv P l nt R A E0 h0 w0 D j E w tmps){i:Nat}{o:Oper}(ho:l[i]?=some o)(hi:¬D i)(hm:Met D o)(hk:cK o.op= .fresh)(hD':∀k,D' k↔ (D k∨k=i))(hn0:h0.nb= (R 0).next)
  {ob:Obj} (hz:noFrz ob=true) {n:Nat} {cv:Value} (hv:VR (E.put (R i).next ⟨w.heap.size,0,n⟩) (A i) cv) (hob:∀aob,nA P (R i).tm (R i).next o=some (A i,aob) →OR (E.put (R i).next ⟨w.heap.size,0,n⟩) (w.heap.push ob) ⟨w.heap.size,0,n⟩ aob) :
  Inv P l nt R A E0 h0 w0 D' j (E.put (R i).next ⟨w.heap.size,0,n⟩) {w with heap:=w.heap.push ob} (zU o.dst cv tmps) :=by
 have hid:=T.id_lt ho hk;have hf:E (R i).next=none:=I.und i o hi ho hk
 have hle:E.le (E.put (R i).next ⟨w.heap.size,0,n⟩) :=Emb.le_put hf;have hold:∀ {x},x<w.heap.size→ (w.heap.push ob)[x]?=w.heap[x]?:=fun hx=>by rw [Array.getElem?_push,if_neg (by omega)]
 have hno:∀b o',(bM l R j).look b=some o'→b≠ (R i).next:=fun b o' hb e=>by
  cases hE:E b with
  |some L=>rw [e,hf]at hE;cases hE
  | none=>
   have h1:=I.ul b o' hb hE;have h2:=I.hn0;omega
 have back:∀f aob,Pd P l R A D' j f aob→f≠i→Pd P l R A D j f aob:=fun f aob p hne=> ⟨((hD' f).1 p.done).resolve_right hne,p.op,p.late⟩
 have idne:∀f aob,Pd P l R A D' j f aob→f≠i→ (R f).next≠ (R i).next:=fun f aob p hne=>by
  obtain⟨o',h1,h2,_⟩ :=p.op;exact T.id_ne h1 h2 ho hk hne
 refine⟨vM I.closed ho hm hD',aHD I.lt ho hD',fun q e he=>?_,I.jle,?_,I.nb,?_,by rw [aBP];exact I.size,
  aHC T I.closed I.lt I.size ho hi hm hD' hv (fun t a hta=>by obtain⟨v,h1,h2⟩ :=I.tv t a hta;exact⟨v,h1,h2.mono hle⟩),fun f of hnd h1 h2=>?_,fun f aob p=>?_,fun f aob p L' hL'=>?_,I.hn0,fun b o' hb hE=>I.ul b o' hb (by rw [Emb.put_ne _ _ (hno _ _ hb)]at hE;exact hE),fun f g aob aob' L L' p p' hne hE hE'=>?_⟩
 · rw [hD',←I.eff q e he];constructor
   · rintro(g|g)
     ·exact g
     · subst g;obtain⟨_,_,o',h1,h2⟩ := (gW l 0).1 q e he;rw [sub_zero,ho]at h1;cases h1;rw [hk]at h2;cases h2
   ·exact .inl
 · refine⟨I.ext.le.trans hle,by have:=I.ext.size;simp;omega,fun x hx hn=>?_,fun b' o' L' e k y hy hlt=>?_,I.ext.nb,I.ext.os,I.ext.tape,I.ext.output,fun x hx=>?_,fun x hx=> (uS w hz x).trans (I.ext.froz x hx),I.ext.immo,I.ext.keys⟩
   · have:=I.ext.size;show(w.heap.push ob)[x]?=_;rw [hold (by omega)];exact I.ext.keep x hx hn
   · rw [Emb.put_ne _ _ (hno _ _ e)]at k;exact I.ext.own b' o' L' e k y hy hlt
   ·rw [Emb.put_ne _ _ (by omega)];exact I.ext.low x hx
 · refine⟨fun b o' e=>?_,fun b b' o1 o2 L L' e e' k k'=>?_,fun b hb=>?_,fun k C e=>?_,fun b o' L e k y hy=>?_,I.rel.keys⟩
   · rcases I.rel.obj0 b o' e with⟨u1,u2⟩ | ⟨L,g1,g2⟩
     ·exact .inl ⟨u1,by rw [Emb.put_ne _ _ (hno _ _ e)];exact u2⟩
     ·exact .inr ⟨L,hle.1 _ _ g1,(g2.mono hle).heap fun y hy=>hold (g2.lt y hy)⟩
   · rw [Emb.put_ne _ _ (hno _ _ e)]at k;rw [Emb.put_ne _ _ (hno _ _ e')]at k';exact I.rel.kin b b' o1 o2 L L' e e' k k'
   · have:=I.nb;rw [Emb.put_ne _ _ (by omega)];exact I.rel.fresh b hb
   · obtain⟨e1,f1,g⟩ :=I.rel.imm k C e;exact⟨e1,f1,by rw [hold (Array.getElem?_eq_some_iff.1 g).1];exact g⟩
   · rw [Emb.put_ne _ _ (hno _ _ e)]at k;exact I.rel.apart b o' L e k y hy
 · have hne:f≠i:=fun e=>hnd ((hD' f).2 (.inr e));rw [Emb.put_ne _ _ (T.id_ne h1 h2 ho hk hne)];exact I.und f of (fun g=>hnd ((hD' f).2 (.inl g))) h1 h2
 · by_cases hfi:f=i
   · subst hfi;obtain⟨o',g1,g2,g3,g4⟩ :=p.op;rw [ho]at g1;cases g1;refine⟨_,Emb.put_same _ _ _,hob aob g4,I.ext.size,fun b o' L' hb hE hbl=>?_⟩;rw [Emb.put_ne _ _ (hno _ _ hb)]at hE;have:=I.rel.lt hb hE _ hbl;simp only at this;omega
   · obtain⟨L,k1,k2,k3,k4⟩ :=I.pd f aob (back f aob p hfi);refine⟨L,hle.1 _ _ k1,(k2.mono hle).heap (fun y hy=>hold (k2.lt y hy)),k3,fun b o' L' hb hE hbl=>?_⟩;rw [Emb.put_ne _ _ (hno _ _ hb)]at hE;exact k4 b o' L' hb hE hbl
 · show E.imm L'.blk=none;by_cases hfi:f=i
   · subst hfi;rw [Emb.put_same]at hL';cases hL';cases hi:E.imm w.heap.size with
     |none=>rfl
     |some C=>exact absurd (I.rel.immLt hi) (Nat.lt_irrefl _)
   · obtain⟨L,k1,k2,_⟩ :=I.pd f aob (back f aob p hfi);have e3:=hle.1 _ _ k1;rw [hL']at e3;obtain rfl:L'=L:=Option.some.inj e3;exact I.pdi f aob (back f aob p hfi) L' k1
 · by_cases hfi:f=i
   · by_cases hgi:g=i
     ·exact absurd (hfi.trans hgi.symm) hne
     · subst hfi;rw [Emb.put_same]at hE;cases hE;obtain⟨L2,k1,k2,_⟩ :=I.pd g aob' (back g aob' p' hgi);rw [hle.1 _ _ k1]at hE';cases hE';have:=k2.lt _ ((bY p'.one).2 rfl);simp only;omega
   · obtain⟨L1,k1,k2,_⟩ :=I.pd f aob (back f aob p hfi);rw [hle.1 _ _ k1]at hE;cases hE;by_cases hgi:g=i
     · subst hgi;rw [Emb.put_same]at hE';cases hE';have:=k2.lt _ ((bY p.one).2 rfl);simp only;omega
     · obtain⟨L2,g1,g2,_⟩ :=I.pd g aob' (back g aob' p' hgi);rw [hle.1 _ _ g1]at hE';cases hE';exact I.pd2 f g aob aob' _ _ (back f aob p hfi) (back g aob' p' hgi) hne k1 g1
end
def dT (P:Program)(call:bK) :Prop:=∀k c h v h',call k c h=some (v,h') →∃g,dB P h c=some g ∧
 ∀ (E:Emb) (w:World) (G:Frame),Rel E h w.heap→FR E g G→G.kind= .normal→∀cl base,∃cv w' E',Steps P (lone G (cl::base) w) (lone (cl.finish cv) base w') ∧VR E' v cv∧Rel E' h' w'.heap∧Ext E h w E' h' w'
def aYX (P:Program)(call:bK)(k:Nat) :Prop:=∀c h v h',call k c h=some (v,h') →∃g,dB P h c=some g ∧
 ∀ (E:Emb) (w:World) (G:Frame),Rel E h w.heap→FR E g G→G.kind= .normal→∀cl base,∃cv w' E',Steps P (lone G (cl::base) w) (lone (cl.finish cv) base w') ∧VR E' v cv∧Rel E' h' w'.heap∧Ext E h w E' h' w'
theorem aHE {E:Emb}{h:Hp}{w:World}(r:Rel E h w.heap){tm:T AV}{ρ:Operand→Value}{o:Oper}(hρ:Reads E tm ρ (· ∈o.op.operands)){id:Nat}(hid:E id=none){a:AV}{ob0:AObj}(h0:nA P tm id o=some (a,ob0)) :
  ∃ob n cv,noFrz ob=true∧ (execOp ρ o).run P w= .ok (.value cv) {w with heap:=w.heap.push ob}∧VR (E.put id ⟨w.heap.size,0,n⟩) a cv∧OR (E.put id ⟨w.heap.size,0,n⟩) (w.heap.push ob) ⟨w.heap.size,0,n⟩ ob0:=by
 have hle:∀n,E.le (E.put id ⟨w.heap.size,0,n⟩) :=fun n=>Emb.le_put hid;have hpush:∀ob,(w.heap.push ob)[w.heap.size]?=some ob:=fun ob=>by simp
 unfold nA at h0;unfold execOp;split at h0
 · rename_i e hop;rw [hop]at hρ;simp only [hop];split at h0
   · rename_i z hz;cases h0;obtain⟨cz,z1,z2⟩ :=gI hz;have hc:= (z2 E).cells;refine⟨.cells cz.cells e,cz.cells.size,.pointer (some ⟨w.heap.size,0,none⟩),rfl,by simp [Instr.alloc,z1,newVar,newRow],by simp only [VR];exact⟨_,Emb.put_same _ _ _,rfl⟩,?_⟩;exact uV (C:=cz.cells) ⟨[],by simp⟩ (hc.mono (hle _)) (hpush _) _ (aY _) _ (le_refl _) _ _
   ·cases h0
 · rename_i t n ps hop;rw [hop]at hρ;simp only [hop];split at h0
   · rename_i l hl;split at h0
     · rename_i cs s hcs;cases h0;obtain⟨g1,g2⟩ :=hρ.parts (fun p hp=>by simp only [Op.operands,List.mem_toArray,List.mem_map];exact⟨p,hp,rfl⟩) hl;obtain⟨out,e,k1,k2,k3⟩ :=pT (P:=P) r (qs:=ps.map fun(i,x) => (i,ρ x)) hcs (by rw [g1];simp) (by simpa [Function.comp_def]using g2);refine⟨.cells ⟨out⟩ e,out.length,.slice (some ⟨w.heap.size,0,none⟩) n n,rfl,by simp [k3 w],?_,?_⟩
       ·simp only [VR];exact⟨_,0,n,Emb.put_same _ _ _,rfl,le_refl _,le_refl _,fun _=>rfl,fun _=>rfl,by simpa using k2⟩
       ·exact uV (C:= ⟨out⟩) ⟨[],by simp⟩ (k1.mono (hle _)) (hpush _) _ (aY _) _ (le_refl _) _ _
     ·cases h0
   ·cases h0
 ·cases h0
section
variable {call :bK} {ops:Array Oper} {nt:Nat} {R:Nat→RS} {A:Nat→AV} {E0:Emb} {h0:Hp} {w0:World} {fn:FuncId} {ds:List Deferred} {kd:CallKind} {ro:Option Nat} {k:List Item} {cs:List Frame}
theorem aJ2 (T:Trace P call ops.toList nt R A){D:Nat→Prop}[DecidablePred D]{j:Nat}{E:Emb}{w:World}{tmps:Array Value}(I:Inv P ops.toList nt R A E0 h0 w0 D j E w tmps){i:Nat}{o:Oper}(ho:ops.toList[i]?=some o)(hi:¬D i)(hm:Met D o)(todo:List Item) :
  Reads E (R i).tm (rf fn tmps todo ds kd ro).eval (· ∈o.op.operands) :=by
 intro x hx a ha;cases x with
 | tmp t=>
  simp only [bI]at ha;have hn:t∈mH ops.toList o:=by
   simp only [mH,List.mem_append,List.mem_filterMap];exact .inr (.inl ⟨.tmp t,by simpa using hx,rfl⟩)
  rw [←T.view_ready I.closed I.lt ho hi hm hn]at ha;obtain⟨v,h1,h2⟩ :=I.tv t a ha;simp only [Frame.eval,Array.getD_eq_getD_getElem?,h1];exact h2
 |const v=>exact aDT ha E
 |global g=>cases ha
 |func f=>simp only [bI]at ha;cases ha;simp only [Frame.eval,VR];exact⟨[],[],rfl,VRs.nil E,VRs.nil E⟩
theorem iU (T:Trace P call ops.toList nt R A){D:Nat→Prop}[DecidablePred D]{j:Nat}{E:Emb}{w:World}{tmps:Array Value}(I:Inv P ops.toList nt R A E0 h0 w0 D j E w tmps){i:Nat}{o:Oper}(ho:ops.toList[i]?=some o)(hi:¬D i)(hm:Met D o){b:Bool}
  (hw:bP (R i).tm ops.toList o=some b) :Region.wanted o (yielded ops tmps) =b:=by
 refine vG (E:=E) (tm:= (R i).tm) (fun g want hg o' ho' t ht a ha=>?_) hw;have hn:t∈mH ops.toList o:=by
  simp only [mH,List.mem_append];refine .inr (.inr ?_);rw [hg];simp only [Array.getElem?_toList,ho',ht];simp
 rw [←T.view_ready I.closed I.lt ho hi hm hn]at ha;exact I.tv t a ha
theorem mW {tmps:Array Value}{i:Nat}{is:List Nat}{o:Oper}(ho:ops[i]?=some o)(v:Value) :
  (rf fn tmps (.inRegion ops (i::is) ::k) ds kd ro).finish v=rf fn (zU o.dst v tmps) (.inRegion ops is::k) ds kd ro:=by
 rw [aFT,ho];rfl
theorem aEc {b hi a:Nat}{ob:AObj}:∀ {ps:List (Nat×Nat×AObj)},aDS b hi ps=some (a,ob) → (a,b,ob) ∈ps∧hi≤a
 | [],h=>by cases h
 | (a',id,o) ::ps,h=>by
  simp only [aDS]at h;cases hc: (beq id b&&Nat.ble hi a')with
  | true=>
   rw [hc]at h;simp only [cond]at h;cases h;rw [Bool.and_eq_true]at hc;obtain rfl:=Nat.eq_of_beq_eq_true hc.1;exact⟨List.mem_cons_self ..,Nat.le_of_ble_eq_true hc.2⟩
  | false=>
   rw [hc]at h;simp only [cond]at h;obtain⟨h1,h2⟩ :=aEc h;exact⟨List.mem_cons_of_mem _ h1,h2⟩
theorem aTx {tm:T AV}{pend:List (Nat×Nat×AObj)}{hi:Nat}{o:Oper}{vs:List AV}(h:qX P tm pend hi o=some vs) :
  ∃s d x b off len c ez ex a t n1 n2 n3 el,o.op= .convert s d x∧bI tm x=some (.slice b off len c ez ex) ∧aDS b hi pend=some (a,.cells t n1 n2 n3) ∧P.underlying s=some (.slice el) ∧P.underlying d=some .string∧getCells t off len=some vs∧P.underlying el=some (.int .u8) :=by
 unfold qX at h;split at h
 · rename_i s d x hop;split at h
   · rename_i b off len c ez ex hx;split at h
     · rename_i a t n1 n2 n3 hp;split at h
       · rename_i e vs' h1 h2 h3;split at h
         · rename_i h4;cases h;exact⟨s,d,x,b,off,len,c,ez,ex,a,t,n1,n2,n3,e,hop,hx,hp,h1,h2,h3,h4⟩
         ·cases h
       ·cases h
     ·cases h
   ·cases h
 ·cases h
theorem aMW {j:Nat}{i:Nat}{o:Oper}(hc:cK o.op= .eff→aYX P call j)(T:Trace P call ops.toList nt R A)(hn0:h0.nb= (R 0).next){D D':Nat→Prop}[DecidablePred D][DecidablePred D']{E:Emb}{w:World}{tmps:Array Value}(I:Inv P ops.toList nt R A E0 h0 w0 D j E w tmps)(ho:ops.toList[i]?=some o)(hi:¬D i)(hm:Met D o)(hD':∀k,D' k↔ (D k∨k=i))(is:List Nat) :
  ∃j' E' w' tmps',Steps P (lone (rf fn tmps (.inRegion ops (i::is) ::k) ds kd ro) cs w) (lone (rf fn tmps' (.inRegion ops is::k) ds kd ro) cs w') ∧Inv P ops.toList nt R A E0 h0 w0 D' j' E' w' tmps':=by
 have hoa:ops[i]?=some o:=by rw [←Array.getElem?_toList];exact ho
 have hil:=sK ho;have hρ:=aJ2 (fn:=fn) (ds:=ds) (kd:=kd) (ro:=ro) T I ho hi hm (.inRegion ops (i::is) ::k);obtain⟨_,c⟩ :=T.step i o ho
 have unw:bP (R i).tm ops.toList o=some false→step P (lone (rf fn tmps (.inRegion ops (i::is) ::k) ds kd ro) cs w) = .next (lone (rf fn (zU o.dst Go.undef tmps) (.inRegion ops is::k) ds kd ro) cs w) :=fun hw=>by
  rw [yY hoa (iU T I ho hi hm hw),mW hoa]
 have value:∀ {hx:Hp} {h2:Hp} {a:AV} {w':World} {cv:Value},bP (R i).tm ops.toList o=some true→jH P hx (R i).tm o=some (.val a h2) →
   ((execOp (rf fn tmps (.inRegion ops (i::is) ::k) ds kd ro).eval o).run P w= .ok (.value cv) w'∨ ((execOp (rf fn tmps (.inRegion ops (i::is) ::k) ds kd ro).eval o).run P w= .ok .skip w'∧cv=Go.undef)) →
   step P (lone (rf fn tmps (.inRegion ops (i::is) ::k) ds kd ro) cs w) = .next (lone (rf fn (zU o.dst cv tmps) (.inRegion ops is::k) ds kd ro) cs w') :=fun hw h0 hr=>by
  have hd:=aGk h0;rcases hr with hr| ⟨hr,rfl⟩
  ·rw [sG hoa (iU T I ho hi hm hw) (.inr hd) hr,mW hoa]
  ·rw [aD5 hoa (iU T I ho hi hm hw) (.inr hd) hr,mW hoa]
 have effStage:cK o.op= .eff→ (R i).h=bM ops.toList R j∧ (R (i+1)).h=bM ops.toList R (j+1) :=fun hk=>by
  have hq:=I.turn T ho hi hm hk;obtain⟨s1,s2⟩ :=T.sEff hq;have e1:=T.stage (i:=i) (by omega);have e2:=T.stage (i:=i+1) (by omega);rw [s1]at e1;rw [s2]at e2;exact⟨e1.symm,e2.symm⟩
 have effS:cK o.op= .eff→ (R i).s=j:=fun hk=> (T.sEff (I.turn T ho hi hm hk)).1;cases c with
 | unwE hw ha hk e=>
  have hk':cK o.op= .eff:=hk;obtain⟨e1,e2⟩ :=effStage hk';obtain⟨p1,p2,p3⟩ :=I.publish T (I.waits T ho hi hm hk');have e3:bM ops.toList R (j+1) =aM (bM ops.toList R j) j (R i).pend:=by
   rw [←e2,e,←e1,←effS hk']
  refine⟨j+1,E,w,_,.one (unw hw),I.effect T ho hi hm hk' hD' (by rw [ha];exact qZ E) (by rw [e3];exact p1) ?_⟩;rw [e3];exact Ext.refl _ _ _
 | unwF hw ha hk e=>
  have hk':cK o.op= .fresh:=hk;exact⟨j,E,w,_,.one (unw hw),I.quiet T ho hi hm (by rw [hk'];decide) hD' (fun _=>hw) (by rw [ha];exact qZ E)⟩
 | unwQ hw ha hk e=>
  have hk':cK o.op= .pure∨cK o.op= .read:=hk;exact⟨j,E,w,_,.one (unw hw),I.quiet T ho hi hm (by rcases hk' with hk'|hk'<;>rw [hk'] <;>decide) hD' (fun hf=>by rcases hk' with hk'|hk'<;>rw [hk']at hf<;>cases hf) (by rw [ha];exact qZ E)⟩
 | pure hx hw hk hv e=>
  have hk':cK o.op= .pure:=hk;have hv':=aTw (o:=o) hk' hv (bM ops.toList R j);obtain⟨_,cv,g1,g2⟩ := (sF I.rel hρ hv').2 (.inl hk');exact⟨j,E,w,_,.one (value hw hv' (.inl g1)),I.quiet T ho hi hm (by rw [hk'];decide) hD' (fun hf=>by rw [hk']at hf;cases hf) g2⟩
 | read hx hw hk hv e=>
  have hk':cK o.op= .read:=hk;obtain⟨b1,b2⟩ :=T.window I.closed I.lt I.eff I.jle ho hi hm;obtain⟨c1,c2⟩ :=T.cnt i (by omega);obtain⟨a1,a2⟩ :=T.window (D:= (· <i)) (T.nat_closed i) (fun x hx=>by omega) (fun q e he=> (c2 q e he).symm) c1 ho (by omega) (T.idOk i o ho);have hv':∃hx,jH P (bM ops.toList R j) (R i).tm o=some (.val (A i) hx) :=by
   by_cases hlh:bC4 ops.toList i=vK ops.toList i
   · have: (R i).s=j:=by omega
     exact⟨hx,by rw [←this,T.stage (by omega)];exact hv⟩
   · have hmem: (⟨o,(R i).tm,bC4 ops.toList i,vK ops.toList i,A i⟩ :Again) ∈ (R (i+1)).again:=by
      rw [e];simp only;rw [bH];have:decide ((sH ops.toList i o).lo= (sH ops.toList i o).hi) =false:=by
       rw [decide_eq_false_iff_not];exact hlh
      rw [this];exact List.mem_cons_self ..
     have hmem':=T.again_mem (ops.toList.length- (i+1)) (i+1) (by omega) _ hmem;rw [show i+1+ (ops.toList.length- (i+1)) =ops.toList.length by omega]at hmem';have hj:=I.jle;have hse:=T.sEnd;exact T.again _ hmem' ((R ops.toList.length).s-j) _ (T.stage_get (k:=j) (by omega)) (by omega) (by simp only;omega) (by simp only;omega)
  obtain⟨hx',hv'⟩ :=hv';obtain⟨_,cv,g1,g2⟩ := (sF I.rel hρ hv').2 (.inr hk');exact⟨j,E,w,_,.one (value hw hv' (.inl g1)),I.quiet T ho hi hm (by rw [hk'];decide) hD' (fun hf=>by rw [hk']at hf;cases hf) g2⟩
 | own vs hw hk hv h1 e=>
  have hk':cK o.op= .read:=hk;obtain⟨b1,b2⟩ :=T.window I.closed I.lt I.eff I.jle ho hi hm;have hv0:qX P (R i).tm (R i).pend (vK ops.toList i) o=some vs:=hv;obtain⟨s,d,x,b,off,len,c,ez,ex,a,t,n1,n2,n3,el,g1,g2,g3,g4,g5,g6,g7⟩ :=aTx hv0;obtain⟨m1,m2⟩ :=aEc g3;obtain⟨f,o',q1,q2,q3,q4,q5,q6,q7⟩ :=T.pend_mem i (by omega) a b _ m1;obtain⟨L,_,_,hE,_⟩ :∃L off' cap,E b=some L∧True:=by
   have:=hρ x (by rw [g1];simp [Op.operands]) _ g2;simp only [VR]at this;obtain⟨L,o1,c1,k1,_⟩ :=this;exact⟨L,o1,c1,k1,trivial⟩
  have hD:D f:=by
   refine Classical.byContradiction fun hn=>?_;have:=I.und f o' hn q2 q3;rw [←q7,hE]at this;cases this
  have hpd:Pd P ops.toList R A D j f (.cells t n1 n2 n3) := ⟨hD,⟨o',q2,q3,q4,q5⟩,by omega⟩;have hr:=I.lookIn T hpd;rw [←q7]at hr;have hv':jH P ((bM ops.toList R j).set b (.cells t n1 n2 n3)) (R i).tm o=some (.val (A i) ((bM ops.toList R j).set b (.cells t n1 n2 n3))) :=by
   unfold jH;simp only [fK,g1,uI,g2,uM,g4,g5,g6,Hp.loadN,aX,if_true,g7,h1,val]
  obtain⟨_,cv,y1,y2⟩ := (sF hr hρ hv').2 (.inr hk');exact⟨j,E,w,_,.one (value hw hv' (.inl y1)),I.quiet T ho hi hm (by rw [hk'];decide) hD' (fun hf=>by rw [hk']at hf;cases hf) y2⟩
 | fresh aob hw hk hv e=>
  have hk':cK o.op= .fresh:=hk;obtain⟨ob,n,cv,hz,g1,g2,g3⟩ :=aHE I.rel hρ (I.und i o hi ho hk') hv
  refine⟨j,_,_,_,.one ?_,I.alloc T ho hi hm hk' hD' hn0 hz g2 (fun aob' h'=>by
   have hv2:nA P (R i).tm (R i).next o=some (A i,aob) :=hv
   rw [hv2]at h';cases h';exact g3)⟩
  have hd:∀c,o.op≠ .defer c:=fun c hc'=>by rw [hc']at hk';cases hk'
  rw [sG hoa (iU T I ho hi hm hw) (.inr hd) g1,mW hoa]
 | eff h2 hw hk hv e=>
  have hk':cK o.op= .eff:=hk;obtain⟨e1,e2⟩ :=effStage hk';obtain⟨p1,p2,p3⟩ :=I.publish T (I.waits T ho hi hm hk');have e3:bM ops.toList R (j+1) =h2:=by rw [←e2,e]
  rw [effS hk',e1]at hv;rcases hv with hv| ⟨c,hv,hcv⟩
  · obtain⟨E',w',cv,g1,g2,g3,g4⟩ :=lS p1 hρ hv;refine⟨j+1,E',w',_,.one (value hw hv g1),I.effect T ho hi hm hk' hD' g2 (by rw [e3];exact g3) ?_⟩;rw [e3];exact g4
  · obtain⟨g,hg,hcall⟩ :=hc hk' c _ _ _ hcv;have hout:=lS p1 hρ hv;obtain⟨nx,G,g1,g2,g3⟩ :=qM p1 hg hout;have hd:=aEa hv;have hkG:G.kind= .normal:=by
     rcases g2 with⟨f,args,_,rfl⟩ | ⟨l,f,t,aS,bd,_,rfl⟩ <;>rfl
    obtain⟨cv,w',E',s1,s2,s3,s4⟩ :=hcall E w G p1 g3 hkG (rf fn tmps (.inRegion ops (i::is) ::k) ds kd ro) cs;refine⟨j+1,E',w',_,?_,I.effect T ho hi hm hk' hD' s2 (by rw [e3];exact s3) (by rw [e3];exact s4)⟩;rw [mW hoa]at s1;rcases g2 with⟨f,args,rfl,rfl⟩ | ⟨l,f,t,aS,bd,rfl,rfl⟩
    ·exact .head (aD6 hoa (iU T I ho hi hm hw) (.inr hd) g1) s1
    ·exact .head (aD7 hoa (iU T I ho hi hm hw) (.inr hd) g1) s1
theorem aQS (hc:dT P call)(T:Trace P call ops.toList nt R A)(hn0:h0.nb= (R 0).next){D D':Nat→Prop}[DecidablePred D][DecidablePred D']{j:Nat}{E:Emb}{w:World}{tmps:Array Value}(I:Inv P ops.toList nt R A E0 h0 w0 D j E w tmps){i:Nat}{o:Oper}(ho:ops.toList[i]?=some o)(hi:¬D i)(hm:Met D o)(hD':∀k,D' k↔ (D k∨k=i))(is:List Nat) :
  ∃j' E' w' tmps',Steps P (lone (rf fn tmps (.inRegion ops (i::is) ::k) ds kd ro) cs w) (lone (rf fn tmps' (.inRegion ops is::k) ds kd ro) cs w') ∧Inv P ops.toList nt R A E0 h0 w0 D' j' E' w' tmps':=
 aMW (fun _=>hc j) T hn0 I ho hi hm hD' is
theorem aMX (hc:dT P call)(T:Trace P call ops.toList nt R A)(hn0:h0.nb= (R 0).next){is:List Nat}{D:Nat→Bool}(hl:Legal ops.toList D is) :∀ {j:Nat} {E:Emb} {w:World} {tmps:Array Value},Inv P ops.toList nt R A E0 h0 w0 (fun k=>D k=true) j E w tmps →
  ∃ (D':Nat→Bool) (j':Nat) (E':Emb) (w':World) (tmps':Array Value),Steps P (lone (rf fn tmps (.inRegion ops is::k) ds kd ro) cs w) (lone (rf fn tmps' (.inRegion ops [] ::k) ds kd ro) cs w') ∧Inv P ops.toList nt R A E0 h0 w0 (fun k=>D' k=true) j' E' w' tmps'∧∀i,i<ops.toList.length→D' i=true:=by
 induction hl with
 | @nil D h=>intro j E w tmps I;exact⟨D,j,E,w,tmps,Steps.refl _ _,I,h⟩
 | @cons D i is o h1 h2 h3 h4 ih=>
  intro j E w tmps I;obtain⟨j',E',w',tmps',s1,I'⟩ :=aQS (D':=fun k=> (D k||k==i) =true) (fn:=fn) (ds:=ds) (kd:=kd) (ro:=ro) (k:=k) (cs:=cs) hc T hn0 I h1 (by simp [h2]) h3 (fun k=>by simp) is;obtain⟨D2,j2,E2,w2,tmps2,s2,I2,hall⟩ :=ih I';exact⟨D2,j2,E2,w2,tmps2,s1.trans s2,I2,hall⟩
end
theorem aCC {call:bK}{nt:Nat}{l:List Oper}:∀ {ps:List Plan} {r r':RS},nB P call nt l ps r=some r'→r'.next=r.next+oM ps
 | [],r,r',h0=>by simp [nB]at h0;subst h0;rfl
 | p ::ps,r,r',h0=>by
  simp only [nB]at h0;split at h0
  · rename_i r1 hr1;obtain⟨a,_,c⟩ :=aCB hr1;have e1:=aCC h0;have e2:=c.next
    rw [e1,e2];simp only [oM];cases hk:p.kd<;>simp [hk] <;>omega
  ·cases h0
theorem aTy {call:bK}{nt:Nat}{ops:Array Oper}{tm:T AV}{h:Hp}{r:RS}(hok: (jJ ops).ok=true)
  (h0:nB P call nt (jJ ops).ops (jJ ops).plans {tm,h:={h with nb:=h.nb+ (jJ ops).fresh},stages:=[],s:=0,pend:=[],next:=h.nb,again:=[]}=some r)
  (hch:wX P (r.h::r.stages) r.s r.again) :
  ∃ (R:Nat→RS) (A:Nat→AV),Trace P call ops.toList nt R A∧R 0= {tm,h:={h with nb:=h.nb+ (jJ ops).fresh},stages:=[],s:=0,pend:=[],next:=h.nb,again:=[]}∧R ops.toList.length=r∧∀i p,(jJ ops).plans[i]?=some p→kS P call nt (jJ ops).ops p (R i) =some (R (i+1)) :=by
 obtain⟨R,e1,e2,e3⟩ :=aAM h0;have hlen: (jJ ops).plans.length=ops.toList.length:=vJ _ _ _ _
 have hget:∀i o,ops.toList[i]?=some o→ (jJ ops).plans[i]?=some (sH ops.toList i o) :=fun i o ho=>by
  have:=aCA (kR ops.toList []) (eT ops.toList 0) ops.toList 0 i;rw [ho,Option.map_some,zero_add]at this;exact this
 have hstep:∀i,∃a,∀o,ops.toList[i]?=some o→gG (R i).tm nt o.dst a=some (R (i+1)).tm∧RC P call ops.toList (sH ops.toList i o) (R i) (R (i+1)) a:=fun i=>by
  cases ho:ops.toList[i]? with
  |none=>exact⟨.undef,fun o h=>by cases h⟩
  | some o=>
   obtain⟨a,g1,g2⟩ :=aCB (e3 i _ (hget i o ho));exact⟨a,fun o' h=>by cases h;exact⟨g1,g2⟩⟩
 obtain⟨A,hA⟩ :=Classical.axiomOfChoice hstep;rw [hlen]at e2;simp only [jJ,Bool.and_eq_true]at hok;obtain⟨⟨⟨⟨h1,h2⟩,h3⟩,h4⟩,h5⟩ :=hok;refine⟨R,A,⟨fun i o ho=>hA i o ho,h1,h2,fun i o ho e he hb=>?_,by rw [e1],by rw [e1],by rw [e1],by rw [e1],?_,by rw [e2];exact hch⟩,e1,e2,e3⟩
 · have hlt:=sK ho;obtain⟨g1,g2⟩ :=vI h3 i o ho e he hb;have hr:∀x,x<ops.size→ (List.range ops.size).getD x 0=x:=fun x hx=>by simp [List.getD_eq_getElem?_getD,hx]
   rw [zero_add,hr _ g1,hr _ (by simpa using hlt)]at g2;exact g2
 ·rw [e2,aCC h0,e1];exact le_refl _
theorem aQT {tm0:T AV}{dst:Nat→Option Nat}{A:Nat→AV}{D:Nat→Prop}[DecidablePred D](hD:∀k,¬D k)(n t:Nat) :dQ tm0 dst A D n t=tm0.at t:=by
 rw [wW (i:=0) (zero_le n) (fun k _ _ _=>hD k)];rfl
theorem zE {call:bK}(hc:dT P call){nt:Nat}{ops:Array Oper}{tm:T AV}{h:Hp}{rr:RS}(hok: (jJ ops).ok=true)
  (hrr:nB P call nt (jJ ops).ops (jJ ops).plans {tm,h:={h with nb:=h.nb+ (jJ ops).fresh},stages:=[],s:=0,pend:=[],next:=h.nb,again:=[]}=some rr)
  (hch:wX P (rr.h::rr.stages) rr.s rr.again) {E:Emb} {w:World} {tmps:Array Value} (r:Rel E h w.heap) (htm:TR E tm nt tmps)
  (id:Nat) (fn:FuncId) (ds:List Deferred) (kd:CallKind) (ro:Option Nat) (k:List Item) (cs:List Frame) :
  ∃E' w' tmps',Steps P (lone (rf fn tmps (.code (.region id ops true) ::k) ds kd ro) cs w) (lone (rf fn tmps' k ds kd ro) cs w') ∧TR E' rr.tm nt tmps'∧Rel E' (aM rr.h rr.s rr.pend) w'.heap∧Ext E h w E' (aM rr.h rr.s rr.pend) w':=by
 obtain⟨R,A,T,e0,eN,_⟩ :=aTy hok hrr hch;have hσ0:bM ops.toList R 0= {h with nb:=h.nb+ (jJ ops).fresh}:=by
  have:=T.stage (i:=0) (zero_le _);rw [T.s0]at this;rw [this,e0]
 have I:Inv P ops.toList nt R A E h w (fun k=> (fun _:Nat=>false) k=true) 0 E {w with drawn:=w.drawn+1} tmps:=by
  refine⟨fun i o _ hd=>by simp at hd,fun i hd=>by simp at hd,fun q e _=>by simp,zero_le _,?_,by rw [hσ0,e0];exact le_refl _,?_,htm.1,fun t a ha=>?_,fun f o _ ho hk=>?_,fun f ob p=>?_,fun f ob p=>?_,by rw [e0],fun b o hb hE=>?_,fun f g ob ob' L L' p=>?_⟩
  · rw [hσ0];exact⟨Emb.le.refl E,le_refl _,fun _ _ _=>rfl,fun b o L h1 h2 i hi _=> ⟨b,o,L,h1,h2,hi⟩,Nat.le_add_right _ _,rfl,rfl,rfl,fun _ _=>rfl,fun _ _=>rfl,fun _ _ e _=>.inl e,fun _ o e _=> ⟨o,e⟩⟩
  ·rw [hσ0];exact r.sub (fun _ _ e=>e) (Nat.le_add_right _ _)
  · rw [aQT (by simp),e0]at ha;exact htm.2 t a ha
  · have:= (T.id_lt ho hk).1;rw [e0]at this;exact r.fresh _ this
  ·have:=p.done;simp at this
  ·have:=p.done;simp at this
  ·rw [hσ0]at hb;exact .inl (r.keys b o hb)
  ·have:=p.done;simp at this
 obtain⟨D',j',E',w',tmps',s1,I',hall⟩ :=aMX (fn:=fn) (ds:=ds) (kd:=kd) (ro:=ro) (k:=k) (cs:=cs) hc T (by rw [e0]) (aD8 hok (P.follows .mixedOrders) (w.tape w.drawn (.order fn id))) I;have hj:j'=rr.s:=by
  rw [←eN,T.sEnd];have:=I'.jle;rcases lt_or_ge j' (eT ops.toList 0).length with g|g
  · have he: (eT ops.toList 0)[j']?=some ((eT ops.toList 0)[j']) :=getElem?_eq_getElem g;obtain⟨_,h2,_⟩ := (gW ops.toList 0).1 _ _ he;have:= (I'.eff _ _ he).1 (hall _ (by omega));omega
  ·omega
 have hps:∀x ob,(j',x,ob) ∈rr.pend→∃f,Pd P ops.toList R A (fun k=>D' k=true) j' f ob∧vK ops.toList f=j'∧x= (R f).next:=fun x ob hx=>by
  rw [←eN]at hx;obtain⟨f,o,h1,h2,h3,h4,h5,h6,h7⟩ :=T.pend_mem _ (le_refl _) j' x ob hx;exact⟨f,⟨hall f h1,⟨o,h2,h3,h4,h5⟩,by omega⟩,h6.symm,h7⟩
 obtain⟨p1,p2,_⟩ :=I'.publish T hps;have hst:bM ops.toList R j'=rr.h:=by rw [hj,←eN];exact T.stage (le_refl _)
 rw [hst,hj]at p1 p2;refine⟨E',w',tmps',.head (aYS id) (s1.trans (.one yZ)),⟨I'.size,fun t a ha=>?_⟩,p1,p2⟩;refine I'.tv t a ?_;rw [←eN,T.view t _ (le_refl _)]at ha;rw [←ha];exact sJ fun k hk _=> ⟨fun _=>trivial,fun _=>hall k hk⟩
theorem aHF {call:bK}(hc:dT P call){nt:Nat}{ops:Array Oper}{tm tm':T AV}{h h':Hp}(h0:aDc P call nt ops tm h=some (tm',h')){E:Emb}{w:World}{tmps:Array Value}(r:Rel E h w.heap)(htm:TR E tm nt tmps)
  (id:Nat) (fn:FuncId) (ds:List Deferred) (kd:CallKind) (ro:Option Nat) (k:List Item) (cs:List Frame) :
  ∃E' w' tmps',Steps P (lone (rf fn tmps (.code (.region id ops true) ::k) ds kd ro) cs w) (lone (rf fn tmps' k ds kd ro) cs w') ∧TR E' tm' nt tmps'∧Rel E' h' w'.heap∧Ext E h w E' h' w':=by
 unfold aDc at h0;simp only at h0;cases hok: (jJ ops).ok with
 |false=>rw [hok]at h0;cases h0
 | true=>
  rw [hok]at h0;simp only [cond]at h0;split at h0
  · rename_i rr hrr;cases hch:qY P (rr.h::rr.stages) rr.s rr.again with
    |false=>rw [hch]at h0;cases h0
    | true=>
     rw [hch]at h0;simp only [Option.some.injEq,Prod.mk.injEq]at h0;obtain⟨rfl,rfl⟩ :=h0;exact zE hc hok hrr (aD9 hch) r htm id fn ds kd ro k cs
  ·cases h0
end
section
variable {P :Program} {E:Emb} {h h':Hp} {w w':World}
theorem vN {l:Nat}{L:Loop}{ob':Obj}(hl:w.heap[l]?=some (.loop L)) : (setObj l ob').run P w= .ok () (bZ w l ob') :=oO hl (fun _ _ _ e=>by cases e)
theorem aAP (r:Rel E h w.heap){l:Nat}{L:Loc}(hE:E l=some L){st pe fn tm nt ps aS bd df}(hl:h.look l=some (.loop st pe fn tm nt ps aS bd df)) :
  ∃tmps Ld,w.heap[L.blk]?=some (.loop {state:=st,pending:=pe,fn,tmps,params:= ⟨ps⟩,assign:=aS,body:=bd,defers:=Ld.blk}) ∧E df=some Ld∧TR E tm nt tmps:=by
 obtain⟨L',g1,g2⟩ :=r.obj _ _ hl;rw [hE]at g1;cases g1;exact g2
theorem qN (r:Rel E h w.heap){l:Nat}{L:Loc}(hE:E l=some L){st pe fn tm nt ps aS bd df tmps}{Ld:Loc}(hl:h.look l=some (.loop st pe fn tm nt ps aS bd df))(hd:E df=some Ld)(ht:TR E tm nt tmps)(st':LoopState)(pe':Option Code) :
  Rel E (h.set l (.loop st' pe' fn tm nt ps aS bd df)) (bZ w L.blk (.loop {state:=st',pending:=pe',fn,tmps,params:= ⟨ps⟩,assign:=aS,body:=bd,defers:=Ld.blk})).heap ∧
  Ext E h w E (h.set l (.loop st' pe' fn tm nt ps aS bd df)) (bZ w L.blk (.loop {state:=st',pending:=pe',fn,tmps,params:= ⟨ps⟩,assign:=aS,body:=bd,defers:=Ld.blk})) :=
 r.setObj (.loop {state:=st',pending:=pe',fn,tmps,params:= ⟨ps⟩,assign:=aS,body:=bd,defers:=Ld.blk}) hl hE rfl rfl (fun H' hH=> ⟨tmps,Ld,hH,hd,ht⟩)
theorem aBQ (r:Rel E h w.heap){l:Nat}{L:Loc}(hE:E l=some L){pe fn tm nt ps aS bd df}(hl:h.look l=some (.loop .ready pe fn tm nt ps aS bd df)) :
  ∃w',(Instr.beginRound L.blk).run P w= .ok () w'∧Rel E (h.set l (.loop .busy pe fn tm nt ps aS bd df)) w'.heap∧Ext E h w E (h.set l (.loop .busy pe fn tm nt ps aS bd df)) w':=by
 obtain⟨tmps,Ld,g1,g2,g3⟩ :=aAP r hE hl;have:=qN r hE hl g2 g3 .busy pe;exact⟨_,by simp [Instr.beginRound,run_getLoop g1,vN g1],this⟩
theorem vO (r:Rel E h w.heap){l:Nat}{L:Loc}(hE:E l=some L){jump:Option Code}(h0:kF h l jump=some h') :
  ∃w',(Instr.endRound L.blk jump).run P w= .ok (.bool jump.isNone) w'∧Rel E h' w'.heap∧Ext E h w E h' w':=by
 unfold kF at h0;split at h0
 · rename_i st pe fn tm nt ps aS bd df hl;cases h0;obtain⟨tmps,Ld,g1,g2,g3⟩ :=aAP r hE hl;have:=qN r hE hl g2 g3 (match jump with|none=>.ready|some _=>.done) jump;refine⟨_,?_,this⟩;cases jump<;>simp [Instr.endRound,run_getLoop g1,vN g1]
 ·cases h0
theorem aFV (r:Rel E h w.heap){l:Nat}{L:Loc}(hE:E l=some L){st pe fn tm nt ps aS bd df}(hst:st≠ .busy)(hl:h.look l=some (.loop st pe fn tm nt ps aS bd df)) :
  ∃w',(Instr.endLoop L.blk).run P w= .ok pe w'∧Rel E (h.set l (.loop .exhausted pe fn tm nt ps aS bd df)) w'.heap∧Ext E h w E (h.set l (.loop .exhausted pe fn tm nt ps aS bd df)) w':=by
 obtain⟨tmps,Ld,g1,g2,g3⟩ :=aAP r hE hl;have:=qN r hE hl g2 g3 .exhausted pe;refine⟨_,?_,this⟩;cases st<;>first|exact absurd rfl hst|simp [Instr.endLoop,run_getLoop g1,vN g1]
theorem oP (r:Rel E h w.heap){b:Nat}{L:Loc}(hE:E b=some L)(hb:h.look b=some (.defd false)) :
  ∃w',(Instr.takeDeferred L.blk).run P w= .ok [] w'∧Rel E (h.set b (.defd true)) w'.heap∧Ext E h w E (h.set b (.defd true)) w':=by
 obtain⟨L',g1,g2⟩ :=r.obj _ _ hb;rw [hE]at g1;cases g1;have:=r.setObj (o':=.defd true) (.deferred none) hb hE rfl rfl (fun H' hH=>hH);have g2':w.heap[L.blk]?=some (.deferred (some [])) :=g2;refine⟨bZ w L.blk (.deferred none),?_,this⟩;have e1: (getObj L.blk).run P w= .ok (.deferred (some [])) w:=by simp [getObj,Sem.run,g2']
 have e2: (setObj L.blk (.deferred none)).run P w= .ok () (bZ w L.blk (.deferred none)) :=oO g2' (fun _ _ _ e=>by cases e);simp [Instr.takeDeferred,e1,e2]
theorem aEd (r:Rel E h w.heap){fn:FuncId}{tm:T AV}{nt:Nat}{tmps:Array Value}(ht:TR E tm nt tmps)(ps:List Nat)(aS bd:Code) :
  ∃ (L Ld:Loc) (w':World) (E':Emb),(Instr.enterLoop fn tmps ⟨ps⟩ aS bd none).run P w= .ok (L.blk,[{target:=.collected Ld.blk,args:= #[]}]) w'∧E' h.nb=some Ld∧E' (h.nb+1) =some L ∧
   Rel E' ((h.new (.defd false)).new (.loop .ready none fn tm nt ps aS bd h.nb)) w'.heap∧Ext E h w E' ((h.new (.defd false)).new (.loop .ready none fn tm nt ps aS bd h.nb)) w':=by
 obtain⟨r1,x1⟩ :=r.new (.defd false) (.deferred (some [])) 0 (fun _ _ _ _ hH=>hH)
 obtain⟨r2,x2⟩ :=Rel.new (w:={w with heap:=w.heap.push (.deferred (some []))}) r1 (.loop .ready none fn tm nt ps aS bd h.nb)
  (.loop {state:=.ready,pending:=none,fn,tmps,params:= ⟨ps⟩,assign:=aS,body:=bd,defers:=w.heap.size}) 0
  (fun E' H' hle _ hH=> ⟨tmps,⟨w.heap.size,0,0⟩,hH,hle.1 _ _ (Emb.put_same _ _ _),(ht.mono x1.le).mono hle⟩)
 refine⟨⟨(w.heap.push (.deferred (some []))).size,0,0⟩,⟨w.heap.size,0,0⟩,_,_,?_,?_,Emb.put_same _ _ _,r2,x1.trans x2⟩
 · simp [Instr.enterLoop,newObj,Sem.run];rfl
 ·exact x2.le.1 _ _ (Emb.put_same _ _ _)
theorem aEe (r:Rel E h w.heap){o:Nat}{Lo:Loc}(hE:E o=some Lo){st pe fn' tm' nt' ps' as' bd' df}(hl:h.look o=some (.loop st pe fn' tm' nt' ps' as' bd' df)){fn:FuncId}{tm:T AV}{nt:Nat}{tmps:Array Value}(ht:TR E tm nt tmps)(ps:List Nat)(aS bd:Code) :
  ∃ (L:Loc) (w':World) (E':Emb),(Instr.enterLoop fn tmps ⟨ps⟩ aS bd (some Lo.blk)).run P w= .ok (L.blk,[]) w'∧E' h.nb=some L ∧
   Rel E' (h.new (.loop .ready none fn tm nt ps aS bd df)) w'.heap∧Ext E h w E' (h.new (.loop .ready none fn tm nt ps aS bd df)) w':=by
 obtain⟨tmps',Ld,g1,g2,g3⟩ :=aAP r hE hl
 obtain⟨r2,x2⟩ :=r.new (.loop .ready none fn tm nt ps aS bd df)
  (.loop {state:=.ready,pending:=none,fn,tmps,params:= ⟨ps⟩,assign:=aS,body:=bd,defers:=Ld.blk}) 0
  (fun E' H' hle _ hH=> ⟨tmps,Ld,hH,hle.1 _ _ g2,ht.mono hle⟩)
 exact⟨_,_,_,by simp [Instr.enterLoop,run_getLoop g1,newObj,Sem.run],Emb.put_same _ _ _,r2,x2⟩
def aGl (tmps:Array Value) :ResultVar→Sem Value
 | .tmp t=>pure (tmps.getD t Go.undef)
 | .cell a t=>do loadVar t (←asAddr (tmps.getD a Go.undef))
theorem aMY (fd:Func)(tmps:Array Value) :results fd tmps= (do let vs ←fd.results.mapM (aGl tmps);pure (if h:vs.size=1 then vs[0]else .tuple vs) :Sem Value) :=by
 unfold results;rfl
theorem vP {fd:Func}{tm:T AV}{nt:Nat}{tmps:Array Value}(r:Rel E h w.heap)(ht:TR E tm nt tmps){vs:List AV}(h0:kT P h tm fd.results.toList=some vs) :
  ∃cv,(results fd tmps).run P w= .ok cv w∧VR E (aBH vs) cv:=by
 have key :∀ (rs:List ResultVar) (vs:List AV) (acc:Array Value),kT P h tm rs=some vs→∃cvs,(rs.foldlM (fun(bs:Array Value) a=>Functor.map bs.push (aGl tmps a)) acc).run P w= .ok (acc++ (⟨cvs⟩ :Array Value)) w∧VRs E vs cvs:=by
  intro rs
  induction rs with
  |nil=>intro vs acc h0;simp [kT]at h0;subst h0;exact⟨[],by simp,VRs.nil E⟩
  | cons x rs ih=>
   intro vs acc h0;simp only [kT]at h0;split at h0
   · rename_i v vs' h1 h2;cases h0;have hx:∃cv,(aGl tmps x).run P w= .ok cv w∧VR E v cv:=by
      unfold aPF at h1;split at h1
      · rename_i t;obtain⟨cv,g1,g2⟩ :=ht.2 _ _ h1;exact⟨cv,by simp [aGl,Array.getD_eq_getD_getElem?,g1],g2⟩
      · rename_i a t;split at h1
        · rename_i b off hb;obtain⟨cv,g1,g2⟩ :=ht.2 _ _ hb;simp only [VR]at g2;obtain⟨L,hL,rfl⟩ :=g2;obtain⟨cv,k1,k2⟩ :=aCv r h1 hL;exact⟨cv,by simp [aGl,Array.getD_eq_getD_getElem?,g1,asAddr,k1],k2⟩
        ·cases h1
     obtain⟨cv,k1,k2⟩ :=hx;obtain⟨cvs,q1,q2⟩ :=ih vs' (acc.push cv) h2;refine⟨cv::cvs,?_,VRs.cons k2 q2⟩;rw [List.foldlM_cons,Sem.run_bind,Sem.run_map,k1];simp only [Result.andThen_ok];rw [q1];congr 1;apply Array.ext';simp
   ·cases h0
 obtain⟨cvs,k1,k2⟩ :=key _ _ #[] h0;have hm: (fd.results.mapM (aGl tmps)).run P w= .ok (⟨cvs⟩ :Array Value) w:=by
  rw [Array.mapM_eq_foldlM,←Array.foldlM_toList,k1];congr 1;apply Array.ext';simp
 rw [aMY];simp only [Sem.run_bind,hm,Result.andThen_ok,Sem.run_pure];refine⟨_,rfl,?_⟩;have hlen:=k2.length;unfold aBH;split
 · rename_i v;obtain⟨u,us,rfl,g1,g2⟩ :=k2.cons_inv;rw [g2.nil_inv];exact g1
 · rename_i hv
   have:¬ (⟨cvs⟩ :Array Value).size=1:=fun e=>by
    have e':cvs.length=1:=e
    match vs,hlen with
    | [x],_=>exact hv x rfl
    | [],h=>simp [e']at h
    |_::_::_,h=>simp [e']at h
   rw [dif_neg this];simp only [VR];exact⟨cvs,rfl,k2⟩
theorem CR.noGoexit :∀ {aS:List (AV×Bool)} {ps:List PanicEntry},CR E aS ps→ps.dropWhile (!·.goexit) = []
 | [],_,h=>by simp only [CR]at h;subst h;rfl
 | _::_,_,h=>by
  simp only [CR]at h;obtain⟨v,ps,rfl,_,h2⟩ :=h;simp [h2.noGoexit]
theorem aHG {a:AMode}{m:FrameMode}(h0:MR E a m) :MR E (aHg a) (settle m) :=by
 cases a with
 |run=>simp only [MR]at h0;subst h0;exact rfl
 |ret=>simp only [MR]at h0;subst h0;exact rfl
 | pan chain=>
  simp only [MR]at h0;obtain⟨ps,rfl,h1⟩ :=h0;cases chain with
  |nil=>simp only [CR]at h1;subst h1;exact⟨[],rfl,by simp [CR]⟩
  | cons x xs=>
   obtain⟨v,b⟩ :=x;have h1':=h1;simp only [CR]at h1;obtain⟨cv,ps',rfl,h2,h3⟩ :=h1;cases b with
   |true=>simp only [aHg,settle,h3.noGoexit];exact rfl
   |false=>exact⟨_,rfl,h1'⟩
theorem vQ {a:AFrame}{c:Frame}(f:FR E a c){vs:List (AV×Bool)}{ps:List PanicEntry}(hv:CR E vs ps) :FR E (a.raise vs) (c.raise ps) :=by
 unfold AFrame.raise Frame.raise;have hm:=f.mode;cases hma:a.mode with
 |run=>rw [hma]at hm;simp only [MR]at hm;rw [hm];exact⟨f.fn,f.tm,f.todo,f.defers,⟨ps,rfl,hv⟩,f.kind,f.round⟩
 |ret=>rw [hma]at hm;simp only [MR]at hm;rw [hm];exact⟨f.fn,f.tm,f.todo,f.defers,⟨ps,rfl,hv⟩,f.kind,f.round⟩
 | pan chain=>
  rw [hma]at hm;simp only [MR]at hm;obtain⟨qs,h1,h2⟩ :=hm;rw [h1];exact⟨f.fn,f.tm,f.todo,f.defers,⟨_,rfl,hv.append h2⟩,f.kind,f.round⟩
theorem sL (id:Nat) :∀ {k k':List AItem} {ck:List Item},mI id k=some k'→IRs E k ck→∃ck',exitTo id ck=some ck'∧IRs E k' ck'
 | [],_,_,h,_=>by simp [mI]at h
 | i ::k,k',ck,h,r=>by
  obtain⟨ci,ck0,rfl,h1,h2⟩ :=r.cons_inv;cases i<;>simp only [mI]at h<;>simp only [IR]at h1
  case inBlock id'=>
   subst h1;rw [bH]at h;simp only [exitTo];by_cases e:id'=id
   · simp only [e,decide_true,cond,Option.some.injEq]at h;subst h;exact⟨ck0,by simp [e],h2⟩
   · simp only [e,decide_false,cond]at h;obtain⟨ck',g1,g2⟩ :=sL id h h2;exact⟨ck',by simp [e,g1],g2⟩
  all_goals
   obtain⟨ck',g1,g2⟩ :=sL id h h2;refine⟨ck',?_,g2⟩
   first
    | (subst h1;simpa [exitTo]using g1)
    | (obtain⟨L,_,rfl⟩ :=h1;simpa [exitTo]using g1)
    | (obtain⟨rfl,_⟩ :=h1;simpa [exitTo]using g1)
theorem pU (id:Nat) :∀ {k:List AItem} {ck:List Item},mI id k=none→IRs E k ck→exitTo id ck=none
 | [],_,_,r=>by rw [r.nil_inv];rfl
 | i ::k,ck,h,r=>by
  obtain⟨ci,ck0,rfl,h1,h2⟩ :=r.cons_inv;cases i<;>simp only [mI]at h<;>simp only [IR]at h1
  case inBlock id'=>
   subst h1;rw [bH]at h;simp only [exitTo];by_cases e:id'=id
   ·simp only [e,decide_true,cond]at h;cases h
   · simp only [e,decide_false,cond]at h;simp [e,pU id h h2]
  all_goals
   have g1:=pU id h h2
   first
    | (subst h1;simpa [exitTo]using g1)
    | (obtain⟨L,_,rfl⟩ :=h1;simpa [exitTo]using g1)
    | (obtain⟨rfl,_⟩ :=h1;simpa [exitTo]using g1)
theorem sM (l:Nat) :∀ {k k':List AItem} {ck:List Item},mJ l k=some k'→IRs E k ck→∃ck',gotoIn l ck=some ck'∧IRs E k' ck'
 | [],_,_,h,_=>by simp [mJ]at h
 | i ::k,k',ck,h,r=>by
  obtain⟨ci,ck0,rfl,h1,h2⟩ :=r.cons_inv;cases i<;>simp only [mJ]at h<;>simp only [IR]at h1
  case inScope body=>
   subst h1;simp only [gotoIn];split at h
   · rename_i rest hr;cases h;exact⟨.code rest:: .inScope body::ck0,by simp [hr],IRs.cons rfl (IRs.cons rfl h2)⟩
   · rename_i hr;obtain⟨ck',g1,g2⟩ :=sM l h h2;exact⟨ck',by simp [hr,g1],g2⟩
  all_goals
   obtain⟨ck',g1,g2⟩ :=sM l h h2;refine⟨ck',?_,g2⟩
   first
    | (subst h1;simpa [gotoIn]using g1)
    | (obtain⟨L,_,rfl⟩ :=h1;simpa [gotoIn]using g1)
    | (obtain⟨rfl,_⟩ :=h1;simpa [gotoIn]using g1)
theorem pV (l:Nat) :∀ {k:List AItem} {ck:List Item},mJ l k=none→IRs E k ck→gotoIn l ck=none
 | [],_,_,r=>by rw [r.nil_inv];rfl
 | i ::k,ck,h,r=>by
  obtain⟨ci,ck0,rfl,h1,h2⟩ :=r.cons_inv;cases i<;>simp only [mJ]at h<;>simp only [IR]at h1
  case inScope body=>
   subst h1;simp only [gotoIn];split at h
   ·cases h
   · rename_i hr;simp [hr,pV l h h2]
  all_goals
   have g1:=pV l h h2
   first
    | (subst h1;simpa [gotoIn]using g1)
    | (obtain⟨L,_,rfl⟩ :=h1;simpa [gotoIn]using g1)
    | (obtain⟨rfl,_⟩ :=h1;simpa [gotoIn]using g1)
def Goes (P:Program)(E:Emb)(h:Hp)(fr:Frame)(cs:List Frame)(w:World)(base:List Frame)(s':AS) :Prop:=
 ∃E' fr' cs' w',Steps P (lone fr (cs++base) w) (lone fr' (cs'++base) w') ∧FR E' s'.fr fr'∧FRs E' s'.cs cs'∧Rel E' s'.h w'.heap∧Ext E h w E' s'.h w'
section
variable {fn :FuncId} {tmps:Array Value} {ds:List Deferred} {kd:CallKind} {ro:Option Nat} {k:List Item} {ccs base:List Frame} {todo:List Item}
theorem drop_cons {α:Type}{l:List α}{i:Nat}{x:α}{xs:List α}(h:x::xs=l.drop i) :l[i]?=some x∧xs=l.drop (i+1) :=by
 have h1: (l.drop i)[0]?=some x:=by rw [←h];rfl
 rw [List.getElem?_drop,Nat.add_zero]at h1;refine⟨h1,?_⟩;have:l.drop (i+1) = (l.drop i).drop 1:=by rw [List.drop_drop]
 rw [this,←h];rfl
theorem aEf {all:Array Oper}{i:Nat}{o:Oper}{rest:List Oper}{it:Item}(h0:IR E (.ops all i (o::rest)) it) :
  it= .inRegion all (i::range' (i+1) rest.length) ∧all[i]?=some o∧IR E (.ops all (Nat.succ i) rest) (.inRegion all (range' (i+1) rest.length)) :=by
 simp only [IR]at h0;obtain⟨rfl,h1⟩ :=h0;obtain⟨g1,g2⟩ :=drop_cons h1;exact⟨by simp [List.range'_succ],by rw [←Array.getElem?_toList];exact g1,rfl,g2⟩
theorem aAQ {c c':AFrame}{v:AV}{cc:Frame}{cv:Value}(h0:c.finish v=some c')(f:FR E c cc)(hv:VR E v cv) :FR E c' (cc.finish cv) :=by
 unfold AFrame.finish at h0;have ft:=f.todo;split at h0
 · rename_i all i o rest k ht;split at h0
   · rename_i tm' htm;cases h0;rw [ht]at ft;obtain⟨it,k',e,h1,h2⟩ :=ft.cons_inv;obtain⟨rfl,g1,g2⟩ :=aEf h1;have hp:=zV f.tm htm hv;unfold Frame.finish;rw [e];simp only [g1,Option.bind_some];refine⟨f.fn,?_,IRs.cons g2 h2,f.defers,f.mode,f.kind,f.round⟩;unfold zU at hp;exact hp
   ·cases h0
 · rename_i l k ht;cases h0;rw [ht]at ft;obtain⟨it,k',e,h1,h2⟩ :=ft.cons_inv;simp only [IR]at h1;obtain⟨L,g1,rfl⟩ :=h1;unfold Frame.finish;rw [e];exact⟨f.fn,f.tm,IRs.cons ⟨L,g1,rfl⟩ h2,f.defers,f.mode,f.kind,f.round⟩
 ·cases h0
theorem zG {fr:AFrame}{cfr:Frame}(hk:cfr.kind=fr.kind){cs:List AFrame}(fs:FRs E cs ccs){v:AV}{cv:Value}{s':AS}(h0:aAy fr cs v h=some s')(hv:VR E v cv) :
  ∃c cs1,ccs=c::cs1∧FR E s'.fr (handed cfr c cv) ∧FRs E s'.cs cs1∧s'.h=h∧ (cfr.kind= .normal∨cfr.kind= .deferred) :=by
 unfold aAy at h0;split at h0
 ·cases h0
 · rename_i c cs;obtain⟨cc,cs1,rfl,f1,f2⟩ :=fs.cons_inv;refine⟨cc,cs1,rfl,?_⟩;split at h0
   · rename_i hkd;split at h0
     · rename_i c' hc';cases h0;refine⟨?_,f2,rfl,.inl (by rw [hk,hkd])⟩;simp only [handed,hk,hkd];exact aAQ hc' f1 hv
     ·cases h0
   · rename_i hkd;cases h0;refine⟨?_,f2,rfl,.inr (by rw [hk,hkd])⟩;simp only [handed,hk,hkd];exact⟨f1.fn,f1.tm,f1.todo,f1.defers,aHG f1.mode,f1.kind,f1.round⟩
   ·cases h0
theorem Goes.one {s':AS}{fr fr':Frame}{cs':List Frame}{E':Emb}(h1:step P (lone fr (ccs++base) w) = .next (lone fr' (cs'++base) w'))(f:FR E' s'.fr fr')(fs:FRs E' s'.cs cs')(r:Rel E' s'.h w'.heap)(x:Ext E h w E' s'.h w') :Goes P E h fr ccs w base s':=
 ⟨E',fr',cs',w',.one h1,f,fs,r,x⟩
theorem sN {l:Nat}(hr:RR E (some l) ro) :∃L,E l=some L∧ro=some L.blk:=by simpa only [RR]using hr
theorem nK {fr:AFrame}{cs:List AFrame}{jump:Option Code}{s':AS}(r:Rel E h w.heap)(f:FR E fr (rf fn tmps todo ds kd ro))(fs:FRs E cs ccs)(h0:qI fr cs h jump=some s')
  (ht: (todo= [] ∧jump=none) ∨ (∃k,todo= .code .ret::k∧jump=some .ret) ∨ (∃id k,todo= .code (.exit id) ::k∧jump=some (.exit id) ∧exitTo id k=none) ∨ (∃t k,todo= .code (.goto t) ::k∧jump=some (.goto t) ∧gotoIn t k=none)) :
  Goes P E h (rf fn tmps todo ds kd ro) ccs w base s':=by
 unfold qI at h0;have fr0:=f.round;split at h0
 · rename_i hro;rw [hro]at fr0;simp only [RR]at fr0;subst fr0
   have fin:∀td,(step P (lone (rf fn tmps td ds kd none) (ccs++base) w) = .next (lone {rf fn tmps td ds kd none with mode:=.returning} (ccs++base) w)) →td=todo→some ⟨{fr with mode:=.ret},cs,h⟩ =some s'→Goes P E h (rf fn tmps todo ds kd none) ccs w base s':=fun td hs e h0=>by
    cases h0;subst e;exact Goes.one hs ⟨f.fn,f.tm,f.todo,f.defers,rfl,f.kind,by rw [show({fr with mode:=AMode.ret}:AFrame).roundOf=fr.roundOf from rfl,hro];exact rfl⟩ fs r (Ext.refl _ _ _)
   split at h0
   · rcases ht with⟨e,_⟩ | ⟨_,_,e⟩ | ⟨_,_,_,e,_⟩ | ⟨_,_,_,e,_⟩
     ·exact fin [] bC2 e.symm h0
     ·cases e
     ·cases e
     ·cases e
   · rcases ht with⟨_,e⟩ | ⟨k,e,_⟩ | ⟨_,_,_,e,_⟩ | ⟨_,_,_,e,_⟩
     ·cases e
     ·exact fin _ bC3 e.symm h0
     ·cases e
     ·cases e
   ·cases h0
 · rename_i l hro;rw [hro]at fr0;obtain⟨L,hE,rfl⟩ :=sN fr0;split at h0
   · rename_i h1 hh1;obtain⟨w1,g1,g2,g3⟩ :=vO (P:=P) r hE hh1;have hv:VR E (.bool jump.isNone) (.bool jump.isNone) :=by simp only [VR]
     obtain⟨c,cs1,rfl,k1,k2,k3,k4⟩ :=zG (cfr:=rf fn tmps todo ds kd (some L.blk)) f.kind fs h0 hv;refine Goes.one (cs':=cs1) (vD k4 ht g1) k1 k2 (by rw [k3];exact g2) (by rw [k3];exact g3)
   ·cases h0
theorem FR.run {fr:AFrame}{c:Frame}(f:FR E fr c)(hm:fr.mode= .run) :c=rf c.fn c.tmps c.todo c.defers c.kind c.roundOf:=by
 have:=f.mode;rw [hm]at this;simp only [MR]at this;cases c;simp only at this;subst this;rfl
theorem fV {fr:AFrame}{cs:List AFrame}{s':AS}{td:List AItem}{td':List Item}(r:Rel E h w.heap)(f:FR E fr (rf fn tmps todo ds kd ro))(hm:fr.mode= .run)(fs:FRs E cs ccs)(h0:toC fr td cs h=some s')(ht:IRs E td td')
  (h1:step P (lone (rf fn tmps todo ds kd ro) (ccs++base) w) = .next (lone (rf fn tmps td' ds kd ro) (ccs++base) w)) :Goes P E h (rf fn tmps todo ds kd ro) ccs w base s':=by
 unfold toC at h0;cases h0;exact Goes.one h1 ⟨f.fn,f.tm,ht,f.defers,f.mode,f.kind,f.round⟩ fs r (Ext.refl _ _ _)
theorem aQU (r:Rel E h w.heap){fr:AFrame}{cs:List AFrame}{call:bK}{all:Array Oper}{i:Nat}{o:Oper}{rest:List Oper}{ak:List AItem}(hm:fr.mode= .run)(htd:fr.todo= .ops all i (o::rest) ::ak)
  (f:FR E fr (rf fn tmps todo ds kd ro)) (fs:FRs E cs ccs) {s':AS} (h0:kU P call ⟨fr,cs,h⟩ =some s') :Goes P E h (rf fn tmps todo ds kd ro) ccs w base s':=by
 unfold kU at h0;simp only [hm,htd]at h0;have ft:=f.todo;rw [htd]at ft;obtain⟨it,k,e,i1,i2⟩ :=ft.cons_inv;simp only at e;subst e;obtain⟨rfl,ho,i3⟩ :=aEf i1;have hd: (all[i]?).bind (·.dst) =o.dst:=by rw [ho];rfl
 have hwant:∀ {b},bP fr.tm all.toList o=some b→Region.wanted o (yielded all tmps) =b:=fun h=>zA f.tm h;have hρ:=TR.reads (E:=E) f.tm fn (.inRegion all (i::range' (i+1) rest.length) ::k) ds kd ro (· ∈o.op.operands)
 have put:∀ {E':Emb} {tm':T AV} {v:AV} {cv:Value},E.le E'→gG fr.tm fr.nt o.dst v=some tm'→VR E' v cv→TR E' tm' fr.nt (match o.dst with|some d=>tmps.setIfInBounds d cv|none=>tmps) :=fun hle hp hv=>by
  have:=zV (f.tm.mono hle) hp hv;unfold zU at this;exact this
 split at h0
 ·cases h0
 · rename_i hw;split at h0
   · rename_i tm' htm;cases h0;refine Goes.one (yY ho (hwant hw)) ⟨f.fn,?_,IRs.cons i3 i2,f.defers,by simp only [hm];exact rfl,f.kind,f.round⟩ fs r (Ext.refl _ _ _);simp only [Frame.finish,hd];exact put (Emb.le.refl E) htm (qZ E)
   ·cases h0
 · rename_i hw;split at h0
   · rename_i v h2 hop;split at h0
     · rename_i tm' htm;cases h0;have hnd:=aGk hop;obtain⟨E',w',cv,g1,g2,g3,g4⟩ :=lS r hρ hop;have ff:FR E' {fr with tm:=tm',todo:=.ops all (Nat.succ i) rest::ak,mode:=.run} ((rf fn tmps (.inRegion all (i::range' (i+1) rest.length) ::k) ds kd ro).finish cv) :=by
        simp only [Frame.finish,hd];exact⟨f.fn,put g4.le htm g2,IRs.cons (i3.mono g4.le) (i2.mono g4.le),f.defers.mono g4.le,by simp only [hm];exact rfl,f.kind,f.round.mono g4.le⟩
       rcases g1 with g1| ⟨g1,rfl⟩
       ·exact Goes.one (sG ho (hwant hw) (.inr hnd) g1) ff (fs.mono g4.le) g3 g4
       ·exact Goes.one (aD5 ho (hwant hw) (.inr hnd) g1) ff (fs.mono g4.le) g3 g4
     ·cases h0
   · rename_i c hop;unfold qJ at h0;split at h0
     · rename_i g hg;cases h0;have hnd:=aEa hop;obtain⟨nx,G,g1,g2,g3⟩ :=qM r hg (lS r hρ hop);have fss:FRs E (fr::cs) (rf fn tmps (.inRegion all (i::range' (i+1) rest.length) ::k) ds kd ro::ccs) :=FRs.cons f fs;rcases g2 with⟨f',args,rfl,rfl⟩ | ⟨l,f',t,aS,bd,rfl,rfl⟩
       ·exact Goes.one (aD6 ho (hwant hw) (.inr hnd) g1) g3 fss r (Ext.refl _ _ _)
       ·exact Goes.one (aD7 ho (hwant hw) (.inr hnd) g1) g3 fss r (Ext.refl _ _ _)
     ·cases h0
   · rename_i d hop;split at h0
     · rename_i tm' hro htm;cases h0;have fr0:=f.round;rw [hro]at fr0;simp only [RR]at fr0;subst fr0;obtain⟨cd,g1,g2⟩ :=lS r hρ hop;refine Goes.one (aJX ho (hwant hw) g1) ?_ fs r (Ext.refl _ _ _);simp only [Frame.finish,hd];exact⟨f.fn,put (Emb.le.refl E) htm (qZ E),IRs.cons i3 i2,DRs.cons g2 f.defers,by simp only [hm];exact rfl,f.kind,by simp only [hro];exact rfl⟩
     ·cases h0
   · rename_i v hop;cases h0;obtain⟨cv,g1,g2⟩ :=lS r hρ hop;have hnd:∀c,o.op≠ .defer c:=by
      intro c hc;unfold jH at hop;split at hop
      ·rename_i r hr;cases hop;obtain⟨d,e⟩ :=zW c hc hr;cases e
      ·rw [aBO c hc]at hop;cases hop
     exact Goes.one (aJY ho (hwant hw) (.inr hnd) g1) (vQ f (ps:=[{v:=cv,recovered:=false}]) ⟨cv,[],rfl,g2,rfl⟩) fs r (Ext.refl _ _ _)
   · rename_i hop;split at h0
     · rename_i c cs' hro hkd;have fr0:=f.round;rw [hro]at fr0;simp only [RR]at fr0;subst fr0;have fk:=f.kind;rw [hkd]at fk;simp only at fk;subst fk;obtain⟨cc,ccs',rfl,f1,f2⟩ :=fs.cons_inv;have g1: (execOp (rf fn tmps (.inRegion all (i::range' (i+1) rest.length) ::k) ds .deferred none).eval o).run P w= .ok .recover w:=lS r hρ hop;have hst:=aFS (P:=P) (k:=k) (ds:=ds) (cs:=ccs'++base) (fn:=fn) (rest:=range' (i+1) rest.length) (tmps:=tmps) ho (hwant hw) (c:=cc) g1;have fm:=f1.mode;split at h0
       · rename_i v older hcm;split at h0
         · rename_i tm' htm;cases h0;rw [hcm]at fm;simp only [MR,CR]at fm;obtain⟨ps,e1,cv,ps',rfl,e2,e3⟩ :=fm;rw [e1]at hst;simp only at hst;refine Goes.one (cs':={cc with mode:=.panicking ({v:=cv,recovered:=true}::ps')}::ccs') hst ?_ (FRs.cons ⟨f1.fn,f1.tm,f1.todo,f1.defers,⟨_,rfl,cv,ps',rfl,e2,e3⟩,f1.kind,f1.round⟩ f2) r (Ext.refl _ _ _);simp only [Frame.finish,hd];exact⟨f.fn,put (Emb.le.refl E) htm e2,IRs.cons i3 i2,f.defers,by simp only [hm];exact rfl,f.kind,f.round⟩
         ·cases h0
       · rename_i hno;split at h0
         · rename_i tm' htm;cases h0;have hst':step P (lone (rf fn tmps (.inRegion all (i::range' (i+1) rest.length) ::k) ds .deferred none) (cc:: (ccs'++base)) w) = .next (lone ((rf fn tmps (.inRegion all (i::range' (i+1) rest.length) ::k) ds .deferred none).finish .nilIface) (cc:: (ccs'++base)) w) :=by
            rw [hst];split
            · rename_i v older hcm;exfalso;cases hma:c.mode with
              |run=>rw [hma]at fm;simp only [MR]at fm;rw [fm]at hcm;cases hcm
              |ret=>rw [hma]at fm;simp only [MR]at fm;rw [fm]at hcm;cases hcm
              | pan chain=>
               rw [hma]at fm;simp only [MR]at fm;obtain⟨ps,e1,e2⟩ :=fm;rw [e1]at hcm;cases hcm;cases chain with
               |nil=>simp only [CR]at e2;cases e2
               | cons x xs=>
                obtain⟨xv,xb⟩ :=x;simp only [CR]at e2;obtain⟨cv,ps',e2,_,_⟩ :=e2;cases e2;exact hno _ _ hma
            ·rfl
           refine Goes.one (cs':=cc::ccs') hst' ?_ (FRs.cons f1 f2) r (Ext.refl _ _ _);simp only [Frame.finish,hd];exact⟨f.fn,put (Emb.le.refl E) htm (by simp only [VR]),IRs.cons i3 i2,f.defers,by simp only [hm];exact rfl,f.kind,f.round⟩
         ·cases h0
     ·cases h0
   ·cases h0
end
section
variable {fn :FuncId} {tmps:Array Value} {ds:List Deferred} {kd:CallKind} {ro:Option Nat} {ccs base:List Frame} {todo:List Item}
theorem aTz (r:Rel E h w.heap){fr:AFrame}{cs:List AFrame}{call:bK}{g:Operand}{ps:Array Nat}{assign body:Code}{ak:List AItem}(hm:fr.mode= .run)(htd:fr.todo= .code (.rangeFunc g ps assign body) ::ak)
  (f:FR E fr (rf fn tmps todo ds kd ro)) (fs:FRs E cs ccs) {s':AS} (h0:kU P call ⟨fr,cs,h⟩ =some s') :Goes P E h (rf fn tmps todo ds kd ro) ccs w base s':=by
 unfold kU at h0;simp only [hm,htd]at h0;have ft:=f.todo;rw [htd]at ft;obtain⟨it,k,e,i1,i2⟩ :=ft.cons_inv;simp only at e;subst e;simp only [IR]at i1;subst i1;have hfn:fn=fr.fn:=f.fn;split at h0
 ·cases h0
 · rename_i fv hfv;have fr0:=f.round
   have res:∀ {E':Emb} {h2:Hp} {w2:World} {L:Loc} {la:Nat} {mark:List Deferred} {todo':List AItem} {defers':List ADef} {c:AIn},Ext E h w E' h2 w2→Rel E' h2 w2.heap→E' la=some L →
     (Instr.enterLoop fn tmps ps assign body ro).run P w= .ok (L.blk,mark) w2→uN P fv [.yield la] =some (.call c) →DRs E' defers' (mark++ds) →IRs E' todo' (.inRangeFunc L.blk::k) →
     qJ P {fr with todo:=todo',defers:=defers'} cs h2 c=some s'→Goes P E h (rf fn tmps (.code (.rangeFunc g ps assign body) ::k) ds kd ro) ccs w base s':=by
    intro E' h2 w2 L la mark todo' defers' c x r2 hL he hc hds htd' h0;unfold qJ at h0;split at h0
    · rename_i G hG;cases h0;have hρ:=TR.reads (E:=E') (f.tm.mono x.le) fn (.inRangeFunc L.blk::k) (mark++ds) kd ro (fun _=>True);obtain⟨d,k1,k2⟩ :=aAD (P:=P) (cargs:=[.func (.yield L.blk) #[] #[]]) r2 hc (hρ g trivial _ hfv) (VRs.cons (by simp only [VR];exact⟨L,hL,rfl⟩) (VRs.nil E'));obtain⟨nx,CG,g1,g2,g3⟩ :=qM r2 hG k2;have hres: (resolve (rf fn tmps (.inRangeFunc L.blk::k) (mark++ds) kd ro).eval {callee:=.value g,args:= #[.const (.func (.yield L.blk) #[] #[])],argTypes:= #[]} 0).run P w2= .ok d w2:=by
       simp only [resolve];rw [show(#[Operand.const (.func (.yield L.blk) #[] #[])] :Array Operand).map (rf fn tmps (.inRangeFunc L.blk::k) (mark++ds) kd ro).eval= ⟨[.func (.yield L.blk) #[] #[]]⟩from by simp [Frame.eval]];exact k1
      exact Goes.one (cs':=rf fn tmps (.inRangeFunc L.blk::k) (mark++ds) kd ro::ccs) (aHz he hres g1 g2) g3
       (FRs.cons ⟨f.fn,f.tm.mono x.le,htd',hds,by simp only [hm];exact rfl,f.kind,f.round.mono x.le⟩ (fs.mono x.le)) r2 x
    ·cases h0
   have hps:ps= ⟨ps.toList⟩ :=rfl;split at h0
   · rename_i hro;rw [hro]at fr0;simp only [RR]at fr0;subst fr0;obtain⟨L,Ld,w2,E',e1,e2,e3,r2,x⟩ :=aEd (P:=P) r f.tm ps.toList assign body (fn:=fn);split at h0
     · rename_i c hc;refine res (E':=E') (w2:=w2) (L:=L) (la:=h.nb+1) (mark:=[{target:=.collected Ld.blk,args:= #[]}]) (todo':=.inRF (h.nb+1) ::ak) (defers':=.col h.nb::fr.defers) (h2:= (h.new (.defd false)).new (.loop .ready none fr.fn fr.tm fr.nt ps.toList assign body h.nb)) (c:=c) ?_ ?_ e3 e1 hc ?_ ?_ ?_
       ·rw [←hfn];exact x
       ·rw [←hfn];exact r2
       ·exact DRs.cons ⟨Ld,e2,rfl⟩ (f.defers.mono x.le)
       ·exact IRs.cons ⟨L,e3,rfl⟩ (i2.mono x.le)
       ·simp only [hm];exact h0
     ·cases h0
   · rename_i o hro;rw [hro]at fr0;obtain⟨Lo,hEo,rfl⟩ :=sN fr0;split at h0
     · rename_i st pe fn' tm' nt' ps' as' bd' df hl;obtain⟨L,w2,E',e1,e3,r2,x⟩ :=aEe (P:=P) r hEo hl f.tm ps.toList assign body (fn:=fn);split at h0
       · rename_i c hc;refine res (E':=E') (w2:=w2) (L:=L) (la:=h.nb) (mark:=[]) (todo':=.inRF h.nb::ak) (defers':=fr.defers) (h2:=h.new (.loop .ready none fr.fn fr.tm fr.nt ps.toList assign body df)) (c:=c) ?_ ?_ e3 e1 hc ?_ ?_ ?_
         ·rw [←hfn];exact x
         ·rw [←hfn];exact r2
         ·exact f.defers.mono x.le
         ·exact IRs.cons ⟨L,e3,rfl⟩ (i2.mono x.le)
         ·simpa [hm,hro]using h0
       ·cases h0
     ·cases h0
theorem vR {call:bK}(hc:dT P call){s s':AS}(h0:kU P call s=some s'){fr:Frame}(f:FR E s.fr fr)(fs:FRs E s.cs ccs)(r:Rel E s.h w.heap)(base:List Frame) :Goes P E s.h fr ccs w base s':=by
 obtain⟨afr,cs,h⟩ :=s;simp only at f fs r ⊢;cases hm:afr.mode with
 | run =>
  have e:=f.run hm;generalize fr.fn=fn at e;generalize fr.tmps=tmps at e;generalize fr.todo=todo at e;generalize fr.defers=ds at e;generalize fr.kind=kd at e;generalize fr.roundOf=ro at e;subst e;have ft:=f.todo;simp only at ft;cases htd:afr.todo with
  | nil=>
   rw [htd]at ft;have e:=ft.nil_inv;subst e;unfold kU at h0;simp only [hm,htd]at h0;exact nK r f fs h0 (.inl ⟨rfl,rfl⟩)
  | cons it ak=>
   rw [htd]at ft;obtain⟨ci,ck,e,i1,i2⟩ :=ft.cons_inv;subst e;have h00:=h0;unfold kU at h0;simp only [hm,htd]at h0;cases it with
   | code c=>
    simp only [IR]at i1;subst i1;cases c with
    |ret=>exact nK r f fs h0 (.inr (.inl ⟨ck,rfl,rfl⟩))
    |skip=>exact fV r f hm fs h0 i2 aYQ
    |label l=>exact fV r f hm fs h0 i2 (aTq l)
    |seq a b=>exact fV r f hm fs h0 (IRs.cons rfl (IRs.cons rfl i2)) (bC1 a b)
    | cond c x y=>
     simp only at h0;have hρ:=TR.reads (E:=E) f.tm fn (.code (.cond c x y) ::ck) ds kd ro (fun _=>True);split at h0
     · rename_i hcv;have:=hρ c trivial _ hcv;simp only [VR]at this;exact fV r f hm fs h0 (IRs.cons rfl i2) (aPG c x y true this)
     · rename_i hcv;have:=hρ c trivial _ hcv;simp only [VR]at this;exact fV r f hm fs h0 (IRs.cons rfl i2) (aPG c x y false this)
     ·cases h0
    |block id c=>exact fV r f hm fs h0 (IRs.cons rfl (IRs.cons rfl i2)) (aTr id c)
    |loop c=>exact fV r f hm fs h0 (IRs.cons rfl (IRs.cons rfl i2)) (aYR c)
    |scope c=>exact fV r f hm fs h0 (IRs.cons rfl (IRs.cons rfl i2)) (aTs c)
    | exit id=>
     simp only at h0;split at h0
     · rename_i k' hk';obtain⟨ck',g1,g2⟩ :=sL id hk' i2;exact fV r f hm fs h0 g2 (aYT id g1)
     · rename_i hk';exact nK r f fs h0 (.inr (.inr (.inl ⟨id,ck,rfl,rfl,pU id hk' i2⟩)))
    | goto l=>
     simp only at h0;split at h0
     · rename_i k' hk';obtain⟨ck',g1,g2⟩ :=sM l hk' i2;exact fV r f hm fs h0 g2 (aYU l g1)
     · rename_i hk';exact nK r f fs h0 (.inr (.inr (.inr ⟨l,ck,rfl,rfl,pV l hk' i2⟩)))
    | region id ops draw=>
     cases draw with
     | false=>
      refine fV r f hm fs h0 (IRs.cons ⟨?_,rfl⟩ i2) (aQQ id);rw [List.range_eq_range'];simp
     | true=>
      simp only at h0;split at h0
      · rename_i tm' h' hr;cases h0;obtain⟨E',w',tmps',s1,t1,r1,x1⟩ :=aHF hc hr r f.tm id fn ds kd ro ck (ccs++base);exact⟨E',_,ccs,w',s1,⟨f.fn,t1,i2.mono x1.le,f.defers.mono x1.le,by simp only [hm];exact rfl,f.kind,f.round.mono x1.le⟩,fs.mono x1.le,r1,x1⟩
      ·cases h0
    |rangeFunc g ps assign body=>exact aTz r hm htd f fs h00
    |refuse _=>cases h0
   |inBlock id=>simp only [IR]at i1;subst i1;exact fV r f hm fs h0 i2 (aMQ id)
   |inLoop c=>simp only [IR]at i1;subst i1;exact fV r f hm fs h0 (IRs.cons rfl (IRs.cons rfl i2)) (aQP c)
   |inScope c=>simp only [IR]at i1;subst i1;exact fV r f hm fs h0 i2 (aMR c)
   | ops all i rest=>
    cases rest with
    | nil=>
     simp only [IR]at i1;obtain⟨rfl,_⟩ :=i1;exact fV r f hm fs h0 i2 (by simpa using yZ)
    |cons o rest=>exact aQU r hm htd f fs h00
   |inRF l=>cases h0
   |junk=>cases h0
   | endRF l=>
    simp only [IR]at i1;obtain⟨L,hE,rfl⟩ :=i1;simp only at h0;split at h0
    ·cases h0
    · rename_i st pe fn' tm' nt' ps' as' bd' df hno hl;cases h0;obtain⟨w',g1,g2,g3⟩ :=aFV (P:=P) r hE (fun e=>hno e) hl;refine Goes.one (cs':=ccs) (aTt g1) ⟨f.fn,f.tm,?_,f.defers,by simp only [hm];exact rfl,f.kind,f.round⟩ fs g2 g3;cases pe with
      |none=>simpa using i2
      |some c=>simpa using IRs.cons (E:=E) (a:=.code c) (i:=.code c) rfl i2
    ·cases h0
   | beginRound=>
    simp only [IR]at i1;subst i1;simp only at h0;split at h0
    ·cases h0
    · rename_i l hro;have fr0:=f.round;rw [hro]at fr0;obtain⟨L,hE,rfl⟩ :=sN fr0;split at h0
      · rename_i pe fn' tm' nt' ps' as' bd' df hl;cases h0;obtain⟨w',g1,g2,g3⟩ :=aBQ (P:=P) r hE hl;exact Goes.one (cs':=ccs) (aFU g1) ⟨f.fn,f.tm,i2,f.defers,by simp only [hm];exact rfl,f.kind,by simp only [hro];exact⟨L,hE,rfl⟩⟩ fs g2 g3
      ·cases h0
 | ret =>
  have fm:=f.mode;rw [hm]at fm;simp only [MR]at fm;have hnr:fr.mode≠ .run:=by rw [fm];intro e;cases e
  have fd:=f.defers;unfold kU at h0;simp only [hm]at h0;split at h0
  · rename_i b dl hdl;rw [hdl]at fd;obtain⟨d,ds',e,d1,d2⟩ :=fd.cons_inv;obtain⟨L,hE,rfl⟩ :=d1;split at h0
    · rename_i hb;cases h0;obtain⟨w',g1,g2,g3⟩ :=oP (P:=P) r hE hb;exact Goes.one (cs':=ccs) (aAK hnr e g1) ⟨f.fn,f.tm,f.todo,d2,by simp only [hm];exact fm,f.kind,f.round⟩ fs g2 g3
    ·cases h0
  · rename_i g args dl hdl;rw [hdl]at fd;obtain⟨d,ds',e,d1,d2⟩ :=fd.cons_inv;obtain⟨cap,a,rfl,ha⟩ :=d1;cases hcl:eH P g with
    |false=>rw [hcl]at h0;cases h0
    | true=>
     rw [hcl]at h0;simp only [cond]at h0;split at h0
     · rename_i G hG;cases h0;have:=iT hG ha;refine Goes.one (cs':={fr with defers:=ds'}::ccs) (aCz hnr e hcl) ?_ (FRs.cons ⟨f.fn,f.tm,f.todo,d2,by simp only [hm];exact fm,f.kind,f.round⟩ fs) r (Ext.refl _ _ _);rw [show(⟨a⟩ :Array Value) ++ ⟨cap⟩ = ⟨a++cap⟩by apply Array.ext';simp];exact this
     ·cases h0
  · rename_i hdl;rw [hdl]at fd;have e:=fd.nil_inv;split at h0
    ·cases h0
    · rename_i fdd hfd;split at h0
      · rename_i vs hvs;obtain⟨cv,g1,g2⟩ :=vP r f.tm hvs;obtain⟨c,cs1,rfl,k1,k2,k3,k4⟩ :=zG f.kind fs h0 g2;refine Goes.one (cs':=cs1) (aJZ fm e (by rw [f.fn];exact hfd) g1 k4) k1 k2 (by rw [k3];exact r) (by rw [k3];exact Ext.refl _ _ _)
      ·cases h0
 | pan chain=>
  have fm:=f.mode;rw [hm]at fm;simp only [MR]at fm;obtain⟨ps,fm,hcr⟩ :=fm;have hnr:fr.mode≠ .run:=by rw [fm];intro e;cases e
  have fd:=f.defers;unfold kU at h0;simp only [hm]at h0;split at h0
  · rename_i b dl hdl;rw [hdl]at fd;obtain⟨d,ds',e,d1,d2⟩ :=fd.cons_inv;obtain⟨L,hE,rfl⟩ :=d1;split at h0
    · rename_i hb;cases h0;obtain⟨w',g1,g2,g3⟩ :=oP (P:=P) r hE hb;exact Goes.one (cs':=ccs) (aAK hnr e g1) ⟨f.fn,f.tm,f.todo,d2,by simp only [hm];exact⟨ps,fm,hcr⟩,f.kind,f.round⟩ fs g2 g3
    ·cases h0
  · rename_i g args dl hdl;rw [hdl]at fd;obtain⟨d,ds',e,d1,d2⟩ :=fd.cons_inv;obtain⟨cap,a,rfl,ha⟩ :=d1;cases hcl:eH P g with
    |false=>rw [hcl]at h0;cases h0
    | true=>
     rw [hcl]at h0;simp only [cond]at h0;split at h0
     · rename_i G hG;cases h0;have:=iT hG ha;refine Goes.one (cs':={fr with defers:=ds'}::ccs) (aCz hnr e hcl) ?_ (FRs.cons ⟨f.fn,f.tm,f.todo,d2,by simp only [hm];exact⟨ps,fm,hcr⟩,f.kind,f.round⟩ fs) r (Ext.refl _ _ _);rw [show(⟨a⟩ :Array Value) ++ ⟨cap⟩ = ⟨a++cap⟩by apply Array.ext';simp];exact this
     ·cases h0
  · rename_i hdl;rw [hdl]at fd;have e:=fd.nil_inv;split at h0
    · rename_i fdd c cs' hfd;cases h0;obtain⟨cc,ccs',rfl,f1,f2⟩ :=fs.cons_inv;exact Goes.one (cs':=ccs') (vE fm e (by rw [f.fn];exact hfd)) (vQ f1 hcr) f2 r (Ext.refl _ _ _)
    ·cases h0
end
def GrownO (W W':World) :Prop:=W.keptBut W' (fun _=>False) ∧ (∀a:Addr,a.block<W.heap.size→W'.frozen? a=W.frozen? a) ∧W.heap.size≤W'.heap.size
theorem aCD {s:AS}{v:AV}{h':Hp}(h0:uP P s=some (v,h')){fr:Frame}(f:FR E s.fr fr)(r:Rel E s.h w.heap)(cl:Frame)(base:List Frame) :
  s.cs= [] ∧∃cv w',step P (lone fr (cl::base) w) = .next (lone (cl.finish cv) base w') ∧VR E v cv∧Rel E h' w'.heap∧Ext E s.h w E h' w':=by
 obtain⟨afr,cs,h⟩ :=s;unfold uP at h0;simp only at h0 f r ⊢;split at h0
 · rename_i hk;refine⟨rfl,?_⟩;have fk:=f.kind;rw [hk]at fk;have fm:=f.mode;have fd:=f.defers;have fro:=f.round;have ft:=f.todo
   have rnd:∀ {l:Nat} {jump:Option Code} {h1:Hp} {b:Bool},afr.mode= .run→afr.roundOf=some l→kF h l jump=some h1→b=jump.isNone →
     ((fr.todo= [] ∧jump=none) ∨ (∃k,fr.todo= .code .ret::k∧jump=some .ret) ∨ (∃id k,fr.todo= .code (.exit id) ::k∧jump=some (.exit id) ∧exitTo id k=none) ∨ (∃t k,fr.todo= .code (.goto t) ::k∧jump=some (.goto t) ∧gotoIn t k=none)) →
     some (AV.bool b,h1) =some (v,h') →∃cv w',step P (lone fr (cl::base) w) = .next (lone (cl.finish cv) base w') ∧VR E v cv∧Rel E h' w'.heap∧Ext E h w E h' w':=by
    intro l jump h1 b hm hl he hb ht h0;cases h0;rw [hl]at fro;obtain⟨L,hE,e3⟩ :=sN fro;have e:=f.run hm;rw [e3,fk]at e;obtain⟨w1,g1,g2,g3⟩ :=vO (P:=P) r hE he;rw [e];refine⟨.bool jump.isNone,w1,?_,by rw [hb];simp only [VR],g2,g3⟩;exact vD (.inl rfl) ht g1
   split at h0
   · rename_i hm hro;split at h0
     · rename_i fdd hdl hfd;rw [hm]at fm;simp only [MR]at fm;rw [hdl]at fd;split at h0
       · rename_i vs hvs;cases h0;obtain⟨cv,g1,g2⟩ :=vP r f.tm hvs;refine⟨cv,w,?_,g2,r,Ext.refl _ _ _⟩;rw [aJZ fm fd.nil_inv (by rw [f.fn];exact hfd) g1 (.inl fk)];simp only [handed,fk]
       ·cases h0
     ·cases h0
   · rename_i l hm hro htd;rw [htd]at ft;split at h0
     · rename_i h1 he;exact rnd hm hro he rfl (.inl ⟨ft.nil_inv,rfl⟩) h0
     ·cases h0
   · rename_i l k hm hro htd;rw [htd]at ft;obtain⟨ci,ck,e,i1,i2⟩ :=ft.cons_inv;simp only [IR]at i1;subst i1;split at h0
     · rename_i h1 he;exact rnd hm hro he rfl (.inr (.inl ⟨ck,e,rfl⟩)) h0
     ·cases h0
   · rename_i l id k hm hro htd;rw [htd]at ft;obtain⟨ci,ck,e,i1,i2⟩ :=ft.cons_inv;simp only [IR]at i1;subst i1;split at h0
     ·cases h0
     · rename_i hx;split at h0
       · rename_i h1 he;exact rnd hm hro he rfl (.inr (.inr (.inl ⟨id,ck,e,rfl,pU id hx i2⟩))) h0
       ·cases h0
   · rename_i l t k hm hro htd;rw [htd]at ft;obtain⟨ci,ck,e,i1,i2⟩ :=ft.cons_inv;simp only [IR]at i1;subst i1;split at h0
     ·cases h0
     · rename_i hx;split at h0
       · rename_i h1 he;exact rnd hm hro he rfl (.inr (.inr (.inr ⟨t,ck,e,rfl,pV t hx i2⟩))) h0
       ·cases h0
   ·cases h0
 ·cases h0
theorem aEg {call:bK}(hc:dT P call) :∀ {n:Nat} {s:AS} {v:AV} {h':Hp},aHh P call n s=some (v,h') →∀ (E:Emb) (w:World) (fr:Frame) (ccs:List Frame),FR E s.fr fr→FRs E s.cs ccs→Rel E s.h w.heap→∀cl base,
  ∃cv w' E',Steps P (lone fr (ccs++cl::base) w) (lone (cl.finish cv) base w') ∧VR E' v cv∧Rel E' h' w'.heap∧Ext E s.h w E' h' w'
 |0,s,v,h',h0=>by simp [aHh]at h0
 | n + 1,s,v,h',h0=>by
  intro E w fr ccs f fs r cl base;simp only [aHh]at h0;split at h0
  · rename_i x hx;cases h0;obtain⟨e1,cv,w',g1,g2,g3,g4⟩ :=aCD hx f r cl base;rw [e1]at fs;rw [fs.nil_inv];exact⟨cv,w',E,.one g1,g2,g3,g4⟩
  · split at h0
    · rename_i s' hs';obtain⟨E1,fr1,cs1,w1,s1,f1,fs1,r1,x1⟩ :=vR hc hs' f fs r (cl::base);obtain⟨cv,w',E',s2,g2,g3,g4⟩ :=aEg hc h0 E1 w1 fr1 cs1 f1 fs1 r1 cl base;exact⟨cv,w',E',s1.trans s2,g2,g3,x1.trans g4⟩
    ·cases h0
theorem sO (n:Nat) :∀d,dT P (uQ P n d)
 |0=>fun _ c h v h' h0=>by simp [uQ]at h0
 | d +1=>fun _ c h v h' h0=>by
  simp only [uQ]at h0;split at h0
  · rename_i g hg;refine⟨g,hg,fun E w G r f hk cl base=>?_⟩;obtain⟨cv,w',E',s1,g2,g3,g4⟩ :=aEg (sO n d) h0 E w G [] f rfl r cl base;exact⟨cv,w',E',s1,g2,g3,g4⟩
  ·cases h0
noncomputable def aBR (P:Program)(call:bK) :Nat→AS→Option AS
 |0,s=>some s
 | n+1,s=>match kU P call s with
  |some s'=>aBR P call n s'
  |none=>none
def Leads (P:Program)(s s':AS) :Prop:=∀ (E:Emb) (fr:Frame) (ccs:List Frame) (w:World) (base:List Frame),FR E s.fr fr→FRs E s.cs ccs→Rel E s.h w.heap→Goes P E s.h fr ccs w base s'
theorem Leads.trans {a b c:AS}(h1:Leads P a b)(h2:Leads P b c) :Leads P a c:=fun E fr ccs w base f fs r=>by
 obtain⟨E1,fr1,cs1,w1,s1,f1,fs1,r1,x1⟩ :=h1 E fr ccs w base f fs r;obtain⟨E2,fr2,cs2,w2,s2,f2,fs2,r2,x2⟩ :=h2 E1 fr1 cs1 w1 base f1 fs1 r1;exact⟨E2,fr2,cs2,w2,s1.trans s2,f2,fs2,r2,x1.trans x2⟩
theorem Leads.refl (a:AS) :Leads P a a:=fun E fr ccs w base f fs r=> ⟨E,fr,ccs,w,Steps.refl _ _,f,fs,r,Ext.refl _ _ _⟩
theorem pW {call:bK}(hc:dT P call) :∀ {n:Nat} {s s':AS},aBR P call n s=some s'→Leads P s s'
 |0,s,s',h0=>by simp [aBR]at h0;subst h0;exact Leads.refl s
 | n +1,s,s',h0=>by
  simp only [aBR]at h0;split at h0
  · rename_i s1 hs1;exact Leads.trans (fun E fr ccs w base f fs r=>vR hc hs1 f fs r base) (pW hc h0)
  ·cases h0
theorem sP (call:bK) :∀ (n:Nat) (s:AS),mK P call n s=aBR P call n s
 |0,_=>rfl
 | n+1,s=>by
  show(match aTk P call s with|some s'=>mK P call n s'|none=>none) = (match kU P call s with|some s'=>aBR P call n s'|none=>none);rw [aTl P call s];cases kU P call s with
  |none=>rfl
  |some s'=>exact sP call n s'
end
section
variable {P :Program}
structure ExtM (m:Nat) (E:Emb) (h:Hp) (w:World) (E':Emb) (h':Hp) (w':World) :Prop where
 low:∀b,b<m→E' b=E b
 imm:∀k C,E.imm k=some C→E'.imm k=some C
 size:w.heap.size≤w'.heap.size
 keep:∀i,i<w.heap.size→ (∀b o L,h.look b=some o→E b=some L→¬Own o L i) →w'.heap[i]?=w.heap[i]?
 own:∀b' o' L',h'.look b'=some o'→E' b'=some L'→∀i,Own o' L' i→i<w.heap.size→∃b o L,h.look b=some o∧E b=some L∧Own o L i
 nb:m≤h'.nb
 os:w'.os=w.os
 tape:w'.tape=w.tape
 output:w'.output=w.output
 froz:∀a,a.block<w.heap.size→w'.frozen? a=w.frozen? a
 immo:∀k C,E'.imm k=some C→k<w.heap.size→E.imm k=some C∨∃b o L,h.look b=some o∧E b=some L∧Own o L k
 keys:∀b o,h'.look b=some o→b<m→∃o0,h.look b=some o0
theorem Ext.toM {E E':Emb}{h h':Hp}{w w':World}(x:Ext E h w E' h' w'){m:Nat}(hm:m≤h.nb) :ExtM m E h w E' h' w':=
 ⟨fun b hb=>x.low b (lt_of_lt_of_le hb hm),x.le.2,x.size,x.keep,x.own,le_trans hm x.nb,x.os,x.tape,x.output,x.froz,x.immo,fun b o e hb=>x.keys b o e (lt_of_lt_of_le hb hm)⟩
theorem ExtM.le {E E':Emb}{h h':Hp}{w w':World}(x:ExtM h.nb E h w E' h' w')(r:Rel E h w.heap) :E.le E':=
 ⟨fun b L e=>by rw [x.low b (r.nb_gt e)];exact e,x.imm⟩
theorem ExtM.toExt {E E':Emb}{h h':Hp}{w w':World}(x:ExtM h.nb E h w E' h' w')(r:Rel E h w.heap) :Ext E h w E' h' w':=
 ⟨x.le r,x.size,x.keep,x.own,x.nb,x.os,x.tape,x.output,x.low,x.froz,x.immo,x.keys⟩
theorem ExtM.trans {m:Nat}{E1 E2 E3:Emb}{h1 h2 h3:Hp}{w1 w2 w3:World}(a:ExtM m E1 h1 w1 E2 h2 w2)(b:ExtM m E2 h2 w2 E3 h3 w3) :ExtM m E1 h1 w1 E3 h3 w3 where
 low:=fun x hx=> (b.low x hx).trans (a.low x hx)
 imm:=fun k C e=>b.imm k C (a.imm k C e)
 size:=le_trans a.size b.size
 keep:=fun i hi hn=>by
  rw [b.keep i (lt_of_lt_of_le hi a.size) fun x o L hx hE hb=>by
   obtain⟨b0,o0,L0,g1,g2,g3⟩ :=a.own x o L hx hE i hb hi;exact hn b0 o0 L0 g1 g2 g3]
  exact a.keep i hi hn
 own:=fun x o L hx hE i hi hlt=>by
  obtain⟨b2,o2,L2,g1,g2,g3⟩ :=b.own x o L hx hE i hi (lt_of_lt_of_le hlt a.size);exact a.own b2 o2 L2 g1 g2 i g3 hlt
 nb:=b.nb
 os:=b.os.trans a.os
 tape:=b.tape.trans a.tape
 output:=b.output.trans a.output
 froz:=fun x hx=> (b.froz x (lt_of_lt_of_le hx a.size)).trans (a.froz x hx)
 immo:=fun k C e hk=>by
  rcases b.immo k C e (lt_of_lt_of_le hk a.size)with g| ⟨x,o,L,g1,g2,g3⟩
  ·exact a.immo k C g hk
  ·exact .inr (a.own x o L g1 g2 k g3 hk)
 keys:=fun x o e hx=>by
  obtain⟨o1,e1⟩ :=b.keys x o e hx;exact a.keys x o1 e1 hx
theorem ExtM.refl {m:Nat}{E:Emb}{h:Hp}{w:World}(hm:m≤h.nb) :ExtM m E h w E h w:= (Ext.refl E h w).toM hm
def LeadsM (P:Program)(m:Nat)(s s':AS) :Prop:=m≤s.h.nb→∀ (E:Emb) (fr:Frame) (ccs:List Frame) (w:World) (base:List Frame),FR E s.fr fr→FRs E s.cs ccs→Rel E s.h w.heap →
 ∃E' fr' cs' w',Steps P (lone fr (ccs++base) w) (lone fr' (cs'++base) w') ∧FR E' s'.fr fr'∧FRs E' s'.cs cs'∧Rel E' s'.h w'.heap∧ExtM m E s.h w E' s'.h w'
theorem LeadsM.trans {m:Nat}{a b c:AS}(h1:LeadsM P m a b)(h2:LeadsM P m b c) :LeadsM P m a c:=fun hm E fr ccs w base f fs r=>by
 obtain⟨E1,fr1,cs1,w1,s1,f1,fs1,r1,x1⟩ :=h1 hm E fr ccs w base f fs r;obtain⟨E2,fr2,cs2,w2,s2,f2,fs2,r2,x2⟩ :=h2 x1.nb E1 fr1 cs1 w1 base f1 fs1 r1;exact⟨E2,fr2,cs2,w2,s1.trans s2,f2,fs2,r2,x1.trans x2⟩
theorem LeadsM.refl {m:Nat}(a:AS) :LeadsM P m a a:=fun hm E fr ccs w _ f fs r=> ⟨E,fr,ccs,w,Steps.refl _ _,f,fs,r,ExtM.refl hm⟩
theorem Leads.toM {m:Nat}{a b:AS}(h:Leads P a b) :LeadsM P m a b:=fun hm E fr ccs w base f fs r=>by
 obtain⟨E1,fr1,cs1,w1,s1,f1,fs1,r1,x1⟩ :=h E fr ccs w base f fs r;exact⟨E1,fr1,cs1,w1,s1,f1,fs1,r1,x1.toM hm⟩
def oQ :bK:=fun _ _ _=>none
theorem bR :dT P oQ:=fun _ _ _ _ _ e=>by cases e
theorem cV {call:bK}(hc:dT P call){m:Nat}{s s':AS}(h0:kU P call s=some s') :LeadsM P m s s':=
 Leads.toM fun _ _ _ _ base f fs r=>vR hc h0 f fs r base
inductive Res where
 |ret (v:AV)
 |pan (chain:List (AV×Bool))
def Got (E:Emb)(cl:Frame) :Res→Frame→Prop
 | .ret v,cl'=>∃cv,cl'=cl.finish cv∧VR E v cv
 | .pan ch,cl'=>∃ps,cl'=cl.raise ps∧CR E ch ps
def Ends (P:Program)(m:Nat)(s:AS)(res:Res)(h':Hp) :Prop:=m≤s.h.nb→∀ (E:Emb) (fr:Frame) (ccs:List Frame) (w:World),FR E s.fr fr→FRs E s.cs ccs→Rel E s.h w.heap→∀ (cl:Frame) (base:List Frame),
 ∃cl' w' E',Steps P (lone fr (ccs++cl::base) w) (lone cl' base w') ∧Got E' cl res cl'∧Rel E' h' w'.heap∧ExtM m E s.h w E' h' w'
theorem LeadsM.ends {m:Nat}{a b:AS}{res:Res}{h':Hp}(h1:LeadsM P m a b)(h2:Ends P m b res h') :Ends P m a res h':=fun hm E fr ccs w f fs r cl base=>by
 obtain⟨E1,fr1,cs1,w1,s1,f1,fs1,r1,x1⟩ :=h1 hm E fr ccs w (cl::base) f fs r;obtain⟨cl',w2,E2,s2,g2,r2,x2⟩ :=h2 x1.nb E1 fr1 cs1 w1 f1 fs1 r1 cl base;exact⟨cl',w2,E2,s1.trans s2,g2,r2,x1.trans x2⟩
theorem lT {m:Nat}{s:AS}{v:AV}{h':Hp}(h0:uP P s=some (v,h')) :Ends P m s (.ret v) h':=fun hm E fr ccs w f fs r cl base=>by
 obtain⟨e1,cv,w',g1,g2,g3,g4⟩ :=aCD h0 f r cl base;rw [e1]at fs;rw [fs.nil_inv];exact⟨_,w',E,.one g1,⟨cv,rfl,g2⟩,g3,g4.toM hm⟩
def Spec (P:Program)(c:AIn)(h:Hp)(res:Res)(h':Hp) :Prop:=∃g,dB P h c=some g∧Ends P h.nb ⟨g,[],h⟩ res h'
def aJ (P:Program)(f:Nat)(args:List AV)(v:AV) :Prop:=∀h,Spec P (.enter f args) h (.ret v) h
def bC5 (P:Program)(f:Nat)(args:List AV)(ch:List (AV×Bool)) :Prop:=∀h,Spec P (.enter f args) h (.pan ch) h
theorem Spec.sound {c:AIn}{h h':Hp}{v:AV}(s:Spec P c h (.ret v) h') :∃g,dB P h c=some g ∧
  ∀ (E:Emb) (w:World) (G:Frame),Rel E h w.heap→FR E g G→G.kind= .normal→∀cl base,∃cv w' E',Steps P (lone G (cl::base) w) (lone (cl.finish cv) base w') ∧VR E' v cv∧Rel E' h' w'.heap∧Ext E h w E' h' w':=by
 obtain⟨g,hg,he⟩ :=s;refine⟨g,hg,fun E w G r f _ cl base=>?_⟩;obtain⟨cl',w',E',s1,⟨cv,rfl,g2⟩,r2,x2⟩ :=he (le_refl _) E G [] w f rfl r cl base;exact⟨cv,w',E',s1,g2,r2,x2.toExt r⟩
theorem zH {m:Nat}{s:AS}{g fr2 fr3:AFrame}{cs:List AFrame}{h2 h3:Hp}{v:AV}(h0:LeadsM P m s ⟨g,fr2::cs,h2⟩)(h1:Ends P h2.nb ⟨g,[],h2⟩ (.ret v) h3)(hf:fr2.finish v=some fr3) :LeadsM P m s ⟨fr3,cs,h3⟩ :=fun hm E fr ccs w base f fs r=>by
 obtain⟨E1,fr1,cs1,w1,s1,f1,fs1,r1,x1⟩ :=h0 hm E fr ccs w base f fs r;obtain⟨c1,ccs1,rfl,k1,k2⟩ :=fs1.cons_inv;obtain⟨cl',w2,E2,s2,⟨cv,rfl,g2⟩,r2,x2⟩ :=h1 (le_refl _) E1 fr1 [] w1 f1 rfl r1 c1 (ccs1++base);have hle:=x2.le r1;exact⟨E2,_,ccs1,w2,s1.trans s2,aAQ hf (k1.mono hle) g2,k2.mono hle,r2,x1.trans ((x2.toExt r1).toM x1.nb)⟩
theorem vS {m:Nat}{s:AS}{g fr2:AFrame}{cs:List AFrame}{h2 h3:Hp}{ch:List (AV×Bool)}(h0:LeadsM P m s ⟨g,fr2::cs,h2⟩)(h1:Ends P h2.nb ⟨g,[],h2⟩ (.pan ch) h3) :LeadsM P m s ⟨fr2.raise ch,cs,h3⟩ :=fun hm E fr ccs w base f fs r=>by
 obtain⟨E1,fr1,cs1,w1,s1,f1,fs1,r1,x1⟩ :=h0 hm E fr ccs w base f fs r;obtain⟨c1,ccs1,rfl,k1,k2⟩ :=fs1.cons_inv;obtain⟨cl',w2,E2,s2,⟨ps,rfl,g2⟩,r2,x2⟩ :=h1 (le_refl _) E1 fr1 [] w1 f1 rfl r1 c1 (ccs1++base);have hle:=x2.le r1;exact⟨E2,_,ccs1,w2,s1.trans s2,vQ (k1.mono hle) g2,k2.mono hle,r2,x1.trans ((x2.toExt r1).toM x1.nb)⟩
def kY (m:Nat)(h h':Hp)(v v':AV) :Prop:=∀ (E:Emb) (w:World),Rel E h w.heap→∃E',E.le E'∧Rel E' h' w.heap∧ExtM m E h w E' h' w∧∀cv,VR E v cv→VR E' v' cv
theorem iD {m:Nat}{fr:AFrame}{cs:List AFrame}{h h':Hp}{j:Nat}{v v':AV}(hj:fr.tm.at j=some v)(ht:m≤h.nb→kY m h h' v v') :LeadsM P m ⟨fr,cs,h⟩ ⟨{fr with tm:=fr.tm.put j v'},cs,h'⟩ :=fun hm E cf ccs w base f fs r=>by
 obtain⟨E',hle,r',x',hv⟩ :=ht hm E w r;refine⟨E',cf,ccs,w,Steps.refl _ _,⟨f.fn,⟨f.tm.1,fun t a e=>?_⟩,f.todo.mono hle,f.defers.mono hle,f.mode.mono hle,f.kind,f.round.mono hle⟩,fs.mono hle,r',x'⟩;rw [T.at_put]at e;split at e
 · rename_i ht;cases e;subst ht;obtain⟨cv,g1,g2⟩ :=f.tm.2 _ _ hj;exact⟨cv,g1,hv cv g2⟩
 · obtain⟨cv,g1,g2⟩ :=f.tm.2 t a e;exact⟨cv,g1,g2.mono hle⟩
theorem aGm {m:Nat}{h:Hp}{v v':AV}(hv:∀E cv,VR E v cv→VR E v' cv) :m≤h.nb→kY m h h v v':=fun hm E w r=> ⟨E,Emb.le.refl E,r,ExtM.refl hm,hv E⟩
theorem aBS {m:Nat}{h:Hp}(e:Nat) :m≤h.nb→kY m h (h.new (.lst e [])) .nils (.gl h.nb e 0 0 false) :=fun hm E w r=>by
 obtain⟨q1,q2⟩ :=aGi r e;refine⟨E,Emb.le.refl E,q1,q2.toM hm,fun cv hv=>?_⟩;simp only [VR]at hv ⊢;exact .inl ⟨trivial,none,hv⟩
theorem aEh {m:Nat}{h:Hp}(e:Nat) :m≤h.nb→kY m h h .nils (.ilst e [] true) :=aGm fun E cv hv=>by
 simp only [VR]at hv ⊢;exact⟨[],VRs.nil _,fun _ hu=>by(cases hu),.inl ⟨rfl,none,0,hv,fun _=>rfl,fun _=>rfl⟩⟩
mutual
def AV.frz (b:Nat)(ys:List AV) :AV→AV
 | .gl b' e off len ex=>bif beq b' b then .ilst e ys ex else .gl b' e off len ex
 | .func f fs cs=>.func f (AV.frzL b ys fs) (AV.frzL b ys cs)
 | .meth n r=>.meth n (AV.frz b ys r)
 | .via t f p r=>.via t f p (AV.frz b ys r)
 | .iface t v=>.iface t (AV.frz b ys v)
 | .agg vs=>.agg (AV.frzL b ys vs)
 | .tup vs=>.tup (AV.frzL b ys vs)
 |v=>v
def AV.frzL (b:Nat)(ys:List AV) :List AV→List AV
 | [] =>[]
 |a::aS=>AV.frz b ys a::AV.frzL b ys aS
end
mutual
def AV.frzOk (b e:Nat)(xs ys:List AV) :AV→Prop
 | .gl b' e' off len _=>b'=b→e'=e∧off+len≤xs.length∧ (xs.drop off).take len=ys
 | .func _ fs cs=>AV.frzOkL b e xs ys fs∧AV.frzOkL b e xs ys cs
 | .meth _ r=>AV.frzOk b e xs ys r
 | .via _ _ _ r=>AV.frzOk b e xs ys r
 | .iface _ v=>AV.frzOk b e xs ys v
 | .agg vs=>AV.frzOkL b e xs ys vs
 | .tup vs=>AV.frzOkL b e xs ys vs
 |_=>True
def AV.frzOkL (b e:Nat)(xs ys:List AV) :List AV→Prop
 | [] =>True
 |a::aS=>AV.frzOk b e xs ys a∧AV.frzOkL b e xs ys aS
end
mutual
theorem aBT {E E':Emb}(hle:E.le E'){b e:Nat}{xs ys:List AV}(hg:∀off len ex cv,off+len≤xs.length→ (xs.drop off).take len=ys→VR E (.gl b e off len ex) cv→VR E' (.ilst e ys ex) cv) :
  ∀ (v:AV) (cv:Value),AV.frzOk b e xs ys v→VR E v cv→VR E' (AV.frz b ys v) cv
 | .gl b' e' off len ex,cv,k,r=>by
  simp only [AV.frz,bH,cond_eq_ite,decide_eq_true_eq];split
  · rename_i hb;simp only [AV.frzOk]at k;obtain⟨rfl,k2,k3⟩ :=k hb;subst hb;exact hg off len ex cv k2 k3 r
  ·exact r.mono hle
 | .func _ fs cs,cv,k,r=>by
  simp only [AV.frzOk]at k;simp only [AV.frz,VR]at r ⊢;obtain⟨a,b,h1,h2,h3⟩ :=r;exact⟨a,b,h1,aAR hle hg fs a k.1 h2,aAR hle hg cs b k.2 h3⟩
 | .meth _ a,cv,k,r=>by
  simp only [AV.frzOk]at k;simp only [AV.frz,VR]at r ⊢;obtain⟨u,h1,h2⟩ :=r;exact⟨u,h1,aBT hle hg a u k h2⟩
 | .via _ _ _ a,cv,k,r=>by
  simp only [AV.frzOk]at k;simp only [AV.frz,VR]at r ⊢;obtain⟨u,h1,h2⟩ :=r;exact⟨u,h1,aBT hle hg a u k h2⟩
 | .iface _ a,cv,k,r=>by
  simp only [AV.frzOk]at k;simp only [AV.frz,VR]at r ⊢;obtain⟨u,h1,h2⟩ :=r;exact⟨u,h1,aBT hle hg a u k h2⟩
 | .agg vs,cv,k,r=>by
  simp only [AV.frzOk]at k;simp only [AV.frz,VR]at r ⊢;obtain⟨u,h1,h2⟩ :=r;exact⟨u,h1,aAR hle hg vs u k h2⟩
 | .tup vs,cv,k,r=>by
  simp only [AV.frzOk]at k;simp only [AV.frz,VR]at r ⊢;obtain⟨u,h1,h2⟩ :=r;exact⟨u,h1,aAR hle hg vs u k h2⟩
 | .bool _,_,_,r=>r.mono hle
 | .int _ _,_,_,r=>r.mono hle
 | .str _ _,_,_,r=>r.mono hle
 | .ptr _ _,_,_,r=>r.mono hle
 | .nilp,_,_,r=>r.mono hle
 | .slice ..,_,_,r=>r.mono hle
 | .nils,_,_,r=>r.mono hle
 | .map _,_,_,r=>r.mono hle
 | .nilm,_,_,r=>r.mono hle
 | .yield _,_,_,r=>r.mono hle
 | .nilf,_,_,r=>r.mono hle
 | .nili,_,_,r=>r.mono hle
 | .ilst ..,_,_,r=>r.mono hle
 | .iptr _,_,_,r=>r.mono hle
 | .ep ..,_,_,r=>r.mono hle
 | .val _,_,_,r=>r.mono hle
theorem aAR {E E':Emb}(hle:E.le E'){b e:Nat}{xs ys:List AV}(hg:∀off len ex cv,off+len≤xs.length→ (xs.drop off).take len=ys→VR E (.gl b e off len ex) cv→VR E' (.ilst e ys ex) cv) :
  ∀ (vs:List AV) (cvs:List Value),AV.frzOkL b e xs ys vs→VRs E vs cvs→VRs E' (AV.frzL b ys vs) cvs
 | [],_,_,r=>by simpa [AV.frzL,VRs]using r
 | a::aS,_,k,r=>by
  simp only [AV.frzOkL]at k;simp only [AV.frzL,VRs]at r ⊢;obtain⟨u,us,h1,h2,h3⟩ :=r;exact⟨u,us,h1,aBT hle hg a u k.1 h2,aAR hle hg aS us k.2 h3⟩
end
theorem kL {m:Nat}{h:Hp}{b e:Nat}{xs ys:List AV}{v:AV}(hb:h.look b=some (.lst e xs))(hk:AV.keylessL xs=true)(ho:AV.frzOk b e xs ys v) :m≤h.nb→kY m h (h.del b) v (AV.frz b ys v) :=fun hm E w r=>by
 obtain⟨rd,xd⟩ :=r.drop b;rcases r.obj0 b _ hb with⟨u1,u2⟩ | ⟨L,hE,C,el,vs,o1,o2,o3,o4,o5⟩
 · cases xs
   case cons x xs=>cases u1
   refine⟨E,Emb.le.refl E,rd,xd.toM hm,fun cv hv=>aBT (Emb.le.refl E) (fun off len ex cv k2 k3 hg=>?_) v cv ho hv⟩;have:ys= [] :=by rw [←k3];simp
   subst this;simp only [VR]at hg ⊢;rcases hg with⟨_,a,rfl⟩ | ⟨L,a,cap,hE,_⟩
   ·exact⟨[],VRs.nil _,fun _ hu=>by(cases hu),.inl ⟨rfl,a,0,rfl,fun _=>rfl,fun _=>rfl⟩⟩
   ·rw [u2]at hE;cases hE
 · have hni :=r.apart b _ L hb hE L.blk rfl
   let E':Emb:= ⟨E.loc,fun k=>if k=L.blk then some C else E.imm k⟩
   have hle:E.le E':= ⟨fun _ _ e=>e,fun k D e=>by
    show(if k=L.blk then some C else E.imm k) =some D;rw [if_neg (fun hh=>by rw [hh,hni]at e;cases e)];exact e⟩
   have hlook:∀ {x o},(h.del b).look x=some o→x≠b∧h.look x=some o:=fun {x o} e=>by
    rw [kV]at e;split at e
    ·cases e
    ·rename_i hx;exact⟨hx,e⟩
   have hvl:=o3.length;have hkl:=eW hk o3;refine⟨E',hle,⟨fun x o hx=>?_,rd.kin,rd.fresh,fun k D e=>?_,fun x o Lx hx hEx i hi=>?_,rd.keys⟩,⟨fun _ _=>rfl,hle.2,le_refl _,fun _ _ _=>rfl,xd.own,le_trans hm (le_refl _),rfl,rfl,rfl,fun _ _=>rfl,fun k D e hlt=>?_,fun x o e _=> ⟨o,(hlook e).2⟩⟩,fun cv hv=>aBT hle (fun off len ex cv k2 k3 hg=>?_) v cv ho hv⟩
   · rcases rd.obj0 x o hx with u| ⟨Lx,g1,g2⟩
     ·exact .inl u
     ·exact .inr ⟨Lx,g1,g2.mono hle⟩
   · simp only [E']at e;split at e
     ·rename_i hk';cases e;subst hk';exact⟨el,(0,0),o1⟩
     ·exact r.imm k D e
   · obtain⟨h1,h2⟩ :=hlook hx;show(if i=L.blk then some C else E.imm i) =none;rw [if_neg (fun hh=>wU r hb hE h2 hEx h1 (by rw [←hh];exact hi))];exact r.apart x o Lx h2 hEx i hi
   · simp only [E']at e;split at e
     ·rename_i hk';subst hk';exact .inr ⟨b,_,L,hb,hE,rfl⟩
     ·exact .inl e
   · simp only [VR]at hg ⊢;have okd:∀u∈vs.drop off,yO e u:=fun u hu=>o4 u (List.mem_of_mem_drop hu);have okt:∀u∈ (vs.drop off).take len,yO e u:=fun u hu=>okd u (List.mem_of_mem_take hu);have hlen: ((vs.drop off).take len).length=len:=by rw [List.length_take,List.length_drop];omega
     refine⟨(vs.drop off).take len,?_,okt,?_⟩
     ·rw [←k3];exact((hkl.drop off).take len).mono hle.pp
     · rcases hg with⟨rfl,a,rfl⟩ | ⟨L',a,cap,hE',rfl,g2,g3,g4⟩
       ·exact .inl ⟨by simp,a,0,rfl,fun _=>rfl,fun _=>rfl⟩
       · rw [hE]at hE';cases hE';by_cases hc:cap=0
         · subst hc;have:len=0:=by omega
           subst this;exact .inl ⟨by simp,_,0,rfl,fun _=>rfl,fun _=>rfl⟩
         · obtain⟨rfl,g5⟩ :=g4 hc;refine .inr ⟨L.blk,_,cap,C,by rw [hlen],by simp [E'],by rw [hlen];exact g2,fun he=>by rw [hlen];exact g3 he,fun j hj=>?_⟩;rw [hlen]at hj;have h6:off*e+len*e≤vs.length*e:=by rw [←Nat.add_mul];exact Nat.mul_le_mul_right _ (by omega)
           rw [rC _ okd,nT _ o4,List.getElem?_take_of_lt hj,List.getElem?_drop,←o5 _ (by omega)];congr 1;omega
end
end
end Go.Hb
