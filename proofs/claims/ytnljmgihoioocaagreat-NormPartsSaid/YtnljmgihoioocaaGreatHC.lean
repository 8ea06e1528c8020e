/- A machine on abstract values, its soundness, ways, plain laws. -/
import Derived.Test.YtnljmgihoioocaaGreatHB
import Derived.Defers
import Derived.Orders
set_option linter.defProp false
set_option linter.unusedVariables false
set_option linter.unusedSimpArgs false
set_option linter.unusedSectionVars false
set_option maxRecDepth 100000
namespace Go.Hb
open AV (same sameL)
open Bool (not_eq_true' or_eq_true)
open List (getElem?_drop getElem?_take getElem?_toArray length_drop length_nil length_take mem_of_mem_drop mem_of_mem_take take)
open Nat (add_mul add_zero beq ble blt le_refl lt_or_ge mod_lt mul_le_mul_right sub_zero succ_mul testBit zero_le)
open Option (bind_some elim getD_none getD_some map_some)
noncomputable section
section
variable {P :Program} {E:Emb} {h h':Hp} {w w':World}
theorem uI (r:Rel E h w.heap){e:Nat}{ex:Bool}{j:Value}{c:List Value}(l:ImmS E.imm e ex j c) :
  ∃a b,j= .slice a c.length b∧ (a=none→b=0∧c= []) ∧ (ex=true→b=c.length) ∧c.length≤b∧∀d,a=some d→∀w1:World,w1.heap=w.heap→ (loadCells d (c.length*e)).run P w1= .ok ⟨flat c⟩ w1:=by
 obtain⟨hk,g| ⟨k,a,b,C,rfl,i,n,p,m⟩⟩ :=l
 · obtain⟨rfl,a,b,rfl,q,i⟩ :=g;refine⟨a,b,rfl,fun e=> ⟨q e,rfl⟩,i,zero_le _,fun d _ w1 _=>by simp [loadCells,loadCellsFrom,flat]⟩
 · refine⟨_,b,rfl,(fun e=>by cases e),p,n,fun d e w1 o=>?_⟩;cases e;obtain⟨s,f,g⟩ :=r.imm k C i;exact run_loadCells (flat c) (by rw [o];exact g) (flat_length hk) m
theorem addedE_sound (r : Rel E h w.heap) {V U z : TypeId} {e:Nat}{x:AV}{N:Value}{ys:List AV}(c:sB P h V e x=some ys)(f:P.underlying U=some (.slice z))(o:VR E x N) :
  ∃y,Adds P w U V e N (flat y) ys.length∧VRs E ys y∧∀u∈y,okE e u:=by
 have l:∀k,(TypeDesc.slice z) ≠ .int k:=fun k e=>by cases e
 unfold sB at c;split at c
 · cases c;simp only [VR]at o;subst o;exact⟨[],.nil _ f l,VRs.nil E,fun u f=>by cases f⟩
 · rename_i d b i len p esz M hd;cases hc:beq esz e with
   |false=>rw [hc]at c;cases c
   | true=>
    rw [hc]at c;simp only [cond]at c;have:=iF hc;subst this;split at c
    · rename_i n J;cases m: (dF n&& (isAggD d||beq esz 1))with
      |false=>rw [m]at c;cases c
      | true=>
       rw [m]at c;simp only at c;cases c;simp only [cF,or_eq_true]at m;simp only [VR]at o;obtain⟨L,s,T,hE,rfl,Q,g2,g3,K,g5⟩ :=o
       have he : isAggD d = false → esz = 1 := fun e => by rcases m.2 with g|g; · rw [e]at g;cases g
                                                           ·exact iF g
       have B:∃A,(∀v:World,v.heap=w.heap→ (loadCells ⟨L.blk,s,none⟩ (len*esz)).run P v= .ok ⟨A⟩ v) ∧VRs E n A∧A.length=len*esz:=old_cells r J hE K (fun e0=>by rw [show len=0 by omega,Nat.zero_mul]);obtain⟨A,O,D,H⟩ :=B;obtain⟨y,q1,q2,q3,q4⟩ :=xQ (isAggD d) he len D H (D.ones m.1);refine⟨y,?_,q1,q4⟩;rw [aBD,q2];exact .slice _ _ _ _ _ f l O
    ·cases c
 · rename_i G ys' M hd;cases hc:beq G e with
   |false=>rw [hc]at c;cases c
   | true=>
    rw [hc]at c;simp only [cond]at c;cases c;have:=iF hc;subst this;simp only [VR]at o;obtain⟨n,S,R⟩ :=o;obtain⟨a,p,rfl,Q,g2,g3,K⟩ :=uI (P:=P) r R;refine⟨n,?_,S.of_p,R.1⟩;rw [←S.length];cases a with
    |none=>obtain⟨rfl,rfl⟩ :=Q rfl;exact .nil _ f l
    |some X=>exact .slice _ _ _ _ _ f l (K X rfl)
 · rename_i b G i len M hd;cases hc:beq G e with
   |false=>rw [hc]at c;cases c
   | true =>
    rw [hc]at c;simp only [cond]at c;have:=iF hc;subst this;split at c
    · rename_i e2 zs hb;split at c
      · rename_i q;cases c;obtain⟨rfl,W⟩ :=q;simp only [VR]at o;rcases o with⟨rfl,a,rfl⟩ | ⟨L,a,p,hE,rfl,O,D,H⟩
        · refine⟨[],?_,by simp;exact VRs.nil E,fun u f=>by cases f⟩;cases a with
          |none=>simp;exact .nil _ f l
          |some X=>simp;exact .slice _ _ _ _ _ f l (fun v _=>by simp [loadCells,loadCellsFrom,flat])
        · have ho:=r.objL hb hE;obtain⟨C,el2,n,o1,o2,Y,I,Z⟩ :=ho;have hvl:=Y.length;refine⟨(n.drop i).take len,?_,(Y.drop i).take len,fun u f=>I u (mem_of_mem_drop (mem_of_mem_take f))⟩;have hl: ((zs.drop i).take len).length=len:=by rw [length_take,length_drop];omega
          rw [hl];refine .slice _ _ _ _ _ f l (fun v hw=>?_);have t:∀u∈n.drop i,okE e2 u:=fun u f=>I u (mem_of_mem_drop f);by_cases F:p=0
          · have:len=0:=by omega
            subst this;simp [loadCells,loadCellsFrom,flat]
          · obtain⟨rfl,k4⟩ :=H F;refine run_loadCells _ (by rw [hw];exact o1) ?_ (fun j hj=>?_)
            · rw [flat_length (fun u f=>t u (mem_of_mem_take f)),length_take,length_drop];rw [show min len (n.length-i) =len by omega]
            · have h6:i*e2+len*e2≤n.length*e2:=by rw [←add_mul];exact mul_le_mul_right _ (by omega)
              rw [sZ _ t,pS _ I,List.getElem?_take_of_lt hj,getElem?_drop,←Z _ (by omega)];congr 1;omega
      ·cases c
    ·cases c
 ·cases c
theorem aAA {h1:Hp}(r:Rel E h w.heap)(m:Rel E h1 w.heap)(o:Ext E h w E h1 w)(c:h1.nb=h.nb){e:Nat}{xs:List AV}{a:List Value}(k:VRs E xs a)(hk:∀u∈a,okE e u)(b:TypeId)(rest:List Value)(d:Nat) :
  Rel (E.put h.nb ⟨w.heap.size,0,(flat a++rest).length⟩) (h1.new (.lst e xs)) (w.heap.push (.cells ⟨flat a++rest⟩ b)) ∧
   Ext E h w (E.put h.nb ⟨w.heap.size,0,(flat a++rest).length⟩) (h1.new (.lst e xs)) {w with drawn:=d,heap:=w.heap.push (.cells ⟨flat a++rest⟩ b)}:=by
 obtain⟨g,i⟩ :=m.new (.lst e xs) (.cells ⟨flat a++rest⟩ b) (flat a++rest).length (fun p q f _ l=> ⟨⟨flat a++rest⟩,b,a,l,rfl,k.mono f,hk,fun j n=>by
  simp only [eX];rw [show(⟨flat a++rest⟩ :Array Value) = (flat a++rest).toArray from rfl,getElem?_toArray,iQ (by rw [flat_length hk];exact n)]⟩)
 rw [c]at g i;exact⟨g,o.trans (i.drawn d)⟩
theorem aIw (c:Rel E h w.heap)(e:Nat) :Rel E (h.new (.lst e [])) w.heap∧Ext E h w E (h.new (.lst e [])) w:=by
 have f:E h.nb=none:=c.fresh _ (le_refl _)
 refine⟨⟨?_,?_,fun b hb=>c.fresh b (by rw [oW]at hb;omega),c.imm,?_,fun b o hb=>by
  rw [cS]at hb;rw [oW];split at hb
  ·omega
  ·have:=c.keys b o hb;omega⟩,⟨Emb.le.refl E,le_refl _,fun _ _ _=>rfl,?_,by simp [oW],rfl,rfl,rfl,fun _ _=>rfl,fun _ _=>rfl,fun _ _ e _=>.inl e,fun b o hb l=>by
  rw [cS,if_neg (by omega)]at hb;exact⟨o,hb⟩⟩⟩
 · intro b o hb;rw [cS]at hb;split at hb
   ·rename_i a;cases hb;subst a;exact .inl ⟨rfl,f⟩
   ·exact c.obj0 b o hb
 · intro b g o k L m hb a hE d;rw [cS]at hb a;rw [if_neg (fun e=>by subst e;rw [f]at hE;cases hE)]at hb;rw [if_neg (fun e=>by subst e;rw [f]at d;cases d)]at a;exact c.kin b g o k L m hb a hE d
 · intro b o L hb hE;rw [cS,if_neg (fun e=>by subst e;rw [f]at hE;cases hE)]at hb;exact c.apart b o L hb hE
 · intro b o L hb hE i j _;rw [cS,if_neg (fun e=>by subst e;rw [f]at hE;cases hE)]at hb;exact⟨b,o,L,hb,hE,j⟩
theorem Rel.drop (r:Rel E h w.heap)(b:Nat) :Rel E (h.del b) w.heap∧Ext E h w E (h.del b) w:=by
 have a:∀x o,(h.del b).look x=some o→h.look x=some o:=fun x o e=>by
  rw [qB]at e;split at e
  ·cases e
  ·exact e
 exact⟨r.sub a (le_refl _),⟨Emb.le.refl E,le_refl _,fun _ _ _=>rfl,fun b o L f d i c _=> ⟨b,o,L,a b o f,d,c⟩,le_refl _,rfl,rfl,rfl,fun _ _=>rfl,fun _ _=>rfl,fun _ _ e _=>.inl e,fun x o e _=> ⟨o,a x o e⟩⟩⟩
theorem xR {b:Array TypeId}{ty st H f:TypeId}{e:Nat}{c:TypeInfo}{z:AV}(k:b[0]?=some st)(i:b[1]?=some H)(I:P.underlying st=some (.slice f))(j:bA P f=some e)(l:P.info? f=some c)(hz:zeroOf P f=some z)
  (s:z.cells.length=e) (x:1≤c.bytes) (o:c.bytes≤1000)
  {h1:Hp} (r:Rel E h w.heap) (D:Rel E h1 w.heap) (K:Ext E h w E h1 w) (p:h1.nb=h.nb) {ys:List AV} {n:List Value} {y:Value} (hA:Adds P w H f e y (flat n) ys.length) (g:VRs E ys n) (hk:∀u∈n,okE e u) (M:ys.length≤1000000) (a:Option Addr) :
  ∃J w' q,(Builtin.append_ b ty #[.slice a 0 0,y]).run P w= .ok J w'∧VR q (.gl h.nb e 0 ys.length false) J∧Rel q (h1.new (.lst e ys)) w'.heap∧Ext E h w q (h1.new (.lst e ys)) w':=by
 have hl:=g.length;by_cases B:ys= []
 · subst B;have:n= [] :=zq35.1 hl;subst this;obtain⟨t,v⟩ :=aIw D e;refine⟨.slice a 0 0,w,E,?_,by simp only [VR];exact .inl ⟨rfl,a,rfl⟩,t,K.trans v⟩;exact run_append_room (base:=a) (len:=0) (cap:=0) (w':=w) hA k i I j (by simp) (by cases a<;>simp [flat,storeCells])
 · have G:0<ys.length:=List.length_pos_iff.2 B;obtain⟨L,m,d,C,A,F⟩ :=run_append_grow (ty:=ty) (base:=a) (len:=0) (cap:=0) (os:=[]) hA hz l x o k i I j (by omega) (by omega) (fun N _=>by cases a<;>simp [Builtin.firstCells,loadCells,loadCellsFrom]);simp only [eX,qW]at C A F;obtain⟨t,v⟩ :=aAA r D K p g hk f m d;refine⟨_,_,_,F,?_,t,v⟩;simp only [VR];refine .inr ⟨_,0,L,Emb.put_same _ _ _,rfl,C,(fun e=>by cases e),fun _=> ⟨by simp,?_⟩⟩;rw [wT,flat_length hk,A,s,hl,eX,←add_mul];exact mul_le_mul_right _ (by omega)
theorem zK (r:Rel E h w.heap){b e:Nat}{xs:List AV}(hb:h.look b=some (.lst e xs)){L:Loc}(hE:E b=some L){x:Nat}{o:AObj}{f:Loc}(i:h.look x=some o)(d:E x=some f)(a:x≠b) :¬Own o f L.blk:=fun c=>by
 rcases r.kin _ _ _ _ _ _ i hb d hE ⟨_,c,rfl⟩ a with⟨_,g,_⟩ | ⟨j,_⟩
 ·cases g
 ·cases j
theorem moved (r:Rel E h w.heap){b e:Nat}{xs:List AV}(hb:h.look b=some (.lst e xs)){L:Loc}(hE:E b=some L){C C2:Array Value}{D:TypeId}(O:w.heap[L.blk]?=some (.cells C D (0,0)))(F:C2.size=L.sz)(B:Nat)
  {k:List AV} {l:List Value} (Z:VRs E k l) (hk:∀u∈l,okE e u) (hC:∀j,j<l.length*e→C2[B+j]?= (flat l)[j]?) :
  Rel (E.put h.nb ⟨L.blk,B,L.sz⟩) ((h.del b).new (.lst e k)) (cI w L.blk (.cells C2 D (0,0))).heap ∧
   Ext E h w (E.put h.nb ⟨L.blk,B,L.sz⟩) ((h.del b).new (.lst e k)) (cI w L.blk (.cells C2 D (0,0))) :=by
 have U:E h.nb=none:=r.fresh _ (le_refl _);have s:E.le (E.put h.nb ⟨L.blk,B,L.sz⟩) :=Emb.le_put U;have c:∀ {x o},((h.del b).new (.lst e k)).look x=some o→ (x=h.nb∧o= .lst e k) ∨ (x≠h.nb∧x≠b∧h.look x=some o) :=by
  intro x o d;rw [cS,aJH]at d;split at d
  ·rename_i A;cases d;exact .inl ⟨A,rfl⟩
  · rename_i A;rw [qB]at d;split at d
    ·cases d
    ·rename_i K;exact .inr ⟨A,K,d⟩
 refine⟨⟨?_,?_,?_,r.imm_put hb hE _,?_,fun x o d=>by
  rw [oW,aJH];rcases c d with⟨rfl,_⟩ | ⟨_,_,g⟩
  ·omega
  ·have:=r.keys x o g;omega⟩,⟨s,by simp [cI],?_,?_,by simp [oW,aJH],rfl,rfl,rfl,fun x d=>Emb.put_ne _ _ (by omega),(fun a _=>uD O rfl rfl a),fun _ _ e _=>.inl e,fun x o d V=>by
  rcases c d with⟨rfl,_⟩ | ⟨_,_,g⟩
  ·omega
  ·exact⟨o,g⟩⟩⟩
 · intro x o d;rcases c d with⟨rfl,rfl⟩ | ⟨n,z,g⟩
   ·exact .inr ⟨_,Emb.put_same _ _ _,C2,D,l,qC O,F,Z.mono s,hk,hC⟩
   · rcases r.obj0 x o g with⟨W,T⟩ | ⟨p,N,S⟩
     ·exact .inl ⟨W,by rw [Emb.put_ne _ _ n];exact T⟩
     ·exact .inr ⟨p,by rw [Emb.put_ne _ _ n];exact N,(S.mono s).heap fun i m=>by simp only [cI];rw [tY (fun A:L.blk=i=>zK r hb hE g N z (by rw [A];exact m))]⟩
 · intro x y X oy p Y d Q f t q v;rcases c d with⟨rfl,rfl⟩ | ⟨n,z,g⟩
   · rcases c Q with⟨rfl,rfl⟩ | ⟨J,R,H⟩
     ·exact absurd rfl v
     · rw [Emb.put_same]at f;cases f;rw [Emb.put_ne _ _ J]at t;obtain⟨i,M,I⟩ :=q;obtain rfl:L.blk=i:=M;exact absurd I (zK r hb hE H t R)
   · rw [Emb.put_ne _ _ n]at f;rcases c Q with⟨rfl,rfl⟩ | ⟨J,R,H⟩
     · rw [Emb.put_same]at t;cases t;obtain⟨i,M,I⟩ :=q;obtain rfl:L.blk=i:=I;exact absurd M (zK r hb hE g f z)
     · rw [Emb.put_ne _ _ J]at t;exact r.kin x y X oy p Y g H f t q v
 · intro x d;rw [oW,aJH]at d;rw [Emb.put_ne _ _ (by omega)];exact r.fresh x (by omega)
 · intro x o p d f i m;show E.imm i=none;rcases c d with⟨rfl,rfl⟩ | ⟨n,z,g⟩
   ·rw [Emb.put_same]at f;cases f;exact r.apart b _ L hb hE i m
   ·rw [Emb.put_ne _ _ n]at f;exact r.apart x o p g f i m
 · intro i m G;simp only [cI];rw [tY (G b _ L hb hE)]
 · intro x o p d f i m _;rcases c d with⟨rfl,rfl⟩ | ⟨n,z,g⟩
   ·rw [Emb.put_same]at f;cases f;exact⟨b,_,L,hb,hE,m⟩
   ·rw [Emb.put_ne _ _ n]at f;exact⟨x,o,p,g,f,m⟩
def Emb.immPut (E:Emb)(k:Nat)(C:Array Value) :Emb:= ⟨E.loc,fun x=>if x=k then some C else E.imm x⟩
theorem bFX (r:Rel E h w.heap)(C:Array Value)(l:TypeId)(d:Nat) :
  E.le (E.immPut w.heap.size C) ∧Rel (E.immPut w.heap.size C) h (w.heap.push (.cells C l)) ∧Ext E h w (E.immPut w.heap.size C) h {w with drawn:=d,heap:=w.heap.push (.cells C l)}:=by
 have c:∀ {i},i<w.heap.size→ (w.heap.push (.cells C l))[i]?=w.heap[i]?:=fun f=>by rw [Array.getElem?_push,if_neg (by omega)]
 have j:E.le (E.immPut w.heap.size C) := ⟨fun _ _ e=>e,fun k D e=>by
  have:=r.immLt e;show(if k=w.heap.size then some C else E.imm k) =some D;rw [if_neg (by omega)];exact e⟩
 refine⟨j,⟨?_,r.kin,r.fresh,?_,?_,r.keys⟩,(⟨j,by simp,fun i f _=>c f,fun b o L t p i f _=> ⟨b,o,L,t,p,f⟩,le_refl _,rfl,rfl,rfl,fun _ _=>rfl,(fun a _=>xG w rfl a),?_,fun _ o e _=> ⟨o,e⟩⟩ :Ext E h w (E.immPut w.heap.size C) h {w with heap:=w.heap.push (.cells C l)}).drawn d⟩
 · intro b o hb;rcases r.obj0 b o hb with u| ⟨L,s,m⟩
   ·exact .inl u
   ·exact .inr ⟨L,s,(m.mono j).heap fun i f=>c (m.lt i f)⟩
 · intro k D e;simp only [Emb.immPut]at e;split at e
   ·rename_i hk;cases e;subst hk;exact⟨l,(0,0),by simp⟩
   · obtain⟨n,q,g⟩ :=r.imm k D e;exact⟨n,q,by rw [c (zq44.1 g).1];exact g⟩
 · intro b o L hb hE i f;simp only [Emb.immPut];rw [if_neg (by have:=r.lt hb hE i f;omega)];exact r.apart b o L hb hE i f
 · intro k D e hk;simp only [Emb.immPut]at e;rw [if_neg (by omega)]at e;exact .inl e
set_option maxHeartbeats 1000000 in
theorem vappend_sound (r :Rel E h w.heap){q:Array TypeId}{ty:TypeId}{s x v:AV}{cs cx:Value}(l:nR P h q s x=some (v,h'))(Y:VR E s cs)(hx:VR E x cx) :
  ∃cv w' E',(Builtin.append_ q ty #[cs,cx]).run P w= .ok cv w'∧VR E' v cv∧Rel E' h' w'.heap∧Ext E h w E' h' w':=by
 unfold nR at l;split at l
 · rename_i st xt hst B;split at l
   · rename_i el el' hu hu';split at l
     · rename_i e inf z F A hz;split at l
       ·cases l
       · rename_i ys hadd;cases hc: (beq z.cells.length e&&ble e 40&&ble inf.bytes 1000&&ble 1 inf.bytes&&ble 1 e)with
         |false=>rw [hc]at l;cases l
         | true =>
          rw [hc]at l;simp only [cond]at l;simp only [jG,bQ,cF,decide_eq_true_eq]at hc;obtain⟨⟨⟨⟨R,_⟩,O⟩,N⟩,he1⟩ :=hc;obtain⟨J,hA,I,hk⟩ :=addedE_sound (P:=P) (w:=w) r hadd hu' hx;have H:=I.length;have hfl:=flat_length hk;split at l
          · -- the nil slice
            split at l
            · rename_i hn;cases l;simp only [VR]at Y;subst Y;exact xR hst B hu F A hz R N O r r (Ext.refl _ _ _) rfl hA I hk hn none
            ·cases l
          · rename_i b e' f len ex;split at l
            · rename_i e2 xs hb;split at l
              · rename_i p;cases l;obtain⟨rfl,rfl,hlen,hn⟩ :=p;simp only [VR]at Y;obtain⟨rd,xd⟩ :=r.drop b;rcases Y with⟨rfl,a,rfl⟩ | ⟨L,a,cap,hE,rfl,k1,k2,k3⟩
                · have:=xR (ty:=ty) hst B hu F A hz R N O r rd xd rfl hA I hk (by omega) a;simpa using this
                · obtain ⟨C,el2,o,o1,o2,o3,o4,o5⟩ :=r.objL hb hE;have hvl:=o3.length;have okd:∀u∈o.drop f,okE e2 u:=fun u hu=>o4 u (mem_of_mem_drop hu);have hvs:= (o3.drop f).take len;have S:∀u∈ (o.drop f).take len,okE e2 u:=fun u hu=>okd u (mem_of_mem_take hu);have G: ((o.drop f).take len).length=len:=by rw [length_take,length_drop];omega
                  have M:=hvs.append I
                  have m:∀u∈ (o.drop f).take len++J,okE e2 u:=fun u hu=>by
                   rcases zq28.1 hu with g|g
                   ·exact S u g
                   ·exact hk u g
                  have hle6:f*e2+len*e2≤o.length*e2:=by rw [←add_mul];exact mul_le_mul_right _ (by omega)
                  have K:∀j,j<len*e2→C[L.sh+f*e2+j]?= (flat ((o.drop f).take len))[j]?:=fun j U=>by
                   rw [sZ _ okd,pS _ o4,List.getElem?_take_of_lt U,getElem?_drop,←o5 _ (by omega)];congr 1;omega
                  by_cases n:len+ys.length≤cap
                  · by_cases Q:ys= []
                    · subst Q;have hw0:J= [] :=zq35.1 H;subst hw0;obtain⟨T,V⟩ :=moved (C2:=C) r hb hE o1 o2 (L.sh+f*e2) M m (fun j U=>by rw [oS]at U ⊢;exact K j (by rw [G]at U;exact U));rw [rE o1]at T V;refine⟨.slice (some ⟨L.blk,a,none⟩) (len+0) cap,w,_,?_,?_,T,V⟩
                      ·exact run_append_room (base:=some ⟨L.blk,a,none⟩) (len:=len) (cap:=cap) (w':=w) hA hst B hu F (by simpa using n) (by simp [flat,storeCells])
                      · simp only [VR];refine .inr ⟨_,a,cap,Emb.put_same _ _ _,by simp,by simpa using n,(fun e=>by cases e),fun hc0=>?_⟩;obtain⟨g1,Z⟩ :=k3 hc0;exact⟨by simp [g1],Z⟩
                    · have X:0<ys.length:=List.length_pos_iff.2 Q;obtain⟨g1,Z⟩ :=k3 (by omega);subst g1;have hm: (len+ys.length) *e2≤cap*e2:=mul_le_mul_right _ n;rw [add_mul]at hm;have W:L.sh+f*e2+len*e2+ (flat J).length≤C.size:=by rw [hfl,H,o2];omega
                      obtain⟨T,V⟩ :=moved (C2:=over C (L.sh+f*e2+len*e2) (flat J)) r hb hE o1 (by rw [nD];exact o2) (L.sh+f*e2) M m (fun j U=>by
                       rw [wT,G,add_mul]at U;rw [mC _ _ _ _ W,xP];have hfo: (flat ((o.drop f).take len)).length=len*e2:=by rw [flat_length S,G]
                       by_cases hj2:j<len*e2
                       ·rw [if_neg (by omega),iQ (by omega)];exact K j hj2
                       · rw [if_pos (by rw [hfl];omega),kR (by omega),hfo];congr 1;omega)
                      refine⟨.slice (some ⟨L.blk,L.sh+f*e2,none⟩) (len+ys.length) cap,_,_,?_,?_,T,V⟩
                      · refine run_append_room (base:=some ⟨L.blk,L.sh+f*e2,none⟩) (len:=len) (cap:=cap) hA hst B hu F n ?_;simp only [gC];have:=mD (P:=P) (flat J) (w:=w) (b:=L.blk) (k:=L.sh+f*e2+len*e2) (i:=0) o1 (by simpa using W) (aWc hk);simpa using this
                      · simp only [VR];exact .inr ⟨_,_,cap,Emb.put_same _ _ _,rfl,n,(fun e=>by cases e),fun _=> ⟨by simp,Z⟩⟩
                  · have X:0<ys.length:=by omega
                    obtain⟨nc,t,d,m1,m2,m3⟩ :=run_append_grow (ty:=ty) (base:=some ⟨L.blk,a,none⟩) (len:=len) (cap:=cap) (os:=flat ((o.drop f).take len)) hA hz A N O hst B hu F n (by omega) (fun w1 hw=>by
                     simp only [Builtin.firstCells];by_cases hc0:cap=0
                     · have:len=0:=by omega
                       subst this;simp [loadCells,loadCellsFrom,flat]
                     · obtain⟨g1,Z⟩ :=k3 hc0;subst g1;exact run_loadCells _ (by rw [hw];exact o1) (by rw [flat_length S,G]) K)
                    obtain⟨T,V⟩ :=aAA r rd xd rfl M m el t d;rw [xP]at T V;refine⟨_,_,_,m3,?_,T,V⟩;simp only [VR];refine .inr ⟨_,0,nc,Emb.put_same _ _ _,rfl,m1,(fun e=>by cases e),fun _=> ⟨by simp,?_⟩⟩;rw [wT,wT,flat_length S,G,hfl,m2,R,H,eX,←add_mul,←add_mul];exact mul_le_mul_right _ (by omega)
              ·cases l
            ·cases l
          · -- a slice without room,and without elements
            split at l
            · rename_i p;cases l;obtain⟨rfl,hn⟩ :=p;simp only [VR]at Y;obtain⟨o,h1,h2⟩ :=Y;rw [h1.nil_inv]at h2;obtain⟨a,cap,rfl,_,Z,_⟩ :=uI (P:=P) r h2;rw [Z rfl];exact xR hst B hu F A hz R N O r r (Ext.refl _ _ _) rfl hA I hk hn a
            ·cases l
          · rename_i e' y xs;split at l
            · rename_i p;cases l;obtain⟨rfl,hkl,hn⟩ :=p;simp only [VR]at Y;obtain⟨o,h1,h2⟩ :=Y;have hvl:=h1.length;obtain⟨a,cap,rfl,g1,Z,g3,g4⟩ :=uI (P:=P) r h2;have hce:=Z rfl;subst hce;have hysp:=gG hkl I
              have m:∀u∈o++J,okE e' u:=fun u hu=>by
               rcases zq28.1 hu with g|g
               ·exact h2.1 u g
               ·exact hk u g
              by_cases Q:ys= []
              · subst Q;have hw0:J= [] :=zq35.1 H;subst hw0;refine⟨.slice a o.length o.length,w,E,?_,?_,r,Ext.refl _ _ _⟩
                ·exact run_append_room (base:=a) (len:=o.length) (cap:=o.length) (w':=w) hA hst B hu F (by simp) (by cases a<;>simp [flat,storeCells])
                · simp only [VR,oS];refine⟨o,h1,h2.1,?_⟩;rcases h2.2 with⟨p1,p2,p3,p4,p5,p6⟩ | ⟨k,b,c,D,p1,p2,p3,p4,p5⟩
                  ·exact .inl ⟨p1,p2,p3,p4,p5,(fun e=>by cases e)⟩
                  ·exact .inr ⟨k,b,c,D,p1,p2,p3,(fun e=>by cases e),p5⟩
              · have X:0<ys.length:=List.length_pos_iff.2 Q;simp only [oK]at hn hvl
                obtain⟨nc,t,d,m1,m2,m3⟩ :=run_append_grow (ty:=ty) (base:=a) (len:=o.length) (cap:=o.length) (os:=flat o) hA hz A N O hst B hu F (by omega) (by omega) (fun w1 hw=>by
                 cases a with
                 |none=>obtain⟨_,h0⟩ :=g1 rfl;subst h0;simp at hvl
                 |some ad=>simp only [Builtin.firstCells];exact g4 ad rfl w1 hw)
                obtain⟨hle,T,V⟩ :=bFX r ⟨flat o++flat J++t⟩ el d;refine⟨_,_,_,m3,?_,T,V⟩;simp only [VR];refine⟨o++J,(h1.append hysp).mono hle.pp,m,.inr ⟨w.heap.size,0,nc,⟨flat o++flat J++t⟩,by rw [wT,H],by simp [Emb.immPut],by rw [wT,H];exact m1,(fun e=>by cases e),fun j U=>?_⟩⟩;rw [show(⟨flat o++flat J++t⟩ :Array Value) = (flat o++flat J++t).toArray from rfl,getElem?_toArray,eX,←xP,iQ (by rw [flat_length m];exact U)]
            ·cases l
          ·cases l
     ·cases l
   ·cases l
 ·cases l
end
section
variable {P :Program} {E:Emb} {h h':Hp} {w w':World} {tm:T AV} {ρ:Operand→Value}
theorem zL {t:TypeId}{e:Nat}(a:aAu P t e=true) :∃b,P.underlying t=some (.slice b) ∧bA P b=some e:=by
 unfold aAu at a;split at a
 · rename_i b c;split at a
   ·rename_i s d;have:=iF a;subst this;exact⟨b,c,d⟩
   ·cases a
 ·cases a
theorem aJQ {t:TypeId}{x v:AV}{A:Value}{lo hi mx:Option Nat}{o p i:Option Value}(f:aCX P t x lo hi mx=some v)(y:VR E x A)
  (h1:NVR lo o) (h2:NVR hi p) (R:NVR mx i) :∃cv,(Instr.sliceAt t A o p i).run P w= .ok cv w∧VR E v cv:=by
 unfold aCX at f;split at f
 · rename_i e xs S;cases hc:aAu P t e with
   |false=>rw [hc]at f;cases f
   | true =>
    rw [hc]at f;simp only [cond]at f;obtain⟨el,Z,G⟩ :=zL hc;simp only [VR]at y;obtain⟨q,k1,J⟩ :=y;have O:=k1.length
    have key :∀ (l u m:Nat) (n:Bool) (a:Option Addr) (cap:Nat),A= .slice a q.length cap→l≤u→u≤q.length→u≤m→m≤cap→ (n=true→m=u) →
      (Instr.sliceBounds true q.length cap o p i).run P w= .ok (l,u,m) w →
      ∃cv,(Instr.sliceAt t A o p i).run P w= .ok cv w∧VR E (.ilst e ((xs.drop l).take (u-l)) n) cv:=by
     intro l u m n a cap d X N U W r hb;refine⟨.slice (if m=l then a else a.map (·.add (l*e))) (u-l) (m-l),?_,?_⟩
     · subst d;simp [Instr.sliceAt,Instr.slice,aB Z,hb,cD G]
     · simp only [VR];have okv:∀x∈ (q.drop l).take (u-l),okE e x:=fun x y=>J.1 x (mem_of_mem_drop (mem_of_mem_take y));have s: ((q.drop l).take (u-l)).length=u-l:=by rw [length_take,length_drop];omega
       refine⟨(q.drop l).take (u-l),(k1.drop l).take (u-l),okv,?_⟩;rcases J.2 with⟨z,b,c,g,B,D⟩ | ⟨k,b,c,C,g,B,D,M,p6⟩
       · subst z;rw [d]at g;cases g;simp only [length_nil]at N;have hu0:u=0:=by omega
         have V:l=0:=by omega
         subst hu0;subst V;refine .inl ⟨by simp,_,m,rfl,fun H=>?_,fun he=>by have:=r he;omega⟩;have:a=none:=by
          split at H
          ·exact H
          ·cases a<;>simp at H ⊢
         have:=B this;omega
       · rw [d]at g;cases g;by_cases Q:u-l=0
         · refine .inl ⟨zq35.1 (by omega),_,m-l,by rw [Q],fun H=>?_,fun he=>by have:=r he;omega⟩;split at H<;>simp at H
         · have F:m≠l:=by omega
           refine .inr ⟨k,b+l*e,m-l,C,?_,B,by omega,fun he=>by rw [s];have:=r he;omega,fun j hj=>?_⟩
           ·rw [if_neg F,s];simp [gC]
           · rw [s]at hj;have h6:l*e+ (u-l) *e≤q.length*e:=by rw [←add_mul];exact mul_le_mul_right _ (by omega)
             rw [sZ _ (fun x y=>J.1 x (mem_of_mem_drop y)),pS _ J.1,List.getElem?_take_of_lt hj,getElem?_drop,←p6 _ (by omega)];congr 1;omega
    obtain⟨a,cap,d,K,h⟩ :∃a cap,A= .slice a q.length cap∧q.length≤cap∧ (S=true→cap=q.length) :=by
     rcases J.2 with⟨z,b,c,g,B,D⟩ | ⟨k,b,c,C,g,B,D,M,p6⟩
     ·subst z;exact⟨b,c,g,zero_le _,fun e=>D e⟩
     ·exact⟨_,c,g,D,M⟩
    split at f
    · rename_i Y;split at f
      · rename_i hb;cases f;rw [←O]at hb ⊢;cases i with
        |some c=>exact R.elim
        | none=>
         have:=jQ (P:=P) (w:=w) (isS:=true) (len:=q.length) (cap:=cap) h1 h2 (show NVR none none from trivial) (by simp) hb.1 (by simp only [getD_none];omega) (le_refl _)
         exact key _ _ cap _ a cap d hb.1 hb.2 (by omega) (le_refl _) (fun he=>by
          simp only [cF]at he;have h5:=iF he.2;have:=h he.1;omega) this
      ·cases f
    · rename_i m u;split at f
      · rename_i hb;cases f;simp only [getD_some]at hb ⊢;rw [←O]at hb;have:=jQ (P:=P) (w:=w) (isS:=true) (len:=q.length) (cap:=cap) h1 h2 R (by simp) (by simpa using hb.1) (by simp only [getD_some];omega) (by simp only [getD_some];omega);exact key _ _ m _ a cap d hb.1 (by omega) hb.2.1 (by omega) (fun he=> (iF he).symm) (by simpa using this)
      ·cases f
    ·cases f
 · rename_i b e T len S;cases hc:aAu P t e with
   |false=>rw [hc]at f;cases f
   | true =>
    rw [hc]at f;simp only [cond]at f;obtain⟨el,Z,G⟩ :=zL hc;have hx0:=y;simp only [VR]at y
    have key:∀ (l u m:Nat) (n:Bool) (a:Option Addr) (cap:Nat),A= .slice a len cap→l≤u→u≤len→u≤m→m≤cap→ (n=true→m=u) →
      (Instr.sliceBounds true len cap o p i).run P w= .ok (l,u,m) w →
      ∃cv,(Instr.sliceAt t A o p i).run P w= .ok cv w∧VR E (.gl b e (T+l) (u-l) n) cv:=by
     intro l u m n a cap d X N U W r hb;refine⟨.slice (if m=l then a else a.map (·.add (l*e))) (u-l) (m-l),?_,?_⟩
     · subst d;simp [Instr.sliceAt,Instr.slice,aB Z,hb,cD G]
     · simp only [VR];rcases y with⟨z,I,g⟩ | ⟨L,I,c,z,g,B,D,M⟩
       · rw [d]at g;cases g;have:u=0:=by omega
         subst this;have:l=0:=by omega
         subst this;have:m=0:=by omega
         subst this;exact .inl ⟨rfl,_,rfl⟩
       · rw [d]at g;cases g;refine .inr ⟨L,if m=l then I else I+l*e,m-l,z,?_,by omega,fun he=>by have:=r he;omega,fun hc0=>?_⟩
         ·split<;>simp [gC]
         · have F:m≠l:=by omega
           rw [if_neg F];obtain⟨g1,g2⟩ :=M (by omega);have h6:l*e+ (m-l) *e≤cap*e:=by rw [←add_mul];exact mul_le_mul_right _ (by omega)
           exact⟨by rw [g1,add_mul];omega,by omega⟩
    obtain⟨a,cap,d,K,h⟩ :∃a cap,A= .slice a len cap∧len≤cap∧ (S=true→cap=len) :=by
     rcases y with⟨z,I,g⟩ | ⟨L,I,c,z,g,B,D,M⟩
     ·subst z;exact⟨I,0,g,le_refl _,fun _=>rfl⟩
     ·exact⟨_,c,g,B,D⟩
    split at f
    · rename_i Y;split at f
      · rename_i hb;cases f;cases i with
        |some c=>exact R.elim
        | none=>
         have:=jQ (P:=P) (w:=w) (isS:=true) (len:=len) (cap:=cap) h1 h2 (show NVR none none from trivial) (by simp) hb.1 (by simp only [getD_none];omega) (le_refl _)
         exact key _ _ cap _ a cap d hb.1 hb.2 (by omega) (le_refl _) (fun he=>by
          simp only [cF]at he;have h5:=iF he.2;have:=h he.1;omega) this
      ·cases f
    · rename_i m u;split at f
      · rename_i hb;cases f;simp only [getD_some]at hb ⊢;have:=jQ (P:=P) (w:=w) (isS:=true) (len:=len) (cap:=cap) h1 h2 R (by simp) (by simpa using hb.1) (by simp only [getD_some];omega) (by simp only [getD_some];omega);exact key _ _ m _ a cap d hb.1 (by omega) hb.2.1 (by omega) (fun he=> (iF he).symm) (by simpa using this)
      ·cases f
    ·cases f
 ·cases f
theorem aIx {v:Value}(h:v.oneCell'=true) :v.cells.toList= [v] :=by cases v<;>first|rfl| (simp [Value.oneCell']at h)
theorem aBE {x g:AV}{e:Nat}{us:List Value}{v:Value}(n:x.one=true)(o:VR E x v)(hk:okE e v)(i:VRs E [g] us)(h1:∀u∈us,u.oneCell'=true) :
  ∃d,VR E g d∧okE e d∧0+us.length≤e∧∀j,j<e→d.cells[j]?=if 0≤j∧j<0+us.length then us[j-0]? else v.cells[j]?:=by
 obtain⟨h,k,rfl,l,m⟩ :=i.cons_inv;rw [m.nil_inv]at h1 ⊢;have f:=aIx (o.one n);have he:e=1:=by have:=hk.1;rw [←Array.length_toList,f]at this;exact this.symm
 have a:=aIx (h1 h (dT ..));refine⟨h,l,⟨by rw [←Array.length_toList,a,he];rfl,fun c hc=>by rw [a]at hc;simp at hc;subst hc;exact h1 _ (dT ..)⟩,by simp [he],fun j p=>?_⟩;have b:j=0:=by omega
 subst b;rw [if_pos (by simp),←sU,a]
theorem aH4 {x q:AV}{o e:Nat}{p:List AV}{us:List Value}{v:Value}(a:kY x o p=some q)(i:VR E x v)(hk:okE e v)(h:VRs E p us)(h1:∀u∈us,u.oneCell'=true) :
  ∃m,VR E q m∧okE e m∧o+us.length≤e∧∀j,j<e→m.cells[j]?=if o≤j∧j<o+us.length then us[j-o]? else v.cells[j]?:=by
 have hl:=h.length;unfold kY at a;split at a
 · rename_i s;cases hc:ble (o+p.length) s.length with
   |false=>rw [hc]at a;cases a
   | true =>
    rw [hc]at a;simp only [cond]at a;cases a;have y:=Nat.le_of_ble_eq_true hc;simp only [VR]at i;obtain⟨b,rfl,d⟩ :=i;have t:=d.length;have he:b.length=e:=by have:=hk.1;simpa [Value.cells]using this
    refine⟨.agg ⟨b.take o++us++b.drop (o+us.length)⟩,?_,⟨?_,?_⟩,by omega,fun j A=>?_⟩
    · simp only [VR];refine⟨_,rfl,?_⟩;unfold setAt;rw [←hl];exact((d.take o).append h).append (d.drop _)
    ·simp [Value.cells];omega
    · intro c f;simp only [Value.cells]at f;rcases zq28.1 f with g|g
      · rcases zq28.1 g with g|g
        ·exact hk.2 c (by simp only [Value.cells];exact mem_of_mem_take g)
        ·exact h1 c g
      ·exact hk.2 c (by simp only [Value.cells];exact mem_of_mem_drop g)
    · simp only [Value.cells];rw [show(⟨b.take o++us++b.drop (o+us.length)⟩ :Array Value) = (b.take o++us++b.drop (o+us.length)).toArray from rfl,getElem?_toArray,show(⟨b⟩ :Array Value) =b.toArray from rfl,getElem?_toArray];by_cases r:o≤j∧j<o+us.length
      · rw [if_pos r,iQ (by simp;omega),kR (by simp;omega)];congr 1;simp;omega
      · rw [if_neg r];by_cases w:j<o
        ·rw [iQ (by simp;omega),iQ (by simp;omega),List.getElem?_take_of_lt w]
        · rw [kR (by simp;omega),getElem?_drop];congr 1;simp;omega
 ·cases a
 · split at a
   · split at a
     ·cases a;exact aBE (x:=.val (.pointer _)) rfl i hk h h1
     ·cases a
   ·cases a
 · rename_i k n l;split at a
   · rename_i B;cases a;have z:x.one=true:=by cases x<;>first|rfl|exact absurd rfl (k _) |exact absurd rfl (n _) |exact absurd rfl (l _)
     exact aBE z i hk h h1
   ·cases a
theorem aWd {e : Nat}{b:List Value}(hk:∀u∈b,okE e u){i:Nat}(r:i<b.length){v':Value}(f:okE e v') :
  (∀u∈b.set i v',okE e u) ∧∀j,j<b.length*e→ (flat (b.set i v'))[j]?=if i*e≤j∧j<i*e+e then v'.cells[j-i*e]? else(flat b)[j]?:=by
 have c:∀u∈b.set i v',okE e u:=fun u q=>by
  rcases List.mem_or_eq_of_mem_set q with g|g
  ·exact hk u g
  ·rw [g];exact f
 refine⟨c,fun j p=>?_⟩
 have he : 0 < e := by rcases Nat.eq_zero_or_pos e with g|g; · subst g;simp at p
                       ·exact g
 have h:j / e<b.length:=Nat.div_lt_of_lt_mul (by rw [Nat.mul_comm];exact p);have hr:j % e<e:=mod_lt _ he;have d:j=j / e*e+j % e:=by have:=Nat.div_add_mod j e;rw [Nat.mul_comm]at this;exact this.symm
 have o:=flat_get (v:= (b.set i v')[j / e]'(by simpa using h)) c (kH _) hr;have l:=flat_get (v:=b[j / e]) hk (kH h) hr;rw [←d]at o l;rw [o,l,List.getElem_set];by_cases a:i=j / e
 · rw [if_pos a,if_pos (by rw [a];omega)];congr 1;rw [a];omega
 · rw [if_neg a,if_neg (fun s=>a ?_)];have:=Nat.div_eq_of_lt_le (m:=j) (n:=e) (k:=i) (by omega) (by rw [succ_mul];omega);omega
theorem aJR (r:Rel E h w.heap){b e i o:Nat}{xs:List AV}{x q:AV}{O:List AV}{us:List Value}(hb:h.look b=some (.lst e xs)){L:Loc}(hE:E b=some L)(N:xs[i]?=some x)(S:kY x o O=some q)(Y:VRs E O us)(h1:∀u∈us,u.oneCell'=true) :
  ∃w',(storeCells ⟨L.blk,L.sh+ (i*e+o),none⟩ us).run P w= .ok () w'∧Rel E (h.set b (.lst e (xs.set i q))) w'.heap∧Ext E h w E (h.set b (.lst e (xs.set i q))) w':=by
 obtain⟨C,t,J,D,T,z,H,p⟩ :=r.objL hb hE;obtain⟨v,V,R,F,y⟩ :=aFH z H p N;obtain⟨I,m1,m2,m3,B⟩ :=aH4 S R F Y h1;have A:= (zq0.1 V).1;obtain⟨W,f2⟩ :=aWd H A m2;have hie:i*e+e≤J.length*e:=by rw [←succ_mul];exact mul_le_mul_right _ A
 have c:us= [] ∨L.sh+ (i*e+o) +us.length≤C.size:=by
  by_cases K:us= []
  ·exact .inl K
  · have G:0<us.length:=List.length_pos_iff.2 K;have U:=y (o+us.length-1) (by omega);have M:v.cells[o+us.length-1]?≠none:=by rw [Array.getElem?_eq_getElem (by rw [F.1];omega)];simp
    rw [←U]at M;have h9:L.sh+ (i*e+ (o+us.length-1)) <C.size:=by
     rcases lt_or_ge (L.sh+ (i*e+ (o+us.length-1))) C.size with g|g
     ·exact g
     ·exact absurd (Array.getElem?_eq_none g) M
    exact .inr (by omega)
 have run: (storeCells ⟨L.blk,L.sh+ (i*e+o),none⟩ us).run P w= .ok () (cI w L.blk (.cells (over C (L.sh+ (i*e+o)) us) t (0,0))) :=by
  rcases c with rfl|c
  ·simp [storeCells,over,rE D]
  · have:=mD (P:=P) us (w:=w) (b:=L.blk) (k:=L.sh+ (i*e+o)) (i:=0) D (by simpa using c) h1;simpa using this
 obtain ⟨X,q2⟩ :=r.setObj (o':=.lst e (xs.set i q)) (.cells (over C (L.sh+ (i*e+o)) us) t (0,0)) hb hE rfl rfl (fun H' Z=> ⟨over C (L.sh+ (i*e+o)) us,t,J.set i I,Z,by rw [nD];exact T,by
  refine VRs.of_get (by simp [z.length]) (fun k a f=>?_);rw [List.getElem?_set]at f ⊢;by_cases m:i=k
  · rw [if_pos m]at f ⊢;have Q:= (zq0.1 N).1;rw [if_pos (by omega)]at f;rw [if_pos (by omega)];cases f;exact⟨I,rfl,m1⟩
  · rw [if_neg m]at f ⊢;exact z.get k a f,W,fun j n=>by
  rw [eG]at n;rw [f2 j n];rcases c with rfl|c
  · rw [over,p j n];split
    · rename_i d;have:=B (j-i*e) (by omega);simp only [length_nil,add_zero]at this;rw [if_neg (by omega)]at this;have s:=y (j-i*e) (by omega);rw [this,←s,show i*e+ (j-i*e) =j by omega,p j n]
    ·rfl
  · rw [mC _ _ _ _ c];by_cases d:i*e≤j∧j<i*e+e
    · rw [if_pos d,B _ (by omega)];by_cases l:o≤j-i*e∧j-i*e<o+us.length
      ·rw [if_pos l,if_pos (by omega)];congr 1;omega
      · rw [if_neg l,if_neg (by omega)];have s:=y (j-i*e) (by omega);rw [←s];congr 1;omega
    ·rw [if_neg d,if_neg (by omega),p j n]⟩)
 exact⟨_,run,X,q2⟩
theorem aJS (n:Nat){t:TypeId}{d:TypeDesc}(h:P.underlying t=some d){x y:AV}{k o:Value}{b:Bool}(u:plainKey d x=true)(j:plainKey d y=true)(c:pX x y=some b)(s:VR E x k)(g:VR E y o) :
  (Op.equalIn (n+1) t k o).run P w= .ok b w:=by
 rcases fH u s with⟨i,kk,m,rfl,rfl,rfl⟩ | ⟨l,m,rfl,rfl,rfl⟩ | ⟨r,rfl,rfl,rfl⟩
 · rcases fH j g with⟨q,f,e,a,rfl,rfl⟩ | ⟨p,e,a,_⟩ | ⟨r,a,_⟩
   · simp only [pX]at c;split at c
     ·rename_i hk;cases c;subst hk;simp [Op.equalIn,aB h]
     ·cases c
   ·cases a
   ·cases a
 · rcases fH j g with⟨q,f,e,a,_⟩ | ⟨p,e,a,rfl,rfl⟩ | ⟨r,a,_⟩
   ·cases a
   · have:=aAW (d:=.string) rfl s g c;simp only [Instr.sameNow]at this;simp only [Op.equalIn,Sem.run_bind,aB h,Result.andThen_ok,Sem.run_pure];exact congrArg (Result.ok · w) (Option.some.inj this.1)
   ·cases a
 · rcases fH j g with⟨q,f,e,a,_⟩ | ⟨p,e,a,_⟩ | ⟨v,a,rfl,rfl⟩
   ·cases a
   ·cases a
   ·simp only [pX]at c;cases c;simp [Op.equalIn,aB h]
theorem aBF {d:TypeDesc}{x:AV}(h:plainKey d x=true) :isAggD d=false:=by
 unfold plainKey at h;split at h<;>first|rfl|cases h
theorem aBG (n:Nat)(e:Field→Option Bool×Unit→Sem (ForInStep (Option Bool×Unit))){us h:List Value}:∀ (fs:List Field) (k:Nat) (i g:List AV) (b:Bool),lY P fs k i g=some b→VRs E i (us.drop k) →VRs E g (h.drop k) →
  (∀f∈fs,∀s,e f s= (do if f.name≠ "_" then if !(←Op.equalIn (n+1) f.type (←part f.type ⟨us⟩ f.offset) (←part f.type ⟨h⟩ f.offset))then pure (.done (some false,()))else pure (.yield (none,()))else pure (.yield (none,())) :Sem (ForInStep (Option Bool×Unit)))) →
  (forIn fs (none,()) e:Sem (Option Bool×Unit)).run P w= .ok (if b then(none,())else(some false,())) w
 | [],k,i,g,b,c,_,_,_=>by
  cases i<;>cases g<;>simp only [lY]at c<;>cases c;simp
 | f :: fs,k,i,g,b,c,I,K,hb=>by
  cases i with
  |nil=>cases g<;>simp [lY]at c
  | cons x i=>
   cases g with
   |nil=>simp [lY]at c
   | cons y g=>
    simp only [lY]at c;split at c
    · rename_i d q;cases hc: (beq f.offset k&& (f.name != "_") &&plainKey d x&&plainKey d y)with
      |false=>rw [hc]at c;cases c
      | true=>
       rw [hc]at c;simp only [cond]at c;simp only [cF,bne_iff_ne]at hc;obtain⟨⟨⟨l,z⟩,j⟩,m⟩ :=hc;have l:=iF l;split at c
       · rename_i a A p o;cases c;obtain⟨cx,us',r,J,O⟩ :=I.cons_inv;obtain⟨cy,vs',t,B,M⟩ :=K.cons_inv;have C:us[k]?=some cx:=by have:=congrArg (·[0]?) r;simpa using this
         have N:h[k]?=some cy:=by have:=congrArg (·[0]?) t;simpa using this
         have H:us.drop (k+1) =us':=by rw [←List.drop_drop,r];rfl
         have F:h.drop (k+1) =vs':=by rw [←List.drop_drop,t];rfl
         have L: (part f.type ⟨us⟩ f.offset).run P w= .ok cx w:=by
          simp [part,rF q,aBF j,l,show(⟨us⟩ :Array Value)[k]?=some cx by rw [show(⟨us⟩ :Array Value) =us.toArray from rfl,getElem?_toArray];exact C]
         have D: (part f.type ⟨h⟩ f.offset).run P w= .ok cy w:=by
          simp [part,rF q,aBF j,l,show(⟨h⟩ :Array Value)[k]?=some cy by rw [show(⟨h⟩ :Array Value) =h.toArray from rfl,getElem?_toArray];exact N]
         have v:=aJS (w:=w) n q j m p J B;have G:=aBG n e fs (k+1) i g A o (by rw [H];exact O) (by rw [F];exact M) (fun f u=>hb f (eD _ u));rw [List.forIn_cons,hb f (dT ..)];simp only [ne_eq,z,not_false_eq_true,if_true,Sem.run_bind,L,D,v,Result.andThen_ok];cases a with
         |true=>simp only [Bool.not_true,tZ,if_false,Sem.run_pure,Result.andThen_ok,mY];exact G
         |false=>simp
       ·cases c
    ·cases c
theorem aFI (n:Nat){t:TypeId}{fs:Array Field}(d:P.underlying t=some (.struct fs))(a:P.stoodInHeld t=false){xs ys:List AV}{us c:List Value}{b:Bool}(h:lY P fs.toList 0 xs ys=some b)(g:VRs E xs us)(e:VRs E ys c) :
  (Op.equalIn (n+2) t (.agg ⟨us⟩) (.agg ⟨c⟩)).run P w= .ok b w:=by
 have:=aBG (w:=w) n (fun f s=> (do if f.name≠ "_" then if !(←Op.equalIn (n+1) f.type (←part f.type ⟨us⟩ f.offset) (←part f.type ⟨c⟩ f.offset))then pure (.done (some false,()))else pure (.yield (none,()))else pure (.yield (none,())) :Sem (ForInStep (Option Bool×Unit)))) fs.toList 0 xs ys b h (by simpa using g) (by simpa using e) (fun f _ s=>rfl);rw [Op.equalIn];simp only [Sem.run_bind,aB d,Result.andThen_ok,run_program,a,tZ,if_false];rw [←Array.forIn_toList];rw [this];cases b<;>rfl
theorem aDW {op:BinOp}{t:TypeId}(a:P.eqGuardType P.depth t=false)(X Y:Operand)(xs ys:Array Value) : (eqGuard op t X Y (.agg xs) (.agg ys)).run P w= .ok () w:=by
 cases op<;>simp [eqGuard,a]
set_option maxHeartbeats 4000000 in
theorem aPq (r:Rel E h w.heap){o:Oper}(m:Reads E tm ρ (· ∈o.op.operands)){out:AOut}(g:vop P h tm o=some out) :
  Out P E h w ((execOp ρ o).run P w) out∧ (dG o.op= .pure∨dG o.op= .read→aTR P E h w ((execOp ρ o).run P w) out) :=by
 unfold vop at g;unfold execOp;split at g
 all_goals (rename_i hop;try (simp only [hop];rw [hop]at m))
 · -- load
   rename_i t a;obtain⟨p,hp,g⟩ :=dQ g;have l:=m _ (by simp [Op.operands]) _ hp;split at g
   · rename_i cs;obtain⟨v,K,rfl⟩ :=eE g;simp only [VR]at l;obtain⟨Y,F,k,O,C,D,B,k3⟩ :=l;obtain⟨el,f,k4⟩ :=r.imm k C B;obtain⟨cv,m1,m2⟩ :=aDV K F.of_p k4 k3;exact aV r (by simp [Instr.loadAt,D,Instr.sureAddr,m1]) m2
   · rename_i b e i k;split at g
     · rename_i e' xs hb;cases hc:beq e' e with
       |false=>rw [hc]at g;cases g
       | true=>
        rw [hc]at g;simp only [cond]at g;have:=iF hc;subst this;split at g
        · rename_i x hxi;obtain⟨v,K,rfl⟩ :=eE g;simp only [VR]at l;obtain⟨L,hE,D⟩ :=l;obtain⟨C,el,Q,o1,o2,o3,o4,o5⟩ :=r.objL hb hE;obtain⟨u,q1,q2,q3,q4⟩ :=aFH o3 o4 o5 hxi
          obtain⟨cv,m1,m2⟩ :=aDV (w:=w) (o:=L.sh+ (i*e'+k)) K (q2.cells.drop k) o1 (fun j X=>by
           rw [length_drop,Array.length_toList,q3.1]at X;rw [getElem?_drop,sU,←q4 _ (by omega)];congr 1;omega)
          exact aV r (by simp [Instr.loadAt,D,Instr.sureAddr,m1]) m2
        ·cases g
     ·cases g
   ·cases g
 · -- store
   rename_i t a x;obtain⟨p,v,hp,hxv,g⟩ :=hR g;have l:=m _ (by simp [Op.operands]) _ hp;have K:=m _ (by simp [Op.operands]) _ hxv;split at g
   · rename_i b e i k;split at g
     · rename_i e' xs n hb hn;cases hc: (beq e' e&&beq v.cells.length n&&ble (k+n) e&&dF v.cells)with
       |false=>rw [hc]at g;cases g
       | true=>
        rw [hc]at g;simp only [cond]at g;simp only [cF]at hc;obtain⟨⟨⟨hc1,hc2⟩,hc3⟩,hc4⟩ :=hc;have:=iF hc1;subst this;have hn2:=iF hc2;split at g
        · rename_i y G;split at g
          · rename_i y' hy';cases g;simp only [VR]at l;obtain⟨L,hE,D⟩ :=l;obtain⟨w',m1,m2,m3⟩ :=aJR (P:=P) r hb hE G hy' K.cells (K.cells.ones hc4);have hcl: (ρ x).cells.size=n:=by rw [←hn2,←K.cells.length];simp
            refine nq (by simp [dG]) ?_;exact xI (by simp [Instr.storeAt,D,Instr.sureAddr,storeVar,cD hn,hcl,m1]) m2 m3
          ·cases g
        ·cases g
     ·cases g
   ·cases g
 · -- fieldAddr
   rename_i t x f;obtain⟨a,H,g⟩ :=dQ g;have l:=m _ (by simp [Op.operands]) _ H;split at g
   · rename_i cs;split at g
     · rename_i O ho;cases hc:blt O cs.length with
       |false=>rw [hc]at g;cases g
       | true=>
        rw [hc]at g;simp only [cond]at g;cases g;simp only [VR]at l;obtain⟨Y,F,k,W,C,D,B,k3⟩ :=l;refine aV r (cv:=.pointer (some ⟨k,W+O,none⟩)) (by rw [D];exact uH ho _ _) ?_;simp only [VR];refine⟨Y.drop O,F.drop O,k,W+O,C,rfl,B,fun j X=>?_⟩;rw [length_drop]at X;rw [getElem?_drop,←k3 _ (by omega)];congr 1;omega
     ·cases g
   · rename_i b e i k;split at g
     · rename_i O ho;cases g;simp only [VR]at l;obtain⟨L,hE,D⟩ :=l;exact aV r (cv:=.pointer (some ⟨L.blk,L.sh+ (i*e+k) +O,none⟩)) (by rw [D];exact uH ho _ _) (by simp only [VR];exact⟨L,hE,by congr 3;omega⟩)
     ·cases g
   ·cases g
 · -- indexAddr
   rename_i t x ix;obtain⟨a,b,H,hb,g⟩ :=hR g;have l:=m _ (by simp [Op.operands]) _ H;have hi:=m _ (by simp [Op.operands]) _ hb;split at g
   · rename_i e xs ex;cases hc:aAu P t e with
     |false=>rw [hc]at g;cases g
     | true =>
      rw [hc]at g;simp only [cond]at g;obtain⟨el,N,T⟩ :=zL hc;split at g
      · rename_i k hk;split at g
        · rename_i y G;cases g;obtain⟨kk,V,U⟩ :=lO hk hi;simp only [VR]at l;obtain⟨Q,F,B⟩ :=l;have hvl:=F.length;rcases B.2 with⟨rfl,_⟩ | ⟨kb,W,cap,C,D,g1,g2,g3,g4⟩
          ·simp at hvl;omega
          · obtain⟨u,q1,q2⟩ :=F.get _ _ G;have q3:=B.1 u (iO q1);refine aV r (cv:=.pointer (some ⟨kb,W+k*e,none⟩)) ?_ ?_
            ·simp [Instr.indexAt,V,asIntOf,D,aB N,hvl,Nat.not_le.2 U,cD T,gC]
            · simp only [VR];refine⟨u.cells.toList,q2.cells,kb,W+k*e,C,rfl,g1,fun j X=>?_⟩;rw [Array.length_toList,q3.1]at X;have h6:k*e+e≤Q.length*e:=by rw [←succ_mul];exact mul_le_mul_right _ (by omega)
              rw [sU,←flat_get B.1 q1 X,←g4 _ (by omega)];congr 1;omega
        ·cases g
      ·cases g
   · rename_i b' e Z len ex;cases hc:aAu P t e with
     |false=>rw [hc]at g;cases g
     | true=>
      rw [hc]at g;simp only [cond]at g;obtain⟨el,N,T⟩ :=zL hc;split at g
      · rename_i k hk;cases g;obtain⟨kk,V,U⟩ :=lO hk hi;simp only [VR]at l;rcases l with⟨rfl,_⟩ | ⟨L,W,cap,hE,D,g2,g3,g4⟩
        ·omega
        · obtain⟨rfl,_⟩ :=g4 (by omega);refine aV r (cv:=.pointer (some ⟨L.blk,L.sh+Z*e+k*e,none⟩)) ?_ (by simp only [VR];exact⟨L,hE,by rw [add_mul];congr 3;omega⟩);simp [Instr.indexAt,V,asIntOf,D,aB N,Nat.not_le.2 U,cD T,gC]
      ·cases g
   ·cases g
 · -- slice
   rename_i t x lo hi mx;obtain⟨a,H,g⟩ :=dQ g;split at g
   · rename_i l1 l2 l3 S e2 e3;split at g
     · rename_i b1 b2 b3 d1 d2 d3;obtain⟨v,K,rfl⟩ :=eE g;obtain⟨cv,F,B⟩ :=aJQ (w:=w) K (m _ (by simp [Op.operands]) _ H) (sX d1 (lP m (fun y G=>by subst G;simp [Op.operands]) S)) (sX d2 (lP m (fun y G=>by subst G;simp [Op.operands]) e2)) (sX d3 (lP m (fun y G=>by subst G;simp [Op.operands]) e3));exact aV r F B
     ·cases g
   ·cases g
 · -- '==' on structs
   rename_i op t x y yt;obtain⟨a,b,H,hb,g⟩ :=hR g;have l:=m _ (by simp [Op.operands]) _ H;have G:=m _ (by simp [Op.operands]) _ hb;split at g
   · rename_i xs ys;simp only [VR]at l G;obtain⟨Y,hL1,q1⟩ :=l;obtain⟨Q,hL2,q2⟩ :=G;split at g
     · rename_i fs N;cases hc: (!(P.eqGuardType P.depth t) && !(P.stoodInHeld t))with
       |false=>rw [hc]at g;cases g
       | true=>
        rw [hc]at g;simp only [cond]at g;simp only [cF,not_eq_true']at hc;cases R:lY P fs.toList 0 xs ys with
        |none=>rw [R]at g;cases op<;>cases g
        | some b'=>
         rw [R]at g;have:=aFI (w:=w) 9998 N hc.2 R q1 q2;have: (Op.equal t (.agg ⟨Y⟩) (.agg ⟨Q⟩)).run P w= .ok b' w:=this;cases op<;>simp only at g<;>cases g
         · refine aV r (cv:=.bool b') ?_ (by simp [VR]);simp only [hL1,hL2,Sem.run_bind,aDW hc.1,Result.andThen_ok];simp [binOp,this]
         · refine aV r (cv:=.bool (!b')) ?_ (by simp [VR]);simp only [hL1,hL2,Sem.run_bind,aDW hc.1,Result.andThen_ok];simp [binOp,this]
     ·cases g
   ·cases g
 · -- len, append
   rename_i c;have hm:c.args.map ρ= ⟨c.args.toList.map ρ⟩ :=by apply Array.ext';simp
   have I:∀ {aS},jM tm c.args.toList=some aS→VRs E aS (c.args.toList.map ρ) :=fun hh=>m.list (fun x l=>by simp only [Op.operands,Call.operands,Array.mem_append];exact .inr (by simpa using l)) hh;split at g
   · rename_i x z q;have H:=I q;obtain⟨cx,Y,S,l,hn⟩ :=H.cons_inv;rw [hn.nil_inv]at S;have M:c.args.map ρ= #[cx] :=by rw [hm,S]
     split at g
     · rename_i t e xs ex ht;split at g
       · rename_i el N;cases g;simp only [VR]at l;obtain⟨Q,F,B⟩ :=l;obtain⟨a,cap,rfl,_⟩ :=uI (P:=P) r B;rw [←F.length];have A: (do let d ←resolve ρ c o.type;invoke d.target d.args:Sem Next).run P w= .ok (.value (.int .i64 Q.length)) w:=by
          simp [resolve,z,M,invoke,builtin,Builtin.len_,ht,aB N,goInt]
         have J:VR E (.int .i64 Q.length) (.int .i64 Q.length) :=by simp only [VR]
         exact⟨⟨E,w,_,.inl A,J,r,Ext.refl _ _ _⟩,fun _=> ⟨rfl,_,A,J⟩⟩
       ·cases g
     · rename_i t b e Z len ex ht;split at g
       · rename_i el N;cases g;simp only [VR]at l;have:∃a cap,cx= .slice a len cap:=by
          rcases l with⟨rfl,a,rfl⟩ | ⟨L,a,cap,_,rfl,_⟩
          ·exact⟨a,0,rfl⟩
          ·exact⟨_,cap,rfl⟩
         obtain⟨a,cap,rfl⟩ :=this;have A: (do let d ←resolve ρ c o.type;invoke d.target d.args:Sem Next).run P w= .ok (.value (.int .i64 len)) w:=by
          simp [resolve,z,M,invoke,builtin,Builtin.len_,ht,aB N,goInt]
         have J:VR E (.int .i64 len) (.int .i64 len) :=by simp only [VR]
         exact⟨⟨E,w,_,.inl A,J,r,Ext.refl _ _ _⟩,fun _=> ⟨rfl,_,A,J⟩⟩
       ·cases g
     ·cases g
   · rename_i s x z q;have H:=I q;obtain⟨cs,Y,S,hs,hn⟩ :=H.cons_inv;obtain⟨cx,us',e2,l,hn'⟩ :=hn.cons_inv;rw [hn'.nil_inv]at e2;rw [e2]at S;have M:c.args.map ρ= #[cs,cx] :=by rw [hm,S]
     obtain⟨v,h',K,rfl⟩ :=aIu g;obtain⟨cv,w',E',F,B,k3,k4⟩ :=vappend_sound (ty:=o.type) r K hs l;refine nq (by simp [dG,z]) ?_;have:=nX F B k3 k4;simpa [resolve,z,M,invoke,builtin]using this
   ·cases g
 ·cases g
theorem uJ (r:Rel E h w.heap){o:Oper}(a:Reads E tm ρ (· ∈o.op.operands)){out:AOut}(b:mS P h tm o=some out) :
  Out P E h w ((execOp ρ o).run P w) out∧ (dG o.op= .pure∨dG o.op= .read→aTR P E h w ((execOp ρ o).run P w) out) :=by
 unfold mS at b;split at b
 ·rename_i c hr;cases b;exact aMs r a hr
 ·exact aPq r a b
theorem nF (r:Rel E h w.heap){o:Oper}(a:Reads E tm ρ (· ∈o.op.operands)){out:AOut}(b:mS P h tm o=some out) :Out P E h w ((execOp ρ o).run P w) out:= (uJ r a b).1
end
section
variable {P :Program} {E:Emb} {h h':Hp} {w w':World}
section
variable {fn :FuncId} {tmps:Array Value} {ds:List Deferred} {kd:CallKind} {ro:Option Nat} {ops:Array Oper} {i:Nat} {rest:List Nat} {k:List Item} {cs:List Frame} {o:Oper}
abbrev rf (fn:FuncId)(tmps:Array Value)(todo:List Item)(ds:List Deferred)(kd:CallKind)(ro:Option Nat) :Frame:={fn,tmps,todo,defers:=ds,mode:=.run,kind:=kd,roundOf:=ro}
theorem lQ (ho:ops[i]?=some o)(hw:Region.wanted o (yielded ops tmps) =true)(hd:ro=none∨∀c,o.op≠ .defer c) :
  stepG P true {frame:=rf fn tmps (.inRegion ops (i::rest) ::k) ds kd ro,callers:=cs,status:=.running,dying:=none} w =
   stepG.apply P true (rf fn tmps (.inRegion ops (i::rest) ::k) ds kd ro) cs none (execOp (rf fn tmps (.inRegion ops (i::rest) ::k) ds kd ro).eval o) w:=by
 simp only [stepG,stepG.exec,stepG.oper,Frame.oper?,ho,map_some,getD_some,hw,if_true];rcases hd with rfl|hd
 ·rfl
 · cases ro with
   |none=>rfl
   | some l=>
    cases hop:o.op<;>first|rfl|exact absurd hop (hd _)
theorem aAX (ho:ops[i]?=some o)(hw:Region.wanted o (yielded ops tmps) =true)(hd:ro=none∨∀c,o.op≠ .defer c){v:Value}
  (hr: (execOp (rf fn tmps (.inRegion ops (i::rest) ::k) ds kd ro).eval o).run P w= .ok (.value v) w') :
  step P (lone (rf fn tmps (.inRegion ops (i::rest) ::k) ds kd ro) cs w) = .next (lone ((rf fn tmps (.inRegion ops (i::rest) ::k) ds kd ro).finish v) cs w') :=
 step_lone_go (by rw [lQ ho hw hd];simp [stepG.apply,hr])
theorem aFJ (ho:ops[i]?=some o)(hw:Region.wanted o (yielded ops tmps) =true)(hd:ro=none∨∀c,o.op≠ .defer c)
  (hr: (execOp (rf fn tmps (.inRegion ops (i::rest) ::k) ds kd ro).eval o).run P w= .ok .skip w') :
  step P (lone (rf fn tmps (.inRegion ops (i::rest) ::k) ds kd ro) cs w) = .next (lone ((rf fn tmps (.inRegion ops (i::rest) ::k) ds kd ro).finish Go.undef) cs w') :=
 step_lone_go (by rw [lQ ho hw hd];simp [stepG.apply,hr])
theorem aFK (ho:ops[i]?=some o)(hw:Region.wanted o (yielded ops tmps) =true)(hd:ro=none∨∀c,o.op≠ .defer c){f:FuncId}{args:Array Value}
  (hr: (execOp (rf fn tmps (.inRegion ops (i::rest) ::k) ds kd ro).eval o).run P w= .ok (.enter f args) w') :
  step P (lone (rf fn tmps (.inRegion ops (i::rest) ::k) ds kd ro) cs w) = .next (lone (Frame.enter P f args .normal) (rf fn tmps (.inRegion ops (i::rest) ::k) ds kd ro::cs) w') :=
 step_lone_go (by rw [lQ ho hw hd];simp [stepG.apply,hr])
theorem aFL (ho:ops[i]?=some o)(hw:Region.wanted o (yielded ops tmps) =true)(hd:ro=none∨∀c,o.op≠ .defer c){l:Nat}{f:FuncId}{t:Array Value}{aS bd:Code}
  (hr: (execOp (rf fn tmps (.inRegion ops (i::rest) ::k) ds kd ro).eval o).run P w= .ok (.round l f t aS bd) w') :
  step P (lone (rf fn tmps (.inRegion ops (i::rest) ::k) ds kd ro) cs w) = .next (lone (Frame.round l f t aS bd .normal) (rf fn tmps (.inRegion ops (i::rest) ::k) ds kd ro::cs) w') :=
 step_lone_go (by rw [lQ ho hw hd];simp [stepG.apply,hr])
theorem aMt (ho:ops[i]?=some o)(hw:Region.wanted o (yielded ops tmps) =true){d:Deferred}
  (hr: (execOp (rf fn tmps (.inRegion ops (i::rest) ::k) ds kd none).eval o).run P w= .ok (.defer d) w') :
  step P (lone (rf fn tmps (.inRegion ops (i::rest) ::k) ds kd none) cs w) = .next (lone ((rf fn tmps (.inRegion ops (i::rest) ::k) (d::ds) kd none).finish Go.undef) cs w') :=
 step_lone_go (by rw [lQ ho hw (.inl rfl)];simp [stepG.apply,hr])
theorem aMu (ho:ops[i]?=some o)(hw:Region.wanted o (yielded ops tmps) =true)(hd:ro=none∨∀c,o.op≠ .defer c){v:Value}
  (hr: (execOp (rf fn tmps (.inRegion ops (i::rest) ::k) ds kd ro).eval o).run P w= .halt (.panic v) w') :
  step P (lone (rf fn tmps (.inRegion ops (i::rest) ::k) ds kd ro) cs w) = .next (lone ((rf fn tmps (.inRegion ops (i::rest) ::k) ds kd ro).raise [{v,recovered:=false}]) cs w') :=
 step_lone_go (by rw [lQ ho hw hd];simp [stepG.apply,hr])
theorem aH5 (ho:ops[i]?=some o)(hw:Region.wanted o (yielded ops tmps) =true){c:Frame}
  (hr: (execOp (rf fn tmps (.inRegion ops (i::rest) ::k) ds .deferred none).eval o).run P w= .ok .recover w') :
  step P (lone (rf fn tmps (.inRegion ops (i::rest) ::k) ds .deferred none) (c::cs) w) =
   (match c.mode with
    | .panicking ({v,recovered:=false,goexit:=false}::older) =>.next (lone ((rf fn tmps (.inRegion ops (i::rest) ::k) ds .deferred none).finish v) ({c with mode:=.panicking ({v,recovered:=true}::older)}::cs) w')
    |_=>.next (lone ((rf fn tmps (.inRegion ops (i::rest) ::k) ds .deferred none).finish .nilIface) (c::cs) w')) :=by
 split
 · rename_i v older hc;exact step_lone_go (by rw [lQ ho hw (.inl rfl)];simp [stepG.apply,hr,tryRecover,hc])
 · rename_i hno;refine step_lone_go ?_;rw [lQ ho hw (.inl rfl)];simp only [stepG.apply,Sem.runT_eq,if_true,hr];have:tryRecover (rf fn tmps (.inRegion ops (i::rest) ::k) ds .deferred none) (c::cs) =none:=by
    simp only [tryRecover]
   simp [this]
theorem aAB (ho:ops[i]?=some o)(hw:Region.wanted o (yielded ops tmps) =false) :
  step P (lone (rf fn tmps (.inRegion ops (i::rest) ::k) ds kd ro) cs w) = .next (lone ((rf fn tmps (.inRegion ops (i::rest) ::k) ds kd ro).finish Go.undef) cs w) :=
 step_lone_go (by
  have h1: ((ops[i]?).map (Region.wanted · (yielded ops tmps))).getD false=false:=by rw [ho];simpa using hw
  simp [stepG,stepG.exec,h1])
theorem aH6 (v:Value) : (rf fn tmps (.inRegion ops (i::rest) ::k) ds kd ro).finish v =
  rf fn (match(ops[i]?).bind (·.dst)with|some d=>tmps.setIfInBounds d v|none=>tmps) (.inRegion ops rest::k) ds kd ro:=rfl
theorem aAC :step P (lone (rf fn tmps (.inRegion ops [] ::k) ds kd ro) cs w) = .next (lone (rf fn tmps k ds kd ro) cs w) :=step_lone_go (by simp [stepG,stepG.exec])
theorem bAH :step P (lone (rf fn tmps (.code .skip::k) ds kd ro) cs w) = .next (lone (rf fn tmps k ds kd ro) cs w) :=step_lone_go (by simp [stepG,stepG.exec])
theorem aWe (l:Nat) :step P (lone (rf fn tmps (.code (.label l) ::k) ds kd ro) cs w) = .next (lone (rf fn tmps k ds kd ro) cs w) :=step_lone_go (by simp [stepG,stepG.exec])
theorem aPr (l:Nat) :step P (lone (rf fn tmps (.inBlock l::k) ds kd ro) cs w) = .next (lone (rf fn tmps k ds kd ro) cs w) :=step_lone_go (by simp [stepG,stepG.exec])
theorem aPs (c:Code) :step P (lone (rf fn tmps (.inScope c::k) ds kd ro) cs w) = .next (lone (rf fn tmps k ds kd ro) cs w) :=step_lone_go (by simp [stepG,stepG.exec])
theorem bFY (a b:Code) :step P (lone (rf fn tmps (.code (.seq a b) ::k) ds kd ro) cs w) = .next (lone (rf fn tmps (.code a:: .code b::k) ds kd ro) cs w) :=step_lone_go (by simp [stepG,stepG.exec])
theorem aWf (id:Nat)(c:Code) :step P (lone (rf fn tmps (.code (.block id c) ::k) ds kd ro) cs w) = .next (lone (rf fn tmps (.code c:: .inBlock id::k) ds kd ro) cs w) :=step_lone_go (by simp [stepG,stepG.exec])
theorem bAI (c:Code) :step P (lone (rf fn tmps (.code (.loop c) ::k) ds kd ro) cs w) = .next (lone (rf fn tmps (.code c:: .inLoop c::k) ds kd ro) cs w) :=step_lone_go (by simp [stepG,stepG.exec])
theorem aTV (c:Code) :step P (lone (rf fn tmps (.inLoop c::k) ds kd ro) cs w) = .next (lone (rf fn tmps (.code c:: .inLoop c::k) ds kd ro) cs w) :=step_lone_go (by simp [stepG,stepG.exec])
theorem aWg (c:Code) :step P (lone (rf fn tmps (.code (.scope c) ::k) ds kd ro) cs w) = .next (lone (rf fn tmps (.code c:: .inScope c::k) ds kd ro) cs w) :=step_lone_go (by simp [stepG,stepG.exec])
theorem aSj (c:Operand)(x y:Code)(t:Bool)(h: (rf fn tmps (.code (.cond c x y) ::k) ds kd ro).eval c= .bool t) :step P (lone (rf fn tmps (.code (.cond c x y) ::k) ds kd ro) cs w) = .next (lone (rf fn tmps (.code (if t then x else y) ::k) ds kd ro) cs w) :=
 step_lone_go (by simp [stepG,stepG.exec,h])
theorem aTW (id:Nat) :step P (lone (rf fn tmps (.code (.region id ops false) ::k) ds kd ro) cs w) = .next (lone (rf fn tmps (.inRegion ops (List.range ops.size) ::k) ds kd ro) cs w) :=step_lone_go (by simp [stepG,stepG.exec])
theorem bAJ (id:Nat) :step P (lone (rf fn tmps (.code (.region id ops true) ::k) ds kd ro) cs w) =
  .next (lone (rf fn tmps (.inRegion ops (Region.schedule (P.follows .mixedOrders) ops (w.tape w.drawn (.order fn id))) ::k) ds kd ro) cs {w with drawn:=w.drawn+1}) :=
 step_lone_go (by simp [stepG,stepG.exec,choose,Sem.run,Question.forced,Question.cut])
theorem bAK (id:Nat){k':List Item}(h:exitTo id k=some k') :step P (lone (rf fn tmps (.code (.exit id) ::k) ds kd ro) cs w) = .next (lone (rf fn tmps k' ds kd ro) cs w) :=step_lone_go (by simp [stepG,stepG.exec,h])
theorem bAL (l:Nat){k':List Item}(h:gotoIn l k=some k') :step P (lone (rf fn tmps (.code (.goto l) ::k) ds kd ro) cs w) = .next (lone (rf fn tmps k' ds kd ro) cs w) :=step_lone_go (by simp [stepG,stepG.exec,h])
theorem bFZ :step P (lone (rf fn tmps [] ds kd none) cs w) = .next (lone {rf fn tmps [] ds kd none with mode:=.returning} cs w) :=step_lone_go (by simp [stepG,stepG.exec])
theorem bF3 :step P (lone (rf fn tmps (.code .ret::k) ds kd none) cs w) = .next (lone {rf fn tmps (.code .ret::k) ds kd none with mode:=.returning} cs w) :=step_lone_go (by simp [stepG,stepG.exec])
theorem aH7 {l:Nat}(h: (Instr.beginRound l).run P w= .ok () w') :step P (lone (rf fn tmps (.beginRound::k) ds kd (some l)) cs w) = .next (lone (rf fn tmps k ds kd (some l)) cs w') :=
 step_lone_go (by simp [stepG,stepG.exec,stepG.apply,h,Frame.finish])
theorem aWh {l:Nat}{jump:Option Code}(h: (Instr.endLoop l).run P w= .ok jump w') :step P (lone (rf fn tmps (.endRangeFunc l::k) ds kd ro) cs w) = .next (lone (rf fn tmps ((jump.map Item.code).toList++k) ds kd ro) cs w') :=
 step_lone_go (by simp [stepG,stepG.exec,h])
def handed (fr c:Frame)(v:Value) :Frame:=
 match fr.kind with
 | .normal=>c.finish v
 |_=>{c with mode:=settle c.mode}
theorem iU {fr c:Frame}{v:Value}(hk:fr.kind= .normal∨fr.kind= .deferred) :
  (doReturn P true fr (c::cs) none v w).bare= .go {frame:=handed fr c v,callers:=cs,status:=.running,dying:=none} w:=by
 rcases hk with hk|hk
 ·simp [doReturn,hk,handed]
 · simp only [doReturn,hk,handed,settle];split<;> (try split) <;>simp_all
theorem xT {jump:Option Code}{l:Nat}{todo:List Item}{c:Frame}{v:Value}(hk:kd= .normal∨kd= .deferred)
  (ht: (todo= [] ∧jump=none) ∨ (∃k,todo= .code .ret::k∧jump=some .ret) ∨ (∃id k,todo= .code (.exit id) ::k∧jump=some (.exit id) ∧exitTo id k=none) ∨ (∃t k,todo= .code (.goto t) ::k∧jump=some (.goto t) ∧gotoIn t k=none))
  (h: (Instr.endRound l jump).run P w= .ok v w') :
  step P (lone (rf fn tmps todo ds kd (some l)) (c::cs) w) = .next (lone (handed (rf fn tmps todo ds kd (some l)) c v) cs w') :=by
 refine step_lone_go ?_;rcases ht with⟨rfl,rfl⟩ | ⟨k,rfl,rfl⟩ | ⟨id,k,rfl,rfl,hx⟩ | ⟨t,k,rfl,rfl,hx⟩
 ·simp only [stepG,stepG.exec,Sem.runT_eq,h,GStep.bare_after];exact iU hk
 ·simp only [stepG,stepG.exec,Sem.runT_eq,h,GStep.bare_after];exact iU hk
 ·simp only [stepG,stepG.exec,hx,elim,Sem.runT_eq,h,GStep.bare_after];exact iU hk
 ·simp only [stepG,stepG.exec,hx,elim,Sem.runT_eq,h,GStep.bare_after];exact iU hk
theorem aMv {fr c:Frame}{v:Value}{fd:Func}(hm:fr.mode= .returning)(hd:fr.defers= [])(hf:P.funcs[fr.fn]?=some fd)(hr: (results fd fr.tmps).run P w= .ok v w)(hk:fr.kind= .normal∨fr.kind= .deferred) :
  step P (lone fr (c::cs) w) = .next (lone (handed fr c v) cs w) :=
 step_lone_go (by
  simp only [stepG,unwind,hm,hd,hf,Sem.runT_eq,hr,GStep.bare_after];exact iU hk)
theorem xU {fr c:Frame}{chain:List PanicEntry}{fd:Func}(hm:fr.mode= .panicking chain)(hd:fr.defers= [])(hf:P.funcs[fr.fn]?=some fd) :
  step P (lone fr (c::cs) w) = .next (lone (c.raise chain) cs w) :=
 step_lone_go (by simp [stepG,unwind,hm,hd,Frame.catches,hf])
theorem aDX {fr:Frame}{f:FuncId}{cap args:Array Value}{ds:List Deferred}(hm:fr.mode≠ .run)(hd:fr.defers= {target:=.fn (.func f) cap,args}::ds)(hc:fG P f=true) :
  step P (lone fr cs w) = .next (lone (Frame.enter P f (args++cap) .deferred) ({fr with defers:=ds}::cs) w) :=
 step_defer (P:=P) hm hd rfl (by simp [invoke,pH hc])
theorem aBH {fr:Frame}{b:Nat}{ds cl:List Deferred}(hm:fr.mode≠ .run)(hd:fr.defers= {target:=.collected b,args:= #[]}::ds)(hr: (Instr.takeDeferred b).run P w= .ok cl w') :
  step P (lone fr cs w) = .next (lone {fr with defers:=cl++ds} cs w') :=
 step_lone_go (by
  cases h:fr.mode with
  |run=>exact absurd h hm
  |returning=>simp [stepG,unwind,h,hd,hr]
  |panicking c=>simp [stepG,unwind,h,hd,hr])
theorem aJT {g:Operand}{ps:Array Tmp}{assign body:Code}{l:Nat}{mark:List Deferred}{w₁ w₁' w₂:World}{d:Deferred}{nx:Next}{G:Frame}
  (he: (Instr.enterLoop fn tmps ps assign body ro).run P w= .ok (l,mark) w₁)
  (hres: (resolve (rf fn tmps (.inRangeFunc l::k) (mark++ds) kd ro).eval {callee:=.value g,args:= #[.const (.func (.yield l) #[] #[])],argTypes:= #[]} 0).run P w₁= .ok d w₁')
  (hinv: (invoke d.target d.args).run P w₁'= .ok nx w₂)
  (hG: (∃f args,nx= .enter f args∧G=Frame.enter P f args .normal) ∨ (∃l f t aS bd,nx= .round l f t aS bd∧G=Frame.round l f t aS bd .normal)) :
  step P (lone (rf fn tmps (.code (.rangeFunc g ps assign body) ::k) ds kd ro) cs w) = .next (lone G (rf fn tmps (.inRangeFunc l::k) (mark++ds) kd ro::cs) w₂) :=by
 refine step_lone_go ?_;rcases hG with⟨f,args,rfl,rfl⟩ | ⟨l',f,t,aS,bd,rfl,rfl⟩
 ·simp [stepG,stepG.exec,he,stepG.apply,hres,hinv]
 ·simp [stepG,stepG.exec,he,stepG.apply,hres,hinv]
end
theorem TR.put {tm:T AV}{nt:Nat}{tmps:Array Value}(r:TR E tm nt tmps){d:Nat}(hd:d<nt){a:AV}{v:Value}(hv:VR E a v) :TR E (tm.put d a) nt (tmps.setIfInBounds d v) :=by
 refine⟨by simp [r.1],fun t b hb=>?_⟩;rw [T.at_put]at hb;by_cases ht:t=d
 · subst ht;rw [if_pos rfl]at hb;cases hb;exact⟨v,by simp [r.1,hd],hv⟩
 · rw [if_neg ht]at hb;rw [tY (fun e=>ht e.symm)];exact r.2 t b hb
def aBI (dst:Option Nat)(v:Value)(tmps:Array Value) :Array Value:=match dst with|some d=>tmps.setIfInBounds d v|none=>tmps
theorem aFM {tm tm':T AV}{nt:Nat}{tmps:Array Value}(r:TR E tm nt tmps){dst:Option Nat}{a:AV}{v:Value}(h0:kJ tm nt dst a=some tm')(hv:VR E a v) :TR E tm' nt (aBI dst v tmps) :=by
 unfold kJ at h0;split at h0
 ·cases h0;exact r
 · rename_i d;rw [dK]at h0;by_cases hd:d<nt
   ·simp only [hd,decide_true,cond]at h0;cases h0;exact r.put hd hv
   ·simp only [hd,decide_false,cond]at h0;cases h0
theorem VR.not_bool {a:AV}{v:Value}(hv:VR E a v)(ha:∀b,a≠ .bool b)(ha2:∀u,a≠ .val u) :∀b,v≠ .bool b:=by
 intro b e;subst e;cases a<;>simp only [VR]at hv
 case bool b'=>exact ha b' rfl
 case val u=>exact ha2 u rfl
 case ilst=>obtain⟨vs,_,hv⟩ :=hv;rcases hv.2 with⟨_,_,_,hL,_⟩ | ⟨_,_,_,_,hL,_⟩ <;>cases hL
 case iptr=>obtain⟨us,_,_,_,_,hL,_⟩ :=hv;cases hL
 case gl=>rcases hv with⟨_,_,hL⟩ | ⟨_,_,_,_,hL,_⟩ <;>cases hL
 all_goals (first
  | (cases hv;done)
  | (obtain⟨_,_,hv⟩ :=hv;cases hv;done)
  | (obtain⟨_,_,_,_,hv,_⟩ :=hv;cases hv;done)
  | (obtain⟨_,_,hv,_⟩ :=hv;cases hv;done)
  | (obtain⟨_,hv,_⟩ :=hv;cases hv;done))
theorem xW {tm:T AV}{tmps:Array Value}{ops:Array Oper}{j:Nat}(r:∀o,ops[j]?=some o→∀t,o.dst=some t→∀a,tm.at t=some a→∃v,tmps[t]?=some v∧VR E a v){b:Option Bool}(h0:aJC tm ops.toList j=some b) :yielded ops tmps j=b:=by
 unfold aJC at h0;unfold yielded;rw [sU]at h0;split at h0
 ·rename_i ho;cases h0;simp [ho]
 · rename_i o ho;split at h0
   ·rename_i hd;cases h0;simp [ho,hd]
   · rename_i d hd;split at h0
     · rename_i b' hb;cases h0;obtain⟨v,h1,h2⟩ :=r _ ho _ hd _ hb;simp only [VR]at h2;simp [ho,hd,h1,h2]
     ·cases h0
     · rename_i a hb hb2 ha;cases h0;obtain⟨v,h1,h2⟩ :=r _ ho _ hd _ ha;have:=h2.not_bool (fun b e=>by subst e;exact hb b rfl) (fun b e=>by subst e;exact hb2 b rfl);simp only [ho,hd,bind_some,h1];cases v<;>first|rfl|exact absurd rfl (this _)
     ·cases h0
theorem xX {tm:T AV}{tmps:Array Value}{ops:Array Oper}{o:Oper}(r:∀g want,o.guard=some (g,want) →∀o',ops[g]?=some o'→∀t,o'.dst=some t→∀a,tm.at t=some a→∃v,tmps[t]?=some v∧VR E a v){b:Bool}(h0:cM tm ops.toList o=some b) :Region.wanted o (yielded ops tmps) =b:=by
 unfold cM at h0;unfold Region.wanted;split at h0
 ·rename_i hg;cases h0;rw [hg]
 · rename_i j want hg;rw [hg];simp only;split at h0
   ·cases h0
   · rename_i hb;cases h0;rw [xW (r j want hg) hb];rfl
   · rename_i b' hb;cases h0;rw [xW (r j want hg) hb];rfl
theorem aH8 {tm:T AV}{nt:Nat}{tmps:Array Value}(r:TR E tm nt tmps){ops:Array Oper}{o:Oper}{b:Bool}(h0:cM tm ops.toList o=some b) :Region.wanted o (yielded ops tmps) =b:=
 xX (fun _ _ _ _ _ t _ a ha=>r.2 t a ha) h0
theorem TR.reads {tm:T AV}{nt:Nat}{tmps:Array Value}(r:TR E tm nt tmps)(fn:FuncId)(todo:List Item)(ds:List Deferred)(kd:CallKind)(ro:Option Nat)(S:Operand→Prop) :Reads E tm (rf fn tmps todo ds kd ro).eval S:=by
 intro x _ a ha;cases x with
 | tmp t=>
  simp only [cE]at ha;obtain⟨v,h1,h2⟩ :=r.2 t a ha;simp only [Frame.eval,aAR,h1];exact h2
 |const v=>exact aFx ha E
 |global g=>cases ha
 |func f=>simp only [cE]at ha;cases ha;simp only [Frame.eval,VR];exact⟨[],[],rfl,VRs.nil E,VRs.nil E⟩
def IR (E:Emb) :AItem→Item→Prop
 | .code c,i=>i= .code c
 | .inBlock id,i=>i= .inBlock id
 | .inLoop c,i=>i= .inLoop c
 | .inScope c,i=>i= .inScope c
 | .ops all k rest,i=>i= .inRegion all (List.range' k rest.length) ∧rest=all.toList.drop k
 | .inRF l,i=>∃L,E l=some L∧i= .inRangeFunc L.blk
 | .endRF l,i=>∃L,E l=some L∧i= .endRangeFunc L.blk
 | .beginRound,i=>i= .beginRound
 | .junk,i=>∃all l,i= .inRegion all l
def IRs (E:Emb) :List AItem→List Item→Prop
 | [],is=>is= []
 |a::aS,is=>∃i is',is=i::is'∧IR E a i∧IRs E aS is'
theorem IR.mono {E E':Emb}(h:E.le E'){a:AItem}{i:Item}(r:IR E a i) :IR E' a i:=by
 cases a<;>simp only [IR]at r ⊢ <;>first|exact r| (obtain⟨L,h1,h2⟩ :=r;exact⟨L,h.1 _ _ h1,h2⟩)
theorem IRs.mono {E E':Emb}(h:E.le E') :∀ {aS:List AItem} {is:List Item},IRs E aS is→IRs E' aS is
 | [],_,r=>by simpa [IRs]using r
 |_::_,_,r=>by simp only [IRs]at r ⊢;obtain⟨i,is',h1,h2,h3⟩ :=r;exact⟨i,is',h1,h2.mono h,h3.mono h⟩
theorem IRs.cons {a:AItem}{i:Item}{aS:List AItem}{is:List Item}(h1:IR E a i)(h2:IRs E aS is) :IRs E (a::aS) (i::is) :=by simp only [IRs];exact⟨i,is,rfl,h1,h2⟩
theorem IRs.cons_inv {a:AItem}{aS:List AItem}{is:List Item}(h:IRs E (a::aS) is) :∃i is',is=i::is'∧IR E a i∧IRs E aS is':=by simpa only [IRs]using h
theorem IRs.nil_inv {is:List Item}(h:IRs E [] is) :is= [] :=by simpa only [IRs]using h
def DRs (E:Emb) :List ADef→List Deferred→Prop
 | [],ds=>ds= []
 |a::aS,ds=>∃d ds',ds=d::ds'∧DR E a d∧DRs E aS ds'
theorem DRs.mono {E E':Emb}(h:E.le E') :∀ {aS:List ADef} {is:List Deferred},DRs E aS is→DRs E' aS is
 | [],_,r=>by simpa [DRs]using r
 |_::_,_,r=>by simp only [DRs]at r ⊢;obtain⟨i,is',h1,h2,h3⟩ :=r;exact⟨i,is',h1,h2.mono h,h3.mono h⟩
theorem DRs.cons {a:ADef}{d:Deferred}{aS:List ADef}{ds:List Deferred}(h1:DR E a d)(h2:DRs E aS ds) :DRs E (a::aS) (d::ds) :=by simp only [DRs];exact⟨d,ds,rfl,h1,h2⟩
theorem DRs.cons_inv {a:ADef}{aS:List ADef}{ds:List Deferred}(h:DRs E (a::aS) ds) :∃d ds',ds=d::ds'∧DR E a d∧DRs E aS ds':=by simpa only [DRs]using h
theorem DRs.nil_inv {ds:List Deferred}(h:DRs E [] ds) :ds= [] :=by simpa only [DRs]using h
def CR (E:Emb) :List (AV×Bool) →List PanicEntry→Prop
 | [],ps=>ps= []
 |a::aS,ps=>∃v ps',ps= {v,recovered:=a.2}::ps'∧VR E a.1 v∧CR E aS ps'
theorem CR.mono {E E':Emb}(h:E.le E') :∀ {aS:List (AV×Bool)} {is:List PanicEntry},CR E aS is→CR E' aS is
 | [],_,r=>by simpa [CR]using r
 |_::_,_,r=>by simp only [CR]at r ⊢;obtain⟨i,is',h1,h2,h3⟩ :=r;exact⟨i,is',h1,h2.mono h,h3.mono h⟩
theorem CR.append :∀ {aS bs:List (AV×Bool)} {is js:List PanicEntry},CR E aS is→CR E bs js→CR E (aS++bs) (is++js)
 | [],_,_,_,h,k=>by simp only [CR]at h;subst h;exact k
 |_::_,_,_,_,h,k=>by simp only [CR]at h;obtain⟨v,ps,rfl,h1,h2⟩ :=h;simp only [sT,CR];exact⟨v,_,rfl,h1,h2.append k⟩
def MR (E:Emb) :AMode→FrameMode→Prop
 | .run,m=>m= .run
 | .ret,m=>m= .returning
 | .pan chain,m=>∃ps,m= .panicking ps∧CR E chain ps
theorem MR.mono {E E':Emb}(h:E.le E'){a:AMode}{m:FrameMode}(r:MR E a m) :MR E' a m:=by
 cases a<;>simp only [MR]at r ⊢ <;>first|exact r| (obtain⟨ps,h1,h2⟩ :=r;exact⟨ps,h1,h2.mono h⟩)
def RR (E:Emb) :Option Nat→Option Nat→Prop
 |none,o=>o=none
 |some l,o=>∃L,E l=some L∧o=some L.blk
theorem RR.mono {E E':Emb}(h:E.le E'){a b:Option Nat}(r:RR E a b) :RR E' a b:=by
 cases a<;>simp only [RR]at r ⊢ <;>first|exact r| (obtain⟨L,h1,h2⟩ :=r;exact⟨L,h.1 _ _ h1,h2⟩)
structure FR (E:Emb) (a:AFrame) (c:Frame) :Prop where
 fn:c.fn=a.fn
 tm:TR E a.tm a.nt c.tmps
 todo:IRs E a.todo c.todo
 defers:DRs E a.defers c.defers
 mode:MR E a.mode c.mode
 kind:c.kind=a.kind
 round:RR E a.roundOf c.roundOf
theorem FR.mono {E E':Emb}(h:E.le E'){a:AFrame}{c:Frame}(r:FR E a c) :FR E' a c:=
 ⟨r.fn,r.tm.mono h,r.todo.mono h,r.defers.mono h,r.mode.mono h,r.kind,r.round.mono h⟩
def FRs (E:Emb) :List AFrame→List Frame→Prop
 | [],cs=>cs= []
 |a::aS,cs=>∃c cs',cs=c::cs'∧FR E a c∧FRs E aS cs'
theorem FRs.mono {E E':Emb}(h:E.le E') :∀ {aS:List AFrame} {is:List Frame},FRs E aS is→FRs E' aS is
 | [],_,r=>by simpa [FRs]using r
 |_::_,_,r=>by simp only [FRs]at r ⊢;obtain⟨i,is',h1,h2,h3⟩ :=r;exact⟨i,is',h1,h2.mono h,h3.mono h⟩
theorem FRs.cons {a:AFrame}{c:Frame}{aS:List AFrame}{cs:List Frame}(h1:FR E a c)(h2:FRs E aS cs) :FRs E (a::aS) (c::cs) :=by simp only [FRs];exact⟨c,cs,rfl,h1,h2⟩
theorem FRs.cons_inv {a:AFrame}{aS:List AFrame}{cs:List Frame}(h:FRs E (a::aS) cs) :∃c cs',cs=c::cs'∧FR E a c∧FRs E aS cs':=by simpa only [FRs]using h
theorem FRs.nil_inv {cs:List Frame}(h:FRs E [] cs) :cs= [] :=by simpa only [FRs]using h
theorem aPt (args:List AV)(i:Nat) : (eO .leaf 0 args).at i=if i<args.length then args[i]? else none:=bH args i
theorem kD {f:Nat}{args:List AV}{cargs:List Value}{kd:CallKind}{g:AFrame}(h0:dV P f args kd=some g)(ha:VRs E args cargs) :FR E g (Frame.enter P f ⟨cargs⟩ kd) :=by
 unfold dV at h0;split at h0
 · rename_i fn hf;split at h0
   · rename_i c hb;cases h0;have hlen:=ha.length;refine⟨by simp [Frame.enter],⟨?_,fun t a hta=>?_⟩,?_,by simp [Frame.enter,DRs],by simp [Frame.enter,MR],by simp [Frame.enter],by simp [Frame.enter,RR]⟩
     ·simp [Frame.enter,hf,hlen];omega
     · rw [aPt]at hta;split at hta
       · rename_i ht;obtain⟨v,h1,h2⟩ :=ha.get _ _ hta;refine⟨v,?_,h2⟩;simp only [Frame.enter];rw [Array.getElem?_append_left (by simp;omega)];rw [show(⟨cargs⟩ :Array Value) =cargs.toArray from rfl,getElem?_toArray];exact h1
       ·cases hta
     · simp only [Frame.enter,hf,hb,bind_some,getD_some];exact IRs.cons rfl (by simp [IRs])
   ·cases h0
 ·cases h0
theorem wO {nt:Nat}:∀ {ps:List Nat} {args:List AV} {cargs:List Value} {tm tm':T AV} {tmps:Array Value},nA tm nt ps args=some tm'→VRs E args cargs→TR E tm nt tmps →
  ps.length=cargs.length∧TR E tm' nt ((ps.zip cargs).foldl (fun tmps (p:Nat×Value) =>tmps.setIfInBounds p.1 p.2) tmps)
 | [],args,cargs,tm,tm',tmps,h0,ha,r=>by
  cases args with
  |nil=>simp [nA]at h0;subst h0;rw [ha.nil_inv];exact⟨rfl,r⟩
  |cons a aS=>simp [nA]at h0
 | p ::ps,args,cargs,tm,tm',tmps,h0,ha,r=>by
  cases args with
  |nil=>simp [nA]at h0
  | cons a aS=>
   obtain⟨v,vs,rfl,h1,h2⟩ :=ha.cons_inv;simp only [nA,dK]at h0;by_cases hp:p<nt
   · simp only [hp,decide_true,cond]at h0;obtain⟨g1,g2⟩ :=wO h0 h2 (r.put hp h1);exact⟨by simp [g1],by simpa using g2⟩
   ·simp only [hp,decide_false,cond]at h0;cases h0
theorem run_getLoop {l:Nat}{L:Loop}(hl:w.heap[l]?=some (.loop L)) : (Instr.getLoop l).run P w= .ok L w:=by
 simp [Instr.getLoop,getObj,Sem.run,hl]
theorem aC4 (r:Rel E h w.heap){l:Nat}{args:List AV}{cargs:List Value}{g:AFrame}(h0:aAU h l args=some g){L:Loc}(hE:E l=some L)(ha:VRs E args cargs) :
  ∃fn tmps aS bd,(Instr.yield L.blk ⟨cargs⟩).run P w= .ok (.round L.blk fn tmps aS bd) w∧FR E g (Frame.round L.blk fn tmps aS bd .normal) :=by
 unfold aAU at h0;split at h0
 · rename_i st pe fn tm nt ps aS bd df hl;split at h0
   · rename_i tm' htm;cases h0;obtain⟨L',g1,tmps,Ld,g2,g3,g4⟩ :=r.obj _ _ hl;rw [hE]at g1;cases g1;obtain⟨k1,k2⟩ :=wO htm ha g4;refine⟨fn,_,aS,bd,?_,⟨rfl,k2,?_,by simp [Frame.round,DRs],by simp [Frame.round,MR],rfl,by simp only [Frame.round,RR];exact⟨L,hE,rfl⟩⟩⟩
     · have hs: (⟨cargs⟩ :Array Value).size= (⟨ps⟩ :Array Tmp).size:=by simp [k1]
       simp only [Instr.yield,Sem.run_bind,run_getLoop g2,Result.andThen_ok];rw [if_neg (by simp [hs])];simp only [Sem.run_pure];congr 2;rw [←Array.foldl_toList];simp
     ·exact IRs.cons rfl (IRs.cons rfl (IRs.cons rfl (by simp [IRs])))
   ·cases h0
 ·cases h0
theorem sF (r:Rel E h w.heap){c:AIn}{g:AFrame}(h0:dW P h c=some g){s:Sem Next}(hs:Out P E h w (s.run P w) (.call c)) :
  ∃nx G,s.run P w= .ok nx w∧ ((∃f args,nx= .enter f args∧G=Frame.enter P f args .normal) ∨ (∃l f t aS bd,nx= .round l f t aS bd∧G=Frame.round l f t aS bd .normal)) ∧FR E g G:=by
 cases c with
 | enter f args=>
  obtain⟨cargs,h1,h2⟩ :=hs;exact⟨_,_,h1,.inl ⟨f,_,rfl,rfl⟩,kD h0 h2⟩
 | round l args=>
  obtain⟨cargs,L,h1,h2,h3⟩ :=hs;obtain⟨fn,tmps,aS,bd,k1,k2⟩ :=aC4 (P:=P) r h0 h1 h2;exact⟨_,_,h3.trans k1,.inr ⟨_,_,_,_,_,rfl,rfl⟩,k2⟩
theorem aAD (bs:List Nat)(j:Nat) :∀es:List Edge,testBit (fX bs es) j=true↔∃e∈es,Region.binds .any e=true∧ (j=e.on∨testBit (bs.getD e.on 0) j=true)
 | [] =>by simp [fX]
 | e :: es=>by
  have ih:=aAD bs j es;simp only [fX];cases hb:Region.binds .any e with
  | false=>
   simp only [cond,ih,zq7];constructor
   ·rintro⟨x,h1,h2⟩;exact⟨x,.inr h1,h2⟩
   · rintro⟨x,rfl|h1,h2⟩
     ·rw [hb]at h2;cases h2.1
     ·exact⟨x,h1,h2⟩
  | true=>
   simp only [cond];show testBit ((2 ^ e.on ||| bs.getD e.on 0) ||| fX bs es) j=true↔_;simp only [Nat.testBit_or,Nat.testBit_two_pow,or_eq_true,decide_eq_true_eq,ih,zq7];constructor
   · rintro((h1|h1) | ⟨x,h1,h2⟩)
     ·exact⟨e,.inl rfl,hb,.inl h1.symm⟩
     ·exact⟨e,.inl rfl,hb,.inr h1⟩
     ·exact⟨x,.inr h1,h2⟩
   · rintro⟨x,rfl|h1,h2,h3⟩
     · rcases h3 with h3|h3
       ·exact .inl (.inl h3.symm)
       ·exact .inl (.inr h3)
     ·exact .inr ⟨x,h1,h2,h3⟩
theorem aBJ :∀ (l:List Oper) (acc:List Nat),(lZ l acc).length=acc.length+l.length∧ (lZ l acc).take acc.length=acc ∧
  ∀i o,l[i]?=some o→ (lZ l acc)[acc.length+i]?=some (fX ((lZ l acc).take (acc.length+i)) o.after.toList)
 | [],acc=>by simp [lZ]
 | o ::l,acc=>by
  obtain⟨h1,h2,h3⟩ :=aBJ l (acc++ [fX acc o.after.toList]);simp only [lZ];simp only [wT,oK,length_nil]at h1 h2 h3;refine⟨by rw [h1];simp;omega,?_,fun i x hx=>?_⟩
  · have:=congrArg (take acc.length) h2;rw [List.take_take]at this;rw [show min acc.length (acc.length+ (0+1)) =acc.length by omega]at this;rw [this];simp
  · cases i with
    | zero=>
     simp at hx;subst hx;have e1:=congrArg (fun z=>z[acc.length]?) h2;simp only [getElem?_take]at e1;rw [if_pos (by omega)]at e1;have e2:=congrArg (take acc.length) h2;rw [List.take_take,show min acc.length (acc.length+ (0+1)) =acc.length by omega]at e2;rw [add_zero,e1,e2];simp
    | succ i=>
     have:=h3 i x (by simpa using hx);rw [show acc.length+ (i+1) =acc.length+ (0+1) +i by omega];exact this
def bsOf (l:List Oper) :List Nat:=lZ l []
theorem bJk {l:List Oper}{i:Nat}{o:Oper}(ho:l[i]?=some o)(j:Nat) :
  testBit ((bsOf l).getD i 0) j=true↔∃e∈o.after.toList,Region.binds .any e=true∧ (j=e.on∨ (e.on<i∧testBit ((bsOf l).getD e.on 0) j=true)) :=by
 obtain⟨h1,_,h3⟩ :=aBJ l [];have:=h3 i o ho;simp only [length_nil,eX]at this;rw [hQ,show bsOf l=lZ l []from rfl,this];simp only [getD_some,aAD];constructor
 · rintro⟨e,k1,k2,k3⟩
   refine⟨e,k1,k2,k3.imp id fun k3=>?_⟩;rw [hQ,getElem?_take]at k3;by_cases he:e.on<i
   ·rw [if_pos he]at k3;exact⟨he,by rw [hQ];exact k3⟩
   ·rw [if_neg he]at k3;simp at k3
 · rintro⟨e,k1,k2,k3⟩
   refine⟨e,k1,k2,k3.imp id fun k3=>?_⟩;rw [hQ,getElem?_take,if_pos k3.1,←hQ];exact k3.2
def Met (D:Nat→Prop)(o:Oper) :Prop:=∀e∈o.after.toList,Region.binds .any e=true→D e.on
def Closed (l:List Oper)(D:Nat→Prop) :Prop:=∀i o,l[i]?=some o→D i→Met D o
theorem lR {l:List Oper}{D:Nat→Prop}(hD:Closed l D)(hlt:∀i,D i→i<l.length) :∀ (n i:Nat),i<n→∀o,l[i]?=some o→Met D o→∀j,testBit ((bsOf l).getD i 0) j=true→D j:=by
 intro n
 induction n with
 |zero=>intro i hi;omega
 | succ n ih=>
  intro i hi o ho hm j hj;obtain⟨e,k1,k2,k3⟩ := (bJk ho j).1 hj;have hde:=hm e k1 k2;rcases k3 with rfl| ⟨k3,k4⟩
  ·exact hde
  · have hlt':=hlt _ hde;have ho':l[e.on]?=some (l[e.on]'hlt') :=by simp
    exact ih e.on (by omega) _ ho' (hD _ _ ho' hde) j k4
theorem xY {md:Region.Mode}{n:Nat}{rk:List Nat}{i:Nat}:∀ {es:List Edge},zI md n rk i es=true→∀e∈es,Region.binds md e=true→e.on<n∧rk.getD e.on 0<rk.getD i 0
 | [],_,e,he,_=>by cases he
 | x :: xs, h,e,he,hb=>by
  simp only [zI,cF,or_eq_true,not_eq_true',dK,decide_eq_true_eq]at h;cases he with
  | head => rcases h.1 with h1|h1
            ·rw [hb]at h1;cases h1
            ·exact h1
  |tail _ he=>exact xY h.2 e he hb
theorem xZ {md:Region.Mode}{n:Nat}{rk:List Nat}:∀ {l:List Oper} {k:Nat},uA md n rk l k=true→∀i o,l[i]?=some o→∀e∈o.after.toList,Region.binds md e=true→e.on<n∧rk.getD e.on 0<rk.getD (k+i) 0
 | [],_,_,i,o,ho=>by simp at ho
 | x::xs,k,h,i,o,ho=>by
  simp only [uA,cF]at h;cases i with
  |zero=>simp at ho;subst ho;exact xY h.1
  | succ i=>
   have:=xZ h.2 i o (by simpa using ho);rwa [show Nat.succ k+i=k+ (i+1)by omega]at this
theorem ready_nil {md:Region.Mode}{ops:Array Oper}{rk:List Nat}(hrk:uA md ops.size rk ops.toList 0=true){listed:Array Bool}(hsz:listed.size=ops.size)(h0:Region.ready md ops listed= []) :
  ∀i,i<ops.size→listed.getD i true=true:=by
 have key:∀ (m i:Nat),i<ops.size→rk.getD i 0<m→listed.getD i true=true:=by
  intro m
  induction m with
  |zero=>intro i _ h;omega
  | succ m ih=>
   intro i hi hr;cases hl:listed.getD i true with
   |true=>rfl
   | false=>
    exfalso;have:i∈Region.ready md ops listed:=by
     unfold Region.ready;rw [List.mem_filter];refine⟨by simpa using hi,?_⟩;have ho:ops[i]?=some ops[i] :=by simp [hi]
     simp only [hl,Bool.not_false,mY,ho,map_some,getD_some];rw [Array.all_eq_true];intro x hx;have hmem:ops[i].after[x] ∈ops[i].after.toList:=by simp
     cases hb:Region.binds md ops[i].after[x]with
     |false=>rfl
     | true=>
      have:=xZ hrk i ops[i] (by simp [hi]) _ hmem hb;rw [eX]at this;have h2:=ih _ this.1 (by omega);simp only [Bool.not_true,Bool.false_or];have hlt:ops[i].after[x].on<listed.size:=by rw [hsz];exact this.1
      rw [aAR]at h2 ⊢;rw [Array.getElem?_eq_getElem hlt]at h2 ⊢;exact h2
    rw [h0]at this;cases this
 intro i hi;exact key _ i hi (Nat.lt_succ_self _)
theorem aPu {md:Region.Mode}{ops:Array Oper}{listed:Array Bool}{i:Nat}(h0:i∈Region.ready md ops listed) :
  i<ops.size∧listed.getD i true=false∧∃o,ops[i]?=some o∧∀e∈o.after.toList,Region.binds md e=true→listed.getD e.on false=true:=by
 unfold Region.ready at h0;rw [List.mem_filter]at h0;obtain⟨h1,h2⟩ :=h0;simp only [List.mem_range]at h1;have ho:ops[i]?=some ops[i] :=by simp [h1]
 rw [ho]at h2;simp only [map_some,getD_some,cF,not_eq_true',Array.all_eq_true]at h2;refine⟨h1,h2.1,ops[i],ho,fun e he hb=>?_⟩;obtain⟨x,hx,rfl⟩ :=List.getElem_of_mem he;have:=h2.2 x (by simpa using hx);rw [Array.getElem_toList]at hb;rw [hb]at this;simpa using this
theorem aTX {md:Region.Mode}{e:Edge}(h:Region.binds .any e=true) :Region.binds md e=true:=by
 unfold Region.binds at h ⊢;cases hg:e.ground<;>simp_all<;>exact absurd h (by decide)
def uK (l:List Oper)(i:Nat)(o:Oper) :Plan:={o,kd:=dG o.op,lo:=aJD ((bsOf l).getD i 0) (fY l 0) 0,hi:=aAv (bsOf l) i (fY l 0) 0}
theorem aDY (bs a:List Nat) :∀ (l:List Oper) (k i:Nat),(rD bs a l k)[i]?= (l[i]?).map fun o=>{o,kd:=dG o.op,lo:=aJD (bs.getD (k+i) 0) a 0,hi:=aAv bs (k+i) a 0}
 | [],k,i=>by simp [rD]
 | o::l,k,i=>by
  cases i with
  |zero=>simp [rD]
  |succ i=>simp only [rD,lV];rw [aDY bs a l];rw [show Nat.succ k+i=k+ (i+1)by omega]
theorem yA (bs a:List Nat) :∀ (l:List Oper) (k:Nat),(rD bs a l k).length=l.length
 | [],_=>rfl
 |_::l,k=>by simp [rD,yA bs a l]
inductive RC (P:Program) (call:bR) (l:List Oper) (p:Plan) (r r':RS) (a:AV) :Prop
 |unwE (hw:cM r.tm l p.o=some false) (ha:a= .undef) (hk:p.kd= .eff) (e:r'= {r with tm:=r'.tm,h:=aQ r.h r.s r.pend,stages:=r.h::r.stages,s:=r.s+1})
 |unwF (hw:cM r.tm l p.o=some false) (ha:a= .undef) (hk:p.kd= .fresh) (e:r'= {r with tm:=r'.tm,next:=r.next+1})
 |unwQ (hw:cM r.tm l p.o=some false) (ha:a= .undef) (hk:p.kd= .pure∨p.kd= .read) (e:r'= {r with tm:=r'.tm})
 |pure (hx:Hp) (hw:cM r.tm l p.o=some true) (hk:p.kd= .pure) (h0:mS P r.h r.tm p.o=some (.val a hx)) (e:r'= {r with tm:=r'.tm})
 |read (hx:Hp) (hw:cM r.tm l p.o=some true) (hk:p.kd= .read) (h0:mS P r.h r.tm p.o=some (.val a hx)) (e:r'= {r with tm:=r'.tm,again:=bif beq p.lo p.hi then r.again else⟨p.o,r.tm,p.lo,p.hi,a⟩ ::r.again})
 |own (vs:List AV) (hw:cM r.tm l p.o=some true) (hk:p.kd= .read) (h0:xB P r.tm r.pend p.hi p.o=some vs) (h1:wU vs=some a) (e:r'= {r with tm:=r'.tm})
 |fresh (ob:AObj) (hw:cM r.tm l p.o=some true) (hk:p.kd= .fresh) (h0:oU P r.tm r.next p.o=some (a,ob)) (e:r'= {r with tm:=r'.tm,next:=r.next+1,pend:= (p.hi,r.next,ob) ::r.pend})
 | eff (h2:Hp) (hw:cM r.tm l p.o=some true) (hk:p.kd= .eff)
   (h0:mS P (aQ r.h r.s r.pend) r.tm p.o=some (.val a h2) ∨∃c,mS P (aQ r.h r.s r.pend) r.tm p.o=some (.call c) ∧call r.s c (aQ r.h r.s r.pend) =some (a,h2))
   (e:r'= {r with tm:=r'.tm,h:=h2,stages:=r.h::r.stages,s:=r.s+1})
theorem aDZ {call:bR}{m:Nat}{l:List Oper}{p:Plan}{r k:RS}(b:pF P call m l p r=some k) :∃a,kJ r.tm m p.o.dst a=some k.tm∧RC P call l p r k a:=by
 unfold pF at b;split at b
 ·cases b
 · rename_i f;split at b
   ·cases b
   · rename_i g d;split at b
     ·rename_i hk;cases b;exact⟨.undef,d,.unwE f rfl hk rfl⟩
     ·rename_i hk;cases b;exact⟨.undef,d,.unwF f rfl hk rfl⟩
     · rename_i n o;cases b;refine⟨.undef,d,.unwQ f rfl ?_ rfl⟩;cases hk:p.kd<;>simp_all
 · rename_i f;split at b
   · rename_i hk;split at b
     · rename_i v j e;split at b
       ·rename_i g d;cases b;exact⟨v,d,.pure j f hk e rfl⟩
       ·cases b
     ·cases b
   · rename_i hk;split at b
     · rename_i v j e;split at b
       ·rename_i g d;cases b;exact⟨v,d,.read j f hk e rfl⟩
       ·cases b
     · split at b
       · rename_i q i;split at b
         · rename_i v e;split at b
           ·rename_i g d;cases b;exact⟨v,d,.own q f hk i e rfl⟩
           ·cases b
         ·cases b
       ·cases b
   · rename_i hk;split at b
     · rename_i v ob e;split at b
       ·rename_i g d;cases b;exact⟨v,d,.fresh ob f hk e rfl⟩
       ·cases b
     ·cases b
   · rename_i hk;simp only at b;split at b
     · rename_i v h e;split at b
       ·rename_i g d;cases b;exact⟨v,d,.eff h f hk (.inl e) rfl⟩
       ·cases b
     · rename_i c e;split at b
       · rename_i v h hc;split at b
         ·rename_i g d;cases b;exact⟨v,d,.eff h f hk (.inr ⟨c,e,hc⟩) rfl⟩
         ·cases b
       ·cases b
     ·cases b
theorem aBK {call:bR}{f:Nat}{l:List Oper}:∀ {b:List Plan} {r c:RS},oV P call f l b r=some c →
  ∃R:Nat→RS,R 0=r∧R b.length=c∧∀i p,b[i]?=some p→pF P call f l p (R i) =some (R (i+1))
 | [],r,c,a=>by simp [oV]at a;subst a;exact⟨fun _=>r,rfl,rfl,fun i p h=>by simp at h⟩
 | p ::b,r,c,a=>by
  simp only [oV]at a;split at a
  · rename_i m e;obtain⟨R,g,j,k⟩ :=aBK a;refine⟨fun i=>match i with|0=>r|i+1=>R i,rfl,j,fun i q d=>?_⟩;cases i with
    |zero=>simp at d;subst d;show _=some (R 0);rw [g];exact e
    |succ i=>exact k i q (by simpa using d)
  ·cases a
theorem jA :∀ (l:List Oper) (k:Nat),(∀ (q e:Nat),(fY l k)[q]?=some e→k≤e∧e<k+l.length∧∃o,l[e-k]?=some o∧dG o.op= .eff) ∧
  (∀ (i:Nat) (o:Oper),l[i]?=some o→dG o.op= .eff→∃q:Nat,(fY l k)[q]?=some (k+i)) ∧List.Pairwise (· < ·) (fY l k)
 | [],k=>by simp [fY]
 | o ::l,k=>by
  obtain⟨j,p,h⟩ :=jA l (Nat.succ k)
  have d:∀ (q e:Nat),(fY l (Nat.succ k))[q]?=some e→k≤e∧e<k+ (o::l).length∧∃a,(o::l)[e-k]?=some a∧dG a.op= .eff:=fun q e he=>by
   obtain⟨r,s,a,n,m⟩ :=j q e he;refine⟨by omega,by simp;omega,a,?_,m⟩;rw [show e-k= (e-Nat.succ k) +1 by omega];simpa using n
  have b:∀ (i:Nat) (a:Oper),l[i]?=some a→dG a.op= .eff→∃q:Nat,(fY l (Nat.succ k))[q]?=some (k+ (i+1)) :=fun i a f hk=>by
   obtain⟨q,g⟩ :=p i a f hk;exact⟨q,by rw [g];congr 1;omega⟩
  cases hk:dG o.op with
  | eff=>
   simp only [fY,hk];refine⟨fun q e he=>?_,fun i a f c=>?_,?_⟩
   · cases q with
     |zero=>simp at he;subst he;exact⟨le_refl _,by simp,o,by simp,hk⟩
     |succ q=>exact d q e (by simpa using he)
   · cases i with
     |zero=>exact⟨0,by simp⟩
     | succ i=>
      obtain⟨q,g⟩ :=b i a (by simpa using f) c;exact⟨q+1,by simpa using g⟩
   · rw [List.pairwise_cons];refine⟨fun e he=>?_,h⟩;obtain⟨q,g,rfl⟩ :=List.getElem_of_mem he;have:= (j q _ (kH g)).1;omega
  | _=>
   simp only [fY,hk];refine⟨d,fun i a f c=>?_,h⟩;cases i with
   |zero=>simp at f;subst f;rw [hk]at c;cases c
   |succ i=>exact b i a (by simpa using f) c
theorem aSk (b j:Nat) :∀ (a:List Nat) (k:Nat),(∀ (q e:Nat),a[q]?=some e→testBit b e=true→k+q+1≤j) →aJD b a k≤j
 | [],k,_=>by simp [aJD]
 | e::a,k,h=>by
  have c:=aSk b j a (Nat.succ k) (fun q x d hb=>by have:=h (q+1) x (by simpa using d) hb;omega);simp only [aJD];cases hb:testBit b e with
  |true=>simp only [cond];have:=h 0 e rfl hb;omega
  |false=>simp only [cond];exact c
theorem aC5 (bs:List Nat)(i:Nat) :∀ (a:List Nat) (k:Nat),k≤aAv bs i a k∧aAv bs i a k≤k+a.length ∧
  (∀ (q e:Nat),a[q]?=some e→k+q<aAv bs i a k→testBit (bs.getD e 0) i=false) ∧ (∀e:Nat,a[aAv bs i a k-k]?=some e→testBit (bs.getD e 0) i=true)
 | [],k=>by simp [aAv]
 | e ::a,k=>by
  obtain⟨c,d,h,g⟩ :=aC5 bs i a (Nat.succ k);simp only [aAv];cases hb:testBit (bs.getD e 0) i with
  | true=>
   simp only [cond];refine⟨le_refl _,by simp,fun q x b f=>by omega,fun x b=>?_⟩;simp at b;subst b;exact hb
  | false=>
   simp only [cond];refine⟨by generalize aAv bs i a (Nat.succ k) =m at c;omega,by generalize aAv bs i a (Nat.succ k) =m at d;simp;omega,fun q x b f=>?_,fun x b=>?_⟩
   · cases q with
     |zero=>simp at b;subst b;exact hb
     |succ q=>exact h q x (by simpa using b) (by omega)
   · rw [show aAv bs i a (Nat.succ k) -k= (aAv bs i a (Nat.succ k) -Nat.succ k) +1 by generalize aAv bs i a (Nat.succ k) =m at c;omega]at b;exact g x (by simpa using b)
theorem aBL {bs:List Nat}:∀ {b:List Nat},chained bs b=true→∀ (q e f:Nat),b[q]?=some e→b[q+1]?=some f→testBit (bs.getD f 0) e=true
 | [],_,q,e,f,he,_=>by simp at he
 | [x],_,q,e,f,he,a=>by simp at a
 | x::y::b,h,q,e,f,he,a=>by
  simp only [chained,cF]at h;cases q with
  |zero=>simp at he a;subst he a;exact h.1
  |succ q=>exact aBL h.2 q e f (by simpa using he) (by simpa using a)
theorem oY {k:Nat}:∀ {c:List (Nat×Nat×AObj)} {x:Nat} {o:AObj},(aQ h k c).look x=some o→ (k,x,o) ∈c∨h.look x=some o
 | [],x,o,e=>.inr e
 | (a,id,ob) ::c,x,o,e=>by
  simp only [aQ,bQ]at e;by_cases b:a=k
  · simp only [b,decide_true,cond]at e;rw [aY]at e;split at e
    ·rename_i d;cases e;subst d b;exact .inl (dT ..)
    ·exact(oY e).imp (eD _) (fun z=>z)
  · simp only [b,decide_false,cond]at e;exact(oY e).imp (eD _) (fun z=>z)
theorem eH {k:Nat}:∀ {b:List (Nat×Nat×AObj)},(aQ h k b).nb=h.nb
 | [] =>rfl
 | (a,id,ob) ::b=>by
  simp only [aQ];cases beq a k with
  |true=>simp only [cond,jP];exact eH
  |false=>simp only [cond];exact eH
noncomputable def eJ (tm0:T AV)(dst:Nat→Option Nat)(A:Nat→AV)(D:Nat→Prop)[DecidablePred D] :Nat→Nat→Option AV
 |0,t=>tm0.at t
 |n+1,t=>if D n∧dst n=some t then some (A n)else eJ tm0 dst A D n t
section
variable {tm0 :T AV} {dst:Nat→Option Nat} {A:Nat→AV} {D D':Nat→Prop} [DecidablePred D] [DecidablePred D']
theorem uL {t:Nat}:∀ {n:Nat},(∀k,k<n→dst k=some t→ (D k↔D' k)) →eJ tm0 dst A D n t=eJ tm0 dst A D' n t
 |0,_=>rfl
 | n+1,h=>by
  simp only [eJ];rw [uL (fun k hk=>h k (by omega))];by_cases hd:dst n=some t
  · have:=h n (by omega) hd;by_cases a:D n
    ·rw [if_pos ⟨a,hd⟩,if_pos ⟨this.1 a,hd⟩]
    ·rw [if_neg (fun e=>a e.1),if_neg (fun e=>a (this.2 e.1))]
  ·rw [if_neg (fun e=>hd e.2),if_neg (fun e=>hd e.2)]
theorem zM {t i:Nat}:∀ {n:Nat},i≤n→ (∀k,i≤k→k<n→dst k=some t→¬D k) →eJ tm0 dst A D n t=eJ tm0 dst A D i t
 |0,a,_=>by rw [show i=0 by omega]
 | n+1,a,h=>by
  by_cases e:i=n+1
  ·rw [e]
  · simp only [eJ];rw [if_neg (fun⟨b,hd⟩ =>h n (by omega) (by omega) hd b)];exact zM (by omega) (fun k c d=>h k c (by omega))
end
inductive Legal (l:List Oper) : (Nat→Bool) →List Nat→Prop
 |nil {D}: (∀i,i<l.length→D i=true) →Legal l D []
 |cons {D i is o}:l[i]?=some o→D i=false→Met (D · =true) o→Legal l (fun k=>D k||k==i) is→Legal l D (i::is)
def unl :List Bool→Nat
 | [] =>0
 |true::l=>unl l
 |false::l=>unl l+1
theorem aJU :∀ {l:List Bool} {i:Nat},l[i]?=some false→unl (l.set i true) +1=unl l
 | [],i,h=>by simp at h
 |b::l,0,h=>by simp at h;subst h;simp [unl]
 |true::l,i+1,h=>by simp only [List.set_cons_succ,unl];exact aJU (by simpa using h)
 |false::l,i+1,h=>by simp only [List.set_cons_succ,unl];have:=aJU (l:=l) (i:=i) (by simpa using h);omega
theorem aMw :∀ {l:List Bool} {i:Nat},unl l=0→i<l.length→l[i]?=some true
 | [],i,_,h=>by simp at h
 |true::l,0,_,_=>rfl
 |true::l,i+1,h,h2=>by simp only [lV];exact aMw h (by simpa using h2)
 |false::l,i,h,_=>by simp [unl]at h
theorem aAE :∀n,unl (List.replicate n false) =n
 |0=>rfl
 |n+1=>by simp [List.replicate_succ,unl,aAE n]
theorem aWi {md:Region.Mode}{ops:Array Oper}{rk:List Nat}(hrk:uA md ops.size rk ops.toList 0=true) :∀ (fuel t:Nat) (listed:Array Bool),listed.size=ops.size→unl listed.toList≤fuel →
  Legal ops.toList (fun k=>listed.getD k false) (Region.linearise.go md ops fuel t listed []) :=by
 have gd:∀ {listed:Array Bool} {i:Nat},listed.size=ops.size→i<ops.size→∀b,listed.getD i b=listed.getD i false:=fun {listed i} hs hi b=>by
  rw [aAR,aAR,Array.getElem?_eq_getElem (by omega)];rfl
 intro fuel
 induction fuel with
 | zero=>
  intro t listed hs hu;simp only [Region.linearise.go,List.reverse_nil];refine .nil fun i hi=>?_;have:=aMw (l:=listed.toList) (i:=i) (by omega) (by simp only [Array.length_toList]at hi ⊢;omega);rw [aAR,←sU,this];rfl
 | succ fuel ih=>
  intro t listed hs hu;simp only [Region.linearise.go]
  change Legal _ _ (match(Region.ready md ops listed)[t % (Region.ready md ops listed).length]? with
   |some i=>Region.linearise.go md ops fuel (t / (Region.ready md ops listed).length) (listed.setIfInBounds i true) [i]
   |none=>[].reverse)
  cases hi: (Region.ready md ops listed)[t % (Region.ready md ops listed).length]? with
  | none=>
   have hnil:Region.ready md ops listed= [] :=by
    cases hr:Region.ready md ops listed with
    |nil=>rfl
    | cons x xs=>
     rw [hr]at hi;have hlt:t % (x::xs).length< (x::xs).length:=mod_lt _ (by simp);simp at hi;simp at hlt;omega
   simp only [List.reverse_nil];refine .nil fun i hi=>?_;have hi':i<ops.size:=by simpa using hi
   have:=ready_nil hrk hs hnil i hi';rw [gd hs hi']at this;exact this
  | some i=>
   simp only [];obtain⟨g1,g2,o,g3,g4⟩ :=aPu (iO hi);rw [gd hs g1]at g2;rw [linearise_go_acc,List.reverse_singleton,List.singleton_append];have hlf:listed.toList[i]?=some false:=by
    rw [aAR,Array.getElem?_eq_getElem (by omega)]at g2;rw [sU,Array.getElem?_eq_getElem (by omega)];simpa using g2
   have e: (fun k=> (listed.setIfInBounds i true).getD k false) = (fun k=>listed.getD k false||k==i) :=by
    funext k
    rw [aAR,aAR,Array.getElem?_setIfInBounds];by_cases hk:i=k
    ·subst hk;simp [hs,g1]
    · have: (k==i) =false:=by simp;omega
      simp [hk,this]
   refine .cons (by rw [sU];exact g3) g2 (fun x hx hb=>g4 x hx (aTX hb)) ?_
   have:=ih (t / (Region.ready md ops listed).length) (listed.setIfInBounds i true) (by simpa using hs) (by
    rw [Array.toList_setIfInBounds];have:=aJU hlf;omega)
   rw [e]at this;exact this
theorem aFN {ops:Array Oper}(hok: (kS ops).ok=true)(mx:Bool)(t:Nat) :Legal ops.toList (fun _=>false) (Region.schedule mx ops t) :=by
 simp only [kS,cF]at hok;obtain⟨⟨⟨⟨h1,h2⟩,h3⟩,h4⟩,h5⟩ :=hok;have e: (fun k=> (Array.replicate ops.size false).getD k false) =fun _=>false:=by
  funext k
  rw [aAR,Array.getElem?_replicate];split<;>rfl
 have key:∀ {md rk} t,uA md ops.size rk ops.toList 0=true→Legal ops.toList (fun _=>false) (Region.linearise md ops t) :=fun t hr=>by
  have:=aWi hr ops.size t (Array.replicate ops.size false) (by simp) (by simp [aAE]);rw [e]at this;exact this
 unfold Region.schedule;split
 ·exact key t h3
 · split
   ·exact key _ h4
   ·exact key _ h5
def AOut.reh (h1:Hp) :AOut→AOut
 | .val v _=>.val v h1
 |o=>o
set_option maxHeartbeats 1000000 in
theorem aWj {tm:T AV}{o:Oper}(hk:dG o.op= .pure)(h1:Hp) :kA P h1 tm o= (kA P h tm o).map (AOut.reh h1) :=by
 unfold dG at hk;unfold kA;cases hop:o.op<;>simp only [hop]at hk ⊢ <;>first| (cases hk;done) |skip
 case call c=>
  unfold wM;cases hc:c.callee with
  | builtin b=>
   rw [hc]at hk;cases hv:jM tm c.args.toList with
   |none=>rfl
   | some args=>
    simp only;cases b<;> (try simp only at hk) <;> (first| (cases hk;done) |skip) <;> (unfold iR; (try simp only);repeat' split) <;>simp_all [AOut.reh]
  |value f=>rw [hc]at hk;cases hk
  |invoke r n=>rw [hc]at hk;cases hk
 all_goals (try simp only [val,ev1,ev2,cond_eq_ite])
 all_goals (repeat' split)
 all_goals (first|rfl|simp_all [AOut.reh,val])
set_option maxHeartbeats 1000000 in
theorem bAM {tm:T AV}{o:Oper}(hk:dG o.op= .pure)(h1:Hp) :vop P h1 tm o= (vop P h tm o).map (AOut.reh h1) :=by
 unfold dG at hk;unfold vop;cases hop:o.op<;>simp only [hop]at hk ⊢ <;>first| (cases hk;done) |rfl|skip
 case call c=>
  cases hc:c.callee with
  | builtin b=>
   rw [hc]at hk;cases b<;> (try simp only at hk) <;> (first| (cases hk;done) |skip) <;> ((try simp only);repeat' split) <;>simp_all [AOut.reh]
  |value f=>rw [hc]at hk;cases hk
  |invoke r n=>rw [hc]at hk;cases hk
 all_goals (try simp only [val,ev1,ev2,cond_eq_ite])
 all_goals (repeat' split)
 all_goals (first|rfl|simp_all [AOut.reh,val])
theorem bAN {tm:T AV}{o:Oper}(hk:dG o.op= .pure)(h1:Hp) :mS P h1 tm o= (mS P h tm o).map (AOut.reh h1) :=by
 unfold mS;rw [aWj hk (h:=h),bAM hk (h:=h)];cases kA P h tm o<;>rfl
theorem aWk {tm:T AV}{o:Oper}(hk:dG o.op= .pure){a:AV}{hx:Hp}(h0:mS P h tm o=some (.val a hx))(h1:Hp) :mS P h1 tm o=some (.val a h1) :=by
 rw [bAN hk (h:=h),h0];rfl
mutual
theorem AV.same_eq :∀ (a b:AV),same a b=true→a=b
 | .bool _,b,h=>by cases b<;>simp_all [same]
 | .int _ _,b,h=>by cases b<;>simp_all [same]
 | .str _ _,b,h=>by cases b<;>simp_all [same,bQ]
 | .ptr _ _,b,h=>by cases b<;>simp_all [same,bQ]
 | .nilp,b,h=>by cases b<;>simp_all [same]
 | .slice ..,b,h=>by cases b<;>simp_all [same,bQ]
 | .nils,b,h=>by cases b<;>simp_all [same]
 | .map _,b,h=>by cases b<;>simp_all [same,bQ]
 | .nilm,b,h=>by cases b<;>simp_all [same]
 | .func f fs cs,b,h=>by
  cases b with
  | func f' fs' cs'=>
   simp only [same,cF,bQ,decide_eq_true_eq]at h;rw [h.1.1,AV.sameL_eq _ _ h.1.2,AV.sameL_eq _ _ h.2]
  |_=>simp [same]at h
 | .yield _,b,h=>by cases b<;>simp_all [same,bQ]
 | .meth _ _,b,h=>by cases b<;>simp_all [same]
 | .via ..,b,h=>by cases b<;>simp_all [same]
 | .nilf,b,h=>by cases b<;>simp_all [same]
 | .iface t v,b,h=>by
  cases b with
  | iface t' v'=>
   simp only [same,cF,bQ,decide_eq_true_eq]at h;rw [h.1,AV.same_eq _ _ h.2]
  |_=>simp [same]at h
 | .nili,b,h=>by cases b<;>simp_all [same]
 | .agg vs,b,h=>by
  cases b with
  |agg vs'=>simp only [same]at h;rw [AV.sameL_eq _ _ h]
  |_=>simp [same]at h
 | .tup vs,b,h=>by
  cases b with
  |tup vs'=>simp only [same]at h;rw [AV.sameL_eq _ _ h]
  |_=>simp [same]at h
 | .ilst e xs ex,b,h=>by
  cases b with
  | ilst e' xs' ex'=>
   simp only [same,cF,bQ,decide_eq_true_eq,beq_iff_eq]at h;rw [h.1.1,AV.sameL_eq _ _ h.1.2,h.2]
  |_=>simp [same]at h
 | .iptr cs,b,h=>by
  cases b with
  |iptr cs'=>simp only [same]at h;rw [AV.sameL_eq _ _ h]
  |_=>simp [same]at h
 | .gl ..,b,h=>by cases b<;>simp_all [same,bQ]
 | .ep ..,b,h=>by cases b<;>simp_all [same,bQ]
 | .val _,b,h=>by cases b<;>simp_all [same]
theorem AV.sameL_eq :∀ (a b:List AV),sameL a b=true→a=b
 | [],b,h=>by cases b<;>simp_all [sameL]
 | a::aS,b,h=>by
  cases b with
  |nil=>simp [sameL]at h
  | cons b bs=>
   simp only [sameL,cF]at h;rw [AV.same_eq _ _ h.1,AV.sameL_eq _ _ h.2]
end
theorem aJV {a:Again}(h0:aEN P a h=true) :∃hx,mS P h a.tm a.o=some (.val a.v hx) :=by
 unfold aEN at h0;split at h0
 ·rename_i v hx hv;exact⟨hx,by rw [hv,AV.same_eq _ _ h0]⟩
 ·cases h0
theorem tA {a:Again}:∀ {hs:List Hp} {k x:Nat} {h:Hp},oN P a hs k=true→hs[x]?=some h→x≤k→a.lo≤k-x→k-x≤a.hi→aEN P a h=true
 | [],k,x,h,_,hx,_,_,_=>by simp at hx
 | y::ys,k,x,h,h0,hx,hk,h1,h2=>by
  simp only [oN,cF]at h0;cases x with
  | zero=>
   simp at hx;subst hx;have:=h0.1;rw [sub_zero]at h1 h2;simp only [jG,h1,h2,decide_true,Bool.and_self,cond]at this;exact this
  |succ x=>exact tA (k:=k-1) (x:=x) h0.2 (by simpa using hx) (by omega) (by omega) (by omega)
theorem aAF {hs:List Hp}{k:Nat}:∀ {aS:List Again},sV P hs k aS=true→∀a∈aS,oN P a hs k=true
 | [],_,a,ha=>by cases ha
 | x::xs,h0,a,ha=>by
  simp only [sV,cF]at h0;cases ha with
  |head=>exact h0.1
  |tail _ ha=>exact aAF h0.2 a ha
def zN (P:Program)(hs:List Hp)(k:Nat)(aS:List Again) :Prop:=
 ∀a∈aS,∀ (x:Nat) (h:Hp),hs[x]?=some h→x≤k→a.lo≤k-x→k-x≤a.hi→∃hx,mS P h a.tm a.o=some (.val a.v hx)
theorem aFO {hs:List Hp}{k:Nat}{aS:List Again}(h0:sV P hs k aS=true) :zN P hs k aS:=
 fun a ha _ _ hx h1 h2 h3=>aJV (tA (aAF h0 a ha) hx h1 h2 h3)
theorem aC6 {tm:T AV}{o:Oper}(c:Call)(hc:o.op= .defer c) :vop P h tm o=none:=by
 unfold vop;rw [hc]
theorem aAY {tm:T AV}{o:Oper}(c:Call)(hc:o.op= .defer c){out:AOut}(h0:kA P h tm o=some out) :∃d,out= .defer d:=by
 unfold kA at h0;rw [hc]at h0;simp only [cond_eq_ite]at h0
 repeat' split at h0
 all_goals first| (cases h0;done) | (cases h0;exact⟨_,rfl⟩)
theorem aIy {tm:T AV}{o:Oper}{v:AV}{h2:Hp}(h0:mS P h tm o=some (.val v h2)) :∀c,o.op≠ .defer c:=by
 intro c hc;unfold mS at h0;split at h0
 ·rename_i r hr;cases h0;obtain⟨d,e⟩ :=aAY c hc hr;cases e
 ·rw [aC6 c hc]at h0;cases h0
theorem aFP {tm:T AV}{o:Oper}{c':AIn}(h0:mS P h tm o=some (.call c')) :∀c,o.op≠ .defer c:=by
 intro c hc;unfold mS at h0;split at h0
 ·rename_i r hr;cases h0;obtain⟨d,e⟩ :=aAY c hc hr;cases e
 ·rw [aC6 c hc]at h0;cases h0
def tB (l:List Oper)(i:Nat) :Option Nat:= (l[i]?).bind (·.dst)
def yB (l:List Oper)(i:Nat) :Nat:=aAv (bsOf l) i (fY l 0) 0
def bF4 (l:List Oper)(i:Nat) :Nat:=aJD ((bsOf l).getD i 0) (fY l 0) 0
structure Trace (P:Program) (call:bR) (l:List Oper) (nt:Nat) (R:Nat→RS) (A:Nat→AV) :Prop where
 step:∀i o,l[i]?=some o→kJ (R i).tm nt o.dst (A i) =some (R (i+1)).tm∧RC P call l (uK l i o) (R i) (R (i+1)) (A i)
 chain:chained (bsOf l) (fY l 0) =true
 wok:wOk (bsOf l) l l 0=true
 idOk:∀i o,l[i]?=some o→∀e∈o.after.toList,Region.binds .any e=true→e.on<i
 s0: (R 0).s=0
 st0: (R 0).stages= []
 p0: (R 0).pend= []
 a0: (R 0).again= []
 nx: (R l.length).next≤ (R 0).h.nb
 again:zN P ((R l.length).h:: (R l.length).stages) (R l.length).s (R l.length).again
def bX (l:List Oper)(R:Nat→RS)(k:Nat) :Hp:= (((R l.length).h:: (R l.length).stages)[(R l.length).s-k]?).getD (R 0).h
theorem RC.s {call:bR}{l:List Oper}{p:Plan}{r r':RS}{a:AV}(c:RC P call l p r r' a) :r'.s=if p.kd= .eff then r.s+1 else r.s:=by
 cases c with
 |unwE hw ha hk e=>rw [e,hk];rfl
 |unwF hw ha hk e=>rw [e,hk];rfl
 |unwQ hw ha hk e=>rw [e];rcases hk with hk|hk<;>rw [hk] <;>rfl
 |pure hx hw hk h0 e=>rw [e,hk];rfl
 |read hx hw hk h0 e=>rw [e,hk];rfl
 |own vs hw hk h0 h1 e=>rw [e,hk];rfl
 |fresh ob hw hk h0 e=>rw [e,hk];rfl
 |eff h2 hw hk h0 e=>rw [e,hk];rfl
theorem RC.list {call:bR}{l:List Oper}{p:Plan}{r r':RS}{a:AV}(c:RC P call l p r r' a) :
  (p.kd= .eff∧r'.stages=r.h::r.stages) ∨ (p.kd≠ .eff∧r'.h=r.h∧r'.stages=r.stages) :=by
 cases c with
 |unwE hw ha hk e=>left;rw [e,hk];exact⟨rfl,rfl⟩
 |unwF hw ha hk e=>right;rw [e,hk];exact⟨by decide,rfl,rfl⟩
 |unwQ hw ha hk e=>right;rw [e];rcases hk with hk|hk<;>rw [hk] <;>exact⟨by decide,rfl,rfl⟩
 |pure hx hw hk h0 e=>right;rw [e,hk];exact⟨by decide,rfl,rfl⟩
 |read hx hw hk h0 e=>right;rw [e,hk];exact⟨by decide,rfl,rfl⟩
 |own vs hw hk h0 h1 e=>right;rw [e,hk];exact⟨by decide,rfl,rfl⟩
 |fresh ob hw hk h0 e=>right;rw [e,hk];exact⟨by decide,rfl,rfl⟩
 |eff h2 hw hk h0 e=>left;rw [e,hk];exact⟨rfl,rfl⟩
theorem RC.next {call:bR}{l:List Oper}{p:Plan}{r r':RS}{a:AV}(c:RC P call l p r r' a) :r'.next=if p.kd= .fresh then r.next+1 else r.next:=by
 cases c with
 |unwE hw ha hk e=>rw [e,hk];rfl
 |unwF hw ha hk e=>rw [e,hk];rfl
 |unwQ hw ha hk e=>rw [e];rcases hk with hk|hk<;>rw [hk] <;>rfl
 |pure hx hw hk h0 e=>rw [e,hk];rfl
 |read hx hw hk h0 e=>rw [e,hk];rfl
 |own vs hw hk h0 h1 e=>rw [e,hk];rfl
 |fresh ob hw hk h0 e=>rw [e,hk];rfl
 |eff h2 hw hk h0 e=>rw [e,hk];rfl
theorem RC.pend {call:bR}{l:List Oper}{p:Plan}{r r':RS}{a:AV}(c:RC P call l p r r' a) :
  r'.pend=r.pend∨∃ob,p.kd= .fresh∧cM r.tm l p.o=some true∧oU P r.tm r.next p.o=some (a,ob) ∧r'.pend= (p.hi,r.next,ob) ::r.pend:=by
 cases c with
 |unwE hw ha hk e=>left;rw [e]
 |unwF hw ha hk e=>left;rw [e]
 |unwQ hw ha hk e=>left;rw [e]
 |pure hx hw hk h0 e=>left;rw [e]
 |read hx hw hk h0 e=>left;rw [e]
 |own vs hw hk h0 h1 e=>left;rw [e]
 |fresh ob hw hk h0 e=>right;rw [e];exact⟨ob,hk,hw,h0,rfl⟩
 |eff h2 hw hk h0 e=>left;rw [e]
theorem RC.again {call:bR}{l:List Oper}{p:Plan}{r r':RS}{a:AV}(c:RC P call l p r r' a) :∀x∈r.again,x∈r'.again:=by
 cases c with
 | read hx hw hk h0 e=>
  rw [e];intro x hx;simp only;cases beq p.lo p.hi with
  |true=>exact hx
  |false=>exact eD _ hx
 |unwE hw ha hk e=>rw [e];exact fun _ h=>h
 |unwF hw ha hk e=>rw [e];exact fun _ h=>h
 |unwQ hw ha hk e=>rw [e];exact fun _ h=>h
 |pure hx hw hk h0 e=>rw [e];exact fun _ h=>h
 |own vs hw hk h0 h1 e=>rw [e];exact fun _ h=>h
 |fresh ob hw hk h0 e=>rw [e];exact fun _ h=>h
 |eff h2 hw hk h0 e=>rw [e];exact fun _ h=>h
section
variable {call :bR} {l:List Oper} {nt:Nat} {R:Nat→RS} {A:Nat→AV}
theorem uM {i:Nat}{o:Oper}(h:l[i]?=some o) :i<l.length:= (zq0.1 h).1
theorem yC {i:Nat}(h:i<l.length) :∃o,l[i]?=some o:= ⟨_,kH h⟩
theorem aBM (l:List Oper){p q e f:Nat}(hp: (fY l 0)[p]?=some e)(hq: (fY l 0)[q]?=some f) : (p<q↔e<f) :=by
 obtain⟨_,_,h⟩ :=jA l 0;rw [List.pairwise_iff_getElem]at h;obtain⟨hp1,hp2⟩ :=zq0.1 hp;obtain⟨hq1,hq2⟩ :=zq0.1 hq;constructor
 ·intro g;have:=h p q hp1 hq1 g;rw [hp2,hq2]at this;exact this
 · intro g;rcases Nat.lt_trichotomy p q with k|k|k
   ·exact k
   ·subst k;rw [hp]at hq;cases hq;omega
   ·have:=h q p hq1 hp1 k;rw [hp2,hq2]at this;omega
theorem Trace.cnt (T:Trace P call l nt R A) :∀i,i≤l.length→ (R i).s≤ (fY l 0).length∧∀q e,(fY l 0)[q]?=some e→ (q< (R i).s↔e<i)
 |0,_=>by rw [T.s0];exact⟨zero_le _,fun q e _=>by omega⟩
 | i + 1,hi=>by
  obtain⟨h1,h2⟩ :=T.cnt i (by omega);obtain⟨o,ho⟩ :=yC (l:=l) (i:=i) (by omega);have hs:= (T.step i o ho).2.s;by_cases hk:dG o.op= .eff
  · rw [if_pos (show(uK l i o).kd= .eff from hk)]at hs;obtain⟨q,hq⟩ := (jA l 0).2.1 i o ho hk;rw [eX]at hq;have hql:= (zq0.1 hq).1;have hqs: (R i).s=q:=by
     rcases Nat.lt_trichotomy (R i).s q with k|k|k
     · obtain⟨e,he⟩ :∃e,(fY l 0)[(R i).s]?=some e:= ⟨_,kH (by omega)⟩;have:= (aBM l he hq).1 k;have:= (h2 _ _ he).2 this;omega
     ·exact k
     ·have:= (h2 _ _ hq).1 k;omega
    rw [hs,hqs];refine⟨by omega,fun q' e' he'=>?_⟩;have a1:=aBM l he' hq;have a2:=aBM l hq he';constructor
    · intro g;rcases lt_or_ge q' q with k|k
      ·have:=a1.1 k;omega
      · have:q'=q:=by omega
        subst this;rw [hq]at he';cases he';omega
    · intro g;rcases lt_or_ge q q' with k|k
      ·have:=a2.1 k;omega
      ·omega
  · rw [if_neg (show ¬ (uK l i o).kd= .eff from hk)]at hs;rw [hs];refine⟨h1,fun q' e' he'=>?_⟩;rw [h2 _ _ he'];obtain⟨_,_,o',ho',hk'⟩ := (jA l 0).1 q' e' he';have:e'≠i:=fun e=>by subst e;rw [sub_zero]at ho';rw [ho]at ho';cases ho';exact hk hk'
    omega
theorem Trace.sEff (T:Trace P call l nt R A){q e:Nat}(hq: (fY l 0)[q]?=some e) : (R e).s=q∧ (R (e+1)).s=q+1:=by
 obtain⟨_,h2,o,ho,hk⟩ := (jA l 0).1 q e hq;rw [sub_zero]at ho;have hs:= (T.step e o ho).2.s;rw [if_pos (show(uK l e o).kd= .eff from hk)]at hs;obtain⟨a1,a2⟩ :=T.cnt e (by omega);obtain⟨b1,b2⟩ :=T.cnt (e+1) (by omega);have:=a2 q e hq;have:=b2 q e hq;omega
theorem Trace.sEnd (T:Trace P call l nt R A) : (R l.length).s= (fY l 0).length:=by
 obtain⟨a1,a2⟩ :=T.cnt l.length (le_refl _);rcases lt_or_ge (R l.length).s (fY l 0).length with k|k
 · obtain⟨e,he⟩ :∃e,(fY l 0)[(R l.length).s]?=some e:= ⟨_,kH k⟩;obtain⟨_,h2,_⟩ := (jA l 0).1 _ e he;have:= (a2 _ _ he).2 (by omega);omega
 ·omega
theorem Trace.suffix (T:Trace P call l nt R A) :∀d i,i+d=l.length→ (R i).s≤ (R l.length).s∧∃pre,pre.length= (R l.length).s- (R i).s∧ (R l.length).h:: (R l.length).stages=pre++ ((R i).h:: (R i).stages)
 | 0,i,hi=>by
  rw [add_zero]at hi;subst hi;exact⟨le_refl _,[],by simp,rfl⟩
 | d +1,i,hi=>by
  obtain⟨h1,pre,h2,h3⟩ :=T.suffix d (i+1) (by omega);obtain⟨o,ho⟩ :=yC (l:=l) (i:=i) (by omega);have hs:= (T.step i o ho).2.s;rcases(T.step i o ho).2.list with⟨hk,e⟩ | ⟨hk,e1,e2⟩
  · rw [if_pos hk]at hs;refine⟨by omega,pre++ [(R (i+1)).h],by simp;omega,?_⟩;rw [h3,e];simp
  · rw [if_neg hk]at hs;refine⟨by omega,pre,by omega,?_⟩;rw [h3,e1,e2]
theorem Trace.stage (T:Trace P call l nt R A){i:Nat}(hi:i≤l.length) :bX l R (R i).s= (R i).h:=by
 obtain⟨h1,pre,h2,h3⟩ :=T.suffix (l.length-i) i (by omega);unfold bX;rw [h3,←h2,kR (le_refl _)];simp
theorem Trace.stages_len (T:Trace P call l nt R A) :∀i,i≤l.length→ (R i).stages.length= (R i).s
 |0,_=>by rw [T.st0,T.s0];rfl
 | i+1,hi=>by
  have ih:=T.stages_len i (by omega);obtain⟨o,ho⟩ :=yC (l:=l) (i:=i) (by omega);have hs:= (T.step i o ho).2.s;rcases(T.step i o ho).2.list with⟨hk,e⟩ | ⟨hk,e1,e2⟩
  ·rw [if_pos hk]at hs;rw [e,hs];simp [ih]
  ·rw [if_neg hk]at hs;rw [e2,hs,ih]
theorem Trace.stage_get (T:Trace P call l nt R A){k:Nat}(hk:k≤ (R l.length).s) : ((R l.length).h:: (R l.length).stages)[(R l.length).s-k]?=some (bX l R k) :=by
 have:=T.stages_len _ (le_refl _);unfold bX;rw [kH (by simp;omega)];rfl
theorem Trace.next_mono (T:Trace P call l nt R A) :∀d i,i+d≤l.length→ (R i).next≤ (R (i+d)).next
 |0,i,_=>le_refl _
 | d+1,i,hi=>by
  have ih:=T.next_mono d i (by omega);obtain⟨o,ho⟩ :=yC (l:=l) (i:=i+d) (by omega);have hs:= (T.step _ o ho).2.next
  rw [show i+ (d+1) =i+d+1 by omega,hs];split<;>omega
theorem Trace.next_fresh (T:Trace P call l nt R A){f:Nat}{o:Oper}(ho:l[f]?=some o)(hk:dG o.op= .fresh) : (R (f+1)).next= (R f).next+1:=by
 have:= (T.step _ o ho).2.next
 rw [if_pos (show(uK l f o).kd= .fresh from hk)]at this;exact this
theorem Trace.id_ne (T:Trace P call l nt R A){f g:Nat}{o o':Oper}(ho:l[f]?=some o)(hk:dG o.op= .fresh)(ho':l[g]?=some o')(hk':dG o'.op= .fresh)(hne:f≠g) : (R f).next≠ (R g).next:=by
 have h1:=T.next_fresh ho hk;have h2:=T.next_fresh ho' hk';have hf:=uM ho;have hg:=uM ho';rcases lt_or_ge f g with k|k
 · have:=T.next_mono (g- (f+1)) (f+1) (by omega);rw [show f+1+ (g- (f+1)) =g by omega]at this;omega
 · have:=T.next_mono (f- (g+1)) (g+1) (by omega);rw [show g+1+ (f- (g+1)) =f by omega]at this;omega
theorem Trace.id_lt (T:Trace P call l nt R A){f:Nat}{o:Oper}(ho:l[f]?=some o)(hk:dG o.op= .fresh) : (R 0).next≤ (R f).next∧ (R f).next< (R 0).h.nb:=by
 have h1:=T.next_fresh ho hk;have hf:=uM ho;have h2:=T.next_mono f 0 (by omega);rw [eX]at h2;have h3:=T.next_mono (l.length- (f+1)) (f+1) (by omega);rw [show f+1+ (l.length- (f+1)) =l.length by omega]at h3;have:=T.nx;omega
theorem Trace.pend_mem (T:Trace P call l nt R A) :∀i,i≤l.length→∀k x ob,(k,x,ob) ∈ (R i).pend →
  ∃f o,f<i∧l[f]?=some o∧dG o.op= .fresh∧cM (R f).tm l o=some true∧oU P (R f).tm (R f).next o=some (A f,ob) ∧k=yB l f∧x= (R f).next
 |0,_,k,x,ob,h=>by rw [T.p0]at h;cases h
 | i +1,hi,k,x,ob,h=>by
  have ih:=T.pend_mem i (by omega);obtain⟨o,ho⟩ :=yC (l:=l) (i:=i) (by omega)
  have old: (k,x,ob) ∈ (R i).pend→ (∃f o,f<i+1∧l[f]?=some o∧dG o.op= .fresh∧cM (R f).tm l o=some true∧oU P (R f).tm (R f).next o=some (A f,ob) ∧k=yB l f∧x= (R f).next) :=fun g=>by
   obtain⟨f,o,h1,h2⟩ :=ih k x ob g;exact⟨f,o,by omega,h2⟩
  rcases(T.step i o ho).2.pend with e| ⟨ob',hk,hw,hf,e⟩
  ·rw [e]at h;exact old h
  · rw [e]at h;cases h with
    |head=>exact⟨i,o,by omega,ho,hk,hw,hf,rfl,rfl⟩
    |tail _ h=>exact old h
theorem Trace.again_mem (T:Trace P call l nt R A) :∀d i,i+d≤l.length→∀x∈ (R i).again,x∈ (R (i+d)).again
 |0,i,_,x,hx=>hx
 | d+1,i,hi,x,hx=>by
  have ih:=T.again_mem d i (by omega) x hx;obtain⟨o,ho⟩ :=yC (l:=l) (i:=i+d) (by omega);exact(T.step _ o ho).2.again x ih
theorem Trace.view (T:Trace P call l nt R A)(t:Nat) :∀i,i≤l.length→ (R i).tm.at t=eJ (R 0).tm (tB l) A (fun _=>True) i t
 |0,_=>rfl
 | i +1,hi=>by
  have ih:=T.view t i (by omega);obtain⟨o,ho⟩ :=yC (l:=l) (i:=i) (by omega);have hp:= (T.step _ o ho).1;have hd:tB l i=o.dst:=by simp [tB,ho]
  simp only [eJ,hd,true_and];unfold kJ at hp;split at hp
  ·rename_i h0;rw [←Option.some.inj hp,h0,if_neg (by simp)];exact ih
  · rename_i d h0;rw [h0];cases hb:blt d nt with
    |false=>rw [hb]at hp;cases hp
    | true=>
     rw [hb]at hp;simp only [cond,Option.some.injEq]at hp;rw [←hp,Go.Hb.T.at_put];by_cases ht:t=d
     ·subst ht;simp
     ·rw [if_neg ht,if_neg (by simpa using fun e=>ht e.symm)];exact ih
theorem Trace.nat_closed (T:Trace P call l nt R A)(i:Nat) :Closed l (· <i) :=fun k o ho hk e he hb=>Nat.lt_trans (T.idOk k o ho e he hb) hk
theorem Trace.window (T:Trace P call l nt R A){D:Nat→Prop}{j i:Nat}{o:Oper}(hD:Closed l D)(hlt:∀i,D i→i<l.length)(hE:∀q e,(fY l 0)[q]?=some e→ (D e↔q<j))(hj:j≤ (fY l 0).length)
  (ho:l[i]?=some o) (hi:¬D i) (hm:Met D o) :bF4 l i≤j∧j≤yB l i:=by
 refine⟨aSk _ _ _ _ fun q e he hb=>?_,?_⟩
 · have:=lR hD hlt (i+1) i (by omega) o ho hm e hb;have:= (hE q e he).1 this;omega
 · obtain⟨h1,h2,h3,h4⟩ :=aC5 (bsOf l) i (fY l 0) 0;rcases lt_or_ge (yB l i) j with k|k
   · exfalso;have hl:yB l i< (fY l 0).length:=by omega
     have hx: (fY l 0)[yB l i]?=some ((fY l 0)[yB l i]) :=kH hl;have hb:=h4 _ hx;have hd:= (hE _ _ hx).2 k;obtain⟨oe,hoe⟩ :=yC (hlt _ hd);exact hi (lR hD hlt _ _ (Nat.lt_succ_self _) oe hoe (hD _ _ hoe hd) i hb)
   ·exact k
theorem aPv {f e:Nat}(he: (fY l 0)[yB l f]?=some e) :testBit ((bsOf l).getD e 0) f=true:=
 (aC5 (bsOf l) f (fY l 0) 0).2.2.2 _ he
theorem Trace.before (T:Trace P call l nt R A){q e f:Nat}(he: (fY l 0)[q]?=some e)(hf: (fY l 0)[q+1]?=some f) :testBit ((bsOf l).getD f 0) e=true:=aBL T.chain q e f he hf
theorem memN_spec {t:Nat}:∀ {l:List Nat},xA t l=true↔t∈l
 | [] =>by simp [xA]
 |x::xs=>by simp only [xA,or_eq_true,bQ,decide_eq_true_eq,memN_spec (l:=xs),zq7];exact⟨fun h=>h.imp Eq.symm id,fun h=>h.imp Eq.symm id⟩
theorem aFQ {bs:List Nat}{i:Nat}{names:List Nat}:∀ {l:List Oper} {k:Nat},aMj bs i names l k=true→∀x o d,l[x]?=some o→o.dst=some d→d∈names →
  k+x=i∨ (k+x<i∧testBit (bs.getD i 0) (k+x) =true) ∨ (i<k+x∧testBit (bs.getD (k+x) 0) i=true)
 | [],k,_,x,o,d,ho,_,_=>by simp at ho
 | y::ys,k,h,x,o,d,ho,hd,hn=>by
  simp only [aMj,cF]at h;cases x with
  | zero=>
   simp at ho;subst ho;have:=h.1;rw [hd]at this;simp only [or_eq_true,not_eq_true',bQ,dK,decide_eq_true_eq,cF]at this;rcases this with((g|g) |g) |g
   ·rw [memN_spec.2 hn]at g;cases g
   ·exact .inl g
   ·exact .inr (.inl g)
   ·exact .inr (.inr g)
  | succ x=>
   have:=aFQ h.2 x o d (by simpa using ho) hd hn;rwa [show Nat.succ k+x=k+ (x+1)by omega]at this
theorem aMx {bs:List Nat}{ops:List Oper}:∀ {l:List Oper} {k:Nat},wOk bs ops l k=true→∀i o,l[i]?=some o→aMj bs (k+i) (nS ops o) ops 0=true
 | [],k,_,i,o,ho=>by simp at ho
 | y::ys,k,h,i,o,ho=>by
  simp only [wOk,cF]at h;cases i with
  |zero=>simp at ho;subst ho;exact h.1
  | succ i=>
   have:=aMx h.2 i o (by simpa using ho);rwa [show Nat.succ k+i=k+ (i+1)by omega]at this
theorem Trace.writers (T:Trace P call l nt R A){D:Nat→Prop}{i:Nat}{o:Oper}(hD:Closed l D)(hlt:∀i,D i→i<l.length)(ho:l[i]?=some o)(hi:¬D i)(hm:Met D o){t k:Nat}(ht:t∈nS l o)(hk:tB l k=some t) :
  k=i∨ (k<i∧D k) ∨ (i<k∧¬D k) :=by
 unfold tB at hk;cases hok:l[k]? with
 |none=>rw [hok]at hk;cases hk
 | some ok=>
  rw [hok]at hk;have:=aMx T.wok i o ho;rw [eX]at this;have:=aFQ this k ok t hok hk ht;rw [eX]at this;rcases this with h1| ⟨h1,h2⟩ | ⟨h1,h2⟩
  ·exact .inl h1
  ·exact .inr (.inl ⟨h1,lR hD hlt (i+1) i (by omega) o ho hm k h2⟩)
  ·refine .inr (.inr ⟨h1,fun hd=>hi (lR hD hlt (k+1) k (by omega) ok hok (hD _ _ hok hd) i h2)⟩)
section
variable {D :Nat→Prop} [DecidablePred D] {i:Nat} {o:Oper}
theorem Trace.view_ready (T:Trace P call l nt R A)(hD:Closed l D)(hlt:∀i,D i→i<l.length)(ho:l[i]?=some o)(hi:¬D i)(hm:Met D o){t:Nat}(ht:t∈nS l o) :
  eJ (R 0).tm (tB l) A D l.length t= (R i).tm.at t:=by
 have hil:=uM ho;rw [T.view t i (by omega),zM (i:=i) (n:=l.length) (by omega) (fun k h1 h2 hk=>?_)]
 · refine uL fun k hk hd=> ⟨fun _=>trivial,fun _=>?_⟩;rcases T.writers hD hlt ho hi hm ht hd with g|g|g
   ·omega
   ·exact g.2
   ·omega
 · rcases T.writers hD hlt ho hi hm ht hk with g|g|g
   ·subst g;exact hi
   ·omega
   ·exact g.2
theorem Trace.view_done (T:Trace P call l nt R A)(hD:Closed l D)(hlt:∀i,D i→i<l.length)(ho:l[i]?=some o)(hi:¬D i)(hm:Met D o)(t:Nat){D':Nat→Prop}[DecidablePred D'](hD':∀k,D' k↔ (D k∨k=i)) :
  eJ (R 0).tm (tB l) A D' l.length t=if o.dst=some t then some (A i)else eJ (R 0).tm (tB l) A D l.length t:=by
 have hil:=uM ho;have hd0:tB l i=o.dst:=by simp [tB,ho]
 split
 · rename_i hd;have hn:t∈nS l o:=by simp [nS,hd]
   rw [zM (i:=i+1) (n:=l.length) (by omega) (fun k h1 h2 hk=>?_)]
   · simp only [eJ];rw [if_pos ⟨(hD' i).2 (.inr rfl),by rw [hd0];exact hd⟩]
   · rw [hD']
     rintro(g|g)
     · rcases T.writers hD hlt ho hi hm hn hk with g'|g'|g'
       ·omega
       ·omega
       ·exact g'.2 g
     ·omega
 · rename_i hd;refine uL fun k hk hdk=>?_;rw [hD'];constructor
   · rintro(g|g)
     ·exact g
     ·subst g;rw [hd0]at hdk;exact absurd hdk hd
   ·exact .inl
end
end
end
end
end Go.Hb
